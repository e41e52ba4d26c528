/-
  Contracts of the library as answers of the table. No conditions.
-/
import Derived.Test.YtbpkpklaegnkiaaGreatDoorD
import Derived.Test.YtbpkpklaegnkiaaGreatDoorLib
import Derived.Test.YtbpkpklaegnkiaaGreatDoorU
import Derived.Test.YtbpkpklaegnkiaaGreatDoorCards
import Derived.Stop.LaidErr
import Derived.LaidLaws
import Derived.Lib.Builder
import Derived.Lib.ConvBytes
import Derived.Handed
import Derived.Lay
import Derived.MakeChecks
set_option linter.unusedSimpArgs false
set_option linter.unusedVariables false
set_option maxRecDepth 100000
namespace Go.Ab.Sh
open Go Go.Ab Go.Proofs Go.Shelf
open Go.RowKit (Below)

theorem mixedOrders:Tryz.prog.follows .mixedOrders=true:=by kernel_rfl

theorem X8f (w:World) (e:TypeId) (s:ByteArray):Below w.heap.size w (Lib.bytesWorld w e s):=
 ⟨rfl,rfl,rfl,by rw [Lib.bytesWorld_size]; omega,fun k hk=>Lib.bytesWorld_at_old w e s k hk⟩

theorem below_grow (w:World) (k:Nat) (os:Array Obj):Below w.heap.size w (Go.Sort.grow (w.drewN k) os):=by
 refine ⟨rfl,rfl,rfl,?_,fun j hj=>?_⟩
 ·show w.heap.size ≤ (w.heap ++ os).size
  simp
 ·show (w.heap ++ os)[j]?=w.heap[j]?
  rw [Array.getElem?_append_left hj]

section
variable {W:World}

theorem Xz0 {mx:Int} (hmx:W.cell? ⟨2,0,none⟩=some (.int .i64 mx)):Xe Tryz.prog W Q1i:=by
 unfold Q1i
 rw [Xxo]
 exact Xpg (fn:=Tryz.f145) Tryz.func145 rfl rfl hmx (fun s sub w hs hm=>Any.stringslite_Index Tryz.lays219 s sub mx w hs hm)

theorem Xfn:Xe Tryz.prog W Qay:=by
 unfold Qay
 rw [Xt4]
 exact Xpd (fn:=Tryz.f72) Tryz.func72 rfl rfl (fun s b w=>Any.strings_Count_one Tryz.lays138 s b w)

theorem Xag:Xe Tryz.prog W Q5y:=
 Xt1 (fun x w=>by
  have h:=run_callFunc_extern (P:=Tryz.prog) (w:=w) (args:=#[x]) (Tryz.func154) (by kernel_rfl) (by kernel_rfl) (by kernel_rfl) (e:=Extern.AbiNoEscape.same) (by kernel_rfl)
  refine Eq.trans h ?_
  rw [Lib.run_noEscape]
  rfl)

theorem Xod (htab:Lib.TabIs Tryz.prog W "internal/strconv.uint64pow10" .u64 Lib.pow10Tab):Xe Tryz.prog W Qid:=
 Xru (fn:=Tryz.f27) Tryz.func27 rfl rfl htab (fun n w h0 h1 ht=>(Any.strconv_Itoa Tryz.laysM171 n h0 h1 w ht).mono fun e w' ⟨he,k,os,hw⟩=>⟨he,by rw [hw]; exact below_grow _ _ _⟩)

/-- what the two errors' variables hold -/
def X7z (w:World):Prop:=(∃ tp p,w.var? Tryz.prog "strconv.ErrSyntax"=some #[.iface tp p])∧∃ tp p,w.var? Tryz.prog "strconv.ErrRange"=some #[.iface tp p]

theorem X68 (h:X7z W) (w:World) (hB:Below W.heap.size W w):X7z w:=by
 obtain ⟨⟨a,b,h1⟩,⟨c,d,h2⟩⟩:=h
 exact ⟨⟨a,b,Xbs hB h1⟩,⟨c,d,Xbs hB h2⟩⟩

theorem Xn5 (hv:X7z W):Xe Tryz.prog W Qie:=
 Xsn (fn:=Tryz.f41) Tryz.func41 rfl rfl (X68 hv)
  (fun s v w hs h=>(Any.strconv_Atoi_ok Tryz.laysC172 s (by omega) v h w).mono fun e w' ⟨he,hw⟩=>⟨he,by
   rcases hw with rfl | ⟨t,rfl⟩
   ·exact Below.refl _ _
   ·exact X8f _ _ _⟩)
  (fun s w hs h hV=>by
   obtain ⟨⟨tp,p,h1⟩,_⟩:=hV
   exact (Any.strconv_Atoi_syntax_var Tryz.laysC172 s hs h tp p w h1).mono fun e w' ⟨N,he,hN,hc,hb⟩=>⟨N,he,hN,⟨_,_,hc⟩,hb⟩)
  (fun s w hs h hV=>by
   obtain ⟨_,tp,p,h1⟩:=hV
   exact (Any.strconv_Atoi_range_var Tryz.laysC172 s hs h tp p w h1).mono fun e w' ⟨N,he,hN,hc,hb⟩=>⟨N,he,hN,⟨_,_,hc⟩,hb⟩)

theorem X11w (hv:X7z W):Xe Tryz.prog W (ovPu Q2 Q5 16 16):=
 Xsb (fn:=Tryz.f42) Tryz.func42 rfl rfl (X68 hv)
  (fun s v w hs h=>(Any.strconv_ParseUint_10_at16_ok Tryz.laysPu14 s (by omega) v h w).mono fun e w' ⟨he,hw⟩=>⟨he,by
   rcases hw with rfl | rfl
   ·exact Below.refl _ _
   ·exact X8f _ _ _⟩)
  (fun s w hs h hV=>by
   obtain ⟨⟨tp,p,h1⟩,_⟩:=hV
   exact (Any.strconv_ParseUint_10_at16_syntax_var Tryz.laysPu14 s hs h tp p w h1).mono fun e w' ⟨N,he,hN,hc,hb⟩=>⟨N,he,hN,⟨_,_,hc⟩,hb⟩)
  (fun s w hs h hV=>by
   obtain ⟨_,tp,p,h1⟩:=hV
   exact (Any.strconv_ParseUint_10_at16_range_var Tryz.laysPu14 s hs h tp p w h1).mono fun e w' ⟨N,he,hN,hc,hb⟩=>⟨N,he,hN,⟨_,_,hc⟩,hb⟩)

theorem X12v (hv:X7z W):Xe Tryz.prog W (ovPu Q2 Q5 8 8):=
 Xsb (fn:=Tryz.f42) Tryz.func42 rfl rfl (X68 hv)
  (fun s v w hs h=>(Any.strconv_ParseUint_10_at8_ok Tryz.laysPu14 s (by omega) v h w).mono fun e w' ⟨he,hw⟩=>⟨he,by
   rcases hw with rfl | rfl
   ·exact Below.refl _ _
   ·exact X8f _ _ _⟩)
  (fun s w hs h hV=>by
   obtain ⟨⟨tp,p,h1⟩,_⟩:=hV
   exact (Any.strconv_ParseUint_10_at8_syntax_var Tryz.laysPu14 s hs h tp p w h1).mono fun e w' ⟨N,he,hN,hc,hb⟩=>⟨N,he,hN,⟨_,_,hc⟩,hb⟩)
  (fun s w hs h hV=>by
   obtain ⟨_,tp,p,h1⟩:=hV
   exact (Any.strconv_ParseUint_10_at8_range_var Tryz.laysPu14 s hs h tp p w h1).mono fun e w' ⟨N,he,hN,hc,hb⟩=>⟨N,he,hN,⟨_,_,hc⟩,hb⟩)

theorem okPu (hv:X7z W):Xe Tryz.prog W Qab:=Xjg (X11w hv) (X12v hv)

theorem Xnj:Xe Tryz.prog W Qif:=
 Xth (fn:=Tryz.f21) Tryz.func21 rfl rfl (fun a c sep w=>Any.strings_Join_none Tryz.lays156 Tryz.Builder_Extra_156 a c sep w)
  (fun bk o c xs sep w h1 h2 h3 h4 h5=>Any.strings_Join Tryz.lays156 Tryz.Builder_Extra_156 bk o c xs sep w h1 h2 h3 h4 h5)


theorem X5i:Xe Tryz.prog W Q2o:=
 Xj0 (fn:=Tryz.f146) Tryz.func146 rfl rfl (fun s n v w hv=>by
  rw [Xao] at hv
  cases hv
  exact ⟨rfl,Any.stringslite_IndexByte Tryz.lays217 s n w⟩)

theorem X8g:Xe Tryz.prog W Qaa:=
 Xj0 (fn:=Tryz.f36) Tryz.func36 rfl rfl (fun s n v w hv=>by
  split at hv
  ·rename_i h
   simp only [Bool.and_eq_true,Xxi,Xxq,decide_eq_true_eq] at h
   rw [Xao] at hv
   cases hv
   exact ⟨rfl,Any.strings_IndexRune_ascii Tryz.lays152 s n w h.1 h.2⟩
  ·cases hv)

theorem Xbw (htab:Lib.TabIs Tryz.prog W "strings.asciiSpace" .u8 Lib.asciiSpaceTab):Xe Tryz.prog W Qei:=
 Xmi (fn:=Tryz.f25) (tab:=fun w=>Lib.TabIs Tryz.prog w "strings.asciiSpace" .u8 Lib.asciiSpaceTab) Tryz.func25 rfl rfl (fun w hB=>Xbs hB htab) (fun s w hs ha ht=>Any.strings_Fields_laid Tryz.laysM157 s w hs ha ht)

theorem X10e:Xe Tryz.prog W Q17:=
 Xvm (fun a b w=>by
  have h:=run_callFunc_extern (P:=Tryz.prog) (w:=w) (args:=#[.string a,.string b]) (Tryz.func415) (by kernel_rfl) (by kernel_rfl) (by kernel_rfl) (e:=Extern.BytealgCompare.compare) (by kernel_rfl)
  refine Eq.trans h ?_
  rw [Lib.run_compareString]
  rfl)

theorem Xtj:Xe Tryz.prog W Qek:=Xur mixedOrders W

theorem Xsw:Xe Tryz.prog W Qej:=Xuq mixedOrders W

theorem Xyu:Xe Tryz.prog W Qh9:=Xve mixedOrders W

theorem Xkm:Xe Tryz.prog W Qcr:=Xow mixedOrders W

theorem Xgy:Xe Tryz.prog W Qaz:=Xkq mixedOrders W

theorem Xs9:Xe Tryz.prog W Qel:=Xrb mixedOrders W

theorem Xtt:Xe Tryz.prog W Qha:=Xt0 mixedOrders W

theorem Xyc:Xe Tryz.prog W Qw4:=Xw9 mixedOrders W

theorem Xu4:Xe Tryz.prog W Qem:=Xsz mixedOrders W

theorem X10o:Xe Tryz.prog W Qhb:=Xwq mixedOrders W

theorem Xs0:Xe Tryz.prog W Qen:=Xsq mixedOrders W

theorem Xku:Xe Tryz.prog W Qcq:=
 Xot (Tryz.func456) (by kernel_rfl) (by kernel_rfl) (by kernel_rfl) (by kernel_rfl)

end
end Go.Ab.Sh
