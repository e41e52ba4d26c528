/-
  Contracts of the library as answers of the table. No conditions.
-/
import Derived.Test.YtaljkjdmllgmdaaGreatDoorD
import Derived.Test.YtaljkjdmllgmdaaGreatDoorLib
import Derived.Test.YtaljkjdmllgmdaaGreatDoorU
import Derived.Test.YtaljkjdmllgmdaaGreatDoorCards
import Derived.Stop.LaidErr
import Derived.LaidLaws
import Derived.Lib.Builder
import Derived.Lib.ConvBytes
import Derived.Handed
import Derived.Lay
import Derived.MakeChecks
set_option linter.unusedSimpArgs false
set_option linter.unusedVariables false
set_option maxRecDepth 100000
namespace Go.Ab.Sh
open Go Go.Ab Go.Proofs Go.Shelf
open Go.RowKit (Below)

theorem mixedOrders:Tryz.prog.follows .mixedOrders=true:=by kernel_rfl

theorem X5h (w:World) (e:TypeId) (s:ByteArray):Below w.heap.size w (Lib.bytesWorld w e s):=
 ⟨rfl,rfl,rfl,by rw [Lib.bytesWorld_size]; omega,fun k hk=>Lib.bytesWorld_at_old w e s k hk⟩

theorem below_grow (w:World) (k:Nat) (os:Array Obj):Below w.heap.size w (Go.Sort.grow (w.drewN k) os):=by
 refine ⟨rfl,rfl,rfl,?_,fun j hj=>?_⟩
 ·show w.heap.size ≤ (w.heap ++ os).size
  simp
 ·show (w.heap ++ os)[j]?=w.heap[j]?
  rw [Array.getElem?_append_left hj]

section
variable {W:World}

theorem Xlu {mx:Int} (hmx:W.cell? ⟨3,0,none⟩=some (.int .i64 mx)):X9 Tryz.prog W Q4:=by
 unfold Q4
 rw [Xo1]
 exact Xg2 (fn:=Tryz.f249) Tryz.func249 rfl rfl hmx (fun s sub w hs hm=>Any.stringslite_Index Tryz.lays219 s sub mx w hs hm)

theorem X20:X9 Tryz.prog W Q1b:=by
 unfold Q1b
 rw [Xml]
 exact Xf9 (fn:=Tryz.f149) Tryz.func149 rfl rfl (fun s b w=>Any.strings_Count_one Tryz.lays138 s b w)

theorem X13:X9 Tryz.prog W Qj:=
 Xie (fun x w=>by
  have h:=run_callFunc_extern (P:=Tryz.prog) (w:=w) (args:=#[x]) (Tryz.func260) (by kernel_rfl) (by kernel_rfl) (by kernel_rfl) (e:=Extern.AbiNoEscape.same) (by kernel_rfl)
  refine Eq.trans h ?_
  rw [Lib.run_noEscape]
  rfl)

theorem X38 (htab:Lib.TabIs Tryz.prog W "internal/strconv.uint64pow10" .u64 Lib.pow10Tab):X9 Tryz.prog W Q1s:=
 Xga (fn:=Tryz.f69) Tryz.func69 rfl rfl htab (fun n w h0 h1 ht=>(Any.strconv_Itoa Tryz.laysM171 n h0 h1 w ht).mono fun e w' ⟨he,k,os,hw⟩=>⟨he,by rw [hw]; exact below_grow _ _ _⟩)

/-- what the two errors' variables hold -/
def X5b (w:World):Prop:=(∃ tp p,w.var? Tryz.prog "strconv.ErrSyntax"=some #[.iface tp p])∧∃ tp p,w.var? Tryz.prog "strconv.ErrRange"=some #[.iface tp p]

theorem X4g (h:X5b W) (w:World) (hB:Below W.heap.size W w):X5b w:=by
 obtain ⟨⟨a,b,h1⟩,⟨c,d,h2⟩⟩:=h
 exact ⟨⟨a,b,X7c hB h1⟩,⟨c,d,X7c hB h2⟩⟩

theorem X2v (hv:X5b W):X9 Tryz.prog W Q1t:=
 Xgb (fn:=Tryz.f68) Tryz.func68 rfl rfl (X4g hv)
  (fun s v w hs h=>(Any.strconv_Atoi_ok Tryz.laysC172 s (by omega) v h w).mono fun e w' ⟨he,hw⟩=>⟨he,by
   rcases hw with rfl | ⟨t,rfl⟩
   ·exact Below.refl _ _
   ·exact X5h _ _ _⟩)
  (fun s w hs h hV=>by
   obtain ⟨⟨tp,p,h1⟩,_⟩:=hV
   exact (Any.strconv_Atoi_syntax_var Tryz.laysC172 s hs h tp p w h1).mono fun e w' ⟨N,he,hN,hc,hb⟩=>⟨N,he,hN,⟨_,_,hc⟩,hb⟩)
  (fun s w hs h hV=>by
   obtain ⟨_,tp,p,h1⟩:=hV
   exact (Any.strconv_Atoi_range_var Tryz.laysC172 s hs h tp p w h1).mono fun e w' ⟨N,he,hN,hc,hb⟩=>⟨N,he,hN,⟨_,_,hc⟩,hb⟩)

theorem Xnn (hv:X5b W):X9 Tryz.prog W (ovPu Qfz Qa7 16 16):=
 Xgr (fn:=Tryz.f70) Tryz.func70 rfl rfl (X4g hv)
  (fun s v w hs h=>(Any.strconv_ParseUint_10_at16_ok Tryz.laysPu14 s (by omega) v h w).mono fun e w' ⟨he,hw⟩=>⟨he,by
   rcases hw with rfl | rfl
   ·exact Below.refl _ _
   ·exact X5h _ _ _⟩)
  (fun s w hs h hV=>by
   obtain ⟨⟨tp,p,h1⟩,_⟩:=hV
   exact (Any.strconv_ParseUint_10_at16_syntax_var Tryz.laysPu14 s hs h tp p w h1).mono fun e w' ⟨N,he,hN,hc,hb⟩=>⟨N,he,hN,⟨_,_,hc⟩,hb⟩)
  (fun s w hs h hV=>by
   obtain ⟨_,tp,p,h1⟩:=hV
   exact (Any.strconv_ParseUint_10_at16_range_var Tryz.laysPu14 s hs h tp p w h1).mono fun e w' ⟨N,he,hN,hc,hb⟩=>⟨N,he,hN,⟨_,_,hc⟩,hb⟩)

theorem Xp0 (hv:X5b W):X9 Tryz.prog W (ovPu Qfz Qa7 8 8):=
 Xgr (fn:=Tryz.f70) Tryz.func70 rfl rfl (X4g hv)
  (fun s v w hs h=>(Any.strconv_ParseUint_10_at8_ok Tryz.laysPu14 s (by omega) v h w).mono fun e w' ⟨he,hw⟩=>⟨he,by
   rcases hw with rfl | rfl
   ·exact Below.refl _ _
   ·exact X5h _ _ _⟩)
  (fun s w hs h hV=>by
   obtain ⟨⟨tp,p,h1⟩,_⟩:=hV
   exact (Any.strconv_ParseUint_10_at8_syntax_var Tryz.laysPu14 s hs h tp p w h1).mono fun e w' ⟨N,he,hN,hc,hb⟩=>⟨N,he,hN,⟨_,_,hc⟩,hb⟩)
  (fun s w hs h hV=>by
   obtain ⟨_,tp,p,h1⟩:=hV
   exact (Any.strconv_ParseUint_10_at8_range_var Tryz.laysPu14 s hs h tp p w h1).mono fun e w' ⟨N,he,hN,hc,hb⟩=>⟨N,he,hN,⟨_,_,hc⟩,hb⟩)

theorem okPu (hv:X5b W):X9 Tryz.prog W Qw:=Xbn (Xnn hv) (Xp0 hv)

theorem X2p:X9 Tryz.prog W Q1u:=
 Xgp (fn:=Tryz.f30) Tryz.func30 rfl rfl (fun a c sep w=>Any.strings_Join_none Tryz.lays156 Tryz.Builder_Extra_156 a c sep w)
  (fun bk o c xs sep w h1 h2 h3 h4 h5=>Any.strings_Join Tryz.lays156 Tryz.Builder_Extra_156 bk o c xs sep w h1 h2 h3 h4 h5)


theorem X1k (htab:Lib.TabIs Tryz.prog W "strings.asciiSpace" .u8 Lib.asciiSpaceTab):X9 Tryz.prog W Q16:=
 Xc8 (fn:=Tryz.f67) (tab:=fun w=>Lib.TabIs Tryz.prog w "strings.asciiSpace" .u8 Lib.asciiSpaceTab) Tryz.func67 rfl rfl (fun w hB=>X7c hB htab) (fun s w hs ha ht=>Any.strings_Fields_laid Tryz.laysM157 s w hs ha ht)

theorem X5m:X9 Tryz.prog W Q2:=
 Xky (fun a b w=>by
  have h:=run_callFunc_extern (P:=Tryz.prog) (w:=w) (args:=#[.string a,.string b]) (Tryz.func506) (by kernel_rfl) (by kernel_rfl) (by kernel_rfl) (e:=Extern.BytealgCompare.compare) (by kernel_rfl)
  refine Eq.trans h ?_
  rw [Lib.run_compareString]
  rfl)

theorem X30:X9 Tryz.prog W Q19:=Xgf mixedOrders W

theorem X2x:X9 Tryz.prog W Q18:=Xhx mixedOrders W

theorem X5l:X9 Tryz.prog W Q1h:=Xjt mixedOrders W

theorem X1z:X9 Tryz.prog W Q13:=Xfd mixedOrders W

theorem X1l:X9 Tryz.prog W Q10:=Xcr mixedOrders W

theorem X2s:X9 Tryz.prog W Q15:=Xha mixedOrders W

theorem X2q:X9 Tryz.prog W Q1j:=Xgz mixedOrders W

theorem X5p:X9 Tryz.prog W Q4o:=Xkj mixedOrders W

theorem X2u:X9 Tryz.prog W Q17:=Xjj mixedOrders W

theorem X5e:X9 Tryz.prog W Q1i:=Xk3 mixedOrders W

theorem X36:X9 Tryz.prog W Q1a:=Xi9 mixedOrders W

theorem X22:X9 Tryz.prog W Q12:=
 Xfg (Tryz.func309) (by kernel_rfl) (by kernel_rfl) (by kernel_rfl) (by kernel_rfl)

end
end Go.Ab.Sh
