/-
  Contracts of the library as answers of the table. No conditions.
-/
import Derived.Test.YtjnfcoeninejbaaGreatDoorA3
import Derived.Test.YtjnfcoeninejbaaGreatDoorLib
import Derived.Test.YtjnfcoeninejbaaGreatDoorTie
import Derived.Test.YtjnfcoeninejbaaGreatDoorCards
import Derived.Stop.LaidErr
import Derived.LaidLaws
import Derived.Lib.Builder
import Derived.Lib.ConvBytes
import Derived.Handed
import Derived.Lay
import Derived.MakeChecks
set_option maxRecDepth 100000
namespace Go.Ab.Sh
open Go Go.Ab Go.Proofs Go.Shelf
open Go.RowKit (Below)

theorem mixedOrders:Tryz.prog.follows .mixedOrders=true:=by kernel_rfl

theorem X83 (w:World) (e:TypeId) (s:ByteArray):Below w.heap.size w (Lib.bytesWorld w e s):=
  ⟨rfl,rfl,rfl,by rw [Lib.bytesWorld_size]; omega,fun k hk=>Lib.bytesWorld_at_old w e s k hk⟩

theorem below_grow (w:World) (k:Nat) (os:Array Obj):Below w.heap.size w (Go.Sort.grow (w.drewN k) os):=by
  refine ⟨rfl,rfl,rfl,?_,fun j hj=>?_⟩
  . show w.heap.size ≤ (w.heap ++ os).size
    simp
  . show (w.heap ++ os)[j]?=w.heap[j]?
    rw [Array.getElem?_append_left hj]

section
variable {W:World}

theorem Xrv {mx:Int} (hmx:W.cell? ⟨4,0,none⟩=some (.int .i64 mx)):X1g Tryz.prog W Qh7:=by
  unfold Qh7
  rw [Xqc]
  exact Xky (fn:=Tryz.f93) Tryz.func93 rfl rfl hmx (fun s sub w hs hm=>Any.stringslite_Index Tryz.lays219 s sub mx w hs hm)

theorem Xrb:X1g Tryz.prog W Qil:=by
  unfold Qil
  rw [Xog]
  exact Xkv (fn:=Tryz.f73) Tryz.func73 rfl rfl (fun s b w=>Any.strings_Count_one Tryz.lays138 s b w)



theorem Xuf (htab:Lib.TabIs Tryz.prog W "internal/strconv.uint64pow10" .u64 Lib.pow10Tab):X1g Tryz.prog W Qk4:=
  Xlr (fn:=Tryz.f39) Tryz.func39 rfl rfl htab (fun n w h0 h1 ht=>(Any.strconv_Itoa Tryz.laysM171 n h0 h1 w ht).mono fun e w' ⟨he,k,os,hw⟩=>⟨he,by rw [hw]; exact below_grow _ _ _⟩)

/-- what the two errors' variables hold -/
def X7q (w:World):Prop:=(∃ tp p,w.var? Tryz.prog "strconv.ErrSyntax"=some #[.iface tp p])∧∃ tp p,w.var? Tryz.prog "strconv.ErrRange"=some #[.iface tp p]

theorem X5w (h:X7q W) (w:World) (hB:Below W.heap.size W w):X7q w:=by
  obtain ⟨⟨a,b,h1⟩,⟨c,d,h2⟩⟩:=h
  exact ⟨⟨a,b,Xap hB h1⟩,⟨c,d,Xap hB h2⟩⟩

theorem Xtc (hv:X7q W):X1g Tryz.prog W Qi8:=
  Xnt (fn:=Tryz.f55) Tryz.func55 rfl rfl (X5w hv)
    (fun s v w hs h=>(Any.strconv_Atoi_ok Tryz.laysC172 s (by omega) v h w).mono fun e w' ⟨he,hw⟩=>⟨he,by
      rcases hw with rfl | ⟨t,rfl⟩
      . exact Below.refl _ _
      . exact X83 _ _ _⟩)
    (fun s w hs h hV=>by
      obtain ⟨⟨tp,p,h1⟩,_⟩:=hV
      exact (Any.strconv_Atoi_syntax_var Tryz.laysC172 s hs h tp p w h1).mono fun e w' ⟨N,he,hN,hc,hb⟩=>⟨N,he,hN,⟨_,_,hc⟩,hb⟩)
    (fun s w hs h hV=>by
      obtain ⟨_,tp,p,h1⟩:=hV
      exact (Any.strconv_Atoi_range_var Tryz.laysC172 s hs h tp p w h1).mono fun e w' ⟨N,he,hN,hc,hb⟩=>⟨N,he,hN,⟨_,_,hc⟩,hb⟩)

theorem Xtq (hv:X7q W):X1g Tryz.prog W (ovPu Q9 Qh 16 16):=
  Xme (fn:=Tryz.f56) Tryz.func56 rfl rfl (X5w hv)
    (fun s v w hs h=>(Any.strconv_ParseUint_10_at16_ok Tryz.laysPu14 s (by omega) v h w).mono fun e w' ⟨he,hw⟩=>⟨he,by
      rcases hw with rfl | rfl
      . exact Below.refl _ _
      . exact X83 _ _ _⟩)
    (fun s w hs h hV=>by
      obtain ⟨⟨tp,p,h1⟩,_⟩:=hV
      exact (Any.strconv_ParseUint_10_at16_syntax_var Tryz.laysPu14 s hs h tp p w h1).mono fun e w' ⟨N,he,hN,hc,hb⟩=>⟨N,he,hN,⟨_,_,hc⟩,hb⟩)
    (fun s w hs h hV=>by
      obtain ⟨_,tp,p,h1⟩:=hV
      exact (Any.strconv_ParseUint_10_at16_range_var Tryz.laysPu14 s hs h tp p w h1).mono fun e w' ⟨N,he,hN,hc,hb⟩=>⟨N,he,hN,⟨_,_,hc⟩,hb⟩)

theorem Xvh (hv:X7q W):X1g Tryz.prog W (ovPu Q9 Qh 8 8):=
  Xme (fn:=Tryz.f56) Tryz.func56 rfl rfl (X5w hv)
    (fun s v w hs h=>(Any.strconv_ParseUint_10_at8_ok Tryz.laysPu14 s (by omega) v h w).mono fun e w' ⟨he,hw⟩=>⟨he,by
      rcases hw with rfl | rfl
      . exact Below.refl _ _
      . exact X83 _ _ _⟩)
    (fun s w hs h hV=>by
      obtain ⟨⟨tp,p,h1⟩,_⟩:=hV
      exact (Any.strconv_ParseUint_10_at8_syntax_var Tryz.laysPu14 s hs h tp p w h1).mono fun e w' ⟨N,he,hN,hc,hb⟩=>⟨N,he,hN,⟨_,_,hc⟩,hb⟩)
    (fun s w hs h hV=>by
      obtain ⟨_,tp,p,h1⟩:=hV
      exact (Any.strconv_ParseUint_10_at8_range_var Tryz.laysPu14 s hs h tp p w h1).mono fun e w' ⟨N,he,hN,hc,hb⟩=>⟨N,he,hN,⟨_,_,hc⟩,hb⟩)

theorem okPu (hv:X7q W):X1g Tryz.prog W Qk5:=Xnf (Xtq hv) (Xvh hv)

theorem Xuh:X1g Tryz.prog W Qk6:=
  Xm4 (fn:=Tryz.f24) Tryz.func24 rfl rfl (fun a c sep w=>Any.strings_Join_none Tryz.lays156 Tryz.Builder_Extra_156 a c sep w)
    (fun bk o c xs sep w h1 h2 h3 h4 h5=>Any.strings_Join Tryz.lays156 Tryz.Builder_Extra_156 bk o c xs sep w h1 h2 h3 h4 h5)


theorem Xi4:X1g Tryz.prog W Qgs:=
  Xmp (fn:=Tryz.f94) Tryz.func94 rfl rfl (fun s n v w hv=>by
    rw [Xcz] at hv
    cases hv
    exact ⟨rfl,Any.stringslite_IndexByte Tryz.lays217 s n w⟩)

theorem Xps (htab:Lib.TabIs Tryz.prog W "strings.asciiSpace" .u8 Lib.asciiSpaceTab):X1g Tryz.prog W Qj2:=
  Xhl (fn:=Tryz.f37) (tab:=fun w=>Lib.TabIs Tryz.prog w "strings.asciiSpace" .u8 Lib.asciiSpaceTab) Tryz.func37 rfl rfl (fun w hB=>Xap hB htab) (fun s w hs ha ht=>Any.strings_Fields_laid Tryz.laysM157 s w hs ha ht)

end
end Go.Ab.Sh
