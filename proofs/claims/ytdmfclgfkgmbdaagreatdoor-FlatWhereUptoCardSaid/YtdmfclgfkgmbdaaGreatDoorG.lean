/-
  Contracts of the library as answers of the table. No conditions.
-/
import Derived.Test.YtdmfclgfkgmbdaaGreatDoorD
import Derived.Test.YtdmfclgfkgmbdaaGreatDoorA4
import Derived.Test.YtdmfclgfkgmbdaaGreatDoorA0
import Derived.Test.YtdmfclgfkgmbdaaGreatDoorLib
import Derived.Test.YtdmfclgfkgmbdaaGreatDoorTie
import Derived.Test.YtdmfclgfkgmbdaaGreatDoorCards
import Derived.Stop.LaidErr
import Derived.LaidLaws
import Derived.Lib.Builder
import Derived.Lib.ConvBytes
import Derived.Handed
import Derived.Lay
import Derived.MakeChecks
set_option linter.unusedSimpArgs false
set_option linter.unusedVariables false
set_option maxRecDepth 100000
namespace Go.Ab.Sh
open Go Go.Ab Go.Proofs Go.Shelf
open Go.RowKit (Below)

theorem mixedOrders:Tryz.prog.follows .mixedOrders=true:=by kernel_rfl

theorem X98 (w:World) (e:TypeId) (s:ByteArray):Below w.heap.size w (Lib.bytesWorld w e s):=
 ⟨rfl,rfl,rfl,by rw [Lib.bytesWorld_size]; omega,fun k hk=>Lib.bytesWorld_at_old w e s k hk⟩

theorem below_grow (w:World) (k:Nat) (os:Array Obj):Below w.heap.size w (Go.Sort.grow (w.drewN k) os):=by
 refine ⟨rfl,rfl,rfl,?_,fun j hj=>?_⟩
 ·show w.heap.size ≤ (w.heap ++ os).size
  simp
 ·show (w.heap ++ os)[j]?=w.heap[j]?
  rw [Array.getElem?_append_left hj]

section
variable {W:World}

theorem Xvq {mx:Int} (hmx:W.cell? ⟨0,0,none⟩=some (.int .i64 mx)):X14 Tryz.prog W Q3z:=by
 unfold Q3z
 rw [Xup]
 exact Xnv (fn:=Tryz.f81) Tryz.func81 rfl rfl hmx (fun s sub w hs hm=>Any.stringslite_Index Tryz.lays219 s sub mx w hs hm)

theorem Xrd:X14 Tryz.prog W Qfe:=by
 unfold Qfe
 rw [Xqs]
 exact Xnq (fn:=Tryz.f76) Tryz.func76 rfl rfl (fun s b w=>Any.strings_Count_one Tryz.lays138 s b w)



theorem Xuu (htab:Lib.TabIs Tryz.prog W "internal/strconv.uint64pow10" .u64 Lib.pow10Tab):X14 Tryz.prog W Qiy:=
 Xpg (fn:=Tryz.f94) Tryz.func94 rfl rfl htab (fun n w h0 h1 ht=>(Any.strconv_Itoa Tryz.laysM171 n h0 h1 w ht).mono fun e w' ⟨he,k,os,hw⟩=>⟨he,by rw [hw]; exact below_grow _ _ _⟩)

/-- what the two errors' variables hold -/
def X8k (w:World):Prop:=(∃ tp p,w.var? Tryz.prog "strconv.ErrSyntax"=some #[.iface tp p])∧∃ tp p,w.var? Tryz.prog "strconv.ErrRange"=some #[.iface tp p]

theorem X6s (h:X8k W) (w:World) (hB:Below W.heap.size W w):X8k w:=by
 obtain ⟨⟨a,b,h1⟩,⟨c,d,h2⟩⟩:=h
 exact ⟨⟨a,b,Xhg hB h1⟩,⟨c,d,Xhg hB h2⟩⟩

theorem Xue (hv:X8k W):X14 Tryz.prog W Qiz:=
 Xqr (fn:=Tryz.f96) Tryz.func96 rfl rfl (X6s hv)
  (fun s v w hs h=>(Any.strconv_Atoi_ok Tryz.laysC172 s (by omega) v h w).mono fun e w' ⟨he,hw⟩=>⟨he,by
   rcases hw with rfl | ⟨t,rfl⟩
   ·exact Below.refl _ _
   ·exact X98 _ _ _⟩)
  (fun s w hs h hV=>by
   obtain ⟨⟨tp,p,h1⟩,_⟩:=hV
   exact (Any.strconv_Atoi_syntax_var Tryz.laysC172 s hs h tp p w h1).mono fun e w' ⟨N,he,hN,hc,hb⟩=>⟨N,he,hN,⟨_,_,hc⟩,hb⟩)
  (fun s w hs h hV=>by
   obtain ⟨_,tp,p,h1⟩:=hV
   exact (Any.strconv_Atoi_range_var Tryz.laysC172 s hs h tp p w h1).mono fun e w' ⟨N,he,hN,hc,hb⟩=>⟨N,he,hN,⟨_,_,hc⟩,hb⟩)

theorem Xyd (hv:X8k W):X14 Tryz.prog W (ovPu Q7 Qc 16 16):=
 Xqn (fn:=Tryz.f119) Tryz.func119 rfl rfl (X6s hv)
  (fun s v w hs h=>(Any.strconv_ParseUint_10_at16_ok Tryz.laysPu14 s (by omega) v h w).mono fun e w' ⟨he,hw⟩=>⟨he,by
   rcases hw with rfl | rfl
   ·exact Below.refl _ _
   ·exact X98 _ _ _⟩)
  (fun s w hs h hV=>by
   obtain ⟨⟨tp,p,h1⟩,_⟩:=hV
   exact (Any.strconv_ParseUint_10_at16_syntax_var Tryz.laysPu14 s hs h tp p w h1).mono fun e w' ⟨N,he,hN,hc,hb⟩=>⟨N,he,hN,⟨_,_,hc⟩,hb⟩)
  (fun s w hs h hV=>by
   obtain ⟨_,tp,p,h1⟩:=hV
   exact (Any.strconv_ParseUint_10_at16_range_var Tryz.laysPu14 s hs h tp p w h1).mono fun e w' ⟨N,he,hN,hc,hb⟩=>⟨N,he,hN,⟨_,_,hc⟩,hb⟩)

theorem Xz2 (hv:X8k W):X14 Tryz.prog W (ovPu Q7 Qc 8 8):=
 Xqn (fn:=Tryz.f119) Tryz.func119 rfl rfl (X6s hv)
  (fun s v w hs h=>(Any.strconv_ParseUint_10_at8_ok Tryz.laysPu14 s (by omega) v h w).mono fun e w' ⟨he,hw⟩=>⟨he,by
   rcases hw with rfl | rfl
   ·exact Below.refl _ _
   ·exact X98 _ _ _⟩)
  (fun s w hs h hV=>by
   obtain ⟨⟨tp,p,h1⟩,_⟩:=hV
   exact (Any.strconv_ParseUint_10_at8_syntax_var Tryz.laysPu14 s hs h tp p w h1).mono fun e w' ⟨N,he,hN,hc,hb⟩=>⟨N,he,hN,⟨_,_,hc⟩,hb⟩)
  (fun s w hs h hV=>by
   obtain ⟨_,tp,p,h1⟩:=hV
   exact (Any.strconv_ParseUint_10_at8_range_var Tryz.laysPu14 s hs h tp p w h1).mono fun e w' ⟨N,he,hN,hc,hb⟩=>⟨N,he,hN,⟨_,_,hc⟩,hb⟩)

theorem okPu (hv:X8k W):X14 Tryz.prog W Qfv:=Xqg (Xyd hv) (Xz2 hv)

theorem Xus:X14 Tryz.prog W Qj0:=
 Xrg (fn:=Tryz.f39) Tryz.func39 rfl rfl (fun a c sep w=>Any.strings_Join_none Tryz.lays156 Tryz.Builder_Extra_156 a c sep w)
  (fun bk o c xs sep w h1 h2 h3 h4 h5=>Any.strings_Join Tryz.lays156 Tryz.Builder_Extra_156 bk o c xs sep w h1 h2 h3 h4 h5)


theorem Xda:X14 Tryz.prog W Q8j:=
 Xpi (fn:=Tryz.f108) Tryz.func108 rfl rfl (fun s n v w hv=>by
  rw [Xfh] at hv
  cases hv
  exact ⟨rfl,Any.stringslite_IndexByte Tryz.lays217 s n w⟩)

theorem Xuz (x y:Int):Lib.compareInt x y=cmpZ x y:=by
 unfold Lib.compareInt cmpZ
 first | rfl | (repeat' split) <;> first | rfl | omega
set_option maxHeartbeats 4000000 in
theorem Xsc (a b:List Value) (x y:Int) (w:World) (ha:a.length=15) (hb:b.length=15) (h0:a[0]?=some (.int .i64 x)) (h1:b[0]?=some (.int .i64 y)):Calls Tryz.prog Qap #[.agg a.toArray,.agg b.toArray] w fun e w'=>e=.returned (.int .i64 (cmpZ x y))∧∃ q os',w'=Go.Sort.grow (w.drewN q) os':=by
 have hcon:=fun W'=>AnyG.cmp_Compare_int Tryz.cmpCl x y W'
 change ∀ W',Calls Tryz.prog 13 _ _ _ at hcon
 rw [Xuz] at hcon
 generalize cmpZ x y=r at hcon ⊢
 match a,ha,h0 with
 | a0 :: a1 :: a2 :: a3 :: a4 :: a5 :: a6 :: a7 :: a8 :: a9 :: a10 :: a11 :: a12 :: a13 :: [a14],_,h0 =>
 match b,hb,h1 with
 | b0 :: b1 :: b2 :: b3 :: b4 :: b5 :: b6 :: b7 :: b8 :: b9 :: b10 :: b11 :: b12 :: b13 :: [b14],_,h1 =>
 obtain rfl:a0=.int .i64 x:=by simpa using h0
 obtain rfl:b0=.int .i64 y:=by simpa using h1
 show Calls Tryz.prog 12 _ _ _
 go_enter Tryz.func12,Tryz.ntmps12
 go_wp2_with (go_at_call 13; refine (hcon _).mono ?_; rintro e w' ⟨rfl,rfl⟩)
 go_ret
 exact ⟨rfl,0,_,by rw [Go.Sort.alloc_eq_grow,Go.Sort.alloc_eq_grow,Go.Sort.grow_grow]; rfl⟩
theorem Xxc:X14 Tryz.prog W Qj1:=
 Xpn (fn:=Tryz.f11) Tryz.func11 rfl rfl (fun p cap fv w=>AnyF.slices_SortFunc_none Tryz.sortCl p cap fv w)
  (fun enc hk h1 cf hO blk off cap d w hcmp hH hblk hsz=>AnyQ.slices_SortFunc_eq Tryz.sortCl 15 Tryz.isAgg69 Tryz.sizeOf69 enc hk h1 cf hO Qap #[] blk off cap d w (enters_of Tryz.func12 (by kernel_rfl) rfl) hcmp hH hblk hsz |>.mono fun e w' ⟨he,n,os,hw⟩=>⟨he,n,_,os,hw⟩)
  Xsc

end
end Go.Ab.Sh
