/-
  Contracts of the library as answers of the table. No conditions.
-/
import Derived.Test.YteognfejlpbmoaaGreatDoorD
import Derived.Test.YteognfejlpbmoaaGreatDoorA4
import Derived.Test.YteognfejlpbmoaaGreatDoorA0
import Derived.Test.YteognfejlpbmoaaGreatDoorLib
import Derived.Test.YteognfejlpbmoaaGreatDoorTie
import Derived.Test.YteognfejlpbmoaaGreatDoorCards
import Derived.Stop.LaidErr
import Derived.LaidLaws
import Derived.Lib.Builder
import Derived.Lib.ConvBytes
import Derived.Handed
import Derived.Lay
import Derived.MakeChecks
set_option linter.unusedSimpArgs false
set_option linter.unusedVariables false
set_option maxRecDepth 100000
namespace Go.Ab.Sh
open Go Go.Ab Go.Proofs Go.Shelf
open Go.RowKit (Below)

theorem mixedOrders:Tryz.prog.follows .mixedOrders=true:=by kernel_rfl

theorem X8u (w:World) (e:TypeId) (s:ByteArray):Below w.heap.size w (Lib.bytesWorld w e s):=
 ⟨rfl,rfl,rfl,by rw [Lib.bytesWorld_size]; omega,fun k hk=>Lib.bytesWorld_at_old w e s k hk⟩

theorem below_grow (w:World) (k:Nat) (os:Array Obj):Below w.heap.size w (Go.Sort.grow (w.drewN k) os):=by
 refine ⟨rfl,rfl,rfl,?_,fun j hj=>?_⟩
 ·show w.heap.size <= (w.heap ++ os).size;simp
 ·show (w.heap ++ os)[j]?=w.heap[j]?;rw [Array.getElem?_append_left hj]

section
variable {W:World}

theorem Xvi {mx:Int} (hmx:W.cell? ⟨0,0,none⟩=some (.int .i64 mx)):X15 Tryz.prog W Q4z:=by
 unfold Q4z;rw [Xuv];exact Xn1 (fn:=Tryz.f92) Tryz.func92 rfl rfl hmx (fun s sub w hs hm=>Any.stringslite_Index Tryz.lays219 s sub mx w hs hm)

theorem Xoi:X15 Tryz.prog W Qid:=by
 unfold Qid;rw [Xr6];exact Xmi (fn:=Tryz.f87) Tryz.func87 rfl rfl (fun s b w=>Any.strings_Count_one Tryz.lays138 s b w)



theorem Xuh (htab:Lib.TabIs Tryz.prog W "internal/strconv.uint64pow10" .u64 Lib.pow10Tab):X15 Tryz.prog W Qmq:=
 Xol (fn:=Tryz.f105) Tryz.func105 rfl rfl htab (fun n w h0 h1 ht=>(Any.strconv_Itoa Tryz.laysM171 n h0 h1 w ht).mono fun e w' ⟨he,k,os,hw⟩=>⟨he,by rw [hw]; exact below_grow _ _ _⟩)

/-- what the two errors' variables hold -/
def X88 (w:World):Prop:=(∃ tp p,w.var? Tryz.prog "strconv.ErrSyntax"=some #[.iface tp p])/\∃ tp p,w.var? Tryz.prog "strconv.ErrRange"=some #[.iface tp p]

theorem X78 (h:X88 W) (w:World) (hB:Below W.heap.size W w):X88 w:=by
 obtain ⟨⟨a,b,h1⟩,⟨c,d,h2⟩⟩:=h;exact ⟨⟨a,b,Xf2 hB h1⟩,⟨c,d,Xf2 hB h2⟩⟩

theorem Xul (hv:X88 W):X15 Tryz.prog W Qmr:=
 Xqx (fn:=Tryz.f107) Tryz.func107 rfl rfl (X78 hv)
  (fun s v w hs h=>(Any.strconv_Atoi_ok Tryz.laysC172 s (by omega) v h w).mono fun e w' ⟨he,hw⟩=>⟨he,by
   rcases hw with rfl | ⟨t,rfl⟩
   ·exact Below.refl _ _
   ·exact X8u _ _ _⟩)
  (fun s w hs h hV=>by
   obtain ⟨⟨tp,p,h1⟩,_⟩:=hV;exact (Any.strconv_Atoi_syntax_var Tryz.laysC172 s hs h tp p w h1).mono fun e w' ⟨N,he,hN,hc,hb⟩=>⟨N,he,hN,⟨_,_,hc⟩,hb⟩)
  (fun s w hs h hV=>by
   obtain ⟨_,tp,p,h1⟩:=hV;exact (Any.strconv_Atoi_range_var Tryz.laysC172 s hs h tp p w h1).mono fun e w' ⟨N,he,hN,hc,hb⟩=>⟨N,he,hN,⟨_,_,hc⟩,hb⟩)

theorem Xyo (hv:X88 W):X15 Tryz.prog W (ovPu Q9 Qf 16 16):=
 Xoc (fn:=Tryz.f130) Tryz.func130 rfl rfl (X78 hv)
  (fun s v w hs h=>(Any.strconv_ParseUint_10_at16_ok Tryz.laysPu14 s (by omega) v h w).mono fun e w' ⟨he,hw⟩=>⟨he,by
   rcases hw with rfl | rfl
   ·exact Below.refl _ _
   ·exact X8u _ _ _⟩)
  (fun s w hs h hV=>by
   obtain ⟨⟨tp,p,h1⟩,_⟩:=hV;exact (Any.strconv_ParseUint_10_at16_syntax_var Tryz.laysPu14 s hs h tp p w h1).mono fun e w' ⟨N,he,hN,hc,hb⟩=>⟨N,he,hN,⟨_,_,hc⟩,hb⟩)
  (fun s w hs h hV=>by
   obtain ⟨_,tp,p,h1⟩:=hV;exact (Any.strconv_ParseUint_10_at16_range_var Tryz.laysPu14 s hs h tp p w h1).mono fun e w' ⟨N,he,hN,hc,hb⟩=>⟨N,he,hN,⟨_,_,hc⟩,hb⟩)

theorem X10f (hv:X88 W):X15 Tryz.prog W (ovPu Q9 Qf 8 8):=
 Xoc (fn:=Tryz.f130) Tryz.func130 rfl rfl (X78 hv)
  (fun s v w hs h=>(Any.strconv_ParseUint_10_at8_ok Tryz.laysPu14 s (by omega) v h w).mono fun e w' ⟨he,hw⟩=>⟨he,by
   rcases hw with rfl | rfl
   ·exact Below.refl _ _
   ·exact X8u _ _ _⟩)
  (fun s w hs h hV=>by
   obtain ⟨⟨tp,p,h1⟩,_⟩:=hV;exact (Any.strconv_ParseUint_10_at8_syntax_var Tryz.laysPu14 s hs h tp p w h1).mono fun e w' ⟨N,he,hN,hc,hb⟩=>⟨N,he,hN,⟨_,_,hc⟩,hb⟩)
  (fun s w hs h hV=>by
   obtain ⟨_,tp,p,h1⟩:=hV;exact (Any.strconv_ParseUint_10_at8_range_var Tryz.laysPu14 s hs h tp p w h1).mono fun e w' ⟨N,he,hN,hc,hb⟩=>⟨N,he,hN,⟨_,_,hc⟩,hb⟩)

theorem okPu (hv:X88 W):X15 Tryz.prog W Qj0:=Xpc (Xyo hv) (X10f hv)

theorem Xu6:X15 Tryz.prog W Qms:=
 Xod (fn:=Tryz.f49) Tryz.func49 rfl rfl (fun a c sep w=>Any.strings_Join_none Tryz.lays156 Tryz.Builder_Extra_156 a c sep w)
  (fun bk o c xs sep w h1 h2 h3 h4 h5=>Any.strings_Join Tryz.lays156 Tryz.Builder_Extra_156 bk o c xs sep w h1 h2 h3 h4 h5)


theorem Xd8:X15 Tryz.prog W Qb7:=
 Xhk (fn:=Tryz.f119) Tryz.func119 rfl rfl (fun s n v w hv=>by
  rw [Xak] at hv;cases hv;exact ⟨rfl,Any.stringslite_IndexByte Tryz.lays217 s n w⟩)

theorem Xin:X15 Tryz.prog W Qj1:=
 Xhk (fn:=Tryz.f93) Tryz.func93 rfl rfl (fun s n v w hv=>by
  split at hv
  ·rename_i h;simp only [Bool.and_eq_true,Xui,Xut,decide_eq_true_eq] at h;rw [Xak] at hv;cases hv;exact ⟨rfl,Any.strings_IndexRune_ascii Tryz.lays152 s n w h.1 h.2⟩
  ·cases hv)

theorem Xv6 (x y:Int):Lib.compareInt x y=cmpZ x y:=by
 unfold Lib.compareInt cmpZ
 first | rfl | (repeat' split) <;> first | rfl | omega
set_option maxHeartbeats 4000000 in
theorem Xtd (a b:List Value) (x y:Int) (w:World) (ha:a.length=15) (hb:b.length=15) (h0:a[0]?=some (.int .i64 x)) (h1:b[0]?=some (.int .i64 y)):Calls Tryz.prog Qdp #[.agg a.toArray,.agg b.toArray] w fun e w'=>e=.returned (.int .i64 (cmpZ x y))/\∃ q os',w'=Go.Sort.grow (w.drewN q) os':=by
 have hcon:=fun W'=>AnyG.cmp_Compare_int Tryz.cmpCl x y W';change ∀ W',Calls Tryz.prog 14 _ _ _ at hcon;rw [Xv6] at hcon;generalize cmpZ x y=r at hcon ⊢
 match a,ha,h0 with
 | a0 :: a1 :: a2 :: a3 :: a4 :: a5 :: a6 :: a7 :: a8 :: a9 :: a10 :: a11 :: a12 :: a13 :: [a14],_,h0 =>
 match b,hb,h1 with
 | b0 :: b1 :: b2 :: b3 :: b4 :: b5 :: b6 :: b7 :: b8 :: b9 :: b10 :: b11 :: b12 :: b13 :: [b14],_,h1 =>
 obtain rfl:a0=.int .i64 x:=by simpa using h0
 obtain rfl:b0=.int .i64 y:=by simpa using h1
 show Calls Tryz.prog 13 _ _ _
 go_enter Tryz.func13,Tryz.ntmps13
 go_wp2_with (go_at_call 14; refine (hcon _).mono ?_; rintro e w' ⟨rfl,rfl⟩)
 go_ret
 exact ⟨rfl,0,_,by rw [Go.Sort.alloc_eq_grow,Go.Sort.alloc_eq_grow,Go.Sort.grow_grow]; rfl⟩
theorem Xy7:X15 Tryz.prog W Qmt:=
 Xq3 (fn:=Tryz.f12) Tryz.func12 rfl rfl (fun p cap fv w=>AnyF.slices_SortFunc_none Tryz.sortCl p cap fv w)
  (fun enc hk h1 cf hO blk off cap d w hcmp hH hblk hsz=>AnyQ.slices_SortFunc_eq Tryz.sortCl 15 Tryz.isAgg70 Tryz.sizeOf70 enc hk h1 cf hO Qdp #[] blk off cap d w (enters_of Tryz.func13 (by kernel_rfl) rfl) hcmp hH hblk hsz |>.mono fun e w' ⟨he,n,os,hw⟩=>⟨he,n,os,hw⟩)
  Xtd

end
end Go.Ab.Sh
