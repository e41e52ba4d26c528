/-
  Contracts of the library as answers of the table. No conditions.
-/
import Derived.Test.YtodhdplpcelokaaGreatDoorA6
import Derived.Test.YtodhdplpcelokaaGreatDoorA0
import Derived.Test.YtodhdplpcelokaaGreatDoorLib
import Derived.Test.YtodhdplpcelokaaGreatDoorTie
import Derived.Test.YtodhdplpcelokaaGreatDoorCards
import Derived.Stop.LaidErr
import Derived.LaidLaws
import Derived.Lib.Builder
import Derived.Lib.ConvBytes
import Derived.Handed
import Derived.Lay
import Derived.MakeChecks
set_option linter.all false
set_option maxRecDepth 100000
namespace Go.Ab.Sh
open Go Go.Ab Go.Proofs Go.Shelf
open Go.RowKit (Below)

theorem mixedOrders:Tryz.prog.follows .mixedOrders=true:=by kernel_rfl

theorem U8(w:World)(e:TypeId)(s:ByteArray):Below w.heap.size w (Lib.bytesWorld w e s):=⟨rfl,rfl,rfl,by rw[Lib.bytesWorld_size];omega,λk a=>Lib.bytesWorld_at_old w e s k a⟩

theorem XoH(w:World)(k:Nat)(os:Array Obj):Below w.heap.size w (Go.Sort.grow (w.drewN k) os):=by
 refine⟨rfl,rfl,rfl,?_,λa b=>?_⟩
 ·show w.heap.size<=(w.heap++os).size;simp
 ·show(w.heap++os)[a]?=w.heap[a]?;rw[Nd b]

section
variable {W:World}

theorem XhI{mx:Int}(a:W.cell? ⟨0,0,none⟩=some (.int .i64 mx)):ia Tryz.prog W El:=by unfold El;rw[Xzv];exact Xq6 (fn:=Tryz.f130) Tryz.func130 rfl rfl a (λs sub w c b=>Any.stringslite_Index Tryz.lays219 s sub mx w c b)

theorem XiF:ia Tryz.prog W Gq:=by unfold Gq;rw[Xu6];exact Xr7 (fn:=Tryz.f125) Tryz.func125 rfl rfl (λs b w=>Any.strings_Count_one Tryz.lays138 s b w)



theorem XkC(a:Lib.TabIs Tryz.prog W "internal/strconv.uint64pow10" .u64 Lib.pow10Tab):ia Tryz.prog W NI:=Xtk (fn:=Tryz.f143) Tryz.func143 rfl rfl a (λn w b c f=>(Any.strconv_Itoa Tryz.laysM171 n b c w f).mono λe Z ⟨d,k,os,g⟩=>⟨d,by rw[g];exact XoH _ _ _⟩)

/-- what the two errors' variables hold -/
def yj(w:World):Prop:=(∃a p,w.var? Tryz.prog "strconv.ErrSyntax"=some #[.iface a p])/\∃a p,w.var? Tryz.prog "strconv.ErrRange"=some #[.iface a p]

theorem UZ(h:yj W)(w:World)(hB:Below W.heap.size W w):yj w:=by obtain⟨⟨a,b,e⟩,⟨c,d,f⟩⟩:=h;exact⟨⟨a,b,Wa hB e⟩,⟨c,d,Wa hB f⟩⟩

theorem XkS(k:yj W):ia Tryz.prog W Gr:=
 Xu4 (fn:=Tryz.f145) Tryz.func145 rfl rfl (UZ k)
  (λs v w b h=>(Any.strconv_Atoi_ok Tryz.laysC172 s aa v h w).mono λe Z ⟨a,l⟩=>⟨a,by
   rcases l with rfl|⟨t,rfl⟩
   ·exact Below.refl _ _
   ·exact U8 _ _ _⟩)
  (λs w b h f=>by obtain⟨⟨j,p,c⟩,_⟩:=f;exact(Any.strconv_Atoi_syntax_var Tryz.laysC172 s b h j p w c).mono λe Z ⟨N,a,d,i,g⟩=>⟨N,a,d,⟨_,_,i⟩,g⟩)
  (λs w b h f=>by obtain⟨_,j,p,c⟩:=f;exact(Any.strconv_Atoi_range_var Tryz.laysC172 s b h j p w c).mono λe Z ⟨N,a,d,i,g⟩=>⟨N,a,d,⟨_,_,i⟩,g⟩)

theorem XjG(k:yj W):ia Tryz.prog W (uO Qv Qz 16 16):=
 Xu1 (fn:=Tryz.f174) Tryz.func174 rfl rfl (UZ k)
  (λs v w b h=>(Any.strconv_ParseUint_10_at16_ok Tryz.laysPu14 s aa v h w).mono λe Z ⟨a,l⟩=>⟨a,by
   rcases l with rfl|rfl
   ·exact Below.refl _ _
   ·exact U8 _ _ _⟩)
  (λs w b h f=>by obtain⟨⟨j,p,c⟩,_⟩:=f;exact(Any.strconv_ParseUint_10_at16_syntax_var Tryz.laysPu14 s b h j p w c).mono λe Z ⟨N,a,d,i,g⟩=>⟨N,a,d,⟨_,_,i⟩,g⟩)
  (λs w b h f=>by obtain⟨_,j,p,c⟩:=f;exact(Any.strconv_ParseUint_10_at16_range_var Tryz.laysPu14 s b h j p w c).mono λe Z ⟨N,a,d,i,g⟩=>⟨N,a,d,⟨_,_,i⟩,g⟩)

theorem XnI(k:yj W):ia Tryz.prog W (uO Qv Qz 8 8):=
 Xu1 (fn:=Tryz.f174) Tryz.func174 rfl rfl (UZ k)
  (λs v w b h=>(Any.strconv_ParseUint_10_at8_ok Tryz.laysPu14 s aa v h w).mono λe Z ⟨a,l⟩=>⟨a,by
   rcases l with rfl|rfl
   ·exact Below.refl _ _
   ·exact U8 _ _ _⟩)
  (λs w b h f=>by obtain⟨⟨j,p,c⟩,_⟩:=f;exact(Any.strconv_ParseUint_10_at8_syntax_var Tryz.laysPu14 s b h j p w c).mono λe Z ⟨N,a,d,i,g⟩=>⟨N,a,d,⟨_,_,i⟩,g⟩)
  (λs w b h f=>by obtain⟨_,j,p,c⟩:=f;exact(Any.strconv_ParseUint_10_at8_range_var Tryz.laysPu14 s b h j p w c).mono λe Z ⟨N,a,d,i,g⟩=>⟨N,a,d,⟨_,_,i⟩,g⟩)

theorem XrP(a:yj W):ia Tryz.prog W Gu:=Xri (XjG a) (XnI a)

theorem XjQ:ia Tryz.prog W NJ:=
 Xt5 (fn:=Tryz.f73) Tryz.func73 rfl rfl (λa c b w=>Any.strings_Join_none Tryz.lays156 Tryz.Builder_Extra_156 a c b w)
  (λbk y c i b w d e f g h=>Any.strings_Join Tryz.lays156 Tryz.Builder_Extra_156 bk y c i b w d e f g h)

theorem Xmw:ia Tryz.prog W Uq:=Xru (fn:=Tryz.f163) Tryz.func163 rfl rfl (λs n v w a=>by rw[Xgv]at a;cases a;exact⟨rfl,Any.stringslite_IndexByte Tryz.lays217 s n w⟩)

theorem XgW(x g8:Int):Lib.compareInt x g8=pv x g8:=by
 unfold Lib.compareInt pv
 first|rfl|(repeat' split)<;>first|rfl|omega
set_option maxHeartbeats 4000000 in
theorem Xxe(a b:List ae)(x g8:Int)(w:World)(v:a.length=15)(y:b.length=15)(d:a[0]?=some (.int .i64 x))(f:b[0]?=some (.int .i64 g8)):Calls Tryz.prog Ec #[.agg a.toArray,.agg b.toArray] w λe Z=>e=.returned (.int .i64 (pv x g8))/\∃q g,Z=Go.Sort.grow (w.drewN q) g:=by
 have c:=λh=>AnyG.cmp_Compare_int Tryz.cmpCl x g8 h;change ∀h,Calls Tryz.prog 14 _ _ _ at c;rw[XgW]at c;generalize pv x g8=r at c|-
 match a,v,d with
 |a0::z::A::B::C::D::E::F::G::H::i::j::k::l::[m],_,d =>
 match b,y,f with
 |n::I::J::K::L::M::N::O::P::Q::o::p::s::t::[u],_,f =>
 obtain rfl:a0=.int .i64 x:=by simpa using d
 obtain rfl:n=.int .i64 g8:=by simpa using f
 show Calls Tryz.prog 13 _ _ _
 go_enter Tryz.func13,Tryz.ntmps13
 go_wp2_with (go_at_call 14;refine(c _).mono ?_;rintro e Z ⟨rfl,rfl⟩)
 go_ret
 exact⟨rfl,0,_,by rw[Go.Sort.alloc_eq_grow,Go.Sort.alloc_eq_grow,Go.Sort.grow_grow];rfl⟩
theorem XlA:ia Tryz.prog W Cw:=
 Xuo (fn:=Tryz.f12) Tryz.func12 rfl rfl (λp o i w=>AnyF.slices_SortFunc_none Tryz.sortCl p o i w)
  (λg q j h l aF f o d w b k a c=>AnyQ.slices_SortFunc_eq Tryz.sortCl 15 Tryz.isAgg68 Tryz.sizeOf68 g q j h l Ec #[] aF f o d w (enters_of Tryz.func13 (by kernel_rfl) rfl) b k a c |>.mono λe Z ⟨m,n,os,r⟩=>⟨m,n,os,r⟩)
  Xxe

end
end Go.Ab.Sh
