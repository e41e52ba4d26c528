/-
  What the library lays is what the answers want; the call over every start. No conditions.
-/
import Derived.Test.YtodhdplpcelokaaGreatDoorR
import Derived.SevenTiedAt
import Derived.ProofKit
import Derived.WalkKit
import Derived.OpenShut
import Derived.Deep.DeepHandedRow
import Derived.LaidLaws
namespace Go.Proofs.YtodhdplpcelokaaGreatDoor
open Go.RowKit Go.ChangeShapes Go.WideShapes Go.ChangeAt
open Go.ChangeMaps (open_string)
open Go.Ab Go.Ab.Sh
set_option linter.all false
set_option maxRecDepth 100000

theorem own:ownKnob Tryz.prog.godebug=none:=by kernel_rfl
theorem XmE:Tryz.prog.globalNamed "internal/strconv.uint64pow10"=some 5:=by kernel_rfl
theorem XmX:(Tryz.prog.globals[5]?).map (·.type)=some 280:=by kernel_rfl
theorem XpY:Tryz.prog.cellsOf 280=20:=by kernel_rfl
theorem XfD:(Rows.laid_internal_strconv_uint64pow10:DataW Unit)=Lib.tabData .u64 Lib.pow10Tab:=by kernel_rfl
theorem XnV:Tryz.prog.underlying 280=some (TypeDesc.array 20 194):=by kernel_rfl
theorem XmZ:Tryz.prog.underlying 194=some (.int .u64):=by kernel_rfl
theorem XfE:Tryz.prog.cellsOf 194=1:=by kernel_rfl
theorem XmD:Tryz.prog.globalNamed "strconv.ErrSyntax"=some 3:=by kernel_rfl
theorem XnO:Tryz.prog.globalNamed "strconv.ErrRange"=some 4:=by kernel_rfl
theorem XmJ:(Tryz.prog.globals[3]?).map (·.type)=some 217:=by kernel_rfl
theorem XnW:(Tryz.prog.globals[4]?).map (·.type)=some 217:=by kernel_rfl
theorem star: "*" ++ "errors.errorString"="*errors.errorString":=ak
theorem XeF(u:TypeId)(h:Tryz.prog.typeName? 3 u=some "*errors.errorString"):u=282:=typeName_ptr_named (nm:="errors.errorString") (by rw[star];kernel_rfl) (by kernel_rfl) ak u (by rw[star];exact h)
theorem XcX:Tryz.prog.cellsOf 284=1:=by kernel_rfl
theorem XdG:Tryz.prog.cellsOf 9=1:=by kernel_rfl
theorem XrV:Rows.flatReadsRow.laid=[("math/bits.deBruijn32tab",Rows.laid_math_bits_deBruijn32tab),("math/bits.deBruijn64tab",Rows.laid_math_bits_deBruijn64tab),("internal/strconv.uint64pow10",Rows.laid_internal_strconv_uint64pow10),("unicode/utf8.acceptRanges",Rows.laid_unicode_utf8_acceptRanges),("strconv.ErrRange",Rows.laid_strconv_ErrRange),("strconv.ErrSyntax",Rows.laid_strconv_ErrSyntax),("unicode/utf8.first",Rows.laid_unicode_utf8_first)]:=rfl

theorem facts{W:World}(b:laidMetH Tryz.prog Rows.flatReadsRow.laid W)(c:W.ShapedOpen Tryz.prog):tS W:=by rw[MakeChecks.laidMetH_plain _ _ _ (by kernel_rfl),XrV]at b;have a:=b.tail.tail;rw[XfD]at a;obtain⟨d,J,v0,_⟩:=laid_sentinel b.tail.tail.tail.tail XnO XnW Tryz.underlying217 XeF Tryz.underlying282 Tryz.underlying284 rfl rfl Tryz.underlying9 XcX XdG;obtain⟨e,f,v1,_⟩:=laid_sentinel b.tail.tail.tail.tail.tail XmD XmJ Tryz.underlying217 XeF Tryz.underlying282 Tryz.underlying284 rfl rfl Tryz.underlying9 XcX XdG;exact{ mx:=Tryz.laysM219.s1_3 W c,dN:=Lib.tabIs_of_head XmE XmX XnV XmZ XfE XpY a,err:=⟨⟨_,_,v1⟩,_,_,v0⟩ }

/-- the bulk, as a measure -/
def XlI(H:Type):Cs H:=⟨Rows.uptoBulk,Rows.uptoBulkAll,λ_=>by simp only[Rows.uptoBulk],λ_=>by simp only[Rows.uptoBulk],λ_ _=>by simp only[Rows.uptoBulkAll]⟩

theorem XqP(H:Type)(d:TypeId × ae->H)(W:World)(base:Nat)(a:Array ae)(f n:List (DataW H))(b:List MemPlace)
  (c:∀(w:Nat) t v,Tryz.f3.params[w]?=some t->a[w]?=some v->Value.okWide Tryz.prog W .any base t v)
  (u:DataW.Whole d Tryz.prog Tryz.f3.params.toList Rows.flatReadsSpec.vars false W a.toList f n b) (y:tS W) :
  Calls Tryz.prog 3 a W λe l=>∃v,e=.returned v/\Rows.flatReadsSpec.post d Tryz.prog Tryz.f3 false true false false W a v l:=by
 have i:=u;obtain⟨p,q,g,z,rfl,B,D⟩:=u;have r:DataW.TrodAll d Tryz.prog W 0 (λ_=>true) true Tryz.f3.params.toList a.toList f p:=g;rw[Tryz.params3]at r c;obtain⟨v0,F,d0,x,I,J,j,rfl,rfl,o,E⟩:=trodAll_cons r;obtain⟨rfl,rfl,rfl⟩:=trodAll_nil E;obtain rfl:a=#[v0]:=by cases a;simp_all
 obtain⟨rfl,rfl⟩:=trodVars_none z;obtain⟨G,rfl,m,t0⟩:=Xsw (XlI H) XrF o;obtain⟨s,rfl,_,_,_⟩:=open_string Tryz.underlying9 (c 0 9 v0 rfl rfl) o;refine(asks y s.data.toList).mono λe l ⟨A,k⟩=>?_;subst A;refine⟨_,rfl,?_⟩;exact⟨_,_,_,[],_,[],i,trodAll_mk1 (shut_bool Tryz.underlying4 _),trodAll_cons_mk (t0 _ _ _ _) trodAll_mk0,rfl,k.frame _,λh=>by cases h⟩

/-- an input that fits -/
def zf:Array ae:=#[.string .empty]
def XAa(H:Type):List (DataW H):=[.lit (.string [])]

noncomputable def FT(os:Os):World:=World.laidAll Tryz.prog os Rows.flatReadsRow.laid
theorem Xz2(os:Os):Input.okWideB Tryz.prog ((FT os).forCall (λ_ _=>0) ⟨#[],zf,[]⟩) 3 ⟨#[],zf,[]⟩=true:=by kernel_rfl
theorem Xrm(os:Os):((FT os).forCall (λ_ _=>0) ⟨#[],zf,[]⟩).Shaped Tryz.prog:=World.shaped_of_ZipB (by kernel_rfl) (by kernel_rfl)
theorem Xya(os:Os):laidMetH Tryz.prog Rows.flatReadsRow.laid ((FT os).forCall (λ_ _=>0) ⟨#[],zf,[]⟩).memory:=by rw[MakeChecks.laidMetH_plain _ _ _ (by kernel_rfl)];exact laidMet_laidAll _ (by kernel_rfl) (by kernel_rfl)
theorem Xsj(os:Os){H:Type}(a:TypeId × ae->H):DataW.whole a Tryz.prog ((FT os).forCall (λ_ _=>0) ⟨#[],zf,[]⟩).memory Tryz.f3.params.toList Rows.flatReadsSpec.vars false zf.toList 8=some (XAa H,[],[]):=by kernel_rfl

theorem lifted(os:Os)(a:os.Started)(H:Type)(c:TypeId × ae->H)(F:Stop.Interp) :
  ReturnsInHanded {} Tryz.checked os 3 .any ((OpenSpec.ofChange Rows.flatReadsSpec).preRow c Tryz.prog Tryz.f3 Rows.flatReadsRow.domain false Rows.flatReadsRow.laid) (((OpenSpec.ofChange Rows.flatReadsSpec).at F).post c Tryz.prog Tryz.f3 false true false false):=by
 refine returnsInHanded_of_row (C:=Tryz.checked) (s:=OpenSpec.ofChange Rows.flatReadsSpec) own a (by kernel_rfl) Tryz.func3
  ⟨FT os,λ_ _=>0,⟨#[],zf,[]⟩,World.laidAll_os _ _ _,Xrm os,(Input.okWide_of_okWideB (base:=0) (Xz2 os)).1,(Input.okWide_of_okWideB (Xz2 os)).2,
   OpenSpec.preRow_of_cond 8 (Xsj os c) (by kernel_rfl) (λk m=>nomatch m) (by kernel_rfl) (Xya os),by simp only[Assume.holds];exact⟨ar,ar,λ_=>Modest.zero,ar,ar⟩⟩ ?_
 intro W base e h i b f l _ d _ j g _;exact XqP H c W base e h i b f l (facts j g)

end Go.Proofs.YtodhdplpcelokaaGreatDoor
