/-
  What the library lays is what the answers want; the call over every start. No conditions.
-/
import Derived.Test.YteognfejlpbmoaaGreatDoorR
import Derived.SevenTiedAt
import Derived.ProofKit
import Derived.WalkKit
import Derived.OpenShut
import Derived.Deep.DeepHandedRow
import Derived.LaidLaws
set_option linter.unusedSimpArgs false
set_option linter.unusedVariables false
namespace Go.Proofs.YteognfejlpbmoaaGreatDoor
open Go.RowKit Go.ChangeShapes Go.WideShapes Go.ChangeAt
open Go.ChangeMaps (open_string)
open Go.Ab Go.Ab.Sh
set_option maxRecDepth 100000

theorem own:ownKnob Tryz.prog.godebug=none:=by kernel_rfl
theorem X10a:Tryz.prog.globalNamed "internal/strconv.uint64pow10"=some 5:=by kernel_rfl
theorem Xzf:(Tryz.prog.globals[5]?).map (·.type)=some 250:=by kernel_rfl
theorem c_pow:Tryz.prog.cellsOf 250=20:=by kernel_rfl
theorem Qup:(Rows.laid_internal_strconv_uint64pow10:DataW Unit)=Lib.tabData .u64 Lib.pow10Tab:=by kernel_rfl
theorem X105:Tryz.prog.underlying 250=some (TypeDesc.array 20 165):=by kernel_rfl
theorem X103:Tryz.prog.underlying 165=some (.int .u64):=by kernel_rfl
theorem Quq:Tryz.prog.cellsOf 165=1:=by kernel_rfl
theorem X107:Tryz.prog.globalNamed "strconv.ErrSyntax"=some 3:=by kernel_rfl
theorem Xzq:Tryz.prog.globalNamed "strconv.ErrRange"=some 4:=by kernel_rfl
theorem Xzz:(Tryz.prog.globals[3]?).map (·.type)=some 181:=by kernel_rfl
theorem X109:(Tryz.prog.globals[4]?).map (·.type)=some 181:=by kernel_rfl
theorem star:"*" ++ "errors.errorString"="*errors.errorString":=by decide
theorem rowE (u:TypeId) (h:Tryz.prog.typeName? 3 u=some "*errors.errorString"):u=252:=
 typeName_ptr_named (nm:="errors.errorString") (by rw [star]; kernel_rfl) (by kernel_rfl) (by decide) u (by rw [star]; exact h)
theorem c_es:Tryz.prog.cellsOf 254=1:=by kernel_rfl
theorem c_st:Tryz.prog.cellsOf 9=1:=by kernel_rfl
theorem row_laid:Rows.flatBlanksUptoRow.laid=[("math/bits.deBruijn32tab",Rows.laid_math_bits_deBruijn32tab),("math/bits.deBruijn64tab",Rows.laid_math_bits_deBruijn64tab),("internal/strconv.uint64pow10",Rows.laid_internal_strconv_uint64pow10),("unicode/utf8.acceptRanges",Rows.laid_unicode_utf8_acceptRanges),("strconv.ErrRange",Rows.laid_strconv_ErrRange),("strconv.ErrSyntax",Rows.laid_strconv_ErrSyntax),("unicode/utf8.first",Rows.laid_unicode_utf8_first)]:=rfl

theorem facts {W:World} (hL0:laidMetH Tryz.prog Rows.flatBlanksUptoRow.laid W) (hsh:W.ShapedOpen Tryz.prog):Facts W:=by
 rw [MakeChecks.laidMetH_plain _ _ _ (by kernel_rfl),row_laid] at hL0;have h_pow:=hL0.tail.tail;rw [Qup] at h_pow;obtain ⟨a0,s0,v0,_⟩:=laid_sentinel hL0.tail.tail.tail.tail Xzq X109 Tryz.underlying181 rowE Tryz.underlying252 Tryz.underlying254 rfl rfl Tryz.underlying9 c_es c_st;obtain ⟨a1,s1,v1,_⟩:=laid_sentinel hL0.tail.tail.tail.tail.tail X107 Xzz Tryz.underlying181 rowE Tryz.underlying252 Tryz.underlying254 rfl rfl Tryz.underlying9 c_es c_st;exact { mx:=Tryz.laysM219.s1_3 W hsh,tab:=Lib.tabIs_of_head X10a Xzf X105 X103 Quq c_pow h_pow,err:=⟨⟨_,_,v1⟩,_,_,v0⟩ }

/-- the bulk, as a measure -/
def Xu7 (H:Type):Bulk H:=⟨Rows.uptoBulk,Rows.uptoBulkAll,fun _=>by simp only [Rows.uptoBulk],fun _=>by simp only [Rows.uptoBulk],fun _ _=>by simp only [Rows.uptoBulkAll]⟩

theorem contract (H:Type) (enc:TypeId × Value->H) (W:World) (base:Nat) (args:Array Value) (ds gs:List (DataW H)) (before:List MemPlace)
  (hval:∀ (j:Nat) t v,Tryz.f3.params[j]?=some t->args[j]?=some v->Value.okWide Tryz.prog W .any base t v)
  (hW:DataW.Whole enc Tryz.prog Tryz.f3.params.toList Rows.flatBlanksSpec.vars false W args.toList ds gs before) (hk:Rows.uptoSmall H (ds ++ gs)=true) (hF:Facts W) :
  Calls Tryz.prog 3 args W fun e W'=>∃ v,e=.returned v/\Rows.flatBlanksSpec.post enc Tryz.prog Tryz.f3 false true false false W args v W':=by
 have hW':=hW;obtain ⟨p,q,hA0,hV,rfl,hfz,hnd⟩:=hW;have hA:DataW.TrodAll enc Tryz.prog W 0 (fun _=>true) true Tryz.f3.params.toList args.toList ds p:=hA0;rw [Tryz.params3] at hA hval;obtain ⟨v0,vs0,d0,ds0,p0,q0,hargs,rfl,rfl,h0,r0⟩:=trodAll_cons hA;obtain ⟨v1,vs1,d1,ds1,p1,q1,e1,rfl,rfl,h1,r1⟩:=trodAll_cons r0;obtain ⟨rfl,rfl,rfl⟩:=trodAll_nil r1;subst e1;obtain rfl:args=#[v0,v1]:=by cases args; simp_all
 obtain ⟨rfl,rfl⟩:=trodVars_none hV;have hb:Rows.uptoBulkAll [d0,d1] <= 1048576:=of_decide_eq_true hk;simp only [Rows.uptoBulkAll] at hb;obtain ⟨g0,rfl,b0,t0⟩:=Xi8 (Xu7 H) layS h0;obtain ⟨g1,rfl,b1,t1⟩:=Xi8 (Xu7 H) layI h1;have b0:strs v0.cells.toList <= Rows.uptoBulk d0:=b0;obtain ⟨s,rfl,_,_,_⟩:=open_string Tryz.underlying9 (hval 0 9 v0 rfl rfl) h0;obtain ⟨z,rfl,_,_,_⟩:=open_int Tryz.underlying3 (hval 1 3 v1 rfl rfl) h1;have hs:s.data.toList.length <= 4194304:=by
  have:s.data.toList.length=s.size:=by rw [Array.length_toList]; rfl
  have b0:s.size + 0 <= Rows.uptoBulk d0:=b0;omega
 refine (asks hF s.data.toList z hs).mono fun e W' ⟨he,hb⟩=>?_;subst he;refine ⟨_,rfl,?_⟩;exact ⟨_,_,_,[],_,[],hW',trodAll_mk1 (shut_bool Tryz.underlying4 _),trodAll_cons_mk (t0 _ _ _ _) (trodAll_cons_mk (t1 _ _ _ _) trodAll_mk0),rfl,hb.frame _,fun h=>by cases h⟩

/-- an input that fits -/
def wit:Array Value:=#[.string .empty,.int .i64 0]
def witD (H:Type):List (DataW H):=[.lit (.string []),.lit (.int .i64 0)]

noncomputable def witW (os:Os):World:=World.laidAll Tryz.prog os Rows.flatBlanksUptoRow.laid
theorem Xu3 (os:Os):Input.okWideB Tryz.prog ((witW os).forCall (fun _ _=>0) ⟨#[],wit,[]⟩) 3 ⟨#[],wit,[]⟩=true:=by kernel_rfl
theorem Xrj (os:Os):((witW os).forCall (fun _ _=>0) ⟨#[],wit,[]⟩).Shaped Tryz.prog:=World.shaped_of_ZipB (by kernel_rfl) (by kernel_rfl)
theorem Xtb (os:Os):laidMetH Tryz.prog Rows.flatBlanksUptoRow.laid ((witW os).forCall (fun _ _=>0) ⟨#[],wit,[]⟩).memory:=by
 rw [MakeChecks.laidMetH_plain _ _ _ (by kernel_rfl)];exact laidMet_laidAll _ (by kernel_rfl) (by kernel_rfl)
theorem Xov (os:Os) {H:Type} (enc:TypeId × Value->H):DataW.whole enc Tryz.prog ((witW os).forCall (fun _ _=>0) ⟨#[],wit,[]⟩).memory Tryz.f3.params.toList Rows.flatBlanksSpec.vars false wit.toList 8=some (witD H,[],[]):=by kernel_rfl

theorem lifted (os:Os) (started:os.Started) (H:Type) (enc:TypeId × Value->H) (F:Stop.Interp) :
  ReturnsInHanded {} Tryz.checked os 3 .any ((Rows.OpenSpec.upto Rows.flatBlanksSpec).preRow enc Tryz.prog Tryz.f3 Rows.flatBlanksUptoRow.domain false Rows.flatBlanksUptoRow.laid) (((Rows.OpenSpec.upto Rows.flatBlanksSpec).at F).post enc Tryz.prog Tryz.f3 false true false false):=by
 refine returnsInHanded_of_row (C:=Tryz.checked) (s:=Rows.OpenSpec.upto Rows.flatBlanksSpec) own started (by kernel_rfl) Tryz.func3
  ⟨witW os,fun _ _=>0,⟨#[],wit,[]⟩,World.laidAll_os _ _ _,Xrj os,(Input.okWide_of_okWideB (base:=0) (Xu3 os)).1,(Input.okWide_of_okWideB (Xu3 os)).2,
   OpenSpec.preRow_of_cond 8 (Xov os enc) (by kernel_rfl) (fun k hk=>by cases hk; kernel_rfl) (by kernel_rfl) (Xtb os),by
    simp only [Assume.holds];exact ⟨by simp,by simp,fun _=>Modest.zero,by simp,by simp⟩⟩ ?_
 intro W base args ds gs before hval hW _ hcond _ hL hsh _;exact contract H enc W base args ds gs before hval hW (hcond _ rfl) (facts hL hsh)

end Go.Proofs.YteognfejlpbmoaaGreatDoor
