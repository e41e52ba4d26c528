/-
  What the library lays is what the answers want; the call over every start. No conditions.
-/
import Derived.Test.YtjnfcoeninejbaaGreatDoorR
import Derived.SevenTiedAt
import Derived.ProofKit
import Derived.WalkKit
import Derived.OpenShut
import Derived.Deep.DeepHandedRow
import Derived.LaidLaws
namespace Go.Proofs.YtjnfcoeninejbaaGreatDoor
open Go.RowKit Go.ChangeShapes Go.WideShapes Go.ChangeAt
open Go.ChangeMaps (open_string)
open Go.Ab Go.Ab.Sh
set_option maxRecDepth 100000

theorem own:ownKnob Tryz.prog.godebug=none:=by kernel_rfl
theorem Xut:Tryz.prog.globalNamed "internal/strconv.uint64pow10"=some 7:=by kernel_rfl
theorem Xve:(Tryz.prog.globals[7]?).map (·.type)=some 162:=by kernel_rfl
theorem c_pow:Tryz.prog.cellsOf 162=20:=by kernel_rfl
theorem Qna:(Rows.laid_internal_strconv_uint64pow10:DataW Unit)=Lib.tabData .u64 Lib.pow10Tab:=by kernel_rfl
theorem Xv3:Tryz.prog.underlying 162=some (TypeDesc.array 20 35):=by kernel_rfl
theorem Xus:Tryz.prog.underlying 35=some (.int .u64):=by kernel_rfl
theorem Qnb:Tryz.prog.cellsOf 35=1:=by kernel_rfl
theorem Xvg:Tryz.prog.globalNamed "strings.asciiSpace"=some 0:=by kernel_rfl
theorem Xuw:(Tryz.prog.globals[0]?).map (·.type)=some 108:=by kernel_rfl
theorem c_spc:Tryz.prog.cellsOf 108=256:=by kernel_rfl
theorem Qnc:(Rows.laid_strings_asciiSpace:DataW Unit)=Lib.tabData .u8 Lib.asciiSpaceTab:=by kernel_rfl
theorem Xvw:Tryz.prog.underlying 108=some (TypeDesc.array 256 5):=by kernel_rfl
theorem Xuy:Tryz.prog.underlying 5=some (.int .u8):=by kernel_rfl
theorem Qnd:Tryz.prog.cellsOf 5=1:=by kernel_rfl
theorem Xvr:Tryz.prog.globalNamed "strconv.ErrSyntax"=some 5:=by kernel_rfl
theorem Xvc:Tryz.prog.globalNamed "strconv.ErrRange"=some 6:=by kernel_rfl
theorem Xv6:(Tryz.prog.globals[5]?).map (·.type)=some 95:=by kernel_rfl
theorem Xv2:(Tryz.prog.globals[6]?).map (·.type)=some 95:=by kernel_rfl
theorem star:"*" ++ "errors.errorString"="*errors.errorString":=by decide
theorem rowE (u:TypeId) (h:Tryz.prog.typeName? 3 u=some "*errors.errorString"):u=171:=
  typeName_ptr_named (nm:="errors.errorString") (by rw [star]; kernel_rfl) (by kernel_rfl) (by decide) u (by rw [star]; exact h)
theorem c_es:Tryz.prog.cellsOf 173=1:=by kernel_rfl
theorem c_st:Tryz.prog.cellsOf 9=1:=by kernel_rfl
theorem row_laid:Rows.askReadsUptoRow.laid=[("math/bits.deBruijn32tab",Rows.laid_math_bits_deBruijn32tab),("math/bits.deBruijn64tab",Rows.laid_math_bits_deBruijn64tab),("internal/strconv.uint64pow10",Rows.laid_internal_strconv_uint64pow10),("unicode/utf8.acceptRanges",Rows.laid_unicode_utf8_acceptRanges),("strconv.ErrRange",Rows.laid_strconv_ErrRange),("strconv.ErrSyntax",Rows.laid_strconv_ErrSyntax),("unicode.White_Space",Rows.laid_unicode_White_Space),("strings.asciiSpace",Rows.laid_strings_asciiSpace),("unicode/utf8.first",Rows.laid_unicode_utf8_first)]:=rfl

theorem facts {W:World} (hL0:laidMetH Tryz.prog Rows.askReadsUptoRow.laid W) (hsh:W.ShapedOpen Tryz.prog):Facts W:=by
  rw [MakeChecks.laidMetH_plain _ _ _ (by kernel_rfl),row_laid] at hL0
  have h_pow:=hL0.tail.tail
  rw [Qna] at h_pow
  have h_spc:=hL0.tail.tail.tail.tail.tail.tail.tail
  rw [Qnc] at h_spc
  obtain ⟨a0,s0,v0,_⟩:=laid_sentinel hL0.tail.tail.tail.tail Xvc Xv2 Tryz.underlying95 rowE Tryz.underlying171 Tryz.underlying173 rfl rfl Tryz.underlying9 c_es c_st
  obtain ⟨a1,s1,v1,_⟩:=laid_sentinel hL0.tail.tail.tail.tail.tail Xvr Xv6 Tryz.underlying95 rowE Tryz.underlying171 Tryz.underlying173 rfl rfl Tryz.underlying9 c_es c_st
  exact { mx:=Tryz.laysM219.s1_3 W hsh,tab:=Lib.tabIs_of_head Xut Xve Xv3 Xus Qnb c_pow h_pow,spc:=Lib.tabIs_of_head Xvg Xuw Xvw Xuy Qnd c_spc h_spc,err:=⟨⟨_,_,v1⟩,_,_,v0⟩ }

/-- the bulk, as a measure -/
def Xlt (H:Type):Bulk H:=⟨Rows.uptoBulk,Rows.uptoBulkAll,fun _=>by simp only [Rows.uptoBulk],fun _=>by simp only [Rows.uptoBulk],fun _ _=>by simp only [Rows.uptoBulkAll]⟩

theorem contract (H:Type) (enc:TypeId × Value→H) (W:World) (base:Nat) (args:Array Value) (ds gs:List (DataW H)) (before:List MemPlace)
    (hval:∀ (j:Nat) t v,Tryz.f3.params[j]?=some t→args[j]?=some v→Value.okWide Tryz.prog W .any base t v)
    (hW:DataW.Whole enc Tryz.prog Tryz.f3.params.toList Rows.askReadsSpec.vars false W args.toList ds gs before) (hk:Rows.uptoSmall H (ds ++ gs)=true) (hF:Facts W) :
    Calls Tryz.prog 3 args W fun e W'=>∃ v,e=.returned v∧Rows.askReadsSpec.post enc Tryz.prog Tryz.f3 false true false false W args v W':=by
  have hW':=hW
  obtain ⟨p,q,hA0,hV,rfl,hfz,hnd⟩:=hW
  have hA:DataW.TrodAll enc Tryz.prog W 0 (fun _=>true) true Tryz.f3.params.toList args.toList ds p:=hA0
  rw [Tryz.params3] at hA hval
  obtain ⟨v0,vs0,d0,ds0,p0,q0,hargs,rfl,rfl,h0,r0⟩:=trodAll_cons hA
  obtain ⟨v1,vs1,d1,ds1,p1,q1,e1,rfl,rfl,h1,r1⟩:=trodAll_cons r0
  obtain ⟨v2,vs2,d2,ds2,p2,q2,e2,rfl,rfl,h2,r2⟩:=trodAll_cons r1
  obtain ⟨rfl,rfl,rfl⟩:=trodAll_nil r2
  subst e2
  subst e1
  obtain rfl:args=#[v0,v1,v2]:=by cases args; simp_all
  obtain ⟨rfl,rfl⟩:=trodVars_none hV
  have hb:Rows.uptoBulkAll [d0,d1,d2] ≤ 1048576:=of_decide_eq_true hk
  simp only [Rows.uptoBulkAll] at hb
  obtain ⟨g0,rfl,b0,t0⟩:=Xc5 (Xlt H) layS h0
  obtain ⟨g1,rfl,b1,t1⟩:=Xc5 (Xlt H) layQ h1
  obtain ⟨g2,rfl,b2,t2⟩:=Xc5 (Xlt H) layC h2
  have b0:strs v0.cells.toList ≤ Rows.uptoBulk d0:=b0
  have b1:strs v1.cells.toList ≤ Rows.uptoBulk d1:=b1
  obtain ⟨s,rfl,_,_,_⟩:=open_string Tryz.underlying9 (hval 0 9 v0 rfl rfl) h0
  obtain ⟨c1,rfl,_⟩:=okWide_struct Tryz.underlying34 (hval 1 34 v1 rfl rfl)
  obtain ⟨c2,rfl,_⟩:=okWide_struct Tryz.underlying37 (hval 2 37 v2 rfl rfl)
  obtain ⟨qn,hq,hl,e1⟩:=Xsw (cs:=c1.toList) g1 (by show strs (Value.agg c1).cells.toList ≤ 4000000; omega)
  obtain ⟨hi,lo,x1,x2,e2⟩:=Xth (cs:=c2.toList) g2
  obtain rfl:c1=⟨qC qn⟩:=by cases c1; simpa using e1
  obtain rfl:c2=⟨[.int .u64 (hi:Int),.int .u64 (lo:Int)]⟩:=by cases c2; simpa using e2
  have hs:s.data.toList.length ≤ 4194304:=by
    have:s.data.toList.length=s.size:=by rw [Array.length_toList]; rfl
    have b0:s.size + 0 ≤ Rows.uptoBulk d0:=b0
    omega
  refine (asks hF s.data.toList qn hi lo x1 x2 hs hq hl).mono fun e W' ⟨he,hb⟩=>?_
  subst he
  refine ⟨_,rfl,?_⟩
  exact ⟨_,_,_,[],_,[],hW',trodAll_mk1 (shut_bool Tryz.underlying4 _),trodAll_cons_mk (t0 _ _ _ _) (trodAll_cons_mk (t1 _ _ _ _) (trodAll_cons_mk (t2 _ _ _ _) trodAll_mk0)),rfl,hb.frame _,fun h=>by cases h⟩

/-- an input that fits -/
def wit:Array Value:=#[.string .empty,.agg #[.int .u8 0,.string .empty,.string .empty,.string .empty,.int .u8 0,.bool false,.int .i64 0,.int .u32 0,.int .i64 0,.int .u32 0,.int .i64 0,.int .u32 0,.int .u32 0,.int .u32 0,.int .u32 0,.int .u32 0,.int .u32 0,.int .u8 0,.int .u16 0,.int .u16 0,.int .i64 0,.int .u32 0],.agg #[.int .u64 0,.int .u64 0]]
def witD (H:Type):List (DataW H):=[.lit (.string []),.agg [.lit (.int .u8 0),.lit (.string []),.lit (.string []),.lit (.string []),.lit (.int .u8 0),
  .agg [.lit (.bool false),.lit (.int .i64 0),.agg [.lit (.int .u32 0),.lit (.int .i64 0)],.agg [.lit (.int .u32 0),.lit (.int .i64 0)],.agg [.lit (.int .u32 0),.lit (.int .u32 0)],.agg [.lit (.int .u32 0),.lit (.int .u32 0)]],
  .agg [.lit (.int .u32 0),.lit (.int .u32 0),.lit (.int .u8 0),.lit (.int .u16 0),.lit (.int .u16 0)],.lit (.int .i64 0),.lit (.int .u32 0)],.agg [.lit (.int .u64 0),.lit (.int .u64 0)]]

noncomputable def witW (os:Os):World:=World.laidAll Tryz.prog os Rows.askReadsUptoRow.laid
theorem Xqa (os:Os):Input.okWideB Tryz.prog ((witW os).forCall (fun _ _=>0) ⟨#[],wit,[]⟩) 3 ⟨#[],wit,[]⟩=true:=by kernel_rfl
theorem Xoj (os:Os):((witW os).forCall (fun _ _=>0) ⟨#[],wit,[]⟩).Shaped Tryz.prog:=World.shaped_of_ZipB (by kernel_rfl) (by kernel_rfl)
theorem Xp5 (os:Os):laidMetH Tryz.prog Rows.askReadsUptoRow.laid ((witW os).forCall (fun _ _=>0) ⟨#[],wit,[]⟩).memory:=by
  rw [MakeChecks.laidMetH_plain _ _ _ (by kernel_rfl)]
  exact laidMet_laidAll _ (by kernel_rfl) (by kernel_rfl)
theorem Xoh (os:Os) {H:Type} (enc:TypeId × Value→H):DataW.whole enc Tryz.prog ((witW os).forCall (fun _ _=>0) ⟨#[],wit,[]⟩).memory Tryz.f3.params.toList Rows.askReadsSpec.vars false wit.toList 8=some (witD H,[],[]):=by kernel_rfl

theorem lifted (os:Os) (started:os.Started) (H:Type) (enc:TypeId × Value→H) (F:Stop.Interp) :
    ReturnsInHanded {} Tryz.checked os 3 .any ((Rows.OpenSpec.upto Rows.askReadsSpec).preRow enc Tryz.prog Tryz.f3 Rows.askReadsUptoRow.domain false Rows.askReadsUptoRow.laid) (((Rows.OpenSpec.upto Rows.askReadsSpec).at F).post enc Tryz.prog Tryz.f3 false true false false):=by
  refine returnsInHanded_of_row (C:=Tryz.checked) (s:=Rows.OpenSpec.upto Rows.askReadsSpec) own started (by kernel_rfl) Tryz.func3
    ⟨witW os,fun _ _=>0,⟨#[],wit,[]⟩,World.laidAll_os _ _ _,Xoj os,(Input.okWide_of_okWideB (base:=0) (Xqa os)).1,(Input.okWide_of_okWideB (Xqa os)).2,
      OpenSpec.preRow_of_cond 8 (Xoh os enc) (by kernel_rfl) (fun k hk=>by cases hk; kernel_rfl) (by kernel_rfl) (Xp5 os),by
        simp only [Assume.holds]
        exact ⟨by simp,by simp,fun _=>Modest.zero,by simp,by simp⟩⟩ ?_
  intro W base args ds gs before hval hW _ hcond _ hL hsh _
  exact contract H enc W base args ds gs before hval hW (hcond _ rfl) (facts hL hsh)

end Go.Proofs.YtjnfcoeninejbaaGreatDoor
