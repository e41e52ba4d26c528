/-
  What the library lays is what the answers want; the call over every start. No conditions.
-/
import Derived.Test.YtbpkpklaegnkiaaGreatDoorR
import Derived.Test.YtbpkpklaegnkiaaGreatDoorM
import Derived.SevenTiedAt
import Derived.ProofKit
import Derived.WalkKit
import Derived.OpenShut
import Derived.Deep.DeepHandedRow
import Derived.LaidLaws
set_option linter.unusedSimpArgs false
set_option linter.unusedVariables false
namespace Go.Proofs.YtbpkpklaegnkiaaGreatDoor
open Go.RowKit Go.ChangeShapes Go.WideShapes Go.ChangeAt
open Go.ChangeMaps (open_string)
open Go.Ab Go.Ab.Sh
set_option maxRecDepth 100000

theorem own:ownKnob Tryz.prog.godebug=none:=by kernel_rfl
theorem X12g:Tryz.prog.globalNamed "internal/strconv.uint64pow10"=some 5:=by kernel_rfl
theorem X12n:(Tryz.prog.globals[5]?).map (·.type)=some 407:=by kernel_rfl
theorem c_pow:Tryz.prog.cellsOf 407=20:=by kernel_rfl
theorem Q1qp:(Rows.laid_internal_strconv_uint64pow10:DataW Unit)=Lib.tabData .u64 Lib.pow10Tab:=by kernel_rfl
theorem X12k:Tryz.prog.underlying 407=some (TypeDesc.array 20 111):=by kernel_rfl
theorem X12j:Tryz.prog.underlying 111=some (.int .u64):=by kernel_rfl
theorem Q1qq:Tryz.prog.cellsOf 111=1:=by kernel_rfl
theorem X136:Tryz.prog.globalNamed "strings.asciiSpace"=some 0:=by kernel_rfl
theorem X130:(Tryz.prog.globals[0]?).map (·.type)=some 120:=by kernel_rfl
theorem c_spc:Tryz.prog.cellsOf 120=256:=by kernel_rfl
theorem Q1qr:(Rows.laid_strings_asciiSpace:DataW Unit)=Lib.tabData .u8 Lib.asciiSpaceTab:=by kernel_rfl
theorem X12q:Tryz.prog.underlying 120=some (TypeDesc.array 256 5):=by kernel_rfl
theorem X13c:Tryz.prog.underlying 5=some (.int .u8):=by kernel_rfl
theorem Q1qs:Tryz.prog.cellsOf 5=1:=by kernel_rfl
theorem X12z:Tryz.prog.globalNamed "strconv.ErrSyntax"=some 3:=by kernel_rfl
theorem X12e:Tryz.prog.globalNamed "strconv.ErrRange"=some 4:=by kernel_rfl
theorem X12r:(Tryz.prog.globals[3]?).map (·.type)=some 108:=by kernel_rfl
theorem X13b:(Tryz.prog.globals[4]?).map (·.type)=some 108:=by kernel_rfl
theorem star:"*" ++ "errors.errorString"="*errors.errorString":=by decide
theorem u_tn2 {P:Program} {nm:String} (hs:P.types.toList.all (fun j=>match j.desc with | .bool | .int _ | .float _ | .string=>j.str != nm && j.str != "*" ++ nm | .named m _=>m != "*" ++ nm | _=>true)=true) (hstar:nm.toList.head? ≠ some '*') (e:TypeId) (h:P.typeName? 2 e=some nm):∃ j t,P.info? e=some j ∧ j.desc=.named nm t ∧ e<P.types.size:=by
 unfold Program.typeName? at h
 cases hj:P.info? e with
 | none=>simp [hj] at h
 | some j=>
  simp only [hj] at h
  by_cases he:e<P.types.size
  · have hi:P.info? e=P.types[e]?:=by unfold Tables.info?; rw [if_pos he]
    rw [hi] at hj
    have hs:=List.all_eq_true.1 hs j (Array.mem_toList_iff.mpr (Array.mem_of_getElem? hj))
    cases hd:j.desc <;> simp only [hd] at h hs <;> try cases h
    case pointer e2=>
     simp only [Option.map_eq_some_iff] at h
     obtain ⟨n2,_,h2⟩:=h
     exact absurd (by rw [← h2]; simp [String.toList_append]) hstar
    case named n t=>
     split at h
     · cases h; exact ⟨j,t,rfl,hd,he⟩
     · cases h
    all_goals
     split at h
     · cases h
     · cases h; simp at hs
  · exfalso
    have hb:=Tables.info?_beyond he hj
    cases hd:j.desc <;> simp only [hd,TypeDesc.tableOnly] at h hb <;> try cases hb
    all_goals try cases h
    simp only [Option.map_eq_some_iff] at h
    obtain ⟨n2,_,h2⟩:=h
    exact hstar (by rw [← h2]; simp [String.toList_append])
theorem u_row {P:Program} {nm:String} {tp E N:Nat} (hN:P.types.size=N) (hs:P.types.toList.all (fun j=>match j.desc with | .bool | .int _ | .float _ | .string=>j.str != nm && j.str != "*" ++ nm | .named m _=>m != "*" ++ nm | _=>true)=true) (hstar:nm.toList.head? ≠ some '*')
  (hr:(List.range N).all (fun t=>match P.types.toList[t]? with | some j=>(match j.desc with | .named m _=>m != nm || t == E | .pointer e=>e != E || t == tp | _=>true) | none=>true)=true) (u:TypeId) (hlt:u<P.types.size) (h:P.typeName? 3 u=some ("*" ++ nm)):u=tp:=by
 have look:∀ t,t<P.types.size→P.info? t=P.types.toList[t]?:=fun t ht=>by unfold Tables.info?; rw [if_pos ht,Array.getElem?_toList]
 unfold Program.typeName? at h
 cases hj:P.info? u with
 | none=>simp [hj] at h
 | some j=>
  simp only [hj] at h
  rw [look u hlt] at hj
  have hs2:=List.all_eq_true.1 hs j (List.mem_of_getElem? hj)
  have hu:=List.all_eq_true.1 hr u (List.mem_range.2 (hN ▸ hlt))
  simp only [hj] at hu
  cases hd:j.desc <;> simp only [hd] at h hs2 hu <;> try cases h
  case pointer e=>
   simp only [Option.map_eq_some_iff] at h
   obtain ⟨n2,h1,h2⟩:=h
   obtain rfl:=star_append_inj h2
   obtain ⟨j2,t2,a1,a2,a3⟩:=u_tn2 hs hstar e h1
   rw [look e a3] at a1
   have he:=List.all_eq_true.1 hr e (List.mem_range.2 (hN ▸ a3))
   simp only [a1,a2,bne_self_eq_false,Bool.false_or,beq_iff_eq] at he
   subst he
   simpa using hu
  case named n t=>
   split at h
   · cases h; simp at hs2
   · cases h
  all_goals
   split at h
   · cases h
   · have h':=Option.some.inj h
     simp [h'] at hs2
theorem u_es:Tryz.prog.types.toList.all (fun j=>match j.desc with | .bool | .int _ | .float _ | .string=>j.str != "errors.errorString" && j.str != "*" ++ "errors.errorString" | .named m _=>m != "*" ++ "errors.errorString" | _=>true)=true:=by rw [star]; kernel_rfl
theorem u_er:(List.range 841).all (fun t=>match Tryz.prog.types.toList[t]? with | some j=>(match j.desc with | .named m _=>m != "errors.errorString" || t == 550 | .pointer e=>e != 550 || t == 548 | _=>true) | none=>true)=true:=by kernel_rfl
theorem rowE (u:TypeId) (h:Tryz.prog.typeName? 3 u=some "*errors.errorString"):u=548:=
 typeName_ptr_named (nm:="errors.errorString")
  (List.all_eq_true.2 fun v hv=>by
   cases hq:(Tryz.prog.typeName? 3 v != some ("*" ++ "errors.errorString")) with
   | true=>rfl
   | false=>
    have hq:Tryz.prog.typeName? 3 v=some ("*" ++ "errors.errorString"):=by simpa using hq
    have:=u_row u_sz u_es (by decide) u_er v (List.mem_range.1 hv) hq
    subst this; rfl)
  (List.all_eq_true.2 fun v hv=>by
   cases hq:(Tryz.prog.typeName? 2 v != some "errors.errorString") with
   | true=>rfl
   | false=>
    have hq:Tryz.prog.typeName? 2 v=some "errors.errorString":=by simpa using hq
    obtain ⟨j,t,a1,a2,_⟩:=u_tn2 u_es (by decide) v hq
    simp only [a1,Option.map_some,a2,Bool.false_or]) (by decide) u (by rw [star]; exact h)
theorem c_es:Tryz.prog.cellsOf 550=1:=by kernel_rfl
theorem c_st:Tryz.prog.cellsOf 9=1:=by kernel_rfl
theorem row_laid:Rows.askBackUptoRow.laid=[("internal/strconv.uint64pow10",Rows.laid_internal_strconv_uint64pow10),("math/bits.deBruijn32tab",Rows.laid_math_bits_deBruijn32tab),("math/bits.deBruijn64tab",Rows.laid_math_bits_deBruijn64tab),("unicode/utf8.first",Rows.laid_unicode_utf8_first),("unicode/utf8.acceptRanges",Rows.laid_unicode_utf8_acceptRanges),("strconv.ErrSyntax",Rows.laid_strconv_ErrSyntax),("strconv.ErrRange",Rows.laid_strconv_ErrRange),("strings.asciiSpace",Rows.laid_strings_asciiSpace),("unicode.White_Space",Rows.laid_unicode_White_Space)]:=rfl

theorem facts {W:World} (hL0:laidMetH Tryz.prog Rows.askBackUptoRow.laid W) (hsh:W.ShapedOpen Tryz.prog):Facts W:=by
 rw [MakeChecks.laidMetH_plain _ _ _ (by kernel_rfl),row_laid] at hL0
 have h_pow:=hL0
 rw [Q1qp] at h_pow
 have h_spc:=hL0.tail.tail.tail.tail.tail.tail.tail
 rw [Q1qr] at h_spc
 obtain ⟨a0,s0,v0,_⟩:=laid_sentinel hL0.tail.tail.tail.tail.tail.tail X12e X13b Tryz.underlying108 rowE Tryz.underlying548 Tryz.underlying550 rfl rfl Tryz.underlying9 c_es c_st
 obtain ⟨a1,s1,v1,_⟩:=laid_sentinel hL0.tail.tail.tail.tail.tail X12z X12r Tryz.underlying108 rowE Tryz.underlying548 Tryz.underlying550 rfl rfl Tryz.underlying9 c_es c_st
 exact { mx:=Tryz.laysM219.s1_3 W hsh,tab:=Lib.tabIs_of_head X12g X12n X12k X12j Q1qq c_pow h_pow,spc:=Lib.tabIs_of_head X136 X130 X12q X13c Q1qs c_spc h_spc,err:=⟨⟨_,_,v1⟩,_,_,v0⟩ }

/-- the bulk, as a measure -/
def Xxd (H:Type):Bulk H:=⟨Rows.uptoBulk,Rows.uptoBulkAll,fun _=>by simp only [Rows.uptoBulk],fun _=>by simp only [Rows.uptoBulk],fun _ _=>by simp only [Rows.uptoBulkAll]⟩

theorem contract (H:Type) (enc:TypeId × Value→H) (W:World) (base:Nat) (args:Array Value) (ds gs:List (DataW H)) (before:List MemPlace)
  (hval:∀ (j:Nat) t v,Tryz.f3.params[j]?=some t→args[j]?=some v→Value.okWide Tryz.prog W .any base t v)
  (hW:DataW.Whole enc Tryz.prog Tryz.f3.params.toList Rows.askBackSpec.vars false W args.toList ds gs before) (hk:Rows.uptoSmall H (ds ++ gs)=true) (hF:Facts W) :
  Calls Tryz.prog 3 args W fun e W'=>∃ v,e=.returned v∧Rows.askBackSpec.post enc Tryz.prog Tryz.f3 false true false false W args v W':=by
 have hW':=hW
 obtain ⟨p,q,hA0,hV,rfl,hfz,hnd⟩:=hW
 have hA:DataW.TrodAll enc Tryz.prog W 0 (fun _=>true) true Tryz.f3.params.toList args.toList ds p:=hA0
 rw [Tryz.params3] at hA hval
 obtain ⟨v0,vs0,d0,ds0,p0,q0,hargs,rfl,rfl,h0,r0⟩:=trodAll_cons hA
 obtain ⟨v1,vs1,d1,ds1,p1,q1,e1,rfl,rfl,h1,r1⟩:=trodAll_cons r0
 obtain ⟨rfl,rfl,rfl⟩:=trodAll_nil r1
 subst e1
 obtain rfl:args=#[v0,v1]:=by cases args; simp_all
 obtain ⟨rfl,rfl⟩:=trodVars_none hV
 have hb:Rows.uptoBulkAll [d0,d1] ≤ 1048576:=of_decide_eq_true hk
 simp only [Rows.uptoBulkAll] at hb
 obtain ⟨g0,rfl,b0,t0⟩:=Xjz (Xxd H) layS h0
 obtain ⟨g1,rfl,b1,t1⟩:=Xjz (Xxd H) layQ h1
 have b0:strs v0.cells.toList ≤ Rows.uptoBulk d0:=b0
 have b1:strs v1.cells.toList ≤ Rows.uptoBulk d1:=b1
 obtain ⟨s,rfl,_,_,_⟩:=open_string Tryz.underlying9 (hval 0 9 v0 rfl rfl) h0
 obtain ⟨c1,rfl,_⟩:=okWide_struct Tryz.underlying34 (hval 1 34 v1 rfl rfl)
 obtain ⟨qn,hq,hl,e1⟩:=X11e (cs:=c1.toList) g1 (by show strs (Value.agg c1).cells.toList ≤ 4000000; omega)
 obtain rfl:c1=⟨qC qn⟩:=by cases c1; simpa using e1
 have hs:s.data.toList.length ≤ 4194304:=by
  have:s.data.toList.length=s.size:=by rw [Array.length_toList]; rfl
  have b0:s.size + 0 ≤ Rows.uptoBulk d0:=b0
  omega
 refine (asks hF s.data.toList qn hs hq hl).mono fun e W' ⟨he,hb⟩=>?_
 subst he
 refine ⟨_,rfl,?_⟩
 exact ⟨_,_,_,[],_,[],hW',trodAll_mk1 (shut_bool Tryz.underlying4 _),trodAll_cons_mk (t0 _ _ _ _) (trodAll_cons_mk (t1 _ _ _ _) trodAll_mk0),rfl,hb.frame _,fun h=>by cases h⟩

/-- an input that fits -/
def wit:Array Value:=#[.string .empty,.agg #[.int .u8 0,.string .empty,.string .empty,.string .empty,.int .u8 0,.bool false,.int .i64 0,.int .u32 0,.int .i64 0,.int .u32 0,.int .i64 0,.int .u32 0,.int .u32 0,.int .u32 0,.int .u32 0,.int .u32 0,.int .u32 0,.int .u8 0,.int .u16 0,.int .u16 0,.int .i64 0,.int .u32 0]]
def witD (H:Type):List (DataW H):=[.lit (.string []),.agg [.lit (.int .u8 0),.lit (.string []),.lit (.string []),.lit (.string []),.lit (.int .u8 0),
 .agg [.lit (.bool false),.lit (.int .i64 0),.agg [.lit (.int .u32 0),.lit (.int .i64 0)],.agg [.lit (.int .u32 0),.lit (.int .i64 0)],.agg [.lit (.int .u32 0),.lit (.int .u32 0)],.agg [.lit (.int .u32 0),.lit (.int .u32 0)]],
 .agg [.lit (.int .u32 0),.lit (.int .u32 0),.lit (.int .u8 0),.lit (.int .u16 0),.lit (.int .u16 0)],.lit (.int .i64 0),.lit (.int .u32 0)]]

noncomputable def witW (os:Os):World:=World.laidAll Tryz.prog os Rows.askBackUptoRow.laid
theorem Xxk (os:Os):Input.okWideB Tryz.prog ((witW os).forCall (fun _ _=>0) ⟨#[],wit,[]⟩) 3 ⟨#[],wit,[]⟩=true:=by kernel_rfl
theorem Xu3 (os:Os):((witW os).forCall (fun _ _=>0) ⟨#[],wit,[]⟩).Shaped Tryz.prog:=World.shaped_of_ZipB (by kernel_rfl) (by kernel_rfl)
theorem Xvh (os:Os):laidMetH Tryz.prog Rows.askBackUptoRow.laid ((witW os).forCall (fun _ _=>0) ⟨#[],wit,[]⟩).memory:=by
 rw [MakeChecks.laidMetH_plain _ _ _ (by kernel_rfl)]
 exact laidMet_laidAll _ (by kernel_rfl) (by kernel_rfl)
theorem Xsv (os:Os) {H:Type} (enc:TypeId × Value→H):DataW.whole enc Tryz.prog ((witW os).forCall (fun _ _=>0) ⟨#[],wit,[]⟩).memory Tryz.f3.params.toList Rows.askBackSpec.vars false wit.toList 8=some (witD H,[],[]):=by kernel_rfl

theorem lifted (os:Os) (started:os.Started) (H:Type) (enc:TypeId × Value→H) (F:Stop.Interp) :
  ReturnsInHanded {} Tryz.checked os 3 .any ((Rows.OpenSpec.upto Rows.askBackSpec).preRow enc Tryz.prog Tryz.f3 Rows.askBackUptoRow.domain false Rows.askBackUptoRow.laid) (((Rows.OpenSpec.upto Rows.askBackSpec).at F).post enc Tryz.prog Tryz.f3 false true false false):=by
 refine returnsInHanded_of_row (C:=Tryz.checked) (s:=Rows.OpenSpec.upto Rows.askBackSpec) own started (by kernel_rfl) Tryz.func3
  ⟨witW os,fun _ _=>0,⟨#[],wit,[]⟩,World.laidAll_os _ _ _,Xu3 os,(Input.okWide_of_okWideB (base:=0) (Xxk os)).1,(Input.okWide_of_okWideB (Xxk os)).2,
   OpenSpec.preRow_of_cond 8 (Xsv os enc) (by kernel_rfl) (fun k hk=>by cases hk; kernel_rfl) (by kernel_rfl) (Xvh os),by
    simp only [Assume.holds]
    exact ⟨by simp,by simp,fun _=>Modest.zero,by simp,by simp⟩⟩ ?_
 intro W base args ds gs before hval hW _ hcond _ hL hsh _
 exact contract H enc W base args ds gs before hval hW (hcond _ rfl) (facts hL hsh)

end Go.Proofs.YtbpkpklaegnkiaaGreatDoor
