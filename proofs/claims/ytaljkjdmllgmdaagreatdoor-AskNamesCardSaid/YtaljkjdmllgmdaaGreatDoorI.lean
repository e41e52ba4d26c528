/-
  What the library lays is what the answers want; the call over every start. No conditions.
-/
import Derived.Test.YtaljkjdmllgmdaaGreatDoorR
import Derived.Test.YtaljkjdmllgmdaaGreatDoorM
import Derived.SevenTiedAt
import Derived.ProofKit
import Derived.WalkKit
set_option linter.unusedSimpArgs false
set_option linter.unusedVariables false
namespace Go.Proofs.YtaljkjdmllgmdaaGreatDoor
open Go.RowKit Go.ChangeShapes Go.WideShapes Go.ChangeAt
set_option maxRecDepth 100000
theorem own:ownKnob Tryz.prog.godebug=none:=by kernel_rfl
theorem Xoj:Tryz.prog.globalNamed "internal/strconv.uint64pow10"=some 7:=by kernel_rfl
theorem Xor:(Tryz.prog.globals[7]?).map (·.type)=some 635:=by kernel_rfl
theorem c_pow:Tryz.prog.cellsOf 635=20:=by kernel_rfl
theorem Q2eg:(Rows.laid_internal_strconv_uint64pow10:DataW Unit)=Lib.tabData .u64 Lib.pow10Tab:=by kernel_rfl
theorem Xol:Tryz.prog.underlying 635=some (TypeDesc.array 20 63):=by kernel_rfl
theorem Xoi:Tryz.prog.underlying 63=some (.int .u64):=by kernel_rfl
theorem Q2eh:Tryz.prog.cellsOf 63=1:=by kernel_rfl
theorem Xof:Tryz.prog.globalNamed "strings.asciiSpace"=some 2:=by kernel_rfl
theorem Xp2:(Tryz.prog.globals[2]?).map (·.type)=some 305:=by kernel_rfl
theorem c_spc:Tryz.prog.cellsOf 305=256:=by kernel_rfl
theorem Q2ei:(Rows.laid_strings_asciiSpace:DataW Unit)=Lib.tabData .u8 Lib.asciiSpaceTab:=by kernel_rfl
theorem Xp1:Tryz.prog.underlying 305=some (TypeDesc.array 256 5):=by kernel_rfl
theorem Xp5:Tryz.prog.underlying 5=some (.int .u8):=by kernel_rfl
theorem Q2ej:Tryz.prog.cellsOf 5=1:=by kernel_rfl
theorem Xp4:Tryz.prog.globalNamed "strconv.ErrSyntax"=some 5:=by kernel_rfl
theorem Xp8:Tryz.prog.globalNamed "strconv.ErrRange"=some 6:=by kernel_rfl
theorem Xop:(Tryz.prog.globals[5]?).map (·.type)=some 178:=by kernel_rfl
theorem Xp3:(Tryz.prog.globals[6]?).map (·.type)=some 178:=by kernel_rfl
theorem star:"*" ++ "errors.errorString"="*errors.errorString":=by decide
theorem u_tn2 {P:Program} {nm:String} (hs:P.types.toList.all (fun j=>match j.desc with | .bool | .int _ | .float _ | .string=>j.str != nm && j.str != "*" ++ nm | .named m _=>m != "*" ++ nm | _=>true)=true) (hstar:nm.toList.head? ≠ some '*') (e:TypeId) (h:P.typeName? 2 e=some nm):∃ j t,P.info? e=some j ∧ j.desc=.named nm t ∧ e<P.types.size:=by
 unfold Program.typeName? at h
 cases hj:P.info? e with
 | none=>simp [hj] at h
 | some j=>
  simp only [hj] at h
  by_cases he:e<P.types.size
  · have hi:P.info? e=P.types[e]?:=by unfold Tables.info?; rw [if_pos he]
    rw [hi] at hj
    have hs:=List.all_eq_true.1 hs j (Array.mem_toList_iff.mpr (Array.mem_of_getElem? hj))
    cases hd:j.desc <;> simp only [hd] at h hs <;> try cases h
    case pointer e2=>
     simp only [Option.map_eq_some_iff] at h
     obtain ⟨n2,_,h2⟩:=h
     exact absurd (by rw [← h2]; simp [String.toList_append]) hstar
    case named n t=>
     split at h
     · cases h; exact ⟨j,t,rfl,hd,he⟩
     · cases h
    all_goals
     split at h
     · cases h
     · cases h; simp at hs
  · exfalso
    have hb:=Tables.info?_beyond he hj
    cases hd:j.desc <;> simp only [hd,TypeDesc.tableOnly] at h hb <;> try cases hb
    all_goals try cases h
    simp only [Option.map_eq_some_iff] at h
    obtain ⟨n2,_,h2⟩:=h
    exact hstar (by rw [← h2]; simp [String.toList_append])
theorem u_row {P:Program} {nm:String} {tp E N:Nat} (hN:P.types.size=N) (hs:P.types.toList.all (fun j=>match j.desc with | .bool | .int _ | .float _ | .string=>j.str != nm && j.str != "*" ++ nm | .named m _=>m != "*" ++ nm | _=>true)=true) (hstar:nm.toList.head? ≠ some '*')
  (hr:(List.range N).all (fun t=>match P.types.toList[t]? with | some j=>(match j.desc with | .named m _=>m != nm || t == E | .pointer e=>e != E || t == tp | _=>true) | none=>true)=true) (u:TypeId) (hlt:u<P.types.size) (h:P.typeName? 3 u=some ("*" ++ nm)):u=tp:=by
 have look:∀ t,t<P.types.size→P.info? t=P.types.toList[t]?:=fun t ht=>by unfold Tables.info?; rw [if_pos ht,Array.getElem?_toList]
 unfold Program.typeName? at h
 cases hj:P.info? u with
 | none=>simp [hj] at h
 | some j=>
  simp only [hj] at h
  rw [look u hlt] at hj
  have hs2:=List.all_eq_true.1 hs j (List.mem_of_getElem? hj)
  have hu:=List.all_eq_true.1 hr u (List.mem_range.2 (hN ▸ hlt))
  simp only [hj] at hu
  cases hd:j.desc <;> simp only [hd] at h hs2 hu <;> try cases h
  case pointer e=>
   simp only [Option.map_eq_some_iff] at h
   obtain ⟨n2,h1,h2⟩:=h
   obtain rfl:=star_append_inj h2
   obtain ⟨j2,t2,a1,a2,a3⟩:=u_tn2 hs hstar e h1
   rw [look e a3] at a1
   have he:=List.all_eq_true.1 hr e (List.mem_range.2 (hN ▸ a3))
   simp only [a1,a2,bne_self_eq_false,Bool.false_or,beq_iff_eq] at he
   subst he
   simpa using hu
  case named n t=>
   split at h
   · cases h; simp at hs2
   · cases h
  all_goals
   split at h
   · cases h
   · have h':=Option.some.inj h
     simp [h'] at hs2
theorem u_es:Tryz.prog.types.toList.all (fun j=>match j.desc with | .bool | .int _ | .float _ | .string=>j.str != "errors.errorString" && j.str != "*" ++ "errors.errorString" | .named m _=>m != "*" ++ "errors.errorString" | _=>true)=true:=by rw [star]; kernel_rfl
theorem u_er:(List.range 844).all (fun t=>match Tryz.prog.types.toList[t]? with | some j=>(match j.desc with | .named m _=>m != "errors.errorString" || t == 693 | .pointer e=>e != 693 || t == 691 | _=>true) | none=>true)=true:=by kernel_rfl
theorem rowE (u:TypeId) (h:Tryz.prog.typeName? 3 u=some "*errors.errorString"):u=691:=
 typeName_ptr_named (nm:="errors.errorString")
  (List.all_eq_true.2 fun v hv=>by
   cases hq:(Tryz.prog.typeName? 3 v != some ("*" ++ "errors.errorString")) with
   | true=>rfl
   | false=>
    have hq:Tryz.prog.typeName? 3 v=some ("*" ++ "errors.errorString"):=by simpa using hq
    have:=u_row u_sz u_es (by decide) u_er v (List.mem_range.1 hv) hq
    subst this; rfl)
  (List.all_eq_true.2 fun v hv=>by
   cases hq:(Tryz.prog.typeName? 2 v != some "errors.errorString") with
   | true=>rfl
   | false=>
    have hq:Tryz.prog.typeName? 2 v=some "errors.errorString":=by simpa using hq
    obtain ⟨j,t,a1,a2,_⟩:=u_tn2 u_es (by decide) v hq
    simp only [a1,Option.map_some,a2,Bool.false_or]) (by decide) u (by rw [star]; exact h)
theorem c_es:Tryz.prog.cellsOf 693=1:=by kernel_rfl
theorem c_st:Tryz.prog.cellsOf 9=1:=by kernel_rfl
theorem row_laid:Rows.askNamesRow.laid=[("internal/strconv.uint64pow10",Rows.laid_internal_strconv_uint64pow10),("math/bits.deBruijn32tab",Rows.laid_math_bits_deBruijn32tab),("math/bits.deBruijn64tab",Rows.laid_math_bits_deBruijn64tab),("unicode/utf8.first",Rows.laid_unicode_utf8_first),("unicode/utf8.acceptRanges",Rows.laid_unicode_utf8_acceptRanges),("strconv.ErrSyntax",Rows.laid_strconv_ErrSyntax),("strconv.ErrRange",Rows.laid_strconv_ErrRange),("strings.asciiSpace",Rows.laid_strings_asciiSpace),("unicode.White_Space",Rows.laid_unicode_White_Space)]:=rfl
theorem facts {W:World} (hL0:laidMetH Tryz.prog Rows.askNamesRow.laid W) (hsh:W.ShapedOpen Tryz.prog):Go.Ab.Sh.Fq W:=by
 rw [MakeChecks.laidMetH_plain _ _ _ (by kernel_rfl),row_laid] at hL0
 have h_pow:=hL0
 rw [Q2eg] at h_pow
 have h_spc:=hL0.tail.tail.tail.tail.tail.tail.tail
 rw [Q2ei] at h_spc
 obtain ⟨a0,s0,v0,_⟩:=laid_sentinel hL0.tail.tail.tail.tail.tail.tail Xp8 Xp3 Tryz.underlying178 rowE Tryz.underlying691 Tryz.underlying693 rfl rfl Tryz.underlying9 c_es c_st
 obtain ⟨a1,s1,v1,_⟩:=laid_sentinel hL0.tail.tail.tail.tail.tail Xp4 Xop Tryz.underlying178 rowE Tryz.underlying691 Tryz.underlying693 rfl rfl Tryz.underlying9 c_es c_st
 exact { mx:=Tryz.laysM219.s1_3 W hsh,tab:=Lib.tabIs_of_head Xoj Xor Xol Xoi Q2eh c_pow h_pow,spc:=Lib.tabIs_of_head Xof Xp2 Xp1 Xp5 Q2ej c_spc h_spc,err:=⟨⟨_,_,v1⟩,_,_,v0⟩ }
theorem lifted (os:Os) (started:os.Started) (H:Type) (enc:TypeId × Value→H) :
  ReturnsInHanded {} Tryz.checked os 3 .any (fun w args=>(Rows.askNamesSpec.pre enc Tryz.prog Tryz.f3 [] false w args∧laidMetH Tryz.prog Rows.askNamesRow.laid w)∧sizedMet enc Tryz.prog Tryz.f3 (OpenSpec.ofChange Rows.askNamesSpec) false w args)
   (Rows.askNamesSpec.post enc Tryz.prog Tryz.f3 false true false false):=by
 refine returnsInHanded_of_calls (C:=Tryz.checked) own started (by kernel_rfl)
  (ChangeSpec.witness_shaped (enc:=enc) (C:=Tryz.checked) (os:=os) (X:=fun w _=>laidMetH Tryz.prog Rows.askNamesRow.laid w) false (World.laidAll Tryz.prog os Rows.askNamesRow.laid) #[] 8 (World.laidAll_os _ _ _)
   (World.shaped_of_ZipB (by kernel_rfl) (by kernel_rfl)) (by kernel_rfl) (by kernel_rfl) (by kernel_rfl)
   (by rw [MakeChecks.laidMetH_plain _ _ _ (by kernel_rfl)]; exact laidMet_laidAll _ (by kernel_rfl) (by kernel_rfl))) ?_
 intro w tape i _ hsh _ hok hpre hholds
 obtain ⟨_,_,_,fn',hfn',_,_,_,_,hval⟩:=hok
 have e:fn'=Tryz.f3:=Option.some.inj (hfn'.symm.trans Tryz.func3)
 subst e
 obtain ⟨⟨⟨ds,gs,before,hw,hc⟩,hL⟩,hz⟩:=hpre
 have hW':=DataW.Whole.of_heap (w':=w.forCall tape i) (by rfl) hw
 have hF:=facts (laidMetH.of_heap (w':=w.forCall tape i) (by rfl) hL) hsh
 have hW:=hW'
 obtain ⟨p,q,hA0,hV,rfl,_,_⟩:=hW
 have hA:DataW.TrodAll enc Tryz.prog (w.forCall tape i) 0 (fun _=>true) true Tryz.f3.params.toList i.args.toList ds p:=hA0
 rw [Tryz.params3] at hA
 obtain ⟨ha,rfl,rfl⟩:=trodAll_none hA
 obtain ⟨rfl,rfl⟩:=trodVars_none hV
 simp only [List.append_nil] at hW'
 rw [ha] at hW' ⊢
 refine (Go.Ab.Sh.runs hF).mono fun e W' ⟨he,hb⟩=>?_
 subst he
 have hpost:Rows.askNamesSpec.post enc Tryz.prog Tryz.f3 false true false false (w.forCall tape i) #[] (.bool true) W':=
  ⟨_,_,_,[],[],[],hW',trodAll_mk1 (shut_bool Tryz.underlying4 _),trodAll_mk0,rfl,hb.frame _,fun h=>by cases h⟩
 exact ChangeSpec.post_blind hpost
end Go.Proofs.YtaljkjdmllgmdaaGreatDoor
