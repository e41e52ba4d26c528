/-
  What the library lays is what the answers want; the call over every start. No conditions.
-/
import Derived.Test.YtfdlocphbipadaaGreatDoorR
import Derived.SevenTiedAt
import Derived.ProofKit
import Derived.WalkKit
namespace Go.Proofs.YtfdlocphbipadaaGreatDoor
open Go.RowKit Go.ChangeShapes Go.WideShapes Go.ChangeAt
set_option maxRecDepth 100000

theorem own:ownKnob Tryz.prog.godebug=none:=by kernel_rfl
theorem row_laid:Rows.differNamesRow.laid=[("math/bits.deBruijn32tab",Rows.laid_math_bits_deBruijn32tab),("math/bits.deBruijn64tab",Rows.laid_math_bits_deBruijn64tab),("internal/strconv.uint64pow10",Rows.laid_internal_strconv_uint64pow10)]:=rfl

theorem facts {W:World} (hL0:laidMetH Tryz.prog Rows.differNamesRow.laid W) (hsh:W.ShapedOpen Tryz.prog):Go.Ab.Sh.Facts W:=by
  rw [MakeChecks.laidMetH_plain _ _ _ (by kernel_rfl),row_laid] at hL0
  exact {  }

theorem lifted (os:Os) (started:os.Started) (H:Type) (enc:TypeId × Value→H) :
    ReturnsInHanded {} Tryz.checked os 3 .any (fun w args=>(Rows.differNamesSpec.pre enc Tryz.prog Tryz.f3 [] false w args∧laidMetH Tryz.prog Rows.differNamesRow.laid w)∧sizedMet enc Tryz.prog Tryz.f3 (OpenSpec.ofChange Rows.differNamesSpec) false w args)
      (Rows.differNamesSpec.post enc Tryz.prog Tryz.f3 false true false false):=by
  refine returnsInHanded_of_calls (C:=Tryz.checked) own started (by kernel_rfl)
    (ChangeSpec.witness_shaped (enc:=enc) (C:=Tryz.checked) (os:=os) (X:=fun w _=>laidMetH Tryz.prog Rows.differNamesRow.laid w) false (World.laidAll Tryz.prog os Rows.differNamesRow.laid) #[] 8 (World.laidAll_os _ _ _)
      (World.shaped_of_ZipB (by kernel_rfl) (by kernel_rfl)) (by kernel_rfl) (by kernel_rfl) (by kernel_rfl)
      (by rw [MakeChecks.laidMetH_plain _ _ _ (by kernel_rfl)]; exact laidMet_laidAll _ (by kernel_rfl) (by kernel_rfl))) ?_
  intro w tape i _ hsh _ hok hpre hholds
  obtain ⟨_,_,_,fn',hfn',_,_,_,_,hval⟩:=hok
  have e:fn'=Tryz.f3:=Option.some.inj (hfn'.symm.trans Tryz.func3)
  subst e
  obtain ⟨⟨⟨ds,gs,before,hw,hc⟩,hL⟩,hz⟩:=hpre
  have hW':=DataW.Whole.of_heap (w':=w.forCall tape i) (by rfl) hw
  have hF:=facts (laidMetH.of_heap (w':=w.forCall tape i) (by rfl) hL) hsh
  have hW:=hW'
  obtain ⟨p,q,hA0,hV,rfl,_,_⟩:=hW
  have hA:DataW.TrodAll enc Tryz.prog (w.forCall tape i) 0 (fun _=>true) true Tryz.f3.params.toList i.args.toList ds p:=hA0
  rw [Tryz.params3] at hA
  obtain ⟨ha,rfl,rfl⟩:=trodAll_none hA
  obtain ⟨rfl,rfl⟩:=trodVars_none hV
  simp only [List.append_nil] at hW'
  rw [ha] at hW' ⊢
  refine (Go.Ab.Sh.runs hF).mono fun e W' ⟨he,hb⟩=>?_
  subst he
  have hpost:Rows.differNamesSpec.post enc Tryz.prog Tryz.f3 false true false false (w.forCall tape i) #[] (.bool true) W':=
    ⟨_,_,_,[],[],[],hW',trodAll_mk1 (shut_bool Tryz.underlying4 _),trodAll_mk0,rfl,hb.frame _,fun h=>by cases h⟩
  exact ChangeSpec.post_blind hpost

end Go.Proofs.YtfdlocphbipadaaGreatDoor
