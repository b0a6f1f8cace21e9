/-
  The closed facts of this seat's rows.
-/
import Derived.Test.YtdbljhjgmfdpjaaRows
import Derived.ProofKit
import Derived.JoinedOf
set_option linter.unusedVariables false
set_option linter.unusedSimpArgs false
namespace Go.Proofs.Ytdbljhjgmfdpjaa
set_option maxRecDepth 100000
theorem and_i {a b : Bool} (ha : a = true) (hb : b = true) : (a && b) = true := by rw [ha, hb]; rfl
theorem strip (rest : List (List Char)) : stripLifts liftWords ("cut".toList :: rest) = ([], "cut".toList :: rest) := by
  simp [stripLifts, liftWords]
theorem make_of (P : Program) (h : ∃ rest, behindMainWord (wordsSigns P.initOrder.toList) = "cut".toList :: rest) : P.make = some .cut := by
  unfold Program.make
  obtain ⟨rest, hr⟩ := h
  rw [hr]
  simp
theorem may_of (P : Program) (h : ∃ rest, behindMainWord (wordsSigns P.initOrder.toList) = "cut".toList :: rest) (h1 : P.laysLater = false) (h2 : P.bearsReflect = false) (h3 : P.doorFits [] = true) : P.mayEnter = true := by
  unfold Program.mayEnter
  obtain ⟨rest, hr⟩ := h
  rw [hr]
  simp only [strip, h1, h2, h3]
  simp
theorem fin_of (P : Program) (h : ∃ rest, behindMainWord (wordsSigns P.initOrder.toList) = "cut".toList :: rest) : P.liftsFinal = false := by
  unfold Program.liftsFinal Program.headLifts
  obtain ⟨rest, hr⟩ := h
  rw [hr]
  simp only [strip]
  simp
theorem headIs : Try.prog.initOrder = "harness 2949adc7a8d5707585b79ce0a92e1ce10fb259f982ff06c8965c929b5772c980 cut at bellwether/bellwetherlaw12.BlockTears bellwether/bellwetherlaw12.BlockReads bellwether/bellwetherlaw12.BlockWakes bellwether/bellwetherlaw12.BlockAsks bellwether/bellwetherlaw10.WindowForgets bellwether/bellwetherlaw09.RatioOrders bellwether/bellwetherlaw08.DeltaWhole bellwether/bellwetherlaw08.DeltaTwice bellwether/bellwetherlaw08.DeltaApplies bellwether/bellwetherlaw05.StateLattice bellwether/bellwetherlaw22.WatchSilence bellwether/bellwetherlaw22.WatchNews bellwether/bellwetherlaw22.WatchBirth bellwether/bellwetherlaw22.WatchParts bellwether/bellwetherlaw22.WatchHears bellwether/bellwetherlaw14.ChoiceRounds bellwether/bellwetherlaw14.ChoiceThree bellwether/bellwetherlaw14.ChoiceFair bellwether/bellwetherlaw14.ChoiceSorts" := by kernel_rfl

theorem cutE : ∃ rest, behindMainWord (wordsSigns Try.prog.initOrder.toList) = "cut".toList :: rest := by
  have h : (behindMainWord (wordsSigns Try.prog.initOrder.toList)).head? = some "cut".toList := by
    rw [headIs]
    rw [show ("harness 2949adc7a8d5707585b79ce0a92e1ce10fb259f982ff06c8965c929b5772c980 cut at bellwether/bellwetherlaw12.BlockTears bellwether/bellwetherlaw12.BlockReads bellwether/bellwetherlaw12.BlockWakes bellwether/bellwetherlaw12.BlockAsks bellwether/bellwetherlaw10.WindowForgets bellwether/bellwetherlaw09.RatioOrders bellwether/bellwetherlaw08.DeltaWhole bellwether/bellwetherlaw08.DeltaTwice bellwether/bellwetherlaw08.DeltaApplies bellwether/bellwetherlaw05.StateLattice bellwether/bellwetherlaw22.WatchSilence bellwether/bellwetherlaw22.WatchNews bellwether/bellwetherlaw22.WatchBirth bellwether/bellwetherlaw22.WatchParts bellwether/bellwetherlaw22.WatchHears bellwether/bellwetherlaw14.ChoiceRounds bellwether/bellwetherlaw14.ChoiceThree bellwether/bellwetherlaw14.ChoiceFair bellwether/bellwetherlaw14.ChoiceSorts" : String) = String.ofList _ from rfl, String.toList_ofList]
    kernel_rfl
  cases hb : behindMainWord (wordsSigns Try.prog.initOrder.toList) with
  | nil => rw [hb] at h; cases h
  | cons c rest => rw [hb] at h; simp only [List.head?_cons, Option.some.injEq] at h; exact ⟨rest, by rw [h]⟩
theorem makeE : Try.prog.make = some .cut := make_of _ cutE
theorem laysE : Try.prog.laysLater = false := by kernel_rfl
theorem bearE : Try.prog.bearsReflect = false := by kernel_rfl
theorem doorE : Try.prog.doorFits [] = true := by kernel_rfl
theorem mayE : Try.prog.mayEnter = true := may_of _ cutE laysE bearE doorE
theorem finE : Try.prog.liftsFinal = false := fin_of _ cutE
theorem laidOutE : laidOutB Try.prog = true := by kernel_rfl
theorem rowedE : mapsRowed Try.prog = true := by kernel_rfl
theorem stopsE : (Try.prog.stops == []) = true := by kernel_rfl
theorem knobsE : (Try.prog.stopKnobs == []) = true := by kernel_rfl
theorem heardE : Try.prog.stopsHeard = true := by kernel_rfl
theorem keysE : Try.prog.plainKeys = true := by kernel_rfl
theorem joined_of (P : Program) (f : FuncId) (fn : Func) (s : ChangeSpec) (c : OpenClaim)
    (k1 : (c.wf (OpenSpec.ofChange s)) = true)
    (k2 : (laidOutB P) = true)
    (k3 : (mapsRowed P) = true)
    (k4 : (fn.params.all (P.readableRec ·)) = true)
    (k5 : (namedTie P c.named s.vars) = true)
    (k6 : ((c.stops == [])) = true)
    (k7 : ((P.stops == [])) = true)
    (k8 : ((c.knobs == [])) = true)
    (k9 : ((P.stopKnobs == [])) = true)
    (k10 : ((c.inPlace == P.inPlace f)) = true)
    (k11 : ((c.unfollowed == P.unfollowed f)) = true)
    (k12 : ((c.recurses == P.recurses f)) = true)
    (k13 : ((c.named == P.varsNamed f)) = true)
    (k14 : ((c.maps == (fn.params.toList ++ s.plain.varTypes P).any (P.mapsRec ·))) = true)
    (k15 : ((c.ifaces == (fn.params.toList ++ s.plain.varTypes P).any (P.ifacesRec ·))) = true)
    (k16 : ((c.mapsOut == P.mapsAmong fn.resultTypes.toList)) = true)
    (k17 : ((c.loops == (fn.params.toList ++ s.plain.varTypes P).any (P.loopsFrom ·))) = true)
    (k18 : ((c.wideKeys == (fn.params.toList ++ s.plain.varTypes P ++ fn.resultTypes.toList).any (P.wideKeysFrom ·))) = true)
    (k19 : (s.vars.all (P.varReadable ·)) = true)
    (k20 : (fn.resultTypes.all (fun t => P.readableRec t && decide (t < P.types.size))) = true)
    (k21 : ((c.ifacesOut == fn.resultTypes.toList.any (P.ifacesRec ·))) = true)
    (k22 : ((c.loopsOut == fn.resultTypes.toList.any (P.loopsFrom ·))) = true)
    (k23 : ((c.plainKeys == P.plainKeys)) = true)
    (k24 : (c.shortTexts.isNone) = true)
    (k25 : (P.stopsHeard) = true)
    (k26 : (P.mayEnter) = true)
    (k27 : ((c.lifted == P.liftsFinal)) = true)
    (k28 : ((P.make == some c.make)) = true)
    (k29 : ((c.kinds == (if c.domain.isEmpty then [] else fn.params.toList.map fun t => match P.underlying t with | some (.int k) => some k | _ => none))) = true)
    (k30 : ((c.pinned == c.pinnedBy)) = true)
    (k31 : ((c.veiled == (fn.params.toList ++ s.plain.varTypes P ++ fn.resultTypes.toList).any (P.veiledRec ·))) = true)
    (k32 : (c.veiledFits P fn.params.toList (fn.params.toList ++ s.plain.varTypes P ++ fn.resultTypes.toList)) = true) : joinedFacts P f fn s c = true := by
  unfold joinedFacts
  repeat' (with_reducible apply and_i)
  all_goals assumption
theorem closed_of (f : FuncId) (fn : Func) (s : ChangeSpec) (c : OpenClaim)
    (k1 : (c.wf (OpenSpec.ofChange s)) = true)
    (k4 : (fn.params.all (Try.prog.readableRec ·)) = true)
    (k5 : (namedTie Try.prog c.named s.vars) = true)
    (k6 : ((c.stops == [])) = true)
    (k8 : ((c.knobs == [])) = true)
    (k10 : ((c.inPlace == Try.prog.inPlace f)) = true)
    (k11 : ((c.unfollowed == Try.prog.unfollowed f)) = true)
    (k12 : ((c.recurses == Try.prog.recurses f)) = true)
    (k13 : ((c.named == Try.prog.varsNamed f)) = true)
    (k14 : ((c.maps == (fn.params.toList ++ s.plain.varTypes Try.prog).any (Try.prog.mapsRec ·))) = true)
    (k15 : ((c.ifaces == (fn.params.toList ++ s.plain.varTypes Try.prog).any (Try.prog.ifacesRec ·))) = true)
    (k16 : ((c.mapsOut == Try.prog.mapsAmong fn.resultTypes.toList)) = true)
    (k17 : ((c.loops == (fn.params.toList ++ s.plain.varTypes Try.prog).any (Try.prog.loopsFrom ·))) = true)
    (k18 : ((c.wideKeys == (fn.params.toList ++ s.plain.varTypes Try.prog ++ fn.resultTypes.toList).any (Try.prog.wideKeysFrom ·))) = true)
    (k19 : (s.vars.all (Try.prog.varReadable ·)) = true)
    (k20 : (fn.resultTypes.all (fun t => Try.prog.readableRec t && decide (t < Try.prog.types.size))) = true)
    (k21 : ((c.ifacesOut == fn.resultTypes.toList.any (Try.prog.ifacesRec ·))) = true)
    (k22 : ((c.loopsOut == fn.resultTypes.toList.any (Try.prog.loopsFrom ·))) = true)
    (k24 : (c.shortTexts.isNone) = true)
    (k29 : ((c.kinds == (if c.domain.isEmpty then [] else fn.params.toList.map fun t => match Try.prog.underlying t with | some (.int k) => some k | _ => none))) = true)
    (k30 : ((c.pinned == c.pinnedBy)) = true)
    (k31 : ((c.veiled == (fn.params.toList ++ s.plain.varTypes Try.prog ++ fn.resultTypes.toList).any (Try.prog.veiledRec ·))) = true)
    (k32 : (c.veiledFits Try.prog fn.params.toList (fn.params.toList ++ s.plain.varTypes Try.prog ++ fn.resultTypes.toList)) = true)
    (kp : c.plainKeys = true) (kl : c.lifted = false) (km : c.make = .cut) : joinedFacts Try.prog f fn s c = true :=
  joined_of Try.prog f fn s c k1 laidOutE rowedE k4 k5 k6 stopsE k8 knobsE k10 k11 k12 k13 k14 k15 k16 k17 k18 k19 k20 k21 k22 (by rw [kp, keysE]; rfl) k24 heardE mayE (by rw [kl, finE]; rfl) (by rw [km, makeE]; rfl) k29 k30 k31 k32 
end Go.Proofs.Ytdbljhjgmfdpjaa
