/-
  Parts: L3, O0, F (brought together by wip/pack.py; W..: words printed by the kit's print.sh; P..: printed by wip/xp.py).
-/
import Derived.Deep.Slices
import Derived.Deep.Strs
import Derived.JoinedOf
import Derived.KernelRfl
import Derived.ProofKit
import Derived.Test.YtjlgbgkpiganbaaRows
import Derived.Test.YtjlgbgkpiganbaaCSL02
import Derived.Test.YtjlgbgkpiganbaaCSL19
import Derived.Test.YtjlgbgkpiganbaaCSL20
import Derived.Test.YtjlgbgkpiganbaaCSL21
set_option linter.unusedVariables false
set_option linter.unusedSimpArgs false
namespace Go.Proofs.Ytjlgbgkpiganbaa.P
open Go.RowKit Go.Proofs.YtjlgbgkpiganbaaW.PrintWords Go.Proofs.YtjlgbgkpiganbaaW.PrintMore
theorem over_left {a b : S68} (sa : Sorted a.f2) (sb : Sorted b.f2) : overS (joinS a b) a = true :=
  (overS_iff (joinS_sorted sa sb) sa).2 (by rw [joinS_comm (joinS_sorted sa sb) sa, ← joinS_assoc sa sa sb, joinS_self sa])
theorem over_right {a b : S68} (sa : Sorted a.f2) (sb : Sorted b.f2) : overS (joinS a b) b = true :=
  (overS_iff (joinS_sorted sa sb) sb).2 (by rw [joinS_assoc sa sb sb, joinS_self sb])
theorem over_both {a b c : S68} (sa : Sorted a.f2) (sb : Sorted b.f2) (sc : Sorted c.f2) (h1 : overS c a = true) (h2 : overS c b = true) : overS c (joinS a b) = true :=
  (overS_iff sc (joinS_sorted sa sb)).2 (by rw [← joinS_assoc sc sa sb, (overS_iff sc sa).1 h1, (overS_iff sc sb).1 h2])
theorem law12 (a b c : S68) (A B C : Option Addr) (ca cb cc : Nat) (w : World) (ha : St w A ca a) (hb : St w B cb b) (hc : St w C cc c) :
    Calls Try.prog 12 #[ag A ca a, ag B cb b, ag C cc c] w fun e w' => e = .returned (.bool true) ∧ Below w.heap.size w w' := by
  obtain ⟨g, hg⟩ := ev_great3 a b c ha.len hb.len hc.len
  cases g with
  | true => exact law12_great a b c A B C ca cb cc w ha hb hc hg
  | false =>
    cases oa : okS a with
    | false => exact law12_a a b c A B C ca cb cc w ha hb hc hg oa
    | true =>
      cases ob : okS b with
      | false => exact law12_b a b c A B C ca cb cc w ha hb hc hg oa ob
      | true =>
        cases oc : okS c with
        | false => exact law12_c a b c A B C ca cb cc w ha hb hc hg oa ob oc
        | true =>
          have sa := okS_sorted oa
          have sb := okS_sorted ob
          have sc := okS_sorted oc
          have ox := joinS_ok oa ob
          have od := joinS_ok oc ob
          have e4 : joinS a (joinS c b) = joinS (joinS a b) c := by rw [joinS_assoc sa sb sc, joinS_comm sc sb]
          have e5 : joinS b a = joinS a b := joinS_comm sb sa
          have e6 := joinS_self (joinS_sorted sa sb)
          cases h1 : overS c a with
          | false => exact law12_main_a a b c A B C ca cb cc w ha hb hc (joinS a b) (joinS (joinS a b) c) (joinS c b) hg oa ob oc ox (okS_len oa) (okS_len ob) (okS_len oc) (okS_len ox) (okS_len od) rfl rfl rfl e4 e5 e6 sa sb (over_left sa sb) (over_right sa sb) _ rfl h1
          | true =>
            cases h2 : overS c b with
            | false => exact law12_main_b a b c A B C ca cb cc w ha hb hc (joinS a b) (joinS (joinS a b) c) (joinS c b) hg oa ob oc ox (okS_len oa) (okS_len ob) (okS_len oc) (okS_len ox) (okS_len od) rfl rfl rfl e4 e5 e6 sa sb (over_left sa sb) (over_right sa sb) _ rfl ⟨h1, h2⟩
            | true => exact law12_main_c a b c A B C ca cb cc w ha hb hc (joinS a b) (joinS (joinS a b) c) (joinS c b) hg oa ob oc ox (okS_len oa) (okS_len ob) (okS_len oc) (okS_len ox) (okS_len od) rfl rfl rfl e4 e5 e6 sa sb (over_left sa sb) (over_right sa sb) _ rfl ⟨h1, h2, over_both sa sb sc h1 h2⟩
end Go.Proofs.Ytjlgbgkpiganbaa.P
set_option linter.unusedVariables false
set_option linter.unusedSimpArgs false
namespace Go.Proofs.Ytjlgbgkpiganbaa.P
open Go.RowKit Go.Deep Go.Proofs.YtjlgbgkpiganbaaW.PrintWords
section
variable {H : Type} {enc : TypeId × Value → H} {w : World} {base : Nat} {sp : Nat → Bool} {held : Bool}
def Opens (enc : TypeId × Value → H) (w : World) (base : Nat) (sp : Nat → Bool) (held : Bool) {α : Type} (d : Kd α) (t : TypeId) : Prop :=
  ∀ fuel cs x, DataW.trod enc Try.prog w base sp held fuel t cs = some x → ∃ v : α, d.K w v cs
theorem opens_int {t : TypeId} {k : IntKind} (ht : Try.prog.underlying t = some (.int k)) : Opens enc w base sp held (Kd.int k) t := by
  intro fuel cs x h
  obtain ⟨n, h1, _, hw⟩ := DataW.trod_int ht h
  exact ⟨n, h1⟩
theorem opens_string {t : TypeId} (ht : Try.prog.underlying t = some .string) : Opens enc w base sp held Kd.string t := by
  intro fuel cs x h
  obtain ⟨s, h1, _⟩ := DataW.trod_string ht h
  exact ⟨s, h1⟩
theorem cells_at {a : Addr} {n : Nat} {cs : List Value} (h : w.cells? base a n = some cs) : cs.length = n ∧ ∀ j u, cs[j]? = some u → w.cell? (a.add j) = some u := by
  obtain ⟨_, h1, h2⟩ := World.cells?_some h
  refine ⟨h1, fun j u hu => ?_⟩
  have hj : j < n := by rw [← h1]; exact (List.getElem?_eq_some_iff.1 hu).1
  have := h2 j hj
  rw [this]; exact hu
theorem opens_row {α : Type} {d : Kd α} {t e : TypeId} (z : α) (ht : Try.prog.underlying t = some (.slice e)) (hc : Try.prog.cellsOf e = d.sz) (hel : Opens enc w base sp held d e) {fuel : Nat} {cs : List Value} {x : DataW H × List MemPlace}
    (h : DataW.trod enc Try.prog w base sp held fuel t cs = some x) : ∃ A cap, ∃ xs : List α, cs = [.slice A xs.length cap] ∧ xs.length ≤ cap ∧ Kd.C d w A xs.length xs := by
  rcases open_slice ht h with ⟨rfl, _⟩ | ⟨a, len, cap, m, n, D, Pl, rfl, hb, hl, hm, hmm, _, hat⟩
  · exact ⟨none, 0, [], rfl, Nat.le_refl _, rfl, Nat.zero_le _, fun h => absurd h (Nat.lt_irrefl 0)⟩
  · have hle : len ≤ m := by rw [hmm]; split <;> omega
    have key : ∀ i, ∃ v : α, i < len → ∃ c, c.length = d.sz ∧ d.K w v c ∧ ∀ j u, c[j]? = some u → w.cell? (a.add (i * d.sz + j)) = some u := by
      intro i
      by_cases hi : i < len
      · obtain ⟨c, h1, h2⟩ := hat i (by omega)
        obtain ⟨v, hv⟩ := hel _ _ _ h2
        obtain ⟨h3, h4⟩ := cells_at h1
        refine ⟨v, fun _ => ⟨c, by rw [h3, hc], hv, fun j u hu => ?_⟩⟩
        have := h4 j u hu
        rwa [hc, Go.Deep.add_add] at this
      · exact ⟨z, fun h => absurd h hi⟩
    let f := fun i => (key i).choose
    have hf : ∀ i, i < len → ∃ c, c.length = d.sz ∧ d.K w (f i) c ∧ ∀ j u, c[j]? = some u → w.cell? (a.add (i * d.sz + j)) = some u := fun i hi => (key i).choose_spec hi
    have hlen : ((List.range len).map f).length = len := by simp
    refine ⟨some a, cap, (List.range len).map f, by rw [hlen], by rw [hlen]; exact hl, rfl, by rw [hlen]; simp only [maxLen] at hm; omega, fun _ => ⟨a, rfl, fun j p hj => ?_⟩⟩
    have hjl : j < len := by have := (List.getElem?_eq_some_iff.1 hj).1; rwa [hlen] at this
    have hp : f j = p := by
      rw [List.getElem?_map, List.getElem?_range hjl] at hj
      exact Option.some.inj hj
    subst hp
    obtain ⟨c, h1, h2, h3⟩ := hf j hjl
    exact ⟨c, h1, h2, h3⟩
theorem cells3 : Try.prog.cellsOf 3 = 1 := by kernel_rfl
theorem cells9 : Try.prog.cellsOf 9 = 1 := by kernel_rfl
theorem cells66 : Try.prog.cellsOf 66 = 1 := by kernel_rfl
theorem cells152 : Try.prog.cellsOf 152 = 3 := by kernel_rfl
theorem cells68 : Try.prog.cellsOf 68 = 3 := by kernel_rfl
set_option maxRecDepth 100000 in
theorem opens152 : Opens enc w base sp held k152 152 := by
  intro fuel cs x h
  obtain ⟨xs, n, _, rfl, hl, hlen, hf⟩ := DataW.trod_struct Try.underlying152 h
  match cs, hl.trans cells152, xs, hlen with
  | [c0, c1, c2], _, [y0, y1, y2], _ =>
    have h0 := hf 0 _ rfl
    have h1 := hf 1 _ rfl
    have h2 := hf 2 _ rfl
    simp [cells3, cells9] at h0 h1 h2
    obtain ⟨v0, e0⟩ := opens_int Try.underlying3 _ _ _ h0
    obtain ⟨v1, e1⟩ := opens_int Try.underlying3 _ _ _ h1
    obtain ⟨v2, e2⟩ := opens_string Try.underlying9 _ _ _ h2
    injection e0 with e0
    injection e1 with e1
    injection e2 with e2
    subst e0 e1 e2
    exact ⟨⟨v0, v1, v2⟩, k152_mk _ _⟩
set_option maxRecDepth 100000 in
theorem open68 {r : Reach} {b0 : Nat} {v : Value} {d : DataW H} {p : List MemPlace} (hv : Value.okWide Try.prog w r b0 68 v) (h : DataW.Trod enc Try.prog w base sp held 68 v d p) :
    ∃ (a0 a1 : Int) (A : Option Addr) (c : Nat) (l : List S152), v = .agg #[.int .i64 a0, .int .i64 a1, .slice A l.length c] ∧ l.length ≤ c ∧ Kd.C k152 w A l.length l := by
  simp only [Value.okWide, Try.underlying68] at hv
  obtain ⟨cs, rfl, hsz, _⟩ := hv
  obtain ⟨cs⟩ := cs
  obtain ⟨fuel, h⟩ := h
  have hcs : (Value.agg ⟨cs⟩).cells.toList = cs := rfl
  rw [hcs] at h
  obtain ⟨xs, n, _, _, hl, hlen, hf⟩ := DataW.trod_struct Try.underlying68 h
  match cs, hl.trans cells68, xs, hlen with
  | [c0, c1, c2], _, [y0, y1, y2], _ =>
    have h0 := hf 0 _ rfl
    have h1 := hf 1 _ rfl
    have h2 := hf 2 _ rfl
    simp [cells3, cells66] at h0 h1 h2
    obtain ⟨v0, e0⟩ := opens_int Try.underlying3 _ _ _ h0
    obtain ⟨v1, e1⟩ := opens_int Try.underlying3 _ _ _ h1
    obtain ⟨A, c, l, e2, hc, hr⟩ := opens_row z152 Try.underlying66 cells152 opens152 h2
    injection e0 with e0
    injection e1 with e1
    injection e2 with e2
    subst e0 e1 e2
    exact ⟨v0, v1, A, c, l, rfl, hc, hr⟩
end
end Go.Proofs.Ytjlgbgkpiganbaa.P
set_option linter.unusedVariables false
set_option linter.unusedSimpArgs false
namespace Go.Proofs.Ytjlgbgkpiganbaa
set_option maxRecDepth 100000
theorem and_i {a b : Bool} (ha : a = true) (hb : b = true) : (a && b) = true := by rw [ha, hb]; rfl
theorem strip (rest : List (List Char)) : stripLifts liftWords ("cut".toList :: rest) = ([], "cut".toList :: rest) := by
  simp [stripLifts, liftWords]
theorem make_of (P : Program) (h : ∃ rest, behindMainWord (wordsSigns P.initOrder.toList) = "cut".toList :: rest) : P.make = some .cut := by
  unfold Program.make
  obtain ⟨rest, hr⟩ := h
  rw [hr]
  simp
theorem may_of (P : Program) (h : ∃ rest, behindMainWord (wordsSigns P.initOrder.toList) = "cut".toList :: rest) (h1 : P.laysLater = false) (h2 : P.bearsReflect = false) (h3 : P.doorFits [] = true) : P.mayEnter = true := by
  unfold Program.mayEnter
  obtain ⟨rest, hr⟩ := h
  rw [hr]
  simp only [strip, h1, h2, h3]
  simp
theorem fin_of (P : Program) (h : ∃ rest, behindMainWord (wordsSigns P.initOrder.toList) = "cut".toList :: rest) : P.liftsFinal = false := by
  unfold Program.liftsFinal Program.headLifts
  obtain ⟨rest, hr⟩ := h
  rw [hr]
  simp only [strip]
  simp
theorem headIs : Try.prog.initOrder = "harness 2949adc7a8d5707585b79ce0a92e1ce10fb259f982ff06c8965c929b5772c980 cut at bellwether/bellwetherlaw12.BlockTears bellwether/bellwetherlaw12.BlockReads bellwether/bellwetherlaw12.BlockWakes bellwether/bellwetherlaw12.BlockAsks bellwether/bellwetherlaw10.WindowForgets bellwether/bellwetherlaw09.RatioOrders bellwether/bellwetherlaw08.DeltaWhole bellwether/bellwetherlaw08.DeltaTwice bellwether/bellwetherlaw08.DeltaApplies bellwether/bellwetherlaw05.StateLattice bellwether/bellwetherlaw22.WatchSilence bellwether/bellwetherlaw22.WatchNews bellwether/bellwetherlaw22.WatchBirth bellwether/bellwetherlaw22.WatchParts bellwether/bellwetherlaw22.WatchHears bellwether/bellwetherlaw14.ChoiceRounds bellwether/bellwetherlaw14.ChoiceThree bellwether/bellwetherlaw14.ChoiceFair bellwether/bellwetherlaw14.ChoiceSorts" := by kernel_rfl
theorem cutE : ∃ rest, behindMainWord (wordsSigns Try.prog.initOrder.toList) = "cut".toList :: rest := by
  have h : (behindMainWord (wordsSigns Try.prog.initOrder.toList)).head? = some "cut".toList := by
    rw [headIs]
    rw [show ("harness 2949adc7a8d5707585b79ce0a92e1ce10fb259f982ff06c8965c929b5772c980 cut at bellwether/bellwetherlaw12.BlockTears bellwether/bellwetherlaw12.BlockReads bellwether/bellwetherlaw12.BlockWakes bellwether/bellwetherlaw12.BlockAsks bellwether/bellwetherlaw10.WindowForgets bellwether/bellwetherlaw09.RatioOrders bellwether/bellwetherlaw08.DeltaWhole bellwether/bellwetherlaw08.DeltaTwice bellwether/bellwetherlaw08.DeltaApplies bellwether/bellwetherlaw05.StateLattice bellwether/bellwetherlaw22.WatchSilence bellwether/bellwetherlaw22.WatchNews bellwether/bellwetherlaw22.WatchBirth bellwether/bellwetherlaw22.WatchParts bellwether/bellwetherlaw22.WatchHears bellwether/bellwetherlaw14.ChoiceRounds bellwether/bellwetherlaw14.ChoiceThree bellwether/bellwetherlaw14.ChoiceFair bellwether/bellwetherlaw14.ChoiceSorts" : String) = String.ofList _ from rfl, String.toList_ofList]
    kernel_rfl
  cases hb : behindMainWord (wordsSigns Try.prog.initOrder.toList) with
  | nil => rw [hb] at h; cases h
  | cons c rest => rw [hb] at h; simp only [List.head?_cons, Option.some.injEq] at h; exact ⟨rest, by rw [h]⟩
theorem makeE : Try.prog.make = some .cut := make_of _ cutE
theorem laysE : Try.prog.laysLater = false := by kernel_rfl
theorem bearE : Try.prog.bearsReflect = false := by kernel_rfl
theorem doorE : Try.prog.doorFits [] = true := by kernel_rfl
theorem mayE : Try.prog.mayEnter = true := may_of _ cutE laysE bearE doorE
theorem finE : Try.prog.liftsFinal = false := fin_of _ cutE
theorem laidOutE : laidOutB Try.prog = true := by kernel_rfl
theorem rowedE : mapsRowed Try.prog = true := by kernel_rfl
theorem stopsE : (Try.prog.stops == []) = true := by kernel_rfl
theorem knobsE : (Try.prog.stopKnobs == []) = true := by kernel_rfl
theorem heardE : Try.prog.stopsHeard = true := by kernel_rfl
theorem keysE : Try.prog.plainKeys = true := by kernel_rfl
theorem joined_of (P : Program) (f : FuncId) (fn : Func) (s : ChangeSpec) (c : OpenClaim)
    (k1 : (c.wf (OpenSpec.ofChange s)) = true)
    (k2 : (laidOutB P) = true)
    (k3 : (mapsRowed P) = true)
    (k4 : (fn.params.all (P.readableRec ·)) = true)
    (k5 : (namedTie P c.named s.vars) = true)
    (k6 : ((c.stops == [])) = true)
    (k7 : ((P.stops == [])) = true)
    (k8 : ((c.knobs == [])) = true)
    (k9 : ((P.stopKnobs == [])) = true)
    (k10 : ((c.inPlace == P.inPlace f)) = true)
    (k11 : ((c.unfollowed == P.unfollowed f)) = true)
    (k12 : ((c.recurses == P.recurses f)) = true)
    (k13 : ((c.named == P.varsNamed f)) = true)
    (k14 : ((c.maps == (fn.params.toList ++ s.plain.varTypes P).any (P.mapsRec ·))) = true)
    (k15 : ((c.ifaces == (fn.params.toList ++ s.plain.varTypes P).any (P.ifacesRec ·))) = true)
    (k16 : ((c.mapsOut == P.mapsAmong fn.resultTypes.toList)) = true)
    (k17 : ((c.loops == (fn.params.toList ++ s.plain.varTypes P).any (P.loopsFrom ·))) = true)
    (k18 : ((c.wideKeys == (fn.params.toList ++ s.plain.varTypes P ++ fn.resultTypes.toList).any (P.wideKeysFrom ·))) = true)
    (k19 : (s.vars.all (P.varReadable ·)) = true)
    (k20 : (fn.resultTypes.all (fun t => P.readableRec t && decide (t < P.types.size))) = true)
    (k21 : ((c.ifacesOut == fn.resultTypes.toList.any (P.ifacesRec ·))) = true)
    (k22 : ((c.loopsOut == fn.resultTypes.toList.any (P.loopsFrom ·))) = true)
    (k23 : ((c.plainKeys == P.plainKeys)) = true)
    (k24 : (c.shortTexts.isNone) = true)
    (k25 : (P.stopsHeard) = true)
    (k26 : (P.mayEnter) = true)
    (k27 : ((c.lifted == P.liftsFinal)) = true)
    (k28 : ((P.make == some c.make)) = true)
    (k29 : ((c.kinds == (if c.domain.isEmpty then [] else fn.params.toList.map fun t => match P.underlying t with | some (.int k) => some k | _ => none))) = true)
    (k30 : ((c.pinned == c.pinnedBy)) = true)
    (k31 : ((c.veiled == (fn.params.toList ++ s.plain.varTypes P ++ fn.resultTypes.toList).any (P.veiledRec ·))) = true)
    (k32 : (c.veiledFits P fn.params.toList (fn.params.toList ++ s.plain.varTypes P ++ fn.resultTypes.toList)) = true) : joinedFacts P f fn s c = true := by
  unfold joinedFacts
  repeat' (with_reducible apply and_i)
  all_goals assumption
theorem closed_of (f : FuncId) (fn : Func) (s : ChangeSpec) (c : OpenClaim)
    (k1 : (c.wf (OpenSpec.ofChange s)) = true)
    (k4 : (fn.params.all (Try.prog.readableRec ·)) = true)
    (k5 : (namedTie Try.prog c.named s.vars) = true)
    (k6 : ((c.stops == [])) = true)
    (k8 : ((c.knobs == [])) = true)
    (k10 : ((c.inPlace == Try.prog.inPlace f)) = true)
    (k11 : ((c.unfollowed == Try.prog.unfollowed f)) = true)
    (k12 : ((c.recurses == Try.prog.recurses f)) = true)
    (k13 : ((c.named == Try.prog.varsNamed f)) = true)
    (k14 : ((c.maps == (fn.params.toList ++ s.plain.varTypes Try.prog).any (Try.prog.mapsRec ·))) = true)
    (k15 : ((c.ifaces == (fn.params.toList ++ s.plain.varTypes Try.prog).any (Try.prog.ifacesRec ·))) = true)
    (k16 : ((c.mapsOut == Try.prog.mapsAmong fn.resultTypes.toList)) = true)
    (k17 : ((c.loops == (fn.params.toList ++ s.plain.varTypes Try.prog).any (Try.prog.loopsFrom ·))) = true)
    (k18 : ((c.wideKeys == (fn.params.toList ++ s.plain.varTypes Try.prog ++ fn.resultTypes.toList).any (Try.prog.wideKeysFrom ·))) = true)
    (k19 : (s.vars.all (Try.prog.varReadable ·)) = true)
    (k20 : (fn.resultTypes.all (fun t => Try.prog.readableRec t && decide (t < Try.prog.types.size))) = true)
    (k21 : ((c.ifacesOut == fn.resultTypes.toList.any (Try.prog.ifacesRec ·))) = true)
    (k22 : ((c.loopsOut == fn.resultTypes.toList.any (Try.prog.loopsFrom ·))) = true)
    (k24 : (c.shortTexts.isNone) = true)
    (k29 : ((c.kinds == (if c.domain.isEmpty then [] else fn.params.toList.map fun t => match Try.prog.underlying t with | some (.int k) => some k | _ => none))) = true)
    (k30 : ((c.pinned == c.pinnedBy)) = true)
    (k31 : ((c.veiled == (fn.params.toList ++ s.plain.varTypes Try.prog ++ fn.resultTypes.toList).any (Try.prog.veiledRec ·))) = true)
    (k32 : (c.veiledFits Try.prog fn.params.toList (fn.params.toList ++ s.plain.varTypes Try.prog ++ fn.resultTypes.toList)) = true)
    (kp : c.plainKeys = true) (kl : c.lifted = false) (km : c.make = .cut) : joinedFacts Try.prog f fn s c = true :=
  joined_of Try.prog f fn s c k1 laidOutE rowedE k4 k5 k6 stopsE k8 knobsE k10 k11 k12 k13 k14 k15 k16 k17 k18 k19 k20 k21 k22 (by rw [kp, keysE]; rfl) k24 heardE mayE (by rw [kl, finE]; rfl) (by rw [km, makeE]; rfl) k29 k30 k31 k32
end Go.Proofs.Ytjlgbgkpiganbaa
