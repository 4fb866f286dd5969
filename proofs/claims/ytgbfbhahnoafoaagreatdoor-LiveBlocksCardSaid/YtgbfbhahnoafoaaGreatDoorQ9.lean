/- LiveBlocks returns true for every code that can be handed over, and leaves its argument as it was; no condition. -/
import Derived.Test.YtgbfbhahnoafoaaGreatDoorQ8
import Derived.SevenTiedAt
set_option autoImplicit false
set_option maxRecDepth 100000

/- The reference's blocks. -/
namespace Go.Proofs.YtgbfbhahnoafoaaGreatDoor
open Go Go.Abs

variable {Λ : List LoopInfo} {A : Heap} {k : KL}

abbrev blkRA (b : Blk3) : AV := .agg [iA b.1, iA b.2.1, .frz (b.2.2.map iA) true]

theorem followN_len {n : Int} {x : Ins} : 0 < (followN n x).length ↔ 0 < (tgts n x).length := by
  unfold followN cpt srt
  generalize tgts n x = l
  match l with
  | [] => simp
  | [a] => simp
  | [a, b] =>
    by_cases h : b < a
    · by_cases h2 : b = a
      · omega
      · simp [h, h2]
    · by_cases h2 : a = b
      · simp [h2]
      · simp [h, h2]
  | a :: b :: c :: l => simp

theorem s42 (c : Prog) (hf : c.Fine) (out : List Dep) (hsp : Sp c out) (hil : c.ins.length ≤ 1500) (hfl : c.funs.length ≤ 300) : Comes 42 [c.av, depsA out] (.frz ((blocksL c out).map blkRA) (blocksL c out).isEmpty) := fun Λ A k => call_iff fun k hk => by
  rw [k_apart rfl c42 rfl (by simp [F42]) (by simp)]
  have e105 := s105 c hf out hsp hil hfl
  have hol := hsp.len
  simp [F42, e105]
  refine k_for (fun j f H => 0 < H.length ∧ hget H 0 = .cells 5 [c.av] ∧ f 1 = depsA out ∧ f 2 = .ptr 0 0 0 ∧ f 6 = .frz ((leadersL c out).map .bool) true ∧ f 7 = iA j ∧ Gathers H 3 (f 5) (((marked (leadersL c out) j).map (blockAt c (leadersL c out))).map blkRA) ∧ (∀ i o m cl, f 5 = .own i o m cl → cl = false) ∧ (∀ i, (f 5).blockIs i → i ≠ 0)) c.ins.length
    ⟨by simp, by simp, by simp, by simp, by simp, by simp, .inl ⟨by simp, by simp [marked]⟩, fun i o m cl h => by simp at h, fun i hi => by obtain ⟨o, n, cc, hv⟩ := hi; simp at hv⟩ ?_
  rintro j f H hj ⟨hl, hb, f1, f2, f6, f7, hG, hcl, hid⟩
  by_cases hlt : j < c.ins.length
  · have hjs : j < (leadersL c out).length := by rw [leadersL_len]; exact hlt
    have hgs : (leadersL c out).getD j false = (leadersL c out)[j] := by simp [List.getD, hjs]
    cases hq : (leadersL c out)[j] with
    | false =>
      simp [f1, f6, f7, hol, hlt, hq, leadersL_len, wrap_succ (j := j) (by omega)]
      exact ⟨by omega, _, rfl, hl, hb, by simp [f1], by simp [f2], by simp [f6], by simp, by rw [marked_succ, hgs, hq]; simpa using hG, by simpa using hcl, by simpa using hid⟩
    | true =>
      have hRj := leadersL_reached hf hsp j (by rw [hgs, hq])
      have hml := marked_len (leadersL c out) j
      have hlen := leadersL_len (c := c) (out := out)
      simp [f1, f6, f7, hol, hlt, hq, leadersL_len, wrap_succ (j := j) (by omega)]
      generalize hb' : blockAt c (leadersL c out) = ba at *
      generalize leadersL c out = is at *
      refine kWp_mono (k := ⟨fun e R' G => e = .exit 2 ∧ ∃ f', ∃ u : Nat, R' = regs 61 f' ∧ G = H ∧ u < c.ins.length ∧ toF c is c.ins.length (j + 1) = u + 1 ∧ f' 1 = depsA out ∧ f' 2 = .ptr 0 0 0 ∧ f' 5 = f 5 ∧ f' 6 = .frz (is.map .bool) true ∧ f' 7 = iA j ∧ f' 8 = iA (u + 1 : Nat)⟩)
        (k_while (fun m f' G => ∃ u : Nat, m = c.ins.length - u ∧ j ≤ u ∧ u < c.ins.length ∧ isR out u = true ∧ (∃ fu, toF c is fu (u + 1) = toF c is c.ins.length (j + 1) ∧ c.ins.length ≤ fu + u) ∧ G = H ∧ f' 1 = depsA out ∧ f' 2 = .ptr 0 0 0 ∧ f' 5 = f 5 ∧ f' 6 = .frz (is.map .bool) true ∧ f' 7 = iA j ∧ f' 8 = iA (u + 1 : Nat)) (m := c.ins.length - j)
          ⟨j, rfl, by omega, hlt, hRj, ⟨c.ins.length, rfl, by omega⟩, by simp, by simp [f1], by simp [f2], by simp, by simp [f6], by simp [f7], by simp⟩ ?_) (fun e R' G hq => ?_)
      · rintro m f' G ⟨u, rfl, hu1, hu2, hu3, ⟨fu, htf, hfu⟩, rfl, g1, g2, g5, g6, g7, g8⟩
        have hgi : c.ins.getD u ins0 = c.ins[u] := by simp [List.getD, hu2]
        have hi := hf.ins _ (List.getElem_mem hu2)
        have htg := hsp.tgt hf hu3
        rw [hgi] at htg
        have e95 := fun {Λ : List LoopInfo} {A : Heap} {k : KL} => s95 c u hu2 hi hil Λ A k
        have hfl := followN_len (n := u) (x := c.ins[u])
        have hwr : IntKind.i64.wrap (u : Int) = u := by rw [wrap_i64] <;> omega
        have hwr2 := wrap_i64 (n := (u : Int) + 1 + 1) (by omega) (by omega)
        obtain ⟨o, a, b, hx⟩ : ∃ o a b, c.ins[u] = (⟨o, a, b⟩ : Ins) := ⟨_, _, _, rfl⟩
        have e106 := fun {Λ : List LoopInfo} {A : Heap} {k : KL} => s106 (Λ := Λ) (A := A) (k := k) o a b
        rw [hx] at hgi htg hfl hi e95
        have hstop : ¬ (goOn ⟨o, a, b⟩ = true ∧ is.getD (u + 1) false = false) → toF c is c.ins.length (j + 1) = u + 1 := fun hgo => by
          rw [← htf]
          exact toF_stop (by rw [show u + 1 - 1 = u from rfl, hgi]; exact hgo)
        have hneg : ∀ t, (o = 11 ∨ o = 12 → t = a) → (o = 19 → t = b) → (o = 11 ∨ o = 12 ∨ o = 19) → ¬ t < 0 := fun t h1 h2 h3 => by
          rcases h3 with h | h | h
          · subst h; rw [h1 (.inl rfl)]; have := (htg a (by simp [tgts, nextP])).1; omega
          · subst h; rw [h1 (.inr rfl)]; have := (htg a (by simp [tgts, nextP])).1; omega
          · subst h; rw [h2 rfl]; have := (htg b (by simp [tgts, nextP])).1; omega
        by_cases h11 : o = 11
        · subst h11
          have hn := hneg a (fun _ => rfl) (fun h => by cases h) (.inl rfl)
          simp [g2, g8, hb, hu2, hx, hwr, hn]
          exact ⟨_, rfl, u, hu2, hstop (by simp [goOn]), by simp [g1], by simp [g2], by simp [g5], by simp [g6], by simp [g7], by simp [g8]⟩
        by_cases h12 : o = 12
        · subst h12
          have hn := hneg a (fun _ => rfl) (fun h => by cases h) (.inr (.inl rfl))
          simp [g2, g8, hb, hu2, hx, hwr, hn]
          exact ⟨_, rfl, u, hu2, hstop (by simp [goOn]), by simp [g1], by simp [g2], by simp [g5], by simp [g6], by simp [g7], by simp [g8]⟩
        by_cases h19 : o = 19
        · subst h19
          have hn := hneg b (fun h => by rcases h with h | h <;> cases h) (fun _ => rfl) (.inr (.inr rfl))
          simp [g2, g8, hb, hu2, hx, hwr, hn]
          exact ⟨_, rfl, u, hu2, hstop (by simp [goOn]), by simp [g1], by simp [g2], by simp [g5], by simp [g6], by simp [g7], by simp [g8]⟩
        by_cases hen : o = 8 ∨ o = 20 ∨ o = 34
        · have h0 : followN u ⟨o, a, b⟩ = [] := by simp [followN, tgts, nextP, hen, srt, cpt]
          simp [g2, g8, hb, hu2, hx, hwr, h11, h12, h19, e95, h0]
          exact ⟨_, rfl, u, hu2, hstop (by simp only [goOn, decide_eq_true_eq]; omega), by simp [g1], by simp [g2], by simp [g5], by simp [g6], by simp [g7], by simp [g8]⟩
        have hg1 : goOn ⟨o, a, b⟩ = true := by simp only [goOn, decide_eq_true_eq]; omega
        have htt := goOn_tgts (n := u) hg1
        rw [htt] at hfl htg
        have hfp : 0 < (followN u ⟨o, a, b⟩).length := hfl.2 (by simp)
        obtain ⟨hz1, hz2, hz3⟩ := htg (u + 1) (by simp)
        have hz4 : u + 1 < is.length := by omega
        have hz5 : (u : Int) + 1 < is.length := by omega
        have hz0 : (0 : Int) ≤ (u : Int) + 1 := by omega
        cases hg3 : is[u + 1] with
        | true =>
          simp [g2, g6, g8, hb, hu2, hx, hwr, h11, h12, h19, e95, hfp, hz0, hz4, hz5, hg3]
          exact ⟨_, rfl, u, hu2, hstop (fun h => by have := h.2; simp [List.getD, hz4, hg3] at this), by simp [g1], by simp [g2], by simp [g5], by simp [g6], by simp [g7], by simp [g8]⟩
        | false =>
          simp [g2, g6, g8, hb, hu2, hx, hwr, h11, h12, h19, e95, hfp, hz0, hz4, hz5, hg3, hwr2]
          obtain ⟨fv, rfl⟩ : ∃ fv, fu = fv + 1 := ⟨fu - 1, by omega⟩
          refine ⟨c.ins.length - (u + 1), by omega, _, rfl, u + 1, rfl, by omega, by omega, by simpa using hz3, ⟨fv, ?_, by omega⟩, by simp [g1], by simp [g2], by simp [g5], by simp [g6], by simp [g7], by simp⟩
          rw [← htf]
          exact (toF_go (by rw [show u + 1 - 1 = u from rfl, hgi]; exact hg1) (by simp [List.getD, hz4, hg3])).symm
      · obtain ⟨rfl, f', u, rfl, rfl, hu2, htf, g1, g2, g5, g6, g7, g8⟩ := hq
        have hgi : c.ins.getD u ins0 = c.ins[u] := by simp [List.getD, hu2]
        have hi := hf.ins _ (List.getElem_mem hu2)
        have e95 := fun {Λ : List LoopInfo} {A : Heap} {k : KL} => s95 c u hu2 hi hil Λ A k
        have hwr : IntKind.i64.wrap (u : Int) = u := by rw [wrap_i64] <;> omega
        have hba : ba j = ((j : Int), ((u : Int) + 1), followN u c.ins[u]) := by
          rw [← hb']
          unfold blockAt
          rw [htf, show u + 1 - 1 = u from rfl, hgi]
          simp
        have hGA := hG.append (l := [Blk.cells 3 [.agg [.int .i64 j, .int .i64 ((u : Int) + 1), .frz ((followN u c.ins[u]).map iA) true]]])
        obtain ⟨o, ho', hG2, hl2, hk2, hv2⟩ := gather_append (bytes := 40) (y := .own G.length 0 1 true) (new := [.agg [.int .i64 j, .int .i64 ((u : Int) + 1), .frz ((followN u c.ins[u]).map iA) true]]) hGA (by simp) (fun s h => by cases h) (by simp)
          (fun e he => by
            rcases List.mem_append.1 he with he | he
            · simp only [List.mem_map] at he; obtain ⟨x, _, rfl⟩ := he; rfl
            · simp only [List.mem_singleton] at he; subst he; rfl) (by simp [maxBytes]; omega) (by simp; omega)
        simp at ho' hl2
        simp [g2, g5, g7, g8, hb, hwr, e95, ho', wrap_succ (j := j) (by omega)]
        simp at hk2 hv2
        refine ⟨by omega, _, rfl, by omega, ?_, by simp [g1], by simp [g2], by simp [g6], by simp, ?_, ?_, ?_⟩
        · rw [hk2 0 (by omega) (fun h => hid 0 h rfl), hget_app_lt hl]; exact hb
        · rw [marked_succ, hgs, hq]
          simp only [if_true, List.map_append, List.map_cons, List.map_nil, hba]
          simpa using hG2
        · intro i o m cl h
          simp at h
          rw [hv2] at h
          cases h; rfl
        · intro i hi
          simp at hi
          rw [hv2] at hi
          obtain ⟨o, n, cc, hv⟩ := hi
          cases hv
          omega
  · obtain rfl : j = c.ins.length := by omega
    have hfz := frozen_own' (b := 53) hG hcl (fun k => fz_map (fun x => rfl) _)
    simp [f1, f7, hol, F42, hfz]
    simpa [blocksL] using hk

end Go.Proofs.YtgbfbhahnoafoaaGreatDoor

/- LiveBlocks. -/
namespace Go.Proofs.YtgbfbhahnoafoaaGreatDoor
open Go Go.Abs

variable {Λ : List LoopInfo} {A : Heap} {k : KL}

abbrev prA (p : Int × Int) : AV := .agg [iA p.1, iA p.2]

theorem s39 (xs : List (Int × Int)) (c1 c2 : Bool) (hx : xs.length ≤ maxI) : Comes 39 [.frz (xs.map prA) c1, .frz (xs.map prA) c2] (.bool true) := fun Λ A k => call_iff fun k hk => by
  unfold maxI at hx
  rw [k_apart rfl c39 rfl (by simp [F39]) (by simp)]
  simp [F39]
  refine k_for (fun j f H => H = [] ∧ f 0 = .frz (xs.map prA) c1 ∧ f 1 = .frz (xs.map prA) c2 ∧ f 5 = iA j) xs.length ⟨rfl, by simp, by simp, by simp⟩ ?_
  rintro j f H hj ⟨rfl, f0, f1, f5⟩
  by_cases hlt : j < xs.length
  · simp [f0, f1, f5, hlt, wrap_succ (j := j) (by omega)]
    exact ⟨by omega, _, rfl, rfl, by simp [f0], by simp [f1], by simp⟩
  · simp [f0, f5, hlt, F39]
    exact hk

theorem s41 (xs : List Blk3) (c1 c2 : Bool) (hx : xs.length ≤ maxI) (hl : ∀ b ∈ xs, b.2.2.length ≤ maxI) : Comes 41 [.frz (xs.map blk3A) c1, .frz (xs.map blkRA) c2] (.bool true) := fun Λ A k => call_iff fun k hk => by
  unfold maxI at hx
  rw [k_apart rfl c41 rfl (by simp [F41]) (by simp)]
  simp [F41]
  refine k_for (fun j f H => H = [] ∧ f 0 = .frz (xs.map blk3A) c1 ∧ f 1 = .frz (xs.map blkRA) c2 ∧ f 5 = iA j) xs.length ⟨rfl, by simp, by simp, by simp⟩ ?_
  rintro j f H hj ⟨rfl, f0, f1, f5⟩
  by_cases hlt : j < xs.length
  · have h82 := hl _ (List.getElem_mem hlt)
    simp [f0, f1, f5, hlt, h82, wrap_succ (j := j) (by omega)]
    exact ⟨by omega, _, rfl, rfl, by simp [f0], by simp [f1], by simp⟩
  · simp [f0, f5, hlt, F41]
    exact hk

theorem s12 : Comes 12 [] (.bool true) := fun Λ A k => call_iff fun k hk =>
  WpC.mono (works_ok Λ A) fun r B hr => by obtain ⟨rfl, rfl⟩ := hr; exact hk

theorem small_cons {c : Prog} (h : smallC c = true) : c.cons.length ≤ 1000000 := by
  unfold smallC at h
  simp only [Bool.and_eq_true, decide_eq_true_eq] at h
  omega

theorem followN_le {n : Int} {x : Ins} : (followN n x).length ≤ 2 := by
  have := tgts_len (n := n) (x := x)
  unfold followN cpt
  have h := srt_len this
  generalize srt (tgts n x) = l at h
  split
  · split <;> simp
  · exact h

theorem blocksL_len {c : Prog} {out : List Dep} : (blocksL c out).length ≤ c.ins.length := by
  unfold blocksL; rw [List.length_map]; exact marked_len _ _

/-- THE LAW: whatever the code. -/
theorem s7 (c : Prog) (hc : c.Ok) : Comes 7 [c.av] (.bool true) := fun Λ A k => call_iff fun k hk => by
  rw [k_apart rfl c7 rfl (by simp [F7]) (by simp)]
  have e11 := s11 c hc
  cases hlg : largeC c with
  | true =>
    rw [hlg] at e11
    simp [F7, e11, s12]
    exact hk
  | false =>
  rw [hlg] at e11
  have hsm : smallC c = true := by
    unfold largeC at hlg
    simp only [Bool.or_eq_false_iff, Bool.not_eq_false'] at hlg
    exact hlg.1
  have e37 := s37 c hc
  have e38 := s38 c hc
  have e15 := s15 c hc (small_cons hsm)
  unfold startsPA at e37
  unfold blocksPA at e38
  unfold depthsPA at e15
  cases hok : codeOk c with
  | false =>
    rw [hok] at e37 e38 e15
    simp at e37 e38 e15
    simp [F7, e11, e37, e38, e15, s12]
    exact hk
  | true =>
  rw [hok] at e37 e38 e15
  simp only [if_true] at e37 e38 e15
  cases hd : depthsP c with
  | none =>
    rw [hd] at e37 e38 e15
    simp at e37 e38 e15
    simp [F7, e11, e37, e38, e15, s12]
    exact hk
  | some out =>
  rw [hd] at e37 e38 e15
  simp at e37 e38 e15
  obtain ⟨hf, hfun, hfl, hil⟩ := codeOk_fine hc hok
  have hsp := depthsP_sp hc hok hd
  have e40 := s40 c hf out hsp hil hfl
  have e42 := s42 c hf out hsp hil hfl
  have hst : (marked (startsL c out) c.ins.length).map (startA out) = ((marked (startsL c out) c.ins.length).map fun n : Nat => ((n : Int), (out.getD n dep0).2.2)).map prA := by rw [List.map_map]; rfl
  have e39 := s39 ((marked (startsL c out) c.ins.length).map fun n : Nat => ((n : Int), (out.getD n dep0).2.2)) (marked (startsL c out) c.ins.length).isEmpty (marked (startsL c out) c.ins.length).isEmpty (by rw [List.length_map]; have := marked_len (startsL c out) c.ins.length; unfold maxI; omega)
  rw [← hst] at e39
  have e41 := s41 (blocksL c out) (blocksL c out).isEmpty (blocksL c out).isEmpty (by have := blocksL_len (c := c) (out := out); unfold maxI; omega) (fun b hb => by
    unfold blocksL at hb
    obtain ⟨n, _, rfl⟩ := List.mem_map.1 hb
    have := followN_le (n := ((toF c (leadersL c out) c.ins.length (n + 1) : Int) - 1)) (x := c.ins.getD (toF c (leadersL c out) c.ins.length (n + 1) - 1) ins0)
    unfold blockAt maxI
    simp only
    omega)
  unfold startsLA at e37 e40
  generalize (marked (startsL c out) c.ins.length).isEmpty = q1 at *
  generalize (marked (startsL c out) c.ins.length).map (startA out) = L1 at *
  generalize (blocksL c out).isEmpty = q2 at *
  generalize (blocksL c out).map blk3A = L2 at *
  generalize (blocksL c out).map blkRA = L3 at *
  simp [F7, e11, e37, e38, e15, e40, e42, e39, e41, s12]
  exact hk

end Go.Proofs.YtgbfbhahnoafoaaGreatDoor

/- The given statements of this seat, each out of the evaluator's answer. -/
namespace Go.Proofs.YtgbfbhahnoafoaaGreatDoor
open Go Go.Abs Go.ChangeShapes Go.WideShapes Go.ChangeAt Go.RowKit

theorem lifted7 (law : ∀ ys : List AV, ys.length = 1 → (∀ (i : Nat) t x, Tryz.f7.params[i]? = some t → ys[i]? = some x → ArgOk Tryz.prog t x) → ∃ n A', callOf EL (ev EL n) [] (.func (.func 7) [] []) ys [] = some (.ret (.bool true), A'))
    (os : Os) (started : os.Started) (H : Type) (enc : TypeId × Value → H) :
    ReturnsInHanded {} Tryz.checked os 7 .any (fun w args => (Rows.liveBlocksSpec.pre enc Tryz.prog Tryz.f7 [] false w args ∧ laidMetH Tryz.prog laidL w) ∧ sizedMet enc Tryz.prog Tryz.f7 (OpenSpec.ofChange Rows.liveBlocksSpec) false w args)
      (Rows.liveBlocksSpec.post enc Tryz.prog Tryz.f7 false true false false) := by
  refine returnsInHanded_of_change_and (C := Tryz.checked) (X := fun w _ => laidMetH Tryz.prog laidL w) (fun _ _ _ hh h => h.of_heap hh) own started (by kernel_rfl) Tryz.func7
    (ChangeSpec.witness_shaped (enc := enc) (C := Tryz.checked) (os := os) (X := fun w _ => laidMetH Tryz.prog laidL w) false (World.doorLaid Tryz.prog 4000 os) #[.agg #[.slice none 0 0, .slice none 0 0, .slice none 0 0, .int .i64 0, .slice none 0 0]] 8 rfl (World.shaped_of_RefB (by kernel_rfl) (by kernel_rfl)) (by kernel_rfl) (by kernel_rfl) (by kernel_rfl) (door_met os _)) ?_
  intro W base args ds gs before hval hW _ _ hL _
  exact contract Tryz.func7 (by rw [Tryz.params7]; decide) (by kernel_rfl) rfl (fun H ds hl => by
    match ds, hl with
    | [d], _ => rfl) law hval hW hL

theorem row7 (law : ∀ ys : List AV, ys.length = 1 → (∀ (i : Nat) t x, Tryz.f7.params[i]? = some t → ys[i]? = some x → ArgOk Tryz.prog t x) → ∃ n A', callOf EL (ev EL n) [] (.func (.func 7) [] []) ys [] = some (.ret (.bool true), A')) : Rows.LiveBlocksSaid :=
  OpenClaim.holds_of_wide 7 Tryz.f7 rfl rfl rfl rfl rfl rfl rfl ⟨rfl, rfl, rfl, rfl, rfl⟩ rfl rfl rfl rfl rfl (by kernel_rfl) Tryz.func7 (by kernel_rfl)
    (of_decide_eq_true (by kernel_rfl)) (by unfold Func.isWrapper; first | (rw [if_pos (by decide +kernel)]; kernel_rfl) | (rw [if_neg (by decide +kernel)]; exact ⟨rfl, rfl⟩))
    (fun os started H enc _ => lifted7 law os started H enc)

theorem card7 (law : ∀ ys : List AV, ys.length = 1 → (∀ (i : Nat) t x, Tryz.f7.params[i]? = some t → ys[i]? = some x → ArgOk Tryz.prog t x) → ∃ n A', callOf EL (ev EL n) [] (.func (.func 7) [] []) ys [] = some (.ret (.bool true), A')) : Rows.LiveBlocksCardSaid :=
  Claim7.holds_tied_plain_at .later [] [.data] true (true, "8deb698748b883f86c9a6f4f450b38cba300de8fd33dc198a5133c1916ddcee4") true
    (row7 law) (fun _ h => by cases h) (by kernel_rfl) (fun _ h => by cases h) liveBlocks_row_tie rfl ⟨rfl, rfl⟩ (by kernel_rfl) rfl
    (fun f fn hf hfn => by
      obtain rfl : f = 7 := Option.some.inj ((show Tryz.prog.funcNamed "hearth/hearthlaw12.LiveBlocks" = some 7 by kernel_rfl).symm.trans hf) |>.symm
      obtain rfl : fn = Tryz.f7 := (Option.some.inj (Tryz.func7.symm.trans hfn)).symm
      exact ⟨by kernel_rfl, fun j t ht => by
        rw [Tryz.params7] at ht
        have hm : t ∈ [27] := by simpa using Array.mem_of_getElem? ht
        have hall : ([27].all fun u => !Tryz.prog.wantsStandIn u) = true := by kernel_rfl
        exact (show Tryz.prog.wantsStandIn t = false by simpa using List.all_eq_true.1 hall t hm)⟩)
    (by kernel_rfl)

end Go.Proofs.YtgbfbhahnoafoaaGreatDoor

/- LiveBlocks: every code that can be handed over is one of ours. The claim. -/
namespace Go.Proofs.YtgbfbhahnoafoaaGreatDoor
open Go Go.Abs

/-- The types of a struct's fields. -/
noncomputable def structTs (t : TypeId) : Option (List TypeId) := match Tryz.prog.underlying t with | some (.struct fs) => some (fs.toList.map (·.type)) | _ => none

theorem ts27 : structTs 27 = some [22, 23, 24, 3, 25] := by kernel_rfl
theorem ts157 : structTs 157 = some [155, 3, 3] := by kernel_rfl
theorem ts188 : structTs 188 = some [186, 3, 9, 23] := by kernel_rfl
theorem ts190 : structTs 190 = some [9, 3] := by kernel_rfl
theorem u22 : Tryz.prog.underlying 22 = some (.slice 157) := by kernel_rfl
theorem u23 : Tryz.prog.underlying 23 = some (.slice 188) := by kernel_rfl
theorem u24 : Tryz.prog.underlying 24 = some (.slice 3) := by kernel_rfl
theorem u25 : Tryz.prog.underlying 25 = some (.slice 190) := by kernel_rfl
theorem u3 : Tryz.prog.underlying 3 = some (.int .i64) := by kernel_rfl
theorem u155 : Tryz.prog.underlying 155 = some (.int .i64) := by kernel_rfl
theorem u186 : Tryz.prog.underlying 186 = some (.int .i64) := by kernel_rfl
theorem u9 : Tryz.prog.underlying 9 = some .string := by kernel_rfl
theorem g27 : aggB Tryz.prog 27 = true := by kernel_rfl
theorem g157 : aggB Tryz.prog 157 = true := by kernel_rfl
theorem g188 : aggB Tryz.prog 188 = true := by kernel_rfl
theorem g190 : aggB Tryz.prog 190 = true := by kernel_rfl
theorem g3 : aggB Tryz.prog 3 = false := by kernel_rfl

def FieldsT (p : TypeId → List AV → Prop) : List TypeId → List (List AV) → Prop
  | [], [] => True
  | t :: ts, a :: l => p t a ∧ FieldsT p ts l
  | _, _ => False

theorem fieldsT {p : TypeId → List AV → Prop} : ∀ (fs : List Field) (ps : List (List AV)), Fields p fs ps → FieldsT p (fs.map (·.type)) ps
  | [], [], _ => trivial
  | _f :: fs, _a :: ps, h => ⟨h.1, fieldsT fs ps h.2⟩
  | [], _ :: _, h => h.elim
  | _ :: _, [], h => h.elim

abbrev Sh (k : Nat) (t : TypeId) (cs : List AV) : Prop := Shape Tryz.prog k t cs

theorem sh_struct {k : Nat} {t : TypeId} {ts : List TypeId} {cs : List AV} (h : Sh k t cs) (hs : structTs t = some ts) : ∃ j parts, k = j + 1 ∧ cs = parts.flatten ∧ FieldsT (Shape Tryz.prog j) ts parts := by
  cases k with
  | zero => exact h.elim
  | succ j =>
    unfold structTs at hs
    unfold Sh Shape at h
    split at hs <;> (try (cases hs; done))
    rename_i fs hu
    rw [hu] at h
    obtain ⟨parts, h1, h2⟩ := h
    cases hs
    exact ⟨j, parts, rfl, h1, fieldsT _ _ h2⟩

theorem sh_int {k : Nat} {t : TypeId} {cs : List AV} (h : Sh k t cs) (hu : Tryz.prog.underlying t = some (.int .i64)) : ∃ n : Int, cs = [iA n] ∧ -9223372036854775808 ≤ n ∧ n ≤ 9223372036854775807 := by
  cases k with
  | zero => exact h.elim
  | succ j =>
    unfold Sh Shape at h
    rw [hu] at h
    obtain ⟨n, h1, h2, h3⟩ := h
    exact ⟨n, h1, h2, h3⟩

theorem sh_str {k : Nat} {t : TypeId} {cs : List AV} (h : Sh k t cs) (hu : Tryz.prog.underlying t = some .string) : ∃ s : ByteArray, cs = [.str s] ∧ s.size ≤ maxI := by
  cases k with
  | zero => exact h.elim
  | succ j =>
    unfold Sh Shape at h
    rw [hu] at h
    obtain ⟨n, h1, h2⟩ := h
    exact ⟨n, h1, h2⟩

theorem sh_slice {k : Nat} {t e : TypeId} {cs : List AV} (h : Sh k t cs) (hu : Tryz.prog.underlying t = some (.slice e)) : ∃ j es clip, k = j + 1 ∧ cs = [.frz es clip] ∧ es.length ≤ maxI ∧ ∀ x ∈ es, ∃ ds, Sh j e ds ∧ x = packA (aggB Tryz.prog e) ds := by
  cases k with
  | zero => exact h.elim
  | succ j =>
    unfold Sh Shape at h
    rw [hu] at h
    obtain ⟨es, clip, h1, h2, h3⟩ := h
    exact ⟨j, es, clip, rfl, h1, h2, fun x hx => by obtain ⟨ds, d1, _, d2⟩ := h3 x hx; exact ⟨ds, d1, d2⟩⟩

theorem list_read {X : Type} {g : X → AV} {Q : X → Prop} : ∀ es : List AV, (∀ x ∈ es, ∃ y, x = g y ∧ Q y) → ∃ l : List X, es = l.map g ∧ ∀ y ∈ l, Q y
  | [], _ => ⟨[], rfl, fun y hy => by cases hy⟩
  | x :: es, h => by
    obtain ⟨y, rfl, hy⟩ := h x (by simp)
    obtain ⟨l, rfl, hl⟩ := list_read es (fun x hx => h x (by simp [hx]))
    exact ⟨y :: l, rfl, fun z hz => by rcases List.mem_cons.1 hz with h | h
                                       · rw [h]; exact hy
                                       · exact hl z h⟩

theorem read_ins {k : Nat} {cs : List AV} (h : Sh k 157 cs) : ∃ x : Ins, AV.agg cs = x.av := by
  obtain ⟨j, parts, rfl, rfl, hp⟩ := sh_struct h ts157
  match parts, hp with
  | [a, b, d], hp =>
    obtain ⟨n1, rfl, _⟩ := sh_int hp.1 u155
    obtain ⟨n2, rfl, _⟩ := sh_int hp.2.1 u3
    obtain ⟨n3, rfl, _⟩ := sh_int hp.2.2.1 u3
    exact ⟨⟨n1, n2, n3⟩, rfl⟩

theorem read_con {k : Nat} {cs : List AV} (h : Sh k 190 cs) : ∃ x : Con, AV.agg cs = x.av ∧ x.name.size ≤ maxI := by
  obtain ⟨j, parts, rfl, rfl, hp⟩ := sh_struct h ts190
  match parts, hp with
  | [a, b], hp =>
    obtain ⟨s, rfl, hs⟩ := sh_str hp.1 u9
    obtain ⟨n2, rfl, _⟩ := sh_int hp.2.1 u3
    exact ⟨⟨s, n2⟩, rfl, hs⟩

theorem read_pat : ∀ (k : Nat) (cs : List AV), Sh k 188 cs → ∃ p : Pat, AV.agg cs = p.av ∧ p.Ok := by
  intro k
  induction k using Nat.strongRecOn with
  | _ k ih =>
    intro cs h
    obtain ⟨j, parts, rfl, rfl, hp⟩ := sh_struct h ts188
    match parts, hp with
    | [a, b, d, e], hp =>
      obtain ⟨f, rfl, _⟩ := sh_int hp.1 u186
      obtain ⟨n, rfl, hn⟩ := sh_int hp.2.1 u3
      obtain ⟨s, rfl, hs⟩ := sh_str hp.2.2.1 u9
      obtain ⟨i, es, clip, rfl, rfl, hl, he⟩ := sh_slice hp.2.2.2.1 u23
      obtain ⟨l, rfl, hl2⟩ := list_read (g := Pat.av) (Q := Pat.Ok) es (fun x hx => by
        obtain ⟨ds, d1, rfl⟩ := he x hx
        obtain ⟨p, p1, p2⟩ := ih i (by omega) ds d1
        exact ⟨p, by rw [g188]; exact p1, p2⟩)
      exact ⟨.mk f n s l clip, by simp, .mk (by simpa using hl) hs hn hl2⟩

theorem read_prog {x : AV} (h : ArgOk Tryz.prog 27 x) : ∃ c : Prog, c.Ok ∧ x = c.av := by
  obtain ⟨k, cs, hs, _, rfl⟩ := h
  rw [g27]
  obtain ⟨j, parts, rfl, rfl, hp⟩ := sh_struct hs ts27
  match parts, hp with
  | [a, b, d, e, f], hp =>
    obtain ⟨i1, es1, c1, _, rfl, hl1, he1⟩ := sh_slice hp.1 u22
    obtain ⟨i2, es2, c2, _, rfl, hl2, he2⟩ := sh_slice hp.2.1 u23
    obtain ⟨i3, es3, c3, _, rfl, hl3, he3⟩ := sh_slice hp.2.2.1 u24
    obtain ⟨m, rfl, _⟩ := sh_int hp.2.2.2.1 u3
    obtain ⟨i5, es5, c5, _, rfl, hl5, he5⟩ := sh_slice hp.2.2.2.2.1 u25
    obtain ⟨ins, rfl, _⟩ := list_read (g := Ins.av) (Q := fun _ => True) es1 (fun x hx => by
      obtain ⟨ds, d1, rfl⟩ := he1 x hx
      obtain ⟨y, hy⟩ := read_ins d1
      exact ⟨y, by rw [g157]; exact hy, trivial⟩)
    obtain ⟨pats, rfl, hpats⟩ := list_read (g := Pat.av) (Q := Pat.Ok) es2 (fun x hx => by
      obtain ⟨ds, d1, rfl⟩ := he2 x hx
      obtain ⟨y, hy, hy2⟩ := read_pat _ _ d1
      exact ⟨y, by rw [g188]; exact hy, hy2⟩)
    obtain ⟨funs, rfl, _⟩ := list_read (g := iA) (Q := fun _ => True) es3 (fun x hx => by
      obtain ⟨ds, d1, rfl⟩ := he3 x hx
      obtain ⟨n, rfl, _⟩ := sh_int d1 u3
      exact ⟨n, by rw [g3]; rfl, trivial⟩)
    obtain ⟨cons, rfl, hcons⟩ := list_read (g := Con.av) (Q := fun x => x.name.size ≤ maxI) es5 (fun x hx => by
      obtain ⟨ds, d1, rfl⟩ := he5 x hx
      obtain ⟨y, hy, hy2⟩ := read_con d1
      exact ⟨y, by rw [g190]; exact hy, hy2⟩)
    exact ⟨⟨ins, c1, pats, c2, funs, c3, m, cons, c5⟩, ⟨by simpa using hl1, by simpa using hl2, by simpa using hl3, by simpa using hl5, hpats, hcons⟩, rfl⟩

theorem law7 (ys : List AV) (hl : ys.length = 1) (h : ∀ (i : Nat) t x, Tryz.f7.params[i]? = some t → ys[i]? = some x → ArgOk Tryz.prog t x) : ∃ n A', callOf EL (ev EL n) [] (.func (.func 7) [] []) ys [] = some (.ret (.bool true), A') := by
  match ys, hl with
  | [x], _ =>
    obtain ⟨c, hc, rfl⟩ := read_prog (h 0 27 x (by rw [Tryz.params7]; rfl) rfl)
    have := (s7 c hc [] [] ⟨fun r A' => r = .ret (.bool true)⟩).2 rfl
    obtain ⟨n, r, A', h1, rfl⟩ := this
    exact ⟨n, A', h1⟩

/-- LiveBlocks, as it is given. -/
theorem liveBlocks_card : Rows.LiveBlocksCardSaid := card7 law7

end Go.Proofs.YtgbfbhahnoafoaaGreatDoor
