/- A part of the proof: lemmas, no statement of the seat is proved in this file. -/
import Derived.Test.YtgbfbhahnoafoaaGreatDoorQ6
set_option autoImplicit false
set_option maxRecDepth 100000

/- The program's 'Depths': what is reached. -/
namespace Go.Proofs.YtgbfbhahnoafoaaGreatDoor
open Go Go.Abs

abbrev reachF : AV := .func (.func 163) [] [.ptr 2 0 0, .ptr 0 0 0, .ptr 3 0 0]

/-- How the memory of 'Depths' is laid out. 'fr': what else is not to change. -/
structure St (c : Prog) (fr : List (Nat × Blk)) (out : List Dep) (todo : List Nat) (B : Heap) : Prop where
  len : 5 ≤ B.length
  b0 : hget B 0 = .cells 5 [c.av]
  b1 : hget B 1 = .cells 3 (out.map depAV)
  b2 : hget B 2 = .cells 1 [.own 1 0 c.ins.length true]
  b3 : ∃ v, hget B 3 = .cells 1 [v] ∧ Pile B 1 v (todo.map fun n : Nat => iA (n : Int)) ∧ (∀ i, v.blockIs i → 5 ≤ i) ∧ ∀ p ∈ fr, ¬ v.blockIs p.1
  b4 : hget B 4 = .cells 1 [reachF]
  fr : ∀ p ∈ fr, 5 ≤ p.1 ∧ p.1 < B.length ∧ hget B p.1 = p.2
  out : out.length = c.ins.length

theorem St.app {c : Prog} {fr : List (Nat × Blk)} {out : List Dep} {todo : List Nat} {B : Heap} (h : St c fr out todo B) (l : List Blk) : St c fr out todo (B ++ l) := by
  have hl := h.len
  refine ⟨by simp; omega, by rw [hget_app_lt (by omega)]; exact h.b0, by rw [hget_app_lt (by omega)]; exact h.b1, by rw [hget_app_lt (by omega)]; exact h.b2, ?_, by rw [hget_app_lt (by omega)]; exact h.b4, fun p hp => ?_, h.out⟩
  · obtain ⟨v, h1, h2, h3, h4⟩ := h.b3
    exact ⟨v, by rw [hget_app_lt (by omega)]; exact h1, h2.append, h3, h4⟩
  · obtain ⟨h1, h2, h3⟩ := h.fr p hp
    exact ⟨h1, by simp; omega, by rw [hget_app_lt h2]; exact h3⟩

/-- Reaching an instruction at a depth. -/
def stepR (c : Prog) (out : List Dep) (todo : List Nat) (n : Nat) (s e : Int) : Option (List Dep × List Nat) :=
  if c.ins.length ≤ n ∨ 60 < s ∨ 30 < e then none
  else if (out.getD n dep0).1 = true ∧ out.getD n dep0 ≠ (true, s, e) then none
  else if metR (wantR (c.ins.getD n ins0) (c.argsOf (c.ins.getD n ins0).a)) s e = false then none
  else if (out.getD n dep0).1 = true then some (out, todo)
  else some (out.set n (true, s, e), todo ++ [n])

theorem w163 {Λ : List LoopInfo} {B : Heap} {c : Prog} (hc : c.Fine) {fr : List (Nat × Blk)} {out : List Dep} {todo : List Nat} (h : St c fr out todo B) (hbd : todo.length ≤ 1000000) (n : Nat) (s e : Int) :
    SplitsL Λ B reachF [iA n, depA s e] (fun B' => ∃ out' todo', stepR c out todo n s e = some (out', todo') ∧ St c fr out' todo' B') (fun B' => stepR c out todo n s e = none ∧ St c fr out todo B') := fun k kT kF => by
  have hl := h.len
  have hol := h.out
  rw [k_fun rfl c163 (by simp) (by simp [F163])]
  have x0 : ∀ l, hget (B ++ l) 0 = .cells 5 [c.av] := fun l => by rw [hget_app_lt (by omega)]; exact h.b0
  have x1 : ∀ l, hget (B ++ l) 1 = .cells 3 (out.map depAV) := fun l => by rw [hget_app_lt (by omega)]; exact h.b1
  have x2 : ∀ l, hget (B ++ l) 2 = .cells 1 [.own 1 0 c.ins.length true] := fun l => by rw [hget_app_lt (by omega)]; exact h.b2
  by_cases a1 : c.ins.length ≤ n
  · have a1' : (n : Int) ≥ (c.ins.length : Int) := by omega
    simp [F163, x2, a1']
    exact kF _ ⟨by simp [stepR, a1], h.app _⟩
  have a1' : ¬ (n : Int) ≥ (c.ins.length : Int) := by omega
  have hn : n < c.ins.length := by omega
  have hno : n < out.length := by omega
  by_cases a2 : 60 < s
  · simp [F163, x2, a1', a2]
    exact kF _ ⟨by simp [stepR, a2], h.app _⟩
  by_cases a3 : 30 < e
  · simp [F163, x2, a1', a2, a3]
    exact kF _ ⟨by simp [stepR, a3], h.app _⟩
  have ew := s164 c c.ins[n] (hc.ins _ (List.getElem_mem hn)) (by have := hc.lens.1; omega)
  simp only [Ins.av] at ew
  have hgi : c.ins.getD n ins0 = c.ins[n] := by simp [List.getD, hn]
  have hgo : out.getD n dep0 = out[n] := by simp [List.getD, hno]
  have em := fun {Λ : List LoopInfo} {A : Heap} {k : KL} => met_inv (Λ := Λ) (A := A) (k := k) (wantR c.ins[n] (c.argsOf c.ins[n].a)) s e (wantR_kind _ _)
  have hst : stepR c out todo n s e = if out[n].1 = true ∧ out[n] ≠ (true, s, e) then none
      else if metR (wantR c.ins[n] (c.argsOf c.ins[n].a)) s e = false then none
      else if out[n].1 = true then some (out, todo)
      else some (out.set n (true, s, e), todo ++ [n]) := by
    have : ¬ (c.ins.length ≤ n ∨ 60 < s ∨ 30 < e) := by omega
    simp only [stepR, this, if_false, hgi, hgo]
  generalize metR (wantR c.ins[n] (c.argsOf c.ins[n].a)) s e = mt at em hst
  obtain ⟨q, s2, e2, hq⟩ : ∃ q s2 e2, out[n] = (q, s2, e2) := ⟨_, _, _, rfl⟩
  rw [hq] at hst
  cases q with
  | true =>
    by_cases a5 : s2 = s ∧ e2 = e
    · obtain ⟨rfl, rfl⟩ := a5
      simp at hst
      cases mt with
      | true =>
        simp at hst
        simp [F163, x0, x1, x2, a1', a2, a3, hn, hno, hq, ew, em]
        exact kT _ ⟨_, _, hst, h.app _⟩
      | false =>
        simp at hst
        simp [F163, x0, x1, x2, a1', a2, a3, hn, hno, hq, ew, em]
        exact kF _ ⟨hst, h.app _⟩
    · have h5' : (!decide (s2 = s) || !decide (e2 = e)) = true := by simp; omega
      rw [if_pos ⟨rfl, by simp; omega⟩] at hst
      simp [F163, x1, x2, a1', a2, a3, hn, hno, hq, h5']
      exact kF _ ⟨hst, h.app _⟩
  | false =>
    simp at hst
    cases mt with
    | false =>
      simp at hst
      simp [F163, x0, x1, x2, a1', a2, a3, hn, hno, hq, ew, em]
      exact kF _ ⟨hst, h.app _⟩
    | true =>
      simp at hst
      have hs : ∀ l b, Abs.hset (B ++ l) 1 b = B.set 1 b ++ l := fun l b => by rw [hset_lt (by simp; omega)]; exact List.set_append_left _ _ (by omega)
      obtain ⟨v, v1, v2, v3, v4⟩ := h.b3
      obtain ⟨hvc, hvi⟩ := v2.cells
      have hvr : ∀ x, v.remake [x] = x := fun x => by rcases v2 with ⟨rfl, _⟩ | ⟨id, c, rest, rfl, _, _⟩ <;> rfl
      generalize hB1 : List.set B 1 (Blk.cells 3 ((List.map depAV out).set n (AV.agg [AV.bool true, iA s, iA e]))) = B1
      have hB1l : B1.length = B.length := by rw [← hB1]; simp
      have g : ∀ i, i ≠ 1 → hget B1 i = hget B i := fun i hi => by
        rw [← hB1]; unfold hget List.getD; rw [List.getElem?_set_ne (by omega)]
      have y2 : ∀ l, hget (B1 ++ l) 2 = .cells 1 [.own 1 0 c.ins.length true] := fun l => by rw [hget_app_lt (by omega), g 2 (by omega)]; exact h.b2
      have y3 : ∀ l, hget (B1 ++ l) 3 = .cells 1 [v] := fun l => by rw [hget_app_lt (by omega), g 3 (by omega)]; exact v1
      have v2' : Pile B1 1 v (todo.map fun n : Nat => iA (n : Int)) := v2.keep (by omega) (fun i hi hb => g i (by have := v3 i hb; omega))
      obtain ⟨ot, ho, p2, p3, p4, p5⟩ := pile_append (bytes := 8) (y := .own (B.length + 1) 0 1 true) (new := [iA (n : Int)]) (v2'.append (l := [Blk.cells 3 [depA s e], Blk.cells 1 [iA (n : Int)]])) (by rw [← hB1l]; simp) (fun s h => by cases h) (by simp)
        (fun e he => by
          rcases List.mem_append.1 he with he | he
          · obtain ⟨x, _, rfl⟩ := List.mem_map.1 he; rfl
          · simp only [List.mem_singleton] at he; subst he; rfl) (by simp [maxBytes]; omega) (by simp; omega)
      simp at ho p3 p4
      rw [hB1l] at ho p3
      have nb : ∀ i, i < 5 → ¬ v.blockIs i := fun i hi hb => by have := v3 i hb; omega
      have q3 : hget (applyOut (B1 ++ [Blk.cells 3 [depA s e], Blk.cells 1 [iA (n : Int)]]) ot) 3 = .cells 1 [v] := by
        rw [p4 3 (by omega) (nb 3 (by omega))]; exact y3 _
      have qk : ∀ i, i < B.length → i ≠ 1 → ¬ v.blockIs i → hget (applyOut (B1 ++ [Blk.cells 3 [depA s e], Blk.cells 1 [iA (n : Int)]]) ot) i = hget B i := fun i hi h1 hb => by
        rw [p4 i (by omega) hb, hget_app_lt (by omega)]; exact g i h1
      have q1 : hget (applyOut (B1 ++ [Blk.cells 3 [depA s e], Blk.cells 1 [iA (n : Int)]]) ot) 1 = .cells 3 ((out.set n (true, s, e)).map depAV) := by
        have : 1 < B.length := by omega
        rw [p4 1 (by omega) (nb 1 (by omega)), hget_app_lt (by omega), ← hB1]
        simp [hget, this]
      simp [F163, x0, x1, x2, a1', a2, a3, hn, hno, hq, ew, em, hs, hB1, y3, hB1l, hvc, ho, q3]
      generalize applyOut (B1 ++ [Blk.cells 3 [depA s e], Blk.cells 1 [iA (n : Int)]]) ot = B2 at *
      have hl3 : 3 < B2.length := by omega
      have g3 : ∀ b i, i ≠ 3 → hget (B2.set 3 b) i = hget B2 i := fun b i hi => by
        unfold hget List.getD; rw [List.getElem?_set_ne (by omega)]
      simp [p5, hset_lt hl3, hvr, F163]
      refine kT _ ⟨_, _, hst, by simp; omega, ?_, ?_, ?_, ⟨ot.v, ?_, ?_, ?_, ?_⟩, ?_, fun p hp => ?_, by simpa using hol⟩
      · rw [g3 _ _ (by omega), qk 0 (by omega) (by omega) (nb 0 (by omega))]; exact h.b0
      · rw [g3 _ _ (by omega)]; exact q1
      · rw [g3 _ _ (by omega), qk 2 (by omega) (by omega) (nb 2 (by omega))]; exact h.b2
      · rw [p5]; simp [hget, hl3]
      · rw [List.map_append]
        refine p2.keep (by simp) (fun i hi hb => g3 _ _ ?_)
        rintro rfl
        rw [p5] at hb
        obtain ⟨_, _, _, hh⟩ := hb
        simp at hh; omega
      · intro i hi
        rw [p5] at hi
        obtain ⟨_, _, _, hh⟩ := hi
        simp at hh; omega
      · intro p hp hi
        rw [p5] at hi
        obtain ⟨_, _, _, hh⟩ := hi
        have := (h.fr p hp).2.1
        simp at hh; omega
      · rw [g3 _ _ (by omega), qk 4 (by omega) (by omega) (nb 4 (by omega))]; exact h.b4
      · obtain ⟨f1, f2, f3⟩ := h.fr p hp
        refine ⟨f1, by simp; omega, ?_⟩
        rw [g3 _ _ (by omega), qk p.1 f2 (by omega) (v4 p hp)]
        exact f3

end Go.Proofs.YtgbfbhahnoafoaaGreatDoor

/- The program's 'Depths'. -/
namespace Go.Proofs.YtgbfbhahnoafoaaGreatDoor
open Go Go.Abs

theorem w166 {Λ : List LoopInfo} {B : Heap} {c : Prog} (hc : c.Fine) {fr : List (Nat × Blk)} {out : List Dep} {todo : List Nat} (h : St c fr out todo B) (hbd : todo.length ≤ 1000000) (n : Nat) :
    Splits Λ B (.func (.func 166) [] [.ptr 4 0 0]) (iA n) (fun B' => ∃ out' todo', stepR c out todo n 0 1 = some (out', todo') ∧ St c fr out' todo' B') (fun B' => stepR c out todo n 0 1 = none ∧ St c fr out todo B') := fun k kT kF => by
  rw [k_fun rfl c166 (by simp) (by simp [F166])]
  simp [F166, h.b4]
  refine w163 hc h hbd n 0 1 _ (fun B' h' => ?_) (fun B' h' => ?_)
  · simp [F166]
    exact kT _ h'
  · simp [F166]
    exact kF _ h'

/-- One after the other. -/
def stepsR (c : Prog) : List (Int × Int × Int) → List Dep → List Nat → Option (List Dep × List Nat)
  | [], out, todo => some (out, todo)
  | r :: l, out, todo => match stepR c out todo r.1.toNat r.2.1 r.2.2 with
    | some (o, t) => stepsR c l o t
    | none => none

theorem stepsR_append {c : Prog} : ∀ (l m : List (Int × Int × Int)) (out : List Dep) (todo : List Nat), stepsR c (l ++ m) out todo = match stepsR c l out todo with | some (o, t) => stepsR c m o t | none => none
  | [], m, out, todo => rfl
  | r :: l, m, out, todo => by
    simp only [List.cons_append, stepsR]
    cases h : stepR c out todo r.1.toNat r.2.1 r.2.2 with
    | none => rfl
    | some q => exact stepsR_append l m q.1 q.2

theorem stepsR_take {c : Prog} {L : List (Int × Int × Int)} {j : Nat} (hj : j < L.length) {out o : List Dep} {todo t : List Nat} (h : stepsR c (L.take j) out todo = some (o, t)) :
    stepsR c (L.take (j + 1)) out todo = stepR c o t L[j].1.toNat L[j].2.1 L[j].2.2 := by
  rw [List.take_succ_eq_append_getElem hj, stepsR_append, h]
  simp only [stepsR]
  cases stepR c o t L[j].1.toNat L[j].2.1 L[j].2.2 <;> rfl

theorem stepsR_none {c : Prog} {L : List (Int × Int × Int)} {j : Nat} (_hj : j ≤ L.length) {out : List Dep} {todo : List Nat} (h : stepsR c (L.take j) out todo = none) : stepsR c L out todo = none := by
  have := stepsR_append (c := c) (L.take j) (L.drop j) out todo
  rw [List.take_append_drop, h] at this
  exact this

/-- The program's walk: a pile of what is to be done. -/
def walkP (c : Prog) : Nat → List Dep → List Nat → Option (List Dep)
  | 0, _, _ => none
  | m + 1, out, todo => match todo.getLast? with
    | none => some out
    | some n => match stepsR c (followL c n (c.ins.getD n ins0) (out.getD n dep0).2.1 (out.getD n dep0).2.2) out todo.dropLast with
      | none => none
      | some (o, t) => walkP c m o t

def depthsP (c : Prog) : Option (List Dep) := match stepsR c (c.funs.map fun f => (f, 0, 1)) (List.replicate c.ins.length dep0) [] with
  | none => none
  | some (o, t) => walkP c (2 * c.ins.length + 1) o t

/-- What the call answers. -/
def depthsPA (c : Prog) : AV := if codeOk c then match depthsP c with
    | some out => .tuple [.frz (out.map depAV) true, iA 0]
    | none => .tuple [.frz [] true, iA 7]
  else .tuple [.frz [] true, iA 2]

theorem codeOk_fine {c : Prog} (hc : c.Ok) (h : codeOk c = true) : c.Fine ∧ (∀ f ∈ c.funs, 0 ≤ f ∧ f < c.ins.length) ∧ c.funs.length ≤ 300 ∧ c.ins.length ≤ 1500 := by
  unfold codeOk headC at h
  simp only [Bool.and_eq_true, List.all_eq_true, decide_eq_true_eq, rng] at h
  obtain ⟨⟨⟨⟨⟨⟨⟨h1, h2⟩, h3⟩, h4⟩, h5⟩, h6⟩, h7⟩, h8⟩ := h
  unfold consOk at h3
  simp only [Bool.and_eq_true, List.all_eq_true, decide_eq_true_eq, rng] at h3
  refine ⟨⟨hc, h8, fun x hx => by have := (h3.1.1 x hx).2; omega, fun p hp => ?_, by omega, by omega, by omega⟩, fun f hf => by have := h7 f hf; omega, by omega, by omega⟩
  have := (h6 p hp)
  unfold patC at this
  simp only [Bool.and_eq_true, decide_eq_true_eq] at this
  have h9 := p.weigh_size 12 this.1
  omega

/-! ### The memory -/

theorem St.set {c : Prog} {fr fr' : List (Nat × Blk)} {out : List Dep} {todo : List Nat} {B : Heap} (h : St c fr out todo B) (i : Nat) (b : Blk) {x : Blk} (hi : (i, x) ∈ fr) (hfr : ∀ p ∈ fr', p = (i, b) ∨ (p.1 ≠ i ∧ p ∈ fr)) : St c fr' out todo (B.set i b) := by
  obtain ⟨i1, i2, _⟩ := h.fr _ hi
  simp only at i1 i2
  have g : ∀ j, j ≠ i → hget (B.set i b) j = hget B j := fun j hj => by
    unfold hget List.getD; rw [List.getElem?_set_ne (by omega)]
  refine ⟨by simpa using h.len, by rw [g _ (by omega)]; exact h.b0, by rw [g _ (by omega)]; exact h.b1, by rw [g _ (by omega)]; exact h.b2, ?_, by rw [g _ (by omega)]; exact h.b4, fun p hp => ?_, h.out⟩
  · obtain ⟨v, h1, h2, h3, h4⟩ := h.b3
    refine ⟨v, by rw [g _ (by omega)]; exact h1, h2.keep (by simp) (fun j _ hj => g j ?_), h3, fun p hp => ?_⟩
    · rintro rfl; exact h4 _ hi hj
    · rcases hfr p hp with rfl | ⟨_, hp⟩
      · exact (h4 (i, x) hi : ¬ v.blockIs i)
      · exact h4 p hp
  · rcases hfr p hp with rfl | ⟨hn, hp⟩
    · exact ⟨i1, by simpa using i2, by simp [hget, i2]⟩
    · obtain ⟨h1, h2, h3⟩ := h.fr p hp
      exact ⟨h1, by simpa using h2, by rw [g _ hn]; exact h3⟩

theorem St.new {c : Prog} {fr : List (Nat × Blk)} {out : List Dep} {todo : List Nat} {B : Heap} (h : St c fr out todo B) (b : Blk) (l : List Blk) : St c ((B.length, b) :: fr) out todo (B ++ b :: l) := by
  have ha := h.app (b :: l)
  have hl := h.len
  refine ⟨ha.len, ha.b0, ha.b1, ha.b2, ?_, ha.b4, fun p hp => ?_, ha.out⟩
  · obtain ⟨v, h1, h2, h3, h4⟩ := h.b3
    refine ⟨v, by rw [hget_app_lt (by omega)]; exact h1, h2.append, h3, fun p hp => ?_⟩
    rcases List.mem_cons.1 hp with rfl | hp
    · rintro ⟨o, n, cc, hv⟩
      rcases h2 with ⟨h2, _⟩ | ⟨id, c', rest, h2, h5, _⟩
      · rw [h2] at hv; cases hv
      · rw [h2] at hv; cases hv; simp at h5
    · exact h4 p hp
  · rcases List.mem_cons.1 hp with rfl | hp
    · exact ⟨hl, by simp, by rw [hget_app0]; rfl⟩
    · exact ha.fr p hp

theorem St.less {c : Prog} {fr fr' : List (Nat × Blk)} {out : List Dep} {todo : List Nat} {B : Heap} (h : St c fr out todo B) (hs : ∀ p ∈ fr', p ∈ fr) : St c fr' out todo B := by
  refine ⟨h.len, h.b0, h.b1, h.b2, ?_, h.b4, fun p hp => h.fr p (hs p hp), h.out⟩
  obtain ⟨v, h1, h2, h3, h4⟩ := h.b3
  exact ⟨v, h1, h2, h3, fun p hp => h4 p (hs p hp)⟩

theorem St.pop {c : Prog} {fr : List (Nat × Blk)} {out : List Dep} {init : List Nat} {n id : Nat} {cl cl' : Bool} {B : Heap} (h : St c fr out (init ++ [n]) B) (h3 : hget B 3 = .cells 1 [.own id 0 (init.length + 1) cl]) :
    St c fr out init (B.set 3 (.cells 1 [.own id 0 init.length cl'])) := by
  have hl := h.len
  have g : ∀ j, j ≠ 3 → hget (B.set 3 (.cells 1 [.own id 0 init.length cl'])) j = hget B j := fun j hj => by
    unfold hget List.getD; rw [List.getElem?_set_ne (by omega)]
  obtain ⟨v, h1, h2, h5, h4⟩ := h.b3
  rw [h3] at h1
  simp at h1
  subst h1
  refine ⟨by simpa using h.len, by rw [g _ (by omega)]; exact h.b0, by rw [g _ (by omega)]; exact h.b1, by rw [g _ (by omega)]; exact h.b2, ⟨.own id 0 init.length cl', ?_, ?_, ?_, ?_⟩, by rw [g _ (by omega)]; exact h.b4, fun p hp => ?_, h.out⟩
  · have : 3 < B.length := by omega
    simp [hget, this]
  · rcases h2 with ⟨h2, _⟩ | ⟨id', c', rest, h2, h6, h7⟩
    · cases h2
    · simp at h2
      obtain ⟨rfl, rfl⟩ := h2
      have h8 := h5 id ⟨_, _, _, rfl⟩
      exact .inr ⟨id, cl', iA (n : Int) :: rest, by simp, by simpa using h6, by rw [g _ (by omega), h7]; simp⟩
  · rintro i ⟨_, _, _, hi⟩
    cases hi
    exact h5 id ⟨_, _, _, rfl⟩
  · rintro p hp ⟨_, _, _, hi⟩
    cases hi
    exact h4 p hp ⟨_, _, _, rfl⟩
  · obtain ⟨a1, a2, a3⟩ := h.fr p hp
    exact ⟨a1, by simpa using a2, by rw [g _ (by omega)]; exact a3⟩

end Go.Proofs.YtgbfbhahnoafoaaGreatDoor

/- The program's 'Depths', walked. -/
namespace Go.Proofs.YtgbfbhahnoafoaaGreatDoor
open Go Go.Abs

abbrev metAt (c : Prog) (n : Nat) (s e : Int) : Bool := metR (wantR (c.ins.getD n ins0) (c.argsOf (c.ins.getD n ins0).a)) s e

/-- What is true of what is reached. -/
structure OkS (c : Prog) (out : List Dep) (todo : List Nat) : Prop where
  todo : ∀ n ∈ todo, n < c.ins.length ∧ (out.getD n dep0).1 = true
  low : ∀ n, n < c.ins.length → (out.getD n dep0).1 = true → 0 ≤ (out.getD n dep0).2.1 ∧ (out.getD n dep0).2.1 ≤ 60 ∧ 0 ≤ (out.getD n dep0).2.2 ∧ (out.getD n dep0).2.2 ≤ 30 ∧ metAt c n (out.getD n dep0).2.1 (out.getD n dep0).2.2 = true
  len : out.length = c.ins.length

theorem getD_set {out : List Dep} {n m : Nat} {d : Dep} (h : n < out.length) : (out.set n d).getD m dep0 = if m = n then d else out.getD m dep0 := by
  simp only [List.getD]
  rw [List.getElem?_set]
  by_cases hm : n = m
  · subst hm; simp [h]
  · simp [hm, Ne.symm hm]

theorem stepR_ok {c : Prog} {out o : List Dep} {todo t : List Nat} {n : Nat} {s e : Int} (h : OkS c out todo) (hs : 0 ≤ s) (he : 0 ≤ e) (hst : stepR c out todo n s e = some (o, t)) : OkS c o t ∧ unr o + t.length = unr out + todo.length ∧ unr o ≤ unr out := by
  unfold stepR at hst
  split at hst <;> (try (cases hst; done))
  split at hst <;> (try (cases hst; done))
  split at hst <;> (try (cases hst; done))
  rename_i h1 h2 h3
  have hn : n < out.length := by rw [h.len]; omega
  split at hst
  · cases hst; exact ⟨h, rfl, by omega⟩
  · rename_i h4
    cases hst
    refine ⟨⟨fun m hm => ?_, fun m hm hr => ?_, by simpa using h.len⟩, ?_⟩
    · rw [getD_set hn]
      rcases List.mem_append.1 hm with hm | hm
      · obtain ⟨a1, a2⟩ := h.todo m hm
        refine ⟨a1, ?_⟩
        split
        · rfl
        · exact a2
      · simp only [List.mem_singleton] at hm
        subst hm
        exact ⟨by rw [← h.len]; exact hn, by simp⟩
    · rw [getD_set hn] at hr ⊢
      split
      · rename_i hmn
        subst hmn
        refine ⟨hs, by show s ≤ 60; omega, he, by show e ≤ 30; omega, ?_⟩
        simpa [metAt] using h3
      · rename_i hmn
        rw [if_neg hmn] at hr
        exact h.low m hm hr
    · have := unr_set (out := out) (n := n) (d := (true, s, e)) hn (by
        have e : out.getD n dep0 = out[n] := by simp [List.getD, hn]
        rw [e] at h4
        simpa using h4) rfl
      simp; omega

theorem stepsR_ok {c : Prog} : ∀ (l : List (Int × Int × Int)) (out o : List Dep) (todo t : List Nat), OkS c out todo → (∀ r ∈ l, 0 ≤ r.2.1 ∧ 0 ≤ r.2.2) → stepsR c l out todo = some (o, t) → OkS c o t ∧ unr o + t.length = unr out + todo.length ∧ unr o ≤ unr out
  | [], out, o, todo, t, h, _, hst => by cases hst; exact ⟨h, rfl, Nat.le_refl _⟩
  | r :: l, out, o, todo, t, h, hl, hst => by
    simp only [stepsR] at hst
    split at hst <;> (try (cases hst; done))
    rename_i o' t' h1
    obtain ⟨h2, h3, h3'⟩ := stepR_ok h (hl r (by simp)).1 (hl r (by simp)).2 h1
    obtain ⟨h4, h5, h5'⟩ := stepsR_ok l o' o t' t h2 (fun r hr => hl r (by simp [hr])) hst
    exact ⟨h4, by omega, by omega⟩

theorem followL_ok {c : Prog} (hc : c.Fine) {n : Nat} {x : Ins} (hx : insOk c x = true) {s e : Int} (h1 : 0 ≤ s) (h3 : 0 ≤ e) (hm : metR (wantR x (c.argsOf x.a)) s e = true) :
    ∀ r ∈ followL c n x s e, 0 ≤ r.1 ∧ 0 ≤ r.2.1 ∧ 0 ≤ r.2.2 := by
  have ha := argsOf_le hc (i := x.a)
  have hnm := namesOf_le hc (i := x.a)
  have ho := insOk_op hx
  obtain ⟨o, a, b⟩ := x
  simp only at ho ha hnm hm
  rcases op_cases o ho with rfl | rfl | rfl | rfl | rfl | rfl | rfl | rfl | rfl | rfl | rfl | rfl | rfl | rfl | rfl | rfl | rfl | rfl | rfl | rfl | rfl | rfl | rfl | rfl | rfl | rfl | rfl | rfl | rfl | rfl | rfl | rfl | rfl | rfl
  all_goals
    simp [wantR, metR] at hm
    simp [insOk, rng] at hx
    simp [followL, growR]
    try omega

/-- What stands before each turn of the main loop. -/
def I138 (c : Prog) (S : Nat) (m : Nat) (f : Nat → AV) (B : Heap) : Prop := ∃ (out : List Dep) (todo : List Nat) (fuel : Nat), St c [(S, .cells 1 [.bool true])] out todo B ∧
  f 1 = .ptr 0 0 0 ∧ f 4 = .ptr 2 0 0 ∧ f 5 = .ptr 3 0 0 ∧ f 6 = .ptr 4 0 0 ∧ f 7 = .ptr S 0 0 ∧ OkS c out todo ∧ m = 2 * unr out + todo.length ∧ walkP c fuel out todo = depthsP c ∧ m + 1 ≤ fuel ∧ todo.length + unr out ≤ 100000

theorem s138 (c : Prog) (hc : c.Ok) : Comes 138 [c.av] (depthsPA c) := fun Λ A k => call_iff fun k hk => by
  rw [k_apart rfl c138 rfl (by simp [F138]) (by simp)]
  have ec := s162 c hc
  cases hok : codeOk c with
  | false =>
    rw [hok] at ec
    simp [depthsPA, hok] at hk
    simp at ec
    simp [F138, ec]
    exact hk
  | true =>
  rw [hok] at ec
  simp at ec
  simp only [depthsPA, hok, if_true] at hk
  obtain ⟨hf, hfun, hfl, hil⟩ := codeOk_fine hc hok
  have hmx : (c.ins.length : Int) * 24 ≤ maxBytes := by simp [maxBytes]; omega
  have hmx2 : c.ins.length * 24 ≤ maxBytes := by simp [maxBytes]; omega
  have hmx3 : (c.ins.length : Int) ≤ 9223372036854775807 := by omega
  simp [F138, ec, mkSliceA, hmx, hmx3, hset]
  let L := c.funs.map fun f => (f, (0 : Int), (1 : Int))
  let A0 : Heap := [Blk.cells 5 [c.av], Blk.cells 3 (List.replicate c.ins.length (AV.agg [AV.bool false, AV.int IntKind.i64 0, AV.int IntKind.i64 0])), Blk.cells 1 [AV.own 1 0 c.ins.length true], Blk.cells 1 [AV.frz [] true], Blk.cells 1 [reachF]]
  have hst0 : St c [] (List.replicate c.ins.length dep0) [] A0 := ⟨by simp [A0], rfl, by simp [A0, dep0], rfl, ⟨.frz [] true, rfl, .inl ⟨rfl, rfl⟩, fun i hi => (by obtain ⟨_, _, _, h⟩ := hi; cases h), fun p hp => (by cases hp)⟩, rfl, fun p hp => (by cases hp), by simp⟩
  refine w165 (by simp) c.funs c.fc hc.funs (fun j B => ∃ o t, stepsR c (L.take j) (List.replicate c.ins.length dep0) [] = some (o, t) ∧ t.length ≤ j ∧ St c [(5, .cells 1 [.func (.func 166) [] [.ptr 4 0 0]])] o t B) (fun _ => depthsP c = none) ⟨_, _, rfl, by simp, hst0.new _ []⟩ (fun j B l h => ?_) (fun j B hj h => ?_) (fun B h => ?_) (fun B h => ?_)
  · obtain ⟨o, t, h1, h2, h3⟩ := h
    have := h3.fr _ (List.mem_singleton.2 rfl)
    exact ⟨this.2.1, this.2.2, o, t, h1, h2, h3.app l⟩
  · obtain ⟨o, t, h1, h2, h3⟩ := h
    have hjL : j < L.length := by simpa [L] using hj
    have hfj := hfun c.funs[j] (List.getElem_mem hj)
    obtain ⟨n, hn⟩ := Int.eq_ofNat_of_zero_le hfj.1
    have ht := stepsR_take hjL h1
    have e : L[j] = (c.funs[j], 0, 1) := by simp [L]
    rw [e, hn] at ht
    simp only [Int.toNat_natCast] at ht
    rw [hn]
    intro k kT kF
    refine w166 hf h3 (by omega) n k (fun B' h' => kT B' ?_) (fun B' h' => kF B' ?_)
    · obtain ⟨o', t', h4, h5⟩ := h'
      refine ⟨o', t', by rw [ht]; exact h4, ?_, h5⟩
      unfold stepR at h4
      repeat' split at h4
      all_goals (try cases h4)
      all_goals (try simp)
      all_goals omega
    · have : stepsR c L (List.replicate c.ins.length dep0) [] = none := stepsR_none (Nat.succ_le_of_lt hjL) (by rw [ht]; exact h'.1)
      unfold depthsP
      rw [show stepsR c (c.funs.map fun f => (f, 0, 1)) (List.replicate c.ins.length dep0) [] = none from this]
  · obtain ⟨o, t, h1, h2, h3⟩ := h
    have hL : c.funs.length = L.length := by simp [L]
    rw [hL, List.take_length] at h1
    have hok0 : OkS c (List.replicate c.ins.length dep0) [] := ⟨fun n hn => (by cases hn), fun n hn hr => (by simp [List.getD, hn, dep0] at hr), by simp⟩
    obtain ⟨k1, k2, k3⟩ := stepsR_ok L _ _ _ _ hok0 (fun r hr => by obtain ⟨x, _, rfl⟩ := List.mem_map.1 hr; simp) h1
    rw [unr_rep] at k2
    have hd : depthsP c = walkP c (2 * c.ins.length + 1) o t := by
      unfold depthsP
      rw [show stepsR c (c.funs.map fun f => (f, 0, 1)) (List.replicate c.ins.length dep0) [] = _ from h1]
    have hul : unr o ≤ o.length := List.countP_le_length
    have hol := k1.len
    have h4 : St c [(B.length, .cells 1 [.bool true])] o t (B ++ [.cells 1 [.bool true]]) := (h3.less (fr' := []) (fun p hp => (by cases hp))).new _ []
    simp
    refine k_while (I138 c B.length) (m := 2 * unr o + t.length) ⟨o, t, _, h4, by simp, by simp, by simp, by simp, by simp, k1, rfl, hd.symm, by simp at k2; omega, by simp at k2; omega⟩ ?_
    generalize B.length = S
    clear h3 h4 k1 k2 hd hul hol h1 h2 hst0 hok0 hL
    clear L A0
    rintro m f B ⟨out, todo, fuel, hS, f1, f4, f5, f6, f7, hO, hm, hw, hfu, hbd⟩
    obtain ⟨v, v1, v2, v3, v4⟩ := hS.b3
    have hlen := v2.len
    simp at hlen
    have b2 := hS.b2
    have b1 := hS.b1
    have hsafe := (hS.fr _ (List.mem_singleton.2 rfl)).2.2
    simp only at hsafe
    rcases List.eq_nil_or_concat todo with htd | ⟨init, n, htd⟩
    · subst htd
      obtain ⟨fu, rfl⟩ : ∃ m', fuel = m' + 1 := ⟨fuel - 1, by omega⟩
      have hd : depthsP c = some out := by rw [← hw]; rfl
      rw [hd] at hk
      have htk : List.take c.ins.length (out.map depAV) = out.map depAV := List.take_of_length_le (by simp; have := hO.len; omega)
      obtain ⟨hvc, hvi⟩ := v2.cells
      simp [f4, f5, f7, v1, hlen, b1, b2, hsafe, F138, hO.len, htk, fz_deps, hvc]
      exact hk
    · rw [List.concat_eq_append] at htd
      subst htd
      obtain ⟨id, cl, rest, rfl, hid, hgid⟩ : ∃ id cl rest, v = .own id 0 (init.length + 1) cl ∧ id < B.length ∧ hget B id = .cells 1 (((init ++ [n]).map fun n : Nat => iA (n : Int)) ++ rest) := by
        rcases v2 with ⟨_, h⟩ | ⟨id, cl, rest, h1, h2, h3⟩
        · simp at h
        · exact ⟨id, cl, rest, by simpa using h1, h2, h3⟩
      have hidx : (((init ++ [n]).map fun n : Nat => iA (n : Int)) ++ rest)[init.length]? = some (iA (n : Int)) := by
        rw [List.getElem?_append_left (by simp)]
        simp
      generalize ((init ++ [n]).map fun n : Nat => iA (n : Int)) ++ rest = es at hgid hidx
      simp at hm hbd
      have wl : IntKind.i64.wrap (init.length : Int) = (init.length : Int) := by
        rw [wrap_i64] <;> omega
      have hlt1 : (init.length : Int) < (init.length : Int) + 1 := by omega
      have hle1 : (init.length : Int) ≤ (init.length : Int) + 1 := by omega
      have hl3 : 3 < B.length := by have := hS.len; omega
      have hS1 := hS.pop (cl' := false) v1
      obtain ⟨hn, hnr⟩ := hO.todo n (by simp)
      obtain ⟨q1, q2, q3, q4, q5⟩ := hO.low n hn hnr
      have hno : n < out.length := by have := hO.len; omega
      have hgo : out.getD n dep0 = out[n] := by simp [List.getD, hno]
      have hgi : c.ins.getD n ins0 = c.ins[n] := by simp [List.getD, hn]
      obtain ⟨q, s, e, hq⟩ : ∃ q s2 e2, out[n] = (q, s2, e2) := ⟨_, _, _, rfl⟩
      rw [hgo, hq] at hnr q1 q2 q3 q4 q5
      simp only at hnr q1 q2 q3 q4 q5
      subst hnr
      unfold metAt at q5
      rw [hgi] at q5
      have e168 := s168 c n hn s e
      have hb0 := hS1.b0
      have hb1 := hS1.b1
      have hb2 := hS1.b2
      have hb4 := hS1.b4
      have hb3 := hS1.b3
      have hfrS := hS1.fr _ (List.mem_singleton.2 rfl)
      generalize hB1 : List.set B 3 (Blk.cells 1 [AV.own id 0 init.length false]) = B1 at *
      simp [f1, f4, f5, v1, hgid, hidx, wl, hlt1, hle1, hset_lt hl3, hB1, hb0, hb1, hb2, hn, hno, hq, e168]
      refine k_rangeF rfl ?_
      simp
      have hfo := followL_ok hf (n := n) (hf.ins _ (List.getElem_mem hn)) q1 q3 q5
      have hS2 := (hS1.new (.loop true none) []).new (.cells 3 [depA (s + (growR c c.ins[n]).1) (e + (growR c c.ins[n]).2)]) []
      have hSl : S < B1.length := hfrS.2.1
      generalize hL : followL c n c.ins[n] s e = L at *
      refine w190 c hf n hn c.ins[n] (hf.ins _ (List.getElem_mem hn)) s e ⟨q1, by omega⟩ ⟨q3, by omega⟩ L hL.symm
        (fun j B' => ∃ o t, stepsR c (L.take j) out init = some (o, t) ∧ OkS c o t ∧ St c [((B1 ++ [Blk.loop true none]).length, .cells 3 [depA (s + (growR c c.ins[n]).1) (e + (growR c c.ins[n]).2)]), (B1.length, .loop true none), (S, .cells 1 [.bool true])] o t B')
        (fun B' => stepsR c L out init = none ∧ hget B' B1.length = .loop false (some (.exit 0)) ∧ B1.length < B'.length ∧ hget B' S = .cells 1 [.bool false]) ⟨out, init, rfl, ⟨fun m hm => hO.todo m (by simp [hm]), hO.low, hO.len⟩, hS2⟩ (fun j B' l h => ?_) (fun j B' hj h => ?_) (fun B' h => ?_) (fun B' h => ?_)
      · obtain ⟨o, t, h1, h2, h3⟩ := h
        have := h3.fr _ (List.mem_cons_self ..)
        exact ⟨this.2.1, this.2.2, o, t, h1, h2, h3.app l⟩
      · obtain ⟨o, t, h1, h2, h3⟩ := h
        intro k kT kF
        obtain ⟨r1, r2, r3⟩ := hfo L[j] (List.getElem_mem hj)
        have ht := stepsR_take hj h1
        obtain ⟨m1, s1, e1, hr⟩ : ∃ a b c, L[j] = (a, b, c) := ⟨_, _, _, rfl⟩
        rw [hr] at r1 r2 r3 ht
        simp only at r1 r2 r3 ht
        obtain ⟨n1, rfl⟩ := Int.eq_ofNat_of_zero_le r1
        simp only [Int.toNat_natCast] at ht
        rw [hr]
        have g1 := h3.fr (B1.length, .loop true none) (by simp)
        have h4 := (h3.new (.cells 3 [depA s1 e1]) []).set (fr' := [(B'.length, .cells 3 [depA s1 e1]), ((B1 ++ [Blk.loop true none]).length, .cells 3 [depA (s + (growR c c.ins[n]).1) (e + (growR c c.ins[n]).2)]), (B1.length, .loop false none), (S, .cells 1 [.bool true])]) B1.length (.loop false none) (x := .loop true none) (by simp) (fun p hp => by
          simp only [List.mem_cons, List.not_mem_nil, or_false] at hp
          rcases hp with rfl | rfl | rfl | rfl
          · exact .inr ⟨by have := g1.2.1; simp only at this ⊢; omega, by simp⟩
          · exact .inr ⟨by simp, by simp⟩
          · exact .inl rfl
          · exact .inr ⟨by simp only; omega, by simp⟩)
        refine k_yld0 rfl ?_
        simp
        refine ⟨by rw [hget_app_lt g1.2.1]; exact g1.2.2, ?_⟩
        have p4 := h4.b4
        have pd := (h4.fr _ (List.mem_cons_self ..)).2.2
        simp only at pd
        have htl : t.length ≤ 1000000 := by
          have := (stepsR_ok (L.take j) out o init t ⟨fun m hm => hO.todo m (by simp [hm]), hO.low, hO.len⟩ (fun r hr => (hfo r (List.mem_of_mem_take hr)).2) h1).2.1
          omega
        have hb' : B1.length < B'.length := g1.2.1
        generalize List.set (B' ++ [Blk.cells 3 [depA s1 e1]]) B1.length (Blk.loop false none) = B2 at h4 p4 pd ⊢
        simp [f6, p4, pd]
        refine w163 hf h4 htl n1 s1 e1 _ (fun B3 h5 => ?_) (fun B3 h5 => ?_)
        · obtain ⟨o', t', h5, h6⟩ := h5
          have z2 := h6.fr (B1.length, .loop false none) (by simp)
          have z3 := h6.fr (S, .cells 1 [.bool true]) (by simp)
          simp only at z2 z3
          have z4 : hget B3 S = .cells 1 [.bool true] := z3.2.2
          have z5 : S < B3.length := z3.2.1
          have z6 : B1.length < B3.length := z2.2.1
          have zs : ∀ b, hget (List.set B3 S b) S = b := fun b => by simp [hget, z5]
          have zl : ∀ b, hget (List.set B3 S b) B1.length = .loop false none := fun b => by
            rw [← z2.2.2]; unfold hget List.getD; rw [List.getElem?_set_ne (by omega)]
          simp [f7, z4, hset_lt z5, zs, zl]
          refine kT _ ⟨o', t', by rw [ht]; exact h5, (stepR_ok h2 r2 r3 h5).1, ?_⟩
          refine (h6.set S (.cells 1 [.bool true]) (x := .cells 1 [.bool true]) (fr' := [((B1 ++ [Blk.loop true none]).length, .cells 3 [depA (s + (growR c c.ins[n]).1) (e + (growR c c.ins[n]).2)]), (B1.length, .loop false none), (S, .cells 1 [.bool true])]) (by simp) (fun p hp => ?_)).set B1.length (.loop true none) (x := .loop false none) (by simp) (fun p hp => ?_)
          · simp only [List.mem_cons, List.not_mem_nil, or_false] at hp
            rcases hp with rfl | rfl | rfl
            · exact .inr ⟨by simp; omega, by simp⟩
            · exact .inr ⟨by simp only; omega, by simp⟩
            · exact .inl rfl
          · simp only [List.mem_cons, List.not_mem_nil, or_false] at hp
            rcases hp with rfl | rfl | rfl
            · exact .inr ⟨by simp, by simp⟩
            · exact .inl rfl
            · exact .inr ⟨by simp only; omega, by simp⟩
        · obtain ⟨h5, h6⟩ := h5
          have z2 := h6.fr (B1.length, .loop false none) (by simp)
          have z3 := h6.fr (S, .cells 1 [.bool true]) (by simp)
          simp only at z2 z3
          have z4 : hget B3 S = .cells 1 [.bool true] := z3.2.2
          have z5 : S < B3.length := z3.2.1
          have z6 : B1.length < B3.length := z2.2.1
          have zs : ∀ b, hget (List.set B3 S b) S = b := fun b => by simp [hget, z5]
          have zl : ∀ b, hget (List.set B3 S b) B1.length = .loop false none := fun b => by
            rw [← z2.2.2]; unfold hget List.getD; rw [List.getElem?_set_ne (by omega)]
          simp [f7, z4, hset_lt z5, zs, zl]
          refine kF _ ⟨stepsR_none (Nat.succ_le_of_lt hj) (by rw [ht]; exact h5), by simp [hget, z6], by simpa using z6, ?_⟩
          have : hget (List.set B3 S (Blk.cells 1 [AV.bool false])) S = .cells 1 [.bool false] := zs _
          refine Eq.trans ?_ this
          unfold hget List.getD; rw [List.getElem?_set_ne (by omega)]
      · obtain ⟨o, t, h1, h2, h3⟩ := h
        rw [List.take_length] at h1
        have g1 := h3.fr (B1.length, .loop true none) (by simp)
        simp only at g1
        refine (kre_ok g1.2.2).2 ?_
        simp
        obtain ⟨fu, rfl⟩ : ∃ m', fuel = m' + 1 := ⟨fuel - 1, by omega⟩
        have hu := (stepsR_ok L out o init t ⟨fun m hm => hO.todo m (by simp [hm]), hO.low, hO.len⟩ (fun r hr => (hfo r hr).2) h1).2
        have hst := h3.set B1.length .dead (x := .loop true none) (fr' := [(S, .cells 1 [.bool true])]) (by simp) (fun p hp => by
          simp only [List.mem_cons, List.not_mem_nil, or_false] at hp
          subst hp
          exact .inr ⟨by simp only; omega, by simp⟩)
        have hw2 : walkP c fu o t = depthsP c := by
          rw [← hw]
          simp only [walkP, List.getLast?_append, List.getLast?_singleton, Option.some_or, List.dropLast_concat, hgi, hgo, hq, hL, h1]
        obtain ⟨hm2, hm3⟩ := hu
        refine ⟨2 * unr o + t.length, by omega, _, rfl, o, t, fu, hst, by simp [f1], by simp [f4], by simp [f5], by simp [f6], by simp [f7], h2, rfl, hw2, by omega, by omega⟩
      · obtain ⟨h1, h2, h3, h4⟩ := h
        refine (kre_exit h2).2 ?_
        obtain ⟨fu, rfl⟩ : ∃ m', fuel = m' + 1 := ⟨fuel - 1, by omega⟩
        have hw2 : depthsP c = none := by
          rw [← hw]
          simp only [walkP, List.getLast?_append, List.getLast?_singleton, Option.some_or, List.dropLast_concat, hgi, hgo, hq, hL, h1]
        rw [hw2] at hk
        have hg : hget (List.set B' B1.length Blk.dead) S = .cells 1 [.bool false] := by
          refine Eq.trans ?_ h4
          unfold hget List.getD; rw [List.getElem?_set_ne (by omega)]
        simp [f7, hg, F138]
        exact hk
  · rw [h] at hk
    simp [F138]
    exact hk

end Go.Proofs.YtgbfbhahnoafoaaGreatDoor

/- The program's depths are the reference's. -/
namespace Go.Proofs.YtgbfbhahnoafoaaGreatDoor
open Go Go.Abs

theorem follow_met {c : Prog} (hc : c.Fine) {n : Int} {x : Ins} (hx : insOk c x = true) {s e : Int} (h1 : 0 ≤ s) : (followR c n x s e).2 = metR (wantR x (c.argsOf x.a)) s e := by
  have ha := argsOf_le hc (i := x.a)
  have ho := insOk_op hx
  obtain ⟨o, a, b⟩ := x
  simp only at ho ha
  rcases op_cases o ho with rfl | rfl | rfl | rfl | rfl | rfl | rfl | rfl | rfl | rfl | rfl | rfl | rfl | rfl | rfl | rfl | rfl | rfl | rfl | rfl | rfl | rfl | rfl | rfl | rfl | rfl | rfl | rfl | rfl | rfl | rfl | rfl | rfl | rfl
  all_goals
    simp only [wantR, metR, followR, asksR]
    simp
    try (repeat' split)
    all_goals (try simp)
    all_goals (try omega)

theorem follow_mem {c : Prog} (hc : c.Fine) {n : Int} {x : Ins} (hx : insOk c x = true) {s e : Int} (h1 : 0 ≤ s) (hm : metR (wantR x (c.argsOf x.a)) s e = true) (r : Int × Int × Int) : r ∈ followL c n x s e ↔ r ∈ (followR c n x s e).1 := by
  have ha := argsOf_le hc (i := x.a)
  have ho := insOk_op hx
  obtain ⟨r1, r2, r3⟩ := r
  obtain ⟨o, a, b⟩ := x
  simp only at ho ha hm
  rcases op_cases o ho with rfl | rfl | rfl | rfl | rfl | rfl | rfl | rfl | rfl | rfl | rfl | rfl | rfl | rfl | rfl | rfl | rfl | rfl | rfl | rfl | rfl | rfl | rfl | rfl | rfl | rfl | rfl | rfl | rfl | rfl | rfl | rfl | rfl | rfl
  all_goals
    simp [wantR, metR] at hm
    simp [followL, growR, followR, asksR]
    try (repeat' split)
    all_goals (try simp)
    all_goals (try omega)

/-- What is reached, and how deep. -/
inductive At (c : Prog) : Int × Int × Int → Prop where
  | start (f : Int) : f ∈ c.funs → At c (f, 0, 1)
  | step (r r' : Int × Int × Int) : At c r → r' ∈ (followR c r.1 (c.ins.getD r.1.toNat ins0) r.2.1 r.2.2).1 → At c r'

/-- What is reached can be, at that depth. -/
def Can (c : Prog) (r : Int × Int × Int) : Prop := 0 ≤ r.1 ∧ r.1 < c.ins.length ∧ 0 ≤ r.2.1 ∧ r.2.1 ≤ 60 ∧ 0 ≤ r.2.2 ∧ r.2.2 ≤ 30 ∧ (followR c r.1 (c.ins.getD r.1.toNat ins0) r.2.1 r.2.2).2 = true

/-- The depths are as defined. -/
structure Sp (c : Prog) (out : List Dep) : Prop where
  len : out.length = c.ins.length
  all : ∀ r, At c r → Can c r ∧ out.getD r.1.toNat dep0 = (true, r.2)
  only : ∀ n, (out.getD n dep0).1 = true → At c (n, (out.getD n dep0).2)
  unm : ∀ n, (out.getD n dep0).1 = false → out.getD n dep0 = dep0

theorem Sp.unique {c : Prog} {o o' : List Dep} (h : Sp c o) (h' : Sp c o') : o = o' := by
  have key : ∀ {o o' : List Dep}, Sp c o → Sp c o' → ∀ n, (o.getD n dep0).1 = true → o.getD n dep0 = o'.getD n dep0 := fun {o o'} h h' n hn => by
    have := (h'.all _ (h.only n hn)).2
    simp only [Int.toNat_natCast] at this
    rw [this]
    exact Prod.ext hn rfl
  apply List.ext_getElem (by rw [h.len, h'.len])
  intro n h1 h2
  have e1 : o.getD n dep0 = o[n] := by simp [List.getD, h1]
  have e2 : o'.getD n dep0 = o'[n] := by simp [List.getD, h2]
  rw [← e1, ← e2]
  cases hb : (o.getD n dep0).1 with
  | true => exact key h h' n hb
  | false =>
    cases hb' : (o'.getD n dep0).1 with
    | true => exact (key h' h n hb').symm
    | false => rw [h.unm n hb, h'.unm n hb']

/-- What stands while the reference walks: 'q' is still to be done. -/
structure InvR (c : Prog) (out : List Dep) (q : List (Int × Int × Int)) : Prop where
  len : out.length = c.ins.length
  only : ∀ n, (out.getD n dep0).1 = true → At c (n, (out.getD n dep0).2)
  unm : ∀ n, (out.getD n dep0).1 = false → out.getD n dep0 = dep0
  que : ∀ r ∈ q, At c r ∧ 0 ≤ r.1 ∧ 0 ≤ r.2.1 ∧ 0 ≤ r.2.2
  starts : ∀ f ∈ c.funs, (f, 0, 1) ∈ q ∨ (0 ≤ f ∧ out.getD f.toNat dep0 = (true, 0, 1))
  done : ∀ n, (out.getD n dep0).1 = true → Can c (n, (out.getD n dep0).2) ∧ ∀ r ∈ (followR c n (c.ins.getD n ins0) (out.getD n dep0).2.1 (out.getD n dep0).2.2).1, r ∈ q ∨ (0 ≤ r.1 ∧ out.getD r.1.toNat dep0 = (true, r.2))

theorem InvR.sp {c : Prog} {out : List Dep} (h : InvR c out []) : Sp c out := by
  have key : ∀ r, At c r → 0 ≤ r.1 ∧ out.getD r.1.toNat dep0 = (true, r.2) := fun r hr => by
    induction hr with
    | start f hf =>
      rcases h.starts f hf with h1 | h1
      · cases h1
      · exact h1
    | step r r' _ hm ih =>
      obtain ⟨i1, i2⟩ := ih
      have := (h.done r.1.toNat (by rw [i2])).2
      rw [i2, Int.toNat_of_nonneg i1] at this
      rcases this r' hm with h1 | h1
      · cases h1
      · exact h1
  refine ⟨h.len, fun r hr => ?_, h.only, h.unm⟩
  obtain ⟨i1, i2⟩ := key r hr
  have := (h.done r.1.toNat (by rw [i2])).1
  rw [i2, Int.toNat_of_nonneg i1] at this
  exact ⟨this, i2⟩

theorem ne_of_marked {out : List Dep} {n m : Nat} (h1 : (out.getD n dep0).1 = false) {d : Int × Int} (h2 : out.getD m dep0 = (true, d)) : m ≠ n := by
  rintro rfl
  rw [h2] at h1; cases h1

/-- A mark more. -/
theorem InvR.mark {c : Prog} (hc : c.Fine) {out : List Dep} {r : Int × Int × Int} {q : List (Int × Int × Int)} (h : InvR c out (r :: q)) (hcan : Can c r) (hno : (out.getD r.1.toNat dep0).1 = false) :
    InvR c (out.set r.1.toNat (true, r.2)) (q ++ (followR c r.1 (c.ins.getD r.1.toNat ins0) r.2.1 r.2.2).1) := by
  obtain ⟨c1, c2, c3, c4, c5, c6, c7⟩ := hcan
  have hl : r.1.toNat < out.length := by rw [h.len]; omega
  have hi : r.1.toNat < c.ins.length := by omega
  have hgi : c.ins.getD r.1.toNat ins0 = c.ins[r.1.toNat] := by simp [List.getD, hi]
  have hat := (h.que r (by simp)).1
  refine ⟨by simpa using h.len, fun n hn => ?_, fun n hn => ?_, fun r' hr' => ?_, fun f hf => ?_, fun n hn => ?_⟩
  · rw [getD_set hl] at hn ⊢
    split
    · rename_i hnr
      subst hnr
      rw [Int.toNat_of_nonneg c1]; exact hat
    · rename_i hnr
      rw [if_neg hnr] at hn
      exact h.only n hn
  · rw [getD_set hl] at hn ⊢
    split at hn
    · cases hn
    · rename_i hnr
      rw [if_neg hnr]
      exact h.unm n hn
  · rcases List.mem_append.1 hr' with hr' | hr'
    · exact h.que r' (by simp [hr'])
    · refine ⟨.step r r' hat hr', ?_⟩
      have := followR_ok hc (n := r.1.toNat) hi (hc.ins _ (List.getElem_mem hi)) c3 c4 c5 c6 r' (by rw [Int.toNat_of_nonneg c1, ← hgi]; exact hr')
      exact ⟨this.1, this.2.2.1, this.2.2.2.2.1⟩
  · rcases h.starts f hf with h1 | ⟨h1, h2⟩
    · rcases List.mem_cons.1 h1 with h1 | h1
      · right
        rw [← h1]
        exact ⟨by rw [← h1] at c1; exact c1, by rw [← h1] at hl; rw [getD_set hl, if_pos rfl]⟩
      · exact .inl (List.mem_append_left _ h1)
    · right
      exact ⟨h1, by rw [getD_set hl, if_neg (ne_of_marked hno h2)]; exact h2⟩
  · rw [getD_set hl] at hn ⊢
    split
    · rename_i hnr
      subst hnr
      rw [Int.toNat_of_nonneg c1]
      exact ⟨⟨c1, c2, c3, c4, c5, c6, c7⟩, fun r' hr' => .inl (List.mem_append_right _ hr')⟩
    · rename_i hnr
      rw [if_neg hnr] at hn
      obtain ⟨d1, d2⟩ := h.done n hn
      refine ⟨d1, fun r' hr' => ?_⟩
      rcases d2 r' hr' with h1 | ⟨h1, h2⟩
      · rcases List.mem_cons.1 h1 with h1 | h1
        · right
          subst h1
          exact ⟨c1, by rw [getD_set hl, if_pos rfl]⟩
        · exact .inl (List.mem_append_left _ h1)
      · right
        exact ⟨h1, by rw [getD_set hl, if_neg (ne_of_marked hno h2)]; exact h2⟩

/-- What is marked already. -/
theorem InvR.skip {c : Prog} {out : List Dep} {r : Int × Int × Int} {q : List (Int × Int × Int)} (h : InvR c out (r :: q)) (hr : out.getD r.1.toNat dep0 = (true, r.2)) : InvR c out q := by
  have h0 := (h.que r (by simp)).2.1
  refine ⟨h.len, h.only, h.unm, fun r' hr' => h.que r' (by simp [hr']), fun f hf => ?_, fun n hn => ?_⟩
  · rcases h.starts f hf with h1 | h1
    · rcases List.mem_cons.1 h1 with h1 | h1
      · subst h1; exact .inr ⟨h0, hr⟩
      · exact .inl h1
    · exact .inr h1
  · obtain ⟨d1, d2⟩ := h.done n hn
    refine ⟨d1, fun r' hr' => ?_⟩
    rcases d2 r' hr' with h1 | h1
    · rcases List.mem_cons.1 h1 with h1 | h1
      · subst h1; exact .inr ⟨h0, hr⟩
      · exact .inl h1
    · exact .inr h1

/-- No marks are as defined, where what is reached is marked otherwise. -/
theorem InvR.clash {c : Prog} {out : List Dep} {r : Int × Int × Int} {q : List (Int × Int × Int)} (h : InvR c out (r :: q)) (h1 : (out.getD r.1.toNat dep0).1 = true) (h2 : out.getD r.1.toNat dep0 ≠ (true, r.2)) (o : List Dep) : ¬ Sp c o := fun hs => by
  have h0 := (h.que r (by simp)).2.1
  have e1 := (hs.all r (h.que r (by simp)).1).2
  have e2 := (hs.all _ (h.only _ h1)).2
  rw [Int.toNat_natCast, e1] at e2
  exact h2 (Prod.ext h1 (Prod.ext_iff.1 e2).2.symm)

theorem walkR_sp {c : Prog} (hc : c.Fine) : ∀ (m : Nat) (out : List Dep) (q : List (Int × Int × Int)), InvR c out q → 3 * unr out + q.length + 1 ≤ m →
    (∀ o, walkR c m out q = some o → Sp c o) ∧ (walkR c m out q = none → ∀ o, ¬ Sp c o)
  | 0, out, q, h, hm => by omega
  | m + 1, out, [], h, hm => ⟨fun o ho => by simp only [walkR] at ho; cases ho; exact h.sp, fun ho => by simp [walkR] at ho⟩
  | m + 1, out, r :: q, h, hm => by
    obtain ⟨hat, h0, h1, h2⟩ := h.que r (by simp)
    simp only [List.length_cons] at hm
    simp only [walkR]
    by_cases hb : badR c out r = true
    · rw [if_pos hb]
      refine ⟨fun o ho => (by cases ho), fun _ o hs => ?_⟩
      have hcan := (hs.all r hat).1
      obtain ⟨c1, c2, c3, c4, c5, c6, c7⟩ := hcan
      have b1 : ¬ (c.ins.length : Int) ≤ r.1 := by omega
      have b2 : ¬ 60 < r.2.1 := by omega
      have b3 : ¬ 30 < r.2.2 := by omega
      simp only [badR, b1, b2, b3, decide_false, Bool.false_or, Bool.and_eq_true, decide_eq_true_eq] at hb
      exact h.clash hb.1 hb.2 o hs
    · rw [if_neg hb]
      simp only [badR, Bool.or_eq_true, decide_eq_true_eq, Bool.and_eq_true, not_or, not_and] at hb
      obtain ⟨⟨⟨b1, b2⟩, b3⟩, b4⟩ := hb
      by_cases hr : (out.getD r.1.toNat dep0).1 = true
      · rw [if_pos hr]
        have := b4 hr
        exact walkR_sp hc m out q (h.skip (by simpa using this)) (by omega)
      · rw [if_neg hr]
        have hr' : (out.getD r.1.toNat dep0).1 = false := by simpa using hr
        by_cases hf : (followR c r.1 (c.ins.getD r.1.toNat ins0) r.2.1 r.2.2).2 = true
        · rw [if_pos hf]
          have hl : r.1.toNat < out.length := by rw [h.len]; omega
          have hu : unr (out.set r.1.toNat (true, r.2.1, r.2.2)) + 1 = unr out := unr_set (d := (true, r.2.1, r.2.2)) hl (by
            have e : out.getD r.1.toNat dep0 = out[r.1.toNat] := by simp [List.getD, hl]
            rw [← e]; exact hr') rfl
          have hle := followR_le (c := c) (n := r.1) (x := c.ins.getD r.1.toNat ins0) (s := r.2.1) (e := r.2.2)
          exact walkR_sp hc m _ _ (h.mark hc ⟨h0, by omega, h1, by omega, h2, by omega, hf⟩ hr') (by rw [List.length_append]; omega)
        · rw [if_neg hf]
          exact ⟨fun o ho => (by cases ho), fun _ o hs => hf (hs.all r hat).1.2.2.2.2.2.2⟩

theorem getD_rep (n m : Nat) : (List.replicate n dep0).getD m dep0 = dep0 := by
  simp only [List.getD, List.getElem?_replicate]
  split <;> rfl

theorem inv0 (c : Prog) (hf : ∀ f ∈ c.funs, 0 ≤ f ∧ f < c.ins.length) : InvR c (List.replicate c.ins.length dep0) (c.funs.map fun f => (f, 0, 1)) := by
  refine ⟨by simp, fun n hn => (by rw [getD_rep] at hn; cases hn), fun n hn => getD_rep _ _, fun r hr => ?_, fun f hf => .inl (List.mem_map.2 ⟨f, hf, rfl⟩), fun n hn => (by rw [getD_rep] at hn; cases hn)⟩
  obtain ⟨f, hf1, rfl⟩ := List.mem_map.1 hr
  exact ⟨.start f hf1, (hf f hf1).1, by simp, by simp⟩

/-- The reference's depths are the ones that are as defined. -/
theorem depthsR_sp {c : Prog} (hc : c.Fine) (hf : ∀ f ∈ c.funs, 0 ≤ f ∧ f < c.ins.length) (o : List Dep) : depthsR c = some o ↔ Sp c o := by
  have := walkR_sp hc (3 * c.ins.length + c.funs.length + 1) _ _ (inv0 c hf) (by rw [unr_rep]; simp)
  constructor
  · exact this.1 o
  · intro hs
    cases hd : depthsR c with
    | none => exact absurd hs (this.2 hd o)
    | some o' => rw [Sp.unique hs (this.1 o' hd)]

/-! ### The program's walk -/

/-- What stands while the program walks: 'todo' are marked, and still to be gone on from; 'q' is still to be reached. -/
structure InvP (c : Prog) (out : List Dep) (todo : List Nat) (q : List (Int × Int × Int)) : Prop where
  len : out.length = c.ins.length
  only : ∀ n, (out.getD n dep0).1 = true → At c (n, (out.getD n dep0).2)
  unm : ∀ n, (out.getD n dep0).1 = false → out.getD n dep0 = dep0
  que : ∀ r ∈ q, At c r ∧ 0 ≤ r.1 ∧ 0 ≤ r.2.1 ∧ 0 ≤ r.2.2
  starts : ∀ f ∈ c.funs, (f, 0, 1) ∈ q ∨ (0 ≤ f ∧ out.getD f.toNat dep0 = (true, 0, 1))
  done : ∀ n, (out.getD n dep0).1 = true → Can c (n, (out.getD n dep0).2) ∧ (n ∈ todo ∨ ∀ r ∈ (followR c n (c.ins.getD n ins0) (out.getD n dep0).2.1 (out.getD n dep0).2.2).1, r ∈ q ∨ (0 ≤ r.1 ∧ out.getD r.1.toNat dep0 = (true, r.2)))

theorem InvP.step {c : Prog} (hc : c.Fine) {out : List Dep} {todo : List Nat} {r : Int × Int × Int} {q : List (Int × Int × Int)} (h : InvP c out todo (r :: q)) :
    (∀ o t, stepR c out todo r.1.toNat r.2.1 r.2.2 = some (o, t) → InvP c o t q) ∧ (stepR c out todo r.1.toNat r.2.1 r.2.2 = none → ∀ o, ¬ Sp c o) := by
  obtain ⟨hat, r0, r1, r2⟩ := h.que r (by simp)
  unfold stepR
  by_cases a1 : c.ins.length ≤ r.1.toNat ∨ 60 < r.2.1 ∨ 30 < r.2.2
  · rw [if_pos a1]
    exact ⟨fun o t ho => (by cases ho), fun _ o hs => by
      obtain ⟨c1, c2, c3, c4, c5, c6, c7⟩ := (hs.all r hat).1
      omega⟩
  rw [if_neg a1]
  have hl : r.1.toNat < out.length := by rw [h.len]; omega
  have hi : r.1.toNat < c.ins.length := by omega
  have hgi : c.ins.getD r.1.toNat ins0 = c.ins[r.1.toNat] := by simp [List.getD, hi]
  have hx : insOk c (c.ins.getD r.1.toNat ins0) = true := by rw [hgi]; exact hc.ins _ (List.getElem_mem hi)
  by_cases a2 : (out.getD r.1.toNat dep0).1 = true ∧ out.getD r.1.toNat dep0 ≠ (true, r.2.1, r.2.2)
  · rw [if_pos a2]
    refine ⟨fun o t ho => (by cases ho), fun _ o hs => ?_⟩
    have e1 := (hs.all r hat).2
    have e2 := (hs.all _ (h.only _ a2.1)).2
    rw [Int.toNat_natCast, e1] at e2
    exact a2.2 (Prod.ext a2.1 (Prod.ext_iff.1 e2).2.symm)
  rw [if_neg a2]
  have hm := follow_met hc (n := r.1) hx (s := r.2.1) (e := r.2.2) r1
  by_cases a3 : metR (wantR (c.ins.getD r.1.toNat ins0) (c.argsOf (c.ins.getD r.1.toNat ins0).a)) r.2.1 r.2.2 = false
  · rw [if_pos a3]
    refine ⟨fun o t ho => (by cases ho), fun _ o hs => ?_⟩
    have := (hs.all r hat).1.2.2.2.2.2.2
    rw [hm, a3] at this
    cases this
  rw [if_neg a3]
  have hcan : Can c r := ⟨r0, by omega, r1, by omega, r2, by omega, by rw [hm]; simpa using a3⟩
  by_cases a4 : (out.getD r.1.toNat dep0).1 = true
  · rw [if_pos a4]
    have hr : out.getD r.1.toNat dep0 = (true, r.2) := by
      have := not_and.1 a2 a4
      simpa using this
    refine ⟨fun o t ho => ?_, fun ho => (by cases ho)⟩
    cases ho
    refine ⟨h.len, h.only, h.unm, fun r' hr' => h.que r' (by simp [hr']), fun f hf => ?_, fun n hn => ?_⟩
    · rcases h.starts f hf with h1 | h1
      · rcases List.mem_cons.1 h1 with h1 | h1
        · subst h1; exact .inr ⟨r0, hr⟩
        · exact .inl h1
      · exact .inr h1
    · obtain ⟨d1, d2⟩ := h.done n hn
      refine ⟨d1, ?_⟩
      rcases d2 with d2 | d2
      · exact .inl d2
      · refine .inr fun r' hr' => ?_
        rcases d2 r' hr' with h1 | h1
        · rcases List.mem_cons.1 h1 with h1 | h1
          · subst h1; exact .inr ⟨r0, hr⟩
          · exact .inl h1
        · exact .inr h1
  · rw [if_neg a4]
    have hno : (out.getD r.1.toNat dep0).1 = false := by simpa using a4
    refine ⟨fun o t ho => ?_, fun ho => (by cases ho)⟩
    cases ho
    refine ⟨by simpa using h.len, fun n hn => ?_, fun n hn => ?_, fun r' hr' => h.que r' (by simp [hr']), fun f hf => ?_, fun n hn => ?_⟩
    · rw [getD_set hl] at hn ⊢
      split
      · rename_i hnr
        subst hnr
        rw [Int.toNat_of_nonneg r0]; exact hat
      · rename_i hnr
        rw [if_neg hnr] at hn
        exact h.only n hn
    · rw [getD_set hl] at hn ⊢
      split at hn
      · cases hn
      · rename_i hnr
        rw [if_neg hnr]
        exact h.unm n hn
    · rcases h.starts f hf with h1 | ⟨h1, h2⟩
      · rcases List.mem_cons.1 h1 with h1 | h1
        · right
          subst h1
          exact ⟨r0, by rw [getD_set hl, if_pos rfl]⟩
        · exact .inl h1
      · right
        exact ⟨h1, by rw [getD_set hl, if_neg (ne_of_marked hno h2)]; exact h2⟩
    · rw [getD_set hl] at hn ⊢
      split
      · rename_i hnr
        subst hnr
        rw [Int.toNat_of_nonneg r0]
        exact ⟨hcan, .inl (by simp)⟩
      · rename_i hnr
        rw [if_neg hnr] at hn
        obtain ⟨d1, d2⟩ := h.done n hn
        refine ⟨d1, ?_⟩
        rcases d2 with d2 | d2
        · exact .inl (List.mem_append_left _ d2)
        · refine .inr fun r' hr' => ?_
          rcases d2 r' hr' with h1 | ⟨h1, h2⟩
          · rcases List.mem_cons.1 h1 with h1 | h1
            · right
              subst h1
              exact ⟨r0, by rw [getD_set hl, if_pos rfl]⟩
            · exact .inl h1
          · right
            exact ⟨h1, by rw [getD_set hl, if_neg (ne_of_marked hno h2)]; exact h2⟩

theorem InvP.steps {c : Prog} (hc : c.Fine) : ∀ {q : List (Int × Int × Int)} {out : List Dep} {todo : List Nat}, InvP c out todo q →
    (∀ o t, stepsR c q out todo = some (o, t) → InvP c o t []) ∧ (stepsR c q out todo = none → ∀ o, ¬ Sp c o)
  | [], out, todo, h => ⟨fun o t ho => by cases ho; exact h, fun ho => by cases ho⟩
  | r :: q, out, todo, h => by
    obtain ⟨h1, h2⟩ := h.step hc
    simp only [stepsR]
    cases hs : stepR c out todo r.1.toNat r.2.1 r.2.2 with
    | none => exact ⟨fun o t ho => (by cases ho), fun _ => h2 hs⟩
    | some p => exact InvP.steps hc (h1 p.1 p.2 hs)

theorem InvP.okS {c : Prog} (hc : c.Fine) {out : List Dep} {todo : List Nat} {q : List (Int × Int × Int)} (h : InvP c out todo q) (ht : ∀ n ∈ todo, n < c.ins.length ∧ (out.getD n dep0).1 = true) : OkS c out todo := by
  refine ⟨ht, fun n hn hr => ?_, h.len⟩
  obtain ⟨c1, c2, c3, c4, c5, c6, c7⟩ := (h.done n hr).1
  have hgi : c.ins.getD n ins0 = c.ins[n] := by simp [List.getD, hn]
  have hx : insOk c (c.ins.getD n ins0) = true := by rw [hgi]; exact hc.ins _ (List.getElem_mem hn)
  simp only [Int.toNat_natCast] at c3 c4 c5 c6 c7
  have hm := follow_met hc (n := (n : Int)) hx (s := (out.getD n dep0).2.1) (e := (out.getD n dep0).2.2) c3
  exact ⟨c3, c4, c5, c6, by unfold metAt; rw [← hm]; exact c7⟩

theorem walkP_sp {c : Prog} (hc : c.Fine) : ∀ (m : Nat) (out : List Dep) (todo : List Nat), InvP c out todo [] → (∀ n ∈ todo, n < c.ins.length ∧ (out.getD n dep0).1 = true) → 2 * unr out + todo.length + 1 ≤ m →
    (∀ o, walkP c m out todo = some o → Sp c o) ∧ (walkP c m out todo = none → ∀ o, ¬ Sp c o)
  | 0, out, todo, h, ht, hm => by omega
  | m + 1, out, todo, h, ht, hm => by
    rcases List.eq_nil_or_concat todo with htd | ⟨init, n, htd⟩
    · subst htd
      refine ⟨fun o ho => ?_, fun ho => by simp [walkP] at ho⟩
      simp [walkP] at ho
      subst ho
      refine InvR.sp ⟨h.len, h.only, h.unm, h.que, h.starts, fun n hn => ?_⟩
      obtain ⟨d1, d2⟩ := h.done n hn
      rcases d2 with d2 | d2
      · cases d2
      · exact ⟨d1, d2⟩
    · rw [List.concat_eq_append] at htd
      subst htd
      simp only [walkP, List.getLast?_append, List.getLast?_singleton, Option.some_or, List.dropLast_concat]
      obtain ⟨hn, hnr⟩ := ht n (by simp)
      have hok := h.okS hc ht
      obtain ⟨q1, q2, q3, q4, q5⟩ := hok.low n hn hnr
      have hgi : c.ins.getD n ins0 = c.ins[n] := by simp [List.getD, hn]
      have hx : insOk c (c.ins.getD n ins0) = true := by rw [hgi]; exact hc.ins _ (List.getElem_mem hn)
      have hfo := followL_ok hc (n := n) hx q1 q3 q5
      have hfm := follow_mem hc (n := (n : Int)) hx q1 q5
      have hinv : InvP c out init (followL c n (c.ins.getD n ins0) (out.getD n dep0).2.1 (out.getD n dep0).2.2) := by
        refine ⟨h.len, h.only, h.unm, fun r hr => ⟨.step (n, (out.getD n dep0).2) r (h.only n hnr) (by simp only [Int.toNat_natCast]; exact (hfm r).1 hr), hfo r hr⟩, fun f hf => ?_, fun k hk => ?_⟩
        · rcases h.starts f hf with h1 | h1
          · cases h1
          · exact .inr h1
        · obtain ⟨d1, d2⟩ := h.done k hk
          refine ⟨d1, ?_⟩
          rcases d2 with d2 | d2
          · rcases List.mem_append.1 d2 with d2 | d2
            · exact .inl d2
            · simp only [List.mem_singleton] at d2
              subst d2
              exact .inr fun r hr => .inl ((hfm r).2 hr)
          · refine .inr fun r hr => ?_
            rcases d2 r hr with h1 | h1
            · cases h1
            · exact .inr h1
      have hok2 : OkS c out init := ⟨fun k hk => ht k (by simp [hk]), hok.low, hok.len⟩
      obtain ⟨s1, s2⟩ := hinv.steps hc
      cases hs : stepsR c (followL c n (c.ins.getD n ins0) (out.getD n dep0).2.1 (out.getD n dep0).2.2) out init with
      | none => exact ⟨fun o ho => (by cases ho), fun _ => s2 hs⟩
      | some p =>
        obtain ⟨o, t⟩ := p
        obtain ⟨k1, k2, k3⟩ := stepsR_ok _ _ _ _ _ hok2 (fun r hr => (hfo r hr).2) hs
        simp at hm
        exact walkP_sp hc m o t (s1 o t hs) k1.todo (by omega)

/-- The program's depths are the reference's. -/
theorem depths_eq {c : Prog} (hc : c.Fine) (hf : ∀ f ∈ c.funs, 0 ≤ f ∧ f < c.ins.length) : depthsP c = depthsR c := by
  have h0 := inv0 c hf
  have hp : InvP c (List.replicate c.ins.length dep0) [] (c.funs.map fun f => (f, 0, 1)) := ⟨h0.len, h0.only, h0.unm, h0.que, h0.starts, fun n hn => (by rw [getD_rep] at hn; cases hn)⟩
  obtain ⟨s1, s2⟩ := hp.steps hc
  have key : (∀ o, depthsP c = some o → Sp c o) ∧ (depthsP c = none → ∀ o, ¬ Sp c o) := by
    unfold depthsP
    cases hs : stepsR c (c.funs.map fun f => (f, 0, 1)) (List.replicate c.ins.length dep0) [] with
    | none => exact ⟨fun o ho => (by cases ho), fun _ => s2 hs⟩
    | some p =>
      obtain ⟨o, t⟩ := p
      have hok0 : OkS c (List.replicate c.ins.length dep0) [] := ⟨fun n hn => (by cases hn), fun n hn hr => (by rw [getD_rep] at hr; cases hr), by simp⟩
      obtain ⟨k1, k2, k3⟩ := stepsR_ok _ _ _ _ _ hok0 (fun r hr => by obtain ⟨x, _, rfl⟩ := List.mem_map.1 hr; simp) hs
      rw [unr_rep] at k2 k3
      exact walkP_sp hc _ o t (s1 o t hs) k1.todo (by simp at k2; omega)
  cases hd : depthsP c with
  | some o => exact ((depthsR_sp hc hf o).2 (key.1 o hd)).symm
  | none =>
    cases hr : depthsR c with
    | none => rfl
    | some o => exact absurd ((depthsR_sp hc hf o).1 hr) (key.2 hd o)

end Go.Proofs.YtgbfbhahnoafoaaGreatDoor

/- What numbers a function counts; the shapes of operations. -/
namespace Go.Proofs.YtgbfbhahnoafoaaGreatDoor
open Go Go.Abs

variable {Λ : List LoopInfo} {A : Heap} {k : KL}

theorem fz_map {X : Type} {B : Heap} {k : Nat} {g : X → AV} (hg : ∀ x, Abs.freeze 0 B (k + 1) false (g x) = some (g x)) (l : List X) : freezeList (Abs.freeze 0 B (k + 1) false) (l.map g) = some (l.map g) := by
  induction l with
  | nil => rfl
  | cons d out ih => simp [ih, hg]

theorem fz_mapn {X : Type} {n : Nat} {B : Heap} {k : Nat} {g : X → AV} (hg : ∀ x, Abs.freeze n B (k + 1) false (g x) = some (g x)) (l : List X) : freezeList (Abs.freeze n B (k + 1) false) (l.map g) = some (l.map g) := by
  induction l with
  | nil => rfl
  | cons d out ih => simp [ih, hg]

/-- Numbers from one on, so many. -/
def countL (a n : Int) : List Int := (List.range n.toNat).map fun i => a + (i : Nat)

abbrev LI := List Int × Bool
abbrev liA (l : LI) : AV := .frz (l.1.map iA) l.2
def cntL (a n : Int) : LI := (countL a n, (countL a n).isEmpty)

theorem countL_len {a n : Int} : (countL a n).length = n.toNat := by simp [countL]

theorem countL_take {a n : Int} {j : Nat} (h : j < n.toNat) : (countL a n).take (j + 1) = (countL a n).take j ++ [a + (j : Int)] := by
  rw [List.take_succ_eq_append_getElem (by rw [countL_len]; exact h)]
  simp [countL]

/-- What a function gathers by 'append' alone: what is there has room behind it. -/
theorem fz_mapm {n : Nat} {A : Heap} {k : Nat} {t : Bool} {id : Nat} : Abs.freeze n A (k + 1) t (.map id) = if id < n ∧ t = true then some (.map id) else none := rfl

/-- The same. -/
theorem frozen_own {B : Heap} {es : List AV} {v : AV} {b : Nat} (h : Gathers B 1 v es) (hc : ∀ i o m cl, v = .own i o m cl → cl = false) (hes : ∀ k, freezeList (Abs.freeze 0 B (k + 1) false) es = some es) : Abs.freeze 0 B (b + 2) true v = some (.frz es es.isEmpty) := by
  rcases h with ⟨rfl, rfl⟩ | ⟨id, c, rfl, h1, h2, h3⟩
  · rfl
  · obtain rfl := hc _ _ _ _ rfl
    rw [show b + 2 = (b + 1) + 1 from rfl, fz_own, h2]
    have : es.isEmpty = false := by cases es <;> simp_all
    simp [hes, this]

theorem s154 (a n : Int) (ha : -100000 ≤ a ∧ a ≤ 100000) (hn : n ≤ 100000) : Comes 154 [iA a, iA n] (liA (cntL a n)) := fun Λ A k => call_iff fun k hk => by
  rw [k_apart rfl c154 rfl (by simp [F154]) (by simp)]
  simp [F154]
  refine k_for (fun j f B => f 0 = iA a ∧ f 7 = iA n ∧ f 8 = iA j ∧ Gathers B 1 (f 5) (((countL a n).take j).map iA) ∧ ∀ i o m cl, f 5 = .own i o m cl → cl = false) n.toNat
    ⟨by simp, by simp, by simp, .inl ⟨by simp, by simp⟩, fun i o m cl h => by simp at h⟩ ?_
  rintro j f B hj ⟨h0, h7, h8, hG, hcl⟩
  by_cases hlt : (j : Int) < n
  · have hj' : j < n.toNat := by omega
    have w := wrap_i64 (n := a + (j : Int)) (by omega) (by omega)
    have hGA := hG.append (l := [Blk.cells 1 [iA (a + (j : Int))]])
    obtain ⟨out, ho, hG2, hl2, hk2, hv2⟩ := gather_append (bytes := 8) (y := .own B.length 0 1 true) (new := [iA (a + (j : Int))]) hGA (by simp) (fun s h => by cases h) (by simp)
      (fun e he => by
        rcases List.mem_append.1 he with he | he
        · simp only [List.mem_map] at he; obtain ⟨x, _, rfl⟩ := he; rfl
        · simp only [List.mem_singleton] at he; subst he; rfl) (by simp [maxBytes, countL_len]; omega) (by simp [countL_len]; omega)
    simp at ho hl2
    simp [h0, h7, h8, hlt, w, ho, wrap_succ (j := j) (by omega)]
    refine ⟨by omega, _, rfl, by simp [h0], by simp [h7], by simp, ?_, ?_⟩
    · rw [countL_take hj', List.map_append]
      simpa using hG2
    · intro i o m cl h
      simp at h
      rw [hv2] at h
      cases h; rfl
  · have hje : (countL a n).take j = countL a n := List.take_of_length_le (by rw [countL_len]; omega)
    rw [hje] at hG
    have hf := frozen_own (b := 62) hG hcl (fun k => fz_map (fun x => rfl) _)
    simp [h7, h8, hlt, F154, hf]
    simpa [cntL] using hk

/-! ### The shapes of operations -/

/-- How many values an operation reads from the top of the stack, and whether it writes one. -/
def shapeE : List (Int × Int × Bool) := [(8, 2, false), (9, 1, false), (12, 1, false), (19, 1, false), (34, 1, false),
  (1, 0, true), (2, 0, true), (3, 0, true), (5, 0, true), (26, 0, true), (30, 0, true), (33, 0, true), (4, 0, true), (6, 0, true), (31, 0, true), (32, 0, true),
  (21, 1, true), (22, 1, true), (24, 1, true), (25, 1, true), (28, 1, true), (29, 1, true),
  (7, 2, true), (13, 2, true), (14, 2, true), (15, 2, true), (16, 2, true), (17, 2, true), (23, 2, true), (27, 2, true)]

abbrev shA (p : Int × Bool) : AV := .agg [iA p.1, .bool p.2]
abbrev shE (p : Int × Int × Bool) : AV × AV := (iA p.1, shA p.2)
abbrev shapeM : Blk := .map (shapeE.map shE)

theorem find_new : ∀ (l : List (Int × Int × Bool)) (x : Int) (i : Nat), (l.all fun p => decide (x ≠ p.1)) = true → findA (.one .int) (iA x) (l.map shE) i = some none
  | [], x, i, _ => rfl
  | p :: l, x, i, h => by
    simp only [List.all_cons, Bool.and_eq_true, decide_eq_true_eq] at h
    simp only [List.map_cons, findA, eq_int, h.1, decide_false]
    exact find_new l x (i + 1) h.2

/-- One entry more. -/
theorem shape_more {B : Heap} {id j : Nat} {p : Int × Int × Bool} (hb : hget B id = .map ((shapeE.take j).map shE)) (hj : shapeE[j]? = some p) (hn : ((shapeE.take j).all fun q => decide (p.1 ≠ q.1)) = true) :
    mapSetA B (.one .int) (.map id) (iA p.1) (shA p.2) = some (id, .map ((shapeE.take (j + 1)).map shE)) := by
  have hl : j < shapeE.length := (List.getElem?_eq_some_iff.1 hj).1
  have he : shapeE[j] = p := (List.getElem?_eq_some_iff.1 hj).2
  simp only [mapSetA, hb, okKey, eq_int, Option.isSome_some, if_true, find_new _ _ _ hn]
  rw [List.take_succ_eq_append_getElem hl, he, List.map_append]
  rfl

/-- The list of some operations, as the function lays it. -/
abbrev opsB (a n : Nat) : Blk := .cells 1 (((shapeE.drop a).take n).map fun p => iA p.1)

theorem s139 : @kCall EL Λ (.func (.func 139) [] []) [] A k ↔ k.run (.ret (.map A.length)) (A ++ [shapeM, opsB 5 11, opsB 16 6, opsB 22 8]) := call_iff fun k hk => by
  rw [k_fun rfl c139 (by simp [show EL.apart 139 = false from rfl]) (by simp [F139])]
  simp [F139, hset]
  refine k_for (fun j f B => B = A ++ [.map ((shapeE.take (5 + j)).map shE), opsB 5 11] ∧ f 1 = .map A.length ∧ f 15 = .own (A.length + 1) 0 11 true ∧ f 16 = iA 11 ∧ f 17 = iA j) 11 ⟨by simp [shapeE], by simp, by simp, by simp, by simp⟩ ?_
  rintro j f B hj ⟨rfl, f1, f15, f16, f17⟩
  have hc : j = 0 ∨ j = 1 ∨ j = 2 ∨ j = 3 ∨ j = 4 ∨ j = 5 ∨ j = 6 ∨ j = 7 ∨ j = 8 ∨ j = 9 ∨ j = 10 ∨ j = 11 := by omega
  rcases hc with rfl | rfl | rfl | rfl | rfl | rfl | rfl | rfl | rfl | rfl | rfl | rfl
  case inr.inr.inr.inr.inr.inr.inr.inr.inr.inr.inr =>
    simp [f16, f17]
    refine k_for (fun j f B => B = A ++ [.map ((shapeE.take (16 + j)).map shE), opsB 5 11, opsB 16 6] ∧ f 1 = .map A.length ∧ f 25 = .own (A.length + 2) 0 6 true ∧ f 26 = iA 6 ∧ f 27 = iA j) 6 ⟨by simp [shapeE], by simp [f1], by simp, by simp, by simp⟩ ?_
    clear f1 f15 f16 f17 f
    rintro j f B hj ⟨rfl, f1, f15, f16, f17⟩
    have hc : j = 0 ∨ j = 1 ∨ j = 2 ∨ j = 3 ∨ j = 4 ∨ j = 5 ∨ j = 6 := by omega
    rcases hc with rfl | rfl | rfl | rfl | rfl | rfl | rfl
    case inr.inr.inr.inr.inr.inr =>
      simp [f16, f17]
      refine k_for (fun j f B => B = A ++ [.map ((shapeE.take (22 + j)).map shE), opsB 5 11, opsB 16 6, opsB 22 8] ∧ f 1 = .map A.length ∧ f 35 = .own (A.length + 3) 0 8 true ∧ f 36 = iA 8 ∧ f 37 = iA j) 8 ⟨by simp [shapeE], by simp [f1], by simp, by simp, by simp⟩ ?_
      clear f1 f15 f16 f17 f
      rintro j f B hj ⟨rfl, f1, f15, f16, f17⟩
      have hc : j = 0 ∨ j = 1 ∨ j = 2 ∨ j = 3 ∨ j = 4 ∨ j = 5 ∨ j = 6 ∨ j = 7 ∨ j = 8 := by omega
      rcases hc with rfl | rfl | rfl | rfl | rfl | rfl | rfl | rfl | rfl
      case inr.inr.inr.inr.inr.inr.inr.inr =>
        simp [f1, f16, f17, F139, fz_mapm]
        exact hk
      all_goals
        simp [f1, f15, f16, f17, shapeE, hset]
        exact ⟨by omega, _, rfl, rfl, by simp [f1], by simp [f15], by simp [f16], by simp; rfl⟩
    all_goals
      simp [f1, f15, f16, f17, shapeE, hset]
      exact ⟨by omega, _, rfl, rfl, by simp [f1], by simp [f15], by simp [f16], by simp; rfl⟩
  all_goals
    simp [f1, f15, f16, f17, shapeE, hset]
    exact ⟨by omega, _, rfl, rfl, by simp [f1], by simp [f15], by simp [f16], by simp; rfl⟩

end Go.Proofs.YtgbfbhahnoafoaaGreatDoor

/- Regions that draw their order: what two of them that no edge orders may do. -/
namespace Go.Abs

theorem drawOk_gen {l : List (IOper × List Nat)} {ds : List Done} (h : ∀ (i j : Nat) q p x y, l[i]? = some q → l[j]? = some p → ds[i]? = some x → ds[j]? = some y → i ≠ j → q.2.contains j = false → p.2.contains i = false →
    ∀ e ∈ x.eff, (hget y.look.run e.1).live = false ∧ ∀ e' ∈ y.eff, e'.1 ≠ e.1) : drawOk l ds = true := by
  unfold drawOk
  rw [List.all_eq_true]
  rintro ⟨⟨q, x⟩, i⟩ hqi
  rw [List.all_eq_true]
  rintro ⟨⟨p, y⟩, j⟩ hpj
  rw [List.mem_zipIdx_iff_getElem?] at hqi hpj
  obtain ⟨a1, a2⟩ := List.getElem?_zip_eq_some.1 hqi
  obtain ⟨b1, b2⟩ := List.getElem?_zip_eq_some.1 hpj
  simp only at a1 a2 b1 b2
  by_cases hij : i = j
  · simp [hij]
  by_cases h1 : q.2.contains j = true
  · simp only [h1, Bool.or_true, Bool.true_or]
  by_cases h2 : p.2.contains i = true
  · simp only [h2, Bool.or_true, Bool.true_or]
  have h1 : q.2.contains j = false := by simpa using h1
  have h2 : p.2.contains i = false := by simpa using h2
  have key := h i j q p x y a1 b1 a2 b2 hij h1 h2
  have e : (x.eff.all fun d => !(hget y.look.run d.1).live && y.eff.all fun d' => d'.1 != d.1) = true := by
    rw [List.all_eq_true]
    intro d hd
    obtain ⟨k1, k2⟩ := key d hd
    rw [k1]
    simp only [Bool.not_false, Bool.true_and, List.all_eq_true]
    intro d' hd'
    simpa using k2 d' hd'
  simp only [e, Bool.or_true]

/-- Regions in which few write: 'W' are those that may. -/
theorem drawOk_few {l : List (IOper × List Nat)} {ds : List Done} (W : List Nat) (hW : ∀ (i : Nat) x, ds[i]? = some x → i ∉ W → x.eff = [])
    (h : ∀ i ∈ W, ∀ (j : Nat) q p x y, l[i]? = some q → l[j]? = some p → ds[i]? = some x → ds[j]? = some y → i ≠ j → q.2.contains j = false → p.2.contains i = false →
    ∀ e ∈ x.eff, (hget y.look.run e.1).live = false ∧ ∀ e' ∈ y.eff, e'.1 ≠ e.1) : drawOk l ds = true := by
  refine drawOk_gen fun i j q p x y h1 h2 h3 h4 h5 h6 h7 e he => ?_
  by_cases hi : i ∈ W
  · exact h i hi j q p x y h1 h2 h3 h4 h5 h6 h7 e he
  · rw [hW i x h3 hi] at he
    cases he

theorem bit_store {E : Env} {A0 : Heap} {R : Regs} {ds : List Done} {pre : List Nat} {n : Nat} {a x : Arg} : bitOf E A0 R ds pre (.store n a x) = putAll A0 (pick pre.contains 0 (ds.map Done.eff)) := by
  simp [bitOf, only]
theorem bit_len {E : Env} {A0 : Heap} {R : Regs} {ds : List Done} {pre : List Nat} {q : LK} {x : Arg} : bitOf E A0 R ds pre (.len q x) = putAll A0 (pick pre.contains 0 (ds.map Done.eff)) := by
  simp [bitOf, only]
theorem pick_cons {X : Type} {S : Nat → Bool} {i : Nat} {W : List (Nat × X)} {r : List (List (Nat × X))} : pick S i (W :: r) = if S i then W ++ pick S (i + 1) r else pick S (i + 1) r := rfl

end Go.Abs

/- What an instruction does, by the program. -/
namespace Go.Proofs.YtgbfbhahnoafoaaGreatDoor
open Go Go.Abs

variable {Λ : List LoopInfo} {A : Heap} {k : KL}

/-- What an instruction reads and writes, and what follows. -/
structure Stp where
  reads : LI
  writes : LI
  next : List (Int × LI)
  nc : Bool

abbrev edgeA (e : Int × LI) : AV := .agg [iA e.1, liA e.2]
abbrev stpA (s : Stp) : AV := .agg [liA s.reads, liA s.writes, .frz (s.next.map edgeA) s.nc]
def stp0 : Stp := ⟨([], true), ([], true), [], true⟩

def shapeL (o : Int) : Int × Bool := ((shapeE.find? fun p => decide (p.1 = o)).map (·.2)).getD (0, false)
def shapeOf (c : Prog) (x : Ins) : Int × Bool := if x.op = 18 then (c.argsOf x.a, true) else shapeL x.op
def readsP (c : Prog) (x : Ins) (s e : Int) : LI := if x.op = 4 then ([60 + x.a], true) else if x.op = 6 ∨ x.op = 31 ∨ x.op = 32 then cntL 60 e else cntL (s - (shapeOf c x).1) (shapeOf c x).1
def writesP (c : Prog) (x : Ins) (s e : Int) : LI := if x.op = 9 then ([60 + e], true) else if x.op = 19 then cntL (60 + e) (c.namesOf x.a) else if (shapeOf c x).2 then ([s - (shapeOf c x).1], true) else ([], true)
def nextP (n : Int) (x : Ins) (w : LI) : List (Int × LI) :=
  if x.op = 8 ∨ x.op = 20 ∨ x.op = 34 then [] else if x.op = 11 then [(x.a, ([], true))] else if x.op = 12 then [(n + 1, ([], true)), (x.a, ([], true))]
  else if x.op = 19 then [(n + 1, w), (x.b, ([], true))] else [(n + 1, w)]
def stepP (c : Prog) (n : Int) (x : Ins) (s e : Int) : Stp := ⟨readsP c x s e, writesP c x s e, nextP n x (writesP c x s e), true⟩

abbrev prog7 (c : Prog) (out : List Dep) (v : AV) : AV := .agg [.frz (c.ins.map Ins.av) c.ic, .frz (c.pats.map Pat.av) c.pc, .frz (c.funs.map iA) c.fc, iA c.main, .frz (c.cons.map Con.av) c.cc, .frz (out.map depAV) true, v]

set_option maxHeartbeats 8000000 in
theorem w140 {B : Heap} {pid mid : Nat} {c : Prog} (hc : c.Fine) {out : List Dep} (ho : out.length = c.ins.length) {v : AV} (_hv : v.cells = [v]) (hp : ∀ l, hget (B ++ l) pid = .cells 7 [prog7 c out v]) (hm : ∀ l, hget (B ++ l) mid = shapeM) (_hpl : pid < B.length)
    (n : Nat) (hn : n < c.ins.length) (s e : Int) (hq : out[n]'(by omega) = (true, s, e)) (hs : 0 ≤ s ∧ s ≤ 60) (he : 0 ≤ e ∧ e ≤ 30) (hx : insOk c c.ins[n] = true) :
    @kCall EL Λ (.func (.func 140) [] []) [.ptr pid 0 0, iA n, .map mid] B k ↔ k.run (.ret (stpA (stepP c n c.ins[n] s e))) B := call_iff fun k hk => by
  have hno : n < out.length := by omega
  have hp0 := hp []
  simp only [List.append_nil] at hp0
  rw [k_fun rfl c140 (by simp) (by simp [F140])]
  simp [F140, hp, hn, hno, hq, bit_store, pick_cons, putAll, Nat.add_assoc]
  refine ⟨drawOk_few [15, 16, 17] (fun i x hx hi => ?_) (fun i hi j q p x y h1 h2 h3 h4 h5 h6 h7 e he => ?_), ?_⟩
  · have hl : i < 18 := by simpa using (List.getElem?_eq_some_iff.1 hx).1
    have hi2 : i ≠ 15 ∧ i ≠ 16 ∧ i ≠ 17 := by simpa using hi
    have hc : i = 0 ∨ i = 1 ∨ i = 2 ∨ i = 3 ∨ i = 4 ∨ i = 5 ∨ i = 6 ∨ i = 7 ∨ i = 8 ∨ i = 9 ∨ i = 10 ∨ i = 11 ∨ i = 12 ∨ i = 13 ∨ i = 14 := by omega
    rcases hc with rfl | rfl | rfl | rfl | rfl | rfl | rfl | rfl | rfl | rfl | rfl | rfl | rfl | rfl | rfl
    all_goals
      cases hx
      rfl
  · have hl : j < 18 := by simpa using (List.getElem?_eq_some_iff.1 h4).1
    have hc : j = 0 ∨ j = 1 ∨ j = 2 ∨ j = 3 ∨ j = 4 ∨ j = 5 ∨ j = 6 ∨ j = 7 ∨ j = 8 ∨ j = 9 ∨ j = 10 ∨ j = 11 ∨ j = 12 ∨ j = 13 ∨ j = 14 ∨ j = 15 ∨ j = 16 ∨ j = 17 := by omega
    simp only [List.mem_cons, List.not_mem_nil, or_false] at hi
    have dead : ∀ (m : Nat) (l : List Blk), l[m]? = some Blk.dead → hget (B ++ l) (B.length + m) = .dead := fun m l h => by
      rw [hget_app]; simp [hget, List.getD, h]
    rcases hi with rfl | rfl | rfl
    · have hc : j = 0 ∨ j = 1 ∨ j = 2 ∨ j = 3 ∨ j = 4 ∨ j = 5 ∨ j = 6 ∨ j = 7 ∨ j = 8 ∨ j = 9 ∨ j = 10 ∨ j = 11 ∨ j = 12 ∨ j = 13 ∨ j = 14 ∨ j = 16 ∨ j = 17 := by omega
      rcases hc with rfl | rfl | rfl | rfl | rfl | rfl | rfl | rfl | rfl | rfl | rfl | rfl | rfl | rfl | rfl | rfl | rfl
      case inr.inr.inr.inr.inr.inr.inr.inr.inr.inr.inr.inr.inr.inr.inr.inr => cases h2; exact absurd h7 (by decide)
      all_goals
        cases h3; cases h4; simp only [List.mem_cons, List.not_mem_nil, or_false] at he; subst he
        exact ⟨bit_dead (dead _ _ rfl) rfl, fun e' he' => by first | (cases he'; done) | (simp only [List.mem_cons, List.not_mem_nil, or_false] at he'; subst he'; simp)⟩
    · have hc : j = 0 ∨ j = 1 ∨ j = 2 ∨ j = 3 ∨ j = 4 ∨ j = 5 ∨ j = 6 ∨ j = 7 ∨ j = 8 ∨ j = 9 ∨ j = 10 ∨ j = 11 ∨ j = 12 ∨ j = 13 ∨ j = 14 ∨ j = 15 ∨ j = 17 := by omega
      rcases hc with rfl | rfl | rfl | rfl | rfl | rfl | rfl | rfl | rfl | rfl | rfl | rfl | rfl | rfl | rfl | rfl | rfl
      case inr.inr.inr.inr.inr.inr.inr.inr.inr.inr.inr.inr.inr.inr.inr.inr => cases h2; exact absurd h7 (by decide)
      all_goals
        cases h3; cases h4; simp only [List.mem_cons, List.not_mem_nil, or_false] at he; subst he
        exact ⟨bit_dead (dead _ _ rfl) rfl, fun e' he' => by first | (cases he'; done) | (simp only [List.mem_cons, List.not_mem_nil, or_false] at he'; subst he'; simp)⟩
    · cases h1
      have hj : ¬ (j ≤ 7 ∨ j = 15 ∨ j = 16) := fun hj => by
        have hc : j = 0 ∨ j = 1 ∨ j = 2 ∨ j = 3 ∨ j = 4 ∨ j = 5 ∨ j = 6 ∨ j = 7 ∨ j = 15 ∨ j = 16 := by omega
        rcases hc with rfl | rfl | rfl | rfl | rfl | rfl | rfl | rfl | rfl | rfl <;> exact absurd h6 (by decide)
      have hc : j = 8 ∨ j = 9 ∨ j = 10 ∨ j = 11 ∨ j = 12 ∨ j = 13 ∨ j = 14 := by omega
      rcases hc with rfl | rfl | rfl | rfl | rfl | rfl | rfl
      all_goals
        cases h3; cases h4; simp only [List.mem_cons, List.not_mem_nil, or_false] at he; subst he
        exact ⟨bit_dead (dead _ _ rfl) rfl, fun e' he' => by first | (cases he'; done) | (simp only [List.mem_cons, List.not_mem_nil, or_false] at he'; subst he'; simp)⟩
  have ha := argsOf_le hc (i := c.ins[n].a)
  have hnm := namesOf_le hc (i := c.ins[n].a)
  have hlen1 := hc.lens.1
  have hop := insOk_op hx
  have hlc := hc.len
  have wn := wrap_succ (j := n) (by omega)
  have e60 : IntKind.i64.wrap 60 = 60 := rfl
  generalize c.ins[n] = x at *
  obtain ⟨o, a, b⟩ := x
  simp only at hop ha hnm hk
  have wr : ∀ m : Int, -100000 ≤ m → m ≤ 100000 → IntKind.i64.wrap m = m := fun m h1 h2 => wrap_i64 (by omega) (by omega)
  have w1 := wr (s - 1) (by omega) (by omega)
  have w2 := wr (s - 2) (by omega) (by omega)
  have w0 := wr s (by omega) (by omega)
  have wa := wr (s - c.argsOf a) (by omega) (by omega)
  have z0 := s154 s 0 (by omega) (by omega)
  have z1 := s154 (s - 1) 1 (by omega) (by omega)
  have z2 := s154 (s - 2) 2 (by omega) (by omega)
  have za := s154 (s - c.argsOf a) (c.argsOf a) (by omega) (by omega)
  have ze := s154 60 e (by omega) (by omega)
  have zn := s154 (60 + e) (c.namesOf a) (by omega) (by omega)
  have y0 : ∀ {Λ : List LoopInfo} {A : Heap} {k : KL}, @kCall EL Λ (.func (.func 155) [] []) [iA 0] A k ↔ k.run (.ret (iA 60)) A := fun {Λ A k} => s155 0 (by omega) (by omega)
  have ye := fun {Λ : List LoopInfo} {A : Heap} {k : KL} => s155 (Λ := Λ) (A := A) (k := k) e (by omega) (by omega)
  have ef : ∀ {B : Heap} {k : Nat} {l : List Int} , freezeList (Abs.freeze 0 B (k + 1) false) (l.map iA) = some (l.map iA) := fun {B k l} => fz_map (fun x => rfl) l
  have nlt : ∀ m, ¬ (B.length + m < B.length) := fun m => by omega
  have bl : b ≤ 1000000000 ∧ -1000000000 ≤ b := by
    by_cases h19 : o = 19
    · subst h19; simp [insOk, rng] at hx; omega
    · by_cases hb : b = 0
      · omega
      · simp [insOk, h19, hb] at hx
  rcases op_cases o hop with rfl | rfl | rfl | rfl | rfl | rfl | rfl | rfl | rfl | rfl | rfl | rfl | rfl | rfl | rfl | rfl | rfl | rfl | rfl | rfl | rfl | rfl | rfl | rfl | rfl | rfl | rfl | rfl | rfl | rfl | rfl | rfl | rfl | rfl
  case inr.inr.inr.inl =>
    have hr : b = 0 ∧ 0 ≤ a ∧ a ≤ 29 := by simpa [insOk, rng] using hx
    have ya := fun {Λ : List LoopInfo} {A : Heap} {k : KL} => s155 (Λ := Λ) (A := A) (k := k) a (by omega) (by omega)
    simp [stepP, readsP, writesP, nextP, shapeOf, shapeL, shapeE] at hk
    simp [F140, hm, shapeE, w0, z0, wn, nlt, ya]
    exact hk
  case inr.inr.inr.inr.inr.inr.inr.inr.inr.inr.inr.inr.inr.inr.inr.inr.inr.inl =>
    have hr : b = 0 ∧ 0 ≤ a ∧ a ≤ (c.cons.length : Int) - 1 := by simpa [insOk, rng] using hx
    have h3 : a.toNat < c.cons.length := by omega
    have h4 : 0 ≤ a := by omega
    have h5 : a < (c.cons.length : Int) := by omega
    have e := show c.argsOf a = c.cons[a.toNat].args by simp [Prog.argsOf, h3]
    rw [e] at wa za
    simp [stepP, readsP, writesP, nextP, shapeOf, e] at hk
    simp [F140, hm, shapeE, wn, nlt, hp, h3, h4, h5, wa, za]
    exact hk
  case inr.inr.inr.inr.inr.inr.inr.inr.inr.inr.inr.inr.inr.inr.inr.inr.inr.inr.inl =>
    have hr : (0 ≤ a ∧ a ≤ (c.pats.length : Int) - 1) ∧ (0 ≤ b ∧ b ≤ (c.ins.length : Int) - 1) := by simpa [insOk, rng] using hx
    have hla : a.toNat < c.pats.length := by omega
    have hlt : a < (c.pats.length : Int) := by omega
    have e169 := s169 c.pats[a.toNat] (hc.ok.pat _ (List.getElem_mem hla)) (hc.pats _ (List.getElem_mem hla))
    have e := show c.namesOf a = c.pats[a.toNat].names by simp [Prog.namesOf, List.getD, hla]
    rw [e] at zn
    simp [stepP, readsP, writesP, nextP, shapeOf, shapeL, shapeE, e] at hk
    simp [F140, hm, shapeE, w1, z1, wn, nlt, hp, hla, hlt, hr.1.1, pat_cells, e169, ye, zn]
    exact hk
  all_goals
    simp [stepP, readsP, writesP, nextP, shapeOf, shapeL, shapeE] at hk
    simp [F140, hm, shapeE, w0, w1, w2, z0, z1, z2, wn, nlt, ye, y0, ze]
    exact hk

end Go.Proofs.YtgbfbhahnoafoaaGreatDoor

/- A code, opened by the program. -/
namespace Go.Proofs.YtgbfbhahnoafoaaGreatDoor
open Go Go.Abs

variable {Λ : List LoopInfo} {A : Heap} {k : KL}

def stepAt (c : Prog) (out : List Dep) (i : Nat) : Stp := if (out.getD i dep0).1 then stepP c i (c.ins.getD i ins0) (out.getD i dep0).2.1 (out.getD i dep0).2.2 else stp0
def stepsP (c : Prog) (out : List Dep) : List Stp := (List.range c.ins.length).map (stepAt c out)
abbrev progA (c : Prog) (out : List Dep) : AV := prog7 c out (.frz ((stepsP c out).map stpA) true)
abbrev progF (c : Prog) (out : List Dep) : AV := .fp [progA c out] 0 0

/-- What the call answers. -/
def openedA (c : Prog) : AV := if codeOk c then match depthsP c with
    | some out => .tuple [progF c out, iA 0]
    | none => .tuple [.nilp, iA 7]
  else .tuple [.nilp, iA 2]

theorem depthsP_sp {c : Prog} (hc : c.Ok) (hok : codeOk c = true) {out : List Dep} (h : depthsP c = some out) : Sp c out := by
  obtain ⟨hf, hfun, _, _⟩ := codeOk_fine hc hok
  exact (depthsR_sp hf hfun out).1 ((depths_eq hf hfun).symm.trans h)

/-- What is reached is within bounds. -/
theorem Sp.bounds {c : Prog} {out : List Dep} (h : Sp c out) {n : Nat} (hn : (out.getD n dep0).1 = true) : n < c.ins.length ∧ 0 ≤ (out.getD n dep0).2.1 ∧ (out.getD n dep0).2.1 ≤ 60 ∧ 0 ≤ (out.getD n dep0).2.2 ∧ (out.getD n dep0).2.2 ≤ 30 := by
  obtain ⟨c1, c2, c3, c4, c5, c6, c7⟩ := (h.all _ (h.only n hn)).1
  exact ⟨by simpa using c2, c3, c4, c5, c6⟩

/-- The steps of the first instructions. -/
def stepsTo (c : Prog) (out : List Dep) (j : Nat) : List Stp := (List.range c.ins.length).map fun i => if i < j then stepAt c out i else stp0

theorem stepsTo_set {c : Prog} {out : List Dep} {j : Nat} : (stepsTo c out j).set j (stepAt c out j) = stepsTo c out (j + 1) := by
  apply List.ext_getElem (by simp [stepsTo])
  intro i h1 h2
  simp [stepsTo] at h1 h2 ⊢
  rw [List.getElem_set]
  simp
  by_cases h : j = i
  · subst h; simp
  · have : i < j ↔ i < j + 1 := by omega
    simp [h, this]

theorem stepsTo_skip {c : Prog} {out : List Dep} {j : Nat} (h : stepAt c out j = stp0) : stepsTo c out (j + 1) = stepsTo c out j := by
  unfold stepsTo
  apply List.map_congr_left
  intro i _
  by_cases hij : i = j
  · subst hij; simp [h]
  · have : i < j ↔ i < j + 1 := by omega
    simp [this]

theorem stepsTo_all {c : Prog} {out : List Dep} : stepsTo c out c.ins.length = stepsP c out := by
  unfold stepsTo stepsP
  apply List.map_congr_left
  intro i hi
  simp [List.mem_range.1 hi]

theorem s97 (c : Prog) (hc : c.Ok) : Comes 97 [c.av] (openedA c) := fun Λ A k => call_iff fun k hk => by
  rw [k_apart rfl c97 rfl (by simp [F97]) (by simp)]
  have ed := s138 c hc
  unfold depthsPA at ed
  unfold openedA at hk
  cases hok : codeOk c with
  | false =>
    rw [hok] at ed hk
    simp at ed hk
    simp [F97, ed]
    exact hk
  | true =>
  rw [hok] at ed hk
  simp only [if_true] at ed hk
  cases hd : depthsP c with
  | none =>
    rw [hd] at ed hk
    simp at ed hk
    simp [F97, ed]
    exact hk
  | some out =>
  rw [hd] at ed hk
  simp at ed hk
  obtain ⟨hf, hfun, hfl, hil⟩ := codeOk_fine hc hok
  have hmx : (c.ins.length : Int) * 72 ≤ maxBytes := by simp [maxBytes]; omega
  have hmx2 : c.ins.length * 72 ≤ maxBytes := by simp [maxBytes]; omega
  have hmx3 : (c.ins.length : Int) ≤ 9223372036854775807 := by omega
  simp [F97, ed, mkSliceA, hmx, hmx3, bit_len, putAll]
  refine ⟨drawOk_last (ds := [_, _, _, _, _]) (by simp) (fun x hx e he => ?_) rfl, ?_⟩
  · have he' : e.1 = 6 := by simp at he; rw [he]
    rw [he']
    simp only [List.mem_cons, List.not_mem_nil, or_false] at hx
    rcases hx with rfl | rfl | rfl | rfl | rfl <;> exact bit_dead rfl rfl
  simp [s139]
  have hsp := depthsP_sp hc hok hd
  refine k_for (fun j f B => 9 ≤ B.length ∧ hget B 7 = .cells 7 [prog7 c out (.own 6 0 c.ins.length true)] ∧ hget B 6 = .cells 3 ((stepsTo c out j).map stpA) ∧ hget B 8 = shapeM ∧ f 4 = .frz (out.map depAV) true ∧ f 6 = .ptr 7 0 0 ∧ f 7 = .map 8 ∧ f 28 = iA c.ins.length ∧ f 29 = iA j) c.ins.length
    ⟨by simp, by simp [hget], by simp [hget, stepsTo, stp0, List.map_const'], by simp [hget], by simp, by simp, by simp, by simp, by simp⟩ ?_
  rintro j f B hj ⟨hl, h7, h6, h8, f4, f6, f7, f28, f29⟩
  by_cases hlt : j < c.ins.length
  · have hjo : j < out.length := by rw [hsp.len]; exact hlt
    have hgd : out.getD j dep0 = out[j] := by simp [List.getD, hjo]
    have hgi : c.ins.getD j ins0 = c.ins[j] := by simp [List.getD, hlt]
    obtain ⟨q, s, e, hq⟩ : ∃ q s e, out[j] = (q, s, e) := ⟨_, _, _, rfl⟩
    cases q with
    | false =>
      have hst : stepAt c out j = stp0 := by unfold stepAt; rw [hgd, hq]; simp
      simp [f4, f28, f29, hlt, hjo, hq, wrap_succ (j := j) (by omega)]
      exact ⟨by omega, _, rfl, hl, h7, by rw [stepsTo_skip hst]; exact h6, h8, by simp [f4], by simp [f6], by simp [f7], by simp [f28], by simp⟩
    | true =>
      have hb := hsp.bounds (n := j) (by rw [hgd, hq])
      rw [hgd, hq] at hb
      simp only at hb
      have hst : stepAt c out j = stepP c j c.ins[j] s e := by unfold stepAt; rw [hgd, hgi, hq]; simp
      have e140 := fun {Λ : List LoopInfo} {k : KL} => w140 (Λ := Λ) (k := k) (B := B) (pid := 7) (mid := 8) hf hsp.len (v := .own 6 0 c.ins.length true) rfl (fun l => by rw [hget_app_lt (by omega)]; exact h7) (fun l => by rw [hget_app_lt (by omega)]; exact h8) (by omega) j hlt s e hq ⟨hb.2.1, hb.2.2.1⟩ ⟨hb.2.2.2.1, hb.2.2.2.2⟩ (hf.ins _ (List.getElem_mem hlt))
      have hsl : (stepsTo c out j)[j]? = some stp0 := by simp [stepsTo, hlt]
      have h7' : 6 < B.length := by omega
      simp [f4, f6, f7, f28, f29, hlt, hjo, hq, h7, e140, h6, hsl, hset_lt h7', wrap_succ (j := j) (by omega)]
      refine ⟨by omega, _, rfl, by simpa using hl, ?_, ?_, ?_, by simp [f4], by simp [f6], by simp [f7], by simp [f28], by simp⟩
      · rw [← h7]; simp [hget]
      · have : hget (B.set 6 (Blk.cells 3 (((stepsTo c out j).set j (stepP c j c.ins[j] s e)).map stpA))) 6 = Blk.cells 3 (((stepsTo c out j).set j (stepP c j c.ins[j] s e)).map stpA) := by simp [hget, h7']
        rw [← stepsTo_set, hst, ← this]
        simp [List.map_set]
      · rw [← h8]; simp [hget]
  · obtain rfl : j = c.ins.length := by omega
    rw [stepsTo_all] at h6
    have hle : c.ins.length ≤ (stepsP c out).length := by simp [stepsP]
    have htk : List.take c.ins.length ((stepsP c out).map stpA) = (stepsP c out).map stpA := List.take_of_length_le (by simp [stepsP])
    have hfz : ∀ {B : Heap} {k : Nat}, freezeList (Abs.freeze 0 B (k + 3) false) ((stepsP c out).map stpA) = some ((stepsP c out).map stpA) := fun {B k} => fz_map (fun x => rfl) _
    simp [f6, f28, f29, F97, h7, h6, fz_ptr, fz_own, hle, htk, hfz]
    exact hk

end Go.Proofs.YtgbfbhahnoafoaaGreatDoor

/- The instructions that are reached, one after the other; starts. -/
namespace Go.Proofs.YtgbfbhahnoafoaaGreatDoor
open Go Go.Abs

variable {Λ : List LoopInfo} {A : Heap} {k : KL}

abbrev reachedF (c : Prog) (out : List Dep) : AV := .func (.func 142) [] [.fp [progF c out] 0 0]

theorem s102 (c : Prog) (out : List Dep) : Comes 102 [progF c out] (reachedF c out) := fun Λ A k => by
  rw [k_apart rfl c102 rfl (by simp [F102]) (by simp)]
  simp [F102, fz_func, fz_ptr]

theorem w142 {l : Nat} {B : Heap} (c : Prog) (out : List Dep) (hlen : out.length ≤ 1000000) (I : Nat → Heap → Prop) (h0 : I 0 B) (hI : ∀ j B' l, I j B' → I j (B' ++ l))
    (skip : ∀ j B (hj : j < out.length), (out[j]).1 = false → I j B → I (j + 1) B)
    (step : ∀ j B (hj : j < out.length), (out[j]).1 = true → I j B → SplitsL Λ B (.yld l) [iA j] (I (j + 1)) (fun _ => False))
    (hend : ∀ B, I out.length B → k.run (.ret (.tuple [])) B) : @kCall EL Λ (reachedF c out) [.yld l] B k := by
  rw [k_fun rfl c142 (by simp) (by simp [F142])]
  simp [F142]
  refine k_for (fun j f B => I j B ∧ f 0 = .yld l ∧ f 1 = .fp [progF c out] 0 0 ∧ f 8 = .frz (out.map depAV) true ∧ f 9 = iA out.length ∧ f 10 = iA j) out.length ⟨h0, by simp, by simp, by simp, by simp, by simp⟩ ?_
  rintro j f B hj ⟨hi, f0, f1, f8, f9, f10⟩
  by_cases hlt : j < out.length
  · obtain ⟨q, s, e, hq⟩ : ∃ q s e, out[j] = (q, s, e) := ⟨_, _, _, rfl⟩
    cases q with
    | false =>
      simp [f8, f9, f10, hlt, hq, hset, wrap_succ (j := j) (by omega)]
      exact ⟨by omega, _, rfl, hI _ _ _ (skip j B hlt (by rw [hq]) hi), by simp [f0], by simp [f1], by simp [f8], by simp [f9], by simp⟩
    | true =>
      simp [f0, f8, f9, f10, hlt, hq, hset]
      refine step j _ hlt (by rw [hq]) (hI _ _ _ hi) _ (fun B' h' => ?_) (fun B' h' => h'.elim)
      simp [f10, wrap_succ (j := j) (by omega)]
      exact ⟨by omega, _, rfl, h', by simp [f0], by simp [f1], by simp [f8], by simp [f9], by simp⟩
  · obtain rfl : j = out.length := by omega
    simp [f9, f10, F142]
    exact hend _ hi

theorem foldl_take {X Y : Type} {g : Y → X → Y} {b : Y} {l : List X} {j : Nat} (hj : j < l.length) : (l.take (j + 1)).foldl g b = g ((l.take j).foldl g b) l[j] := by
  rw [List.take_succ_eq_append_getElem hj, List.foldl_append]; rfl

/-! ### Starts -/

def opens (o : Int) : Bool := decide (o = 6 ∨ o = 31 ∨ o = 32)
/-- What one instruction makes a start. -/
def startB (c : Prog) (out : List Dep) (l : List Bool) (n : Nat) : List Bool := if (out.getD n dep0).1 && opens (c.ins.getD n ins0).op then l.set (c.ins.getD n ins0).a.toNat true else l
def funsB (c : Prog) : List Bool := c.funs.foldl (fun l f => l.set f.toNat true) (List.replicate c.ins.length false)
def startsTo (c : Prog) (out : List Dep) (j : Nat) : List Bool := ((List.range c.ins.length).take j).foldl (startB c out) (funsB c)
def startsL (c : Prog) (out : List Dep) : List Bool := (List.range c.ins.length).foldl (startB c out) (funsB c)

theorem startB_len {c : Prog} {out : List Dep} {l : List Bool} {n : Nat} : (startB c out l n).length = l.length := by
  unfold startB; split <;> simp
theorem foldl_len {X Y : Type} {g : List Y → X → List Y} (h : ∀ l x, (g l x).length = l.length) : ∀ (xs : List X) (l : List Y), (xs.foldl g l).length = l.length
  | [], l => rfl
  | x :: xs, l => by rw [List.foldl_cons, foldl_len h xs, h]
theorem funsB_len {c : Prog} : (funsB c).length = c.ins.length := by
  unfold funsB; rw [foldl_len (by simp)]; simp
theorem startsTo_len {c : Prog} {out : List Dep} {j : Nat} : (startsTo c out j).length = c.ins.length := by
  unfold startsTo; rw [foldl_len (fun l x => startB_len), funsB_len]
theorem startsL_len {c : Prog} {out : List Dep} : (startsL c out).length = c.ins.length := by
  unfold startsL; rw [foldl_len (fun l x => startB_len), funsB_len]
theorem startsTo_succ {c : Prog} {out : List Dep} {j : Nat} (hj : j < c.ins.length) : startsTo c out (j + 1) = startB c out (startsTo c out j) j := by
  unfold startsTo
  rw [foldl_take (by simpa using hj)]
  simp
theorem startsTo_all {c : Prog} {out : List Dep} : startsTo c out c.ins.length = startsL c out := by
  unfold startsTo startsL
  rw [List.take_of_length_le (by simp)]

end Go.Proofs.YtgbfbhahnoafoaaGreatDoor

/- The starts, as the program finds them. -/
namespace Go.Proofs.YtgbfbhahnoafoaaGreatDoor
open Go Go.Abs

variable {Λ : List LoopInfo} {A : Heap} {k : KL}

theorem hget_set {H : Heap} {i j : Nat} {b : Blk} (hi : i < H.length) : hget (H.set i b) j = if j = i then b else hget H j := by
  unfold hget List.getD
  rw [List.getElem?_set]
  by_cases h : i = j
  · subst h; simp [hi]
  · simp [h, Ne.symm h]

theorem Sp.fun {c : Prog} {out : List Dep} (h : Sp c out) {f : Int} (hf : f ∈ c.funs) : 0 ≤ f ∧ f < c.ins.length ∧ out.getD f.toNat dep0 = (true, 0, 1) := by
  obtain ⟨⟨c1, c2, _⟩, h2⟩ := h.all _ (.start f hf)
  exact ⟨c1, c2, h2⟩

/-- What stands while starts are looked for. -/
structure St101 (c : Prog) (out : List Dep) (B : Heap) (r : Blk) (j : Nat) (H : Heap) : Prop where
  len : B.length + 4 ≤ H.length
  old : ∀ i, i < B.length → hget H i = hget B i
  prog : hget H B.length = .cells 1 [progF c out]
  bits : hget H (B.length + 1) = .cells 1 ((startsTo c out j).map .bool)
  ref : hget H (B.length + 2) = .cells 1 [.own (B.length + 1) 0 c.ins.length true]
  lp : hget H (B.length + 3) = r

theorem St101.app {c : Prog} {out : List Dep} {B : Heap} {r : Blk} {j : Nat} {H : Heap} (h : St101 c out B r j H) (l : List Blk) : St101 c out B r j (H ++ l) := by
  have := h.len
  refine ⟨by simp; omega, fun i hi => ?_, ?_, ?_, ?_, ?_⟩
  · rw [hget_app_lt (by omega)]; exact h.old i hi
  · rw [hget_app_lt (by omega)]; exact h.prog
  · rw [hget_app_lt (by omega)]; exact h.bits
  · rw [hget_app_lt (by omega)]; exact h.ref
  · rw [hget_app_lt (by omega)]; exact h.lp

theorem St101.loop {c : Prog} {out : List Dep} {B : Heap} {r r' : Blk} {j : Nat} {H : Heap} (h : St101 c out B r j H) : St101 c out B r' j (H.set (B.length + 3) r') := by
  have := h.len
  have hs : ∀ i, hget (H.set (B.length + 3) r') i = if i = B.length + 3 then r' else hget H i := fun i => hget_set (by omega)
  refine ⟨by simpa using h.len, fun i hi => ?_, ?_, ?_, ?_, ?_⟩ <;> rw [hs]
  · rw [if_neg (by omega)]; exact h.old i hi
  · rw [if_neg (by omega)]; exact h.prog
  · rw [if_neg (by omega)]; exact h.bits
  · rw [if_neg (by omega)]; exact h.ref
  · rw [if_pos rfl]

theorem St101.put {c : Prog} {out : List Dep} {B : Heap} {r : Blk} {j j' : Nat} {H : Heap} (h : St101 c out B r j H) : St101 c out B r j' (H.set (B.length + 1) (.cells 1 ((startsTo c out j').map .bool))) := by
  have := h.len
  have hs : ∀ i, hget (H.set (B.length + 1) (.cells 1 ((startsTo c out j').map .bool))) i = if i = B.length + 1 then .cells 1 ((startsTo c out j').map .bool) else hget H i := fun i => hget_set (by omega)
  refine ⟨by simpa using h.len, fun i hi => ?_, ?_, ?_, ?_, ?_⟩ <;> rw [hs]
  · rw [if_neg (by omega)]; exact h.old i hi
  · rw [if_neg (by omega)]; exact h.prog
  · rw [if_pos rfl]
  · rw [if_neg (by omega)]; exact h.ref
  · rw [if_neg (by omega)]; exact h.lp

theorem w101 {B : Heap} (c : Prog) (hf : c.Fine) (out : List Dep) (hsp : Sp c out) (hil : c.ins.length ≤ 1500) (hfl : c.funs.length ≤ 300)
    (hk : ∀ B', B.length + 1 < B'.length → hget B' (B.length + 1) = .cells 1 ((startsL c out).map .bool) → (∀ i, i < B.length → hget B' i = hget B i) → k.run (.ret (.own (B.length + 1) 0 c.ins.length true)) B') :
    @kCall EL Λ (.func (.func 101) [] []) [progF c out] B k := by
  have hmx : (c.ins.length : Int) ≤ maxBytes := by simp [maxBytes]; omega
  have hmx2 : c.ins.length ≤ maxBytes := by simp [maxBytes]; omega
  have hmx3 : (c.ins.length : Int) ≤ 9223372036854775807 := by omega
  rw [k_fun rfl c101 (by simp [show EL.apart 101 = false from rfl]) (by simp [F101])]
  simp [F101, hset, mkSliceA, hmx, hmx3]
  refine k_for (fun j f H => H = B ++ [.cells 1 [progF c out], .cells 1 (((c.funs.take j).foldl (fun l f => l.set f.toNat true) (List.replicate c.ins.length false)).map .bool), .cells 1 [.own (B.length + 1) 0 c.ins.length true]] ∧ f 1 = .ptr B.length 0 0 ∧ f 3 = .ptr (B.length + 2) 0 0 ∧ f 19 = .frz (c.funs.map iA) c.fc ∧ f 20 = iA c.funs.length ∧ f 21 = iA j) c.funs.length
    ⟨by simp, by simp, by simp, by simp, by simp, by simp⟩ ?_
  rintro j f H hj ⟨rfl, f1, f3, f19, f20, f21⟩
  by_cases hlt : j < c.funs.length
  · obtain ⟨g1, g2, g3⟩ := hsp.fun (List.getElem_mem hlt)
    have g4 : c.funs[j].toNat < out.length := by rw [hsp.len]; omega
    have g5 : c.funs[j] < (out.length : Int) := by rw [hsp.len]; exact g2
    have g6 : out[c.funs[j].toNat] = (true, 0, 1) := by
      have : out.getD c.funs[j].toNat dep0 = out[c.funs[j].toNat] := by simp [List.getD, g4]
      rw [← this]; exact g3
    have hln : ∀ (l : List Int) (b : List Bool), (l.foldl (fun l f => l.set f.toNat true) b).length = b.length := fun l b => foldl_len (by simp) l b
    have g7 : c.funs[j].toNat < ((c.funs.take j).foldl (fun l f => l.set f.toNat true) (List.replicate c.ins.length false)).length := by rw [hln]; simp; omega
    have g9 : c.funs[j].toNat < c.ins.length := by omega
    simp [f1, f3, f19, f20, f21, hlt, g1, g2, g4, g5, g6, g9, hln, hset, wrap_succ (j := j) (by omega)]
    refine ⟨by omega, _, rfl, ?_, by simp [f1], by simp [f3], by simp [f19], by simp [f20], by simp⟩
    rw [foldl_take hlt, List.map_set]
  · obtain rfl : j = c.funs.length := by omega
    rw [List.take_length]
    simp [f1, f20, f21, s102]
    refine k_rangeF rfl ?_
    simp
    have h0 : St101 c out B (.loop true none) 0 (B ++ [.cells 1 [progF c out], .cells 1 ((funsB c).map .bool), .cells 1 [.own (B.length + 1) 0 c.ins.length true], .loop true none]) := by
      refine ⟨by simp, fun i hi => hget_app_lt hi, by simp [hget_app0], by simp [hget_app]; rfl, by simp [hget_app], by simp [hget_app]⟩
    refine w142 c out (by rw [hsp.len]; omega) (St101 c out B (.loop true none)) h0 (fun j B' l h => h.app l) (fun j H hj hr h => ?_) (fun j H hj hr h => ?_) (fun H h => ?_)
    · have hj' : j < c.ins.length := by rw [← hsp.len]; exact hj
      have e : startsTo c out (j + 1) = startsTo c out j := by
        rw [startsTo_succ hj']
        unfold startB
        have : out.getD j dep0 = out[j] := by simp [List.getD, hj]
        rw [this, hr]; rfl
      refine ⟨h.len, h.old, h.prog, by rw [e]; exact h.bits, h.ref, h.lp⟩
    · intro k kT kF
      have hj' : j < c.ins.length := by rw [← hsp.len]; exact hj
      have hgd : out.getD j dep0 = out[j] := by simp [List.getD, hj]
      have hgi : c.ins.getD j ins0 = c.ins[j] := by simp [List.getD, hj']
      have hst : startsTo c out (j + 1) = if opens c.ins[j].op then (startsTo c out j).set c.ins[j].a.toNat true else startsTo c out j := by
        rw [startsTo_succ hj']
        unfold startB
        rw [hgd, hgi, hr]; simp
      refine k_yld0 rfl ?_
      simp
      refine ⟨h.lp, ?_⟩
      have h2 := h.loop (r' := .loop false none)
      generalize H.set (B.length + 3) (.loop false none) = H2 at h2 ⊢
      have p1 : ∀ l, hget (H2 ++ l) B.length = _ := fun l => (h2.app l).prog
      have p2 : ∀ l, hget (H2 ++ l) (B.length + 1) = _ := fun l => (h2.app l).bits
      have p3 : ∀ l, hget (H2 ++ l) (B.length + 2) = _ := fun l => (h2.app l).ref
      have p0 : hget H2 B.length = _ := h2.prog
      have hl2 := h2.len
      have hl3 : B.length + 1 < H2.length := by omega
      have hi := hf.ins _ (List.getElem_mem hj')
      have ho := insOk_op hi
      obtain ⟨o, a, b, hx⟩ : ∃ o a b, c.ins[j] = (⟨o, a, b⟩ : Ins) := ⟨_, _, _, rfl⟩
      rw [hx] at hi ho hst
      simp only at hst ho
      by_cases hop : o = 6 ∨ o = 31 ∨ o = 32
      · have hr : 0 ≤ a ∧ a ≤ (c.ins.length : Int) - 1 := by
          rcases hop with rfl | rfl | rfl <;> (by_cases hb : b = 0 <;> simp [insOk, rng, hb] at hi; exact hi)
        have hop2 : opens o = true := by simpa [opens] using hop
        have q1 : a.toNat < (startsTo c out j).length := by rw [startsTo_len]; omega
        have q2 : a < (c.ins.length : Int) := by omega
        have q3 : a.toNat < c.ins.length := by omega
        have hput := (h2.app [Blk.cells 3 [AV.agg [iA o, iA a, iA b]]]).put (j' := j + 1)
        have hst' : startsTo c out (j + 1) = (startsTo c out j).set a.toNat true := by rw [hst]; simp [hop2]
        have hfin := hput.loop (r' := .loop true none)
        have hlp := hput.lp
        have hBl : B.length < H2.length := by omega
        rw [hst', List.map_set] at hfin hlp
        rcases hop with rfl | rfl | rfl
        all_goals
          simp [f1, f3, p0, p2, p3, hj', hx, hset, hr.1, q2, q3, startsTo_len, hBl, hlp]
          refine kT _ ?_
          simpa using hfin
      · have hop2 : opens o = false := by simpa [opens] using hop
        have hst' : startsTo c out (j + 1) = startsTo c out j := by rw [hst]; simp [hop2]
        have h3 := h2.app [Blk.cells 3 [AV.agg [iA o, iA a, iA b]]]
        have hfin := h3.loop (r' := .loop true none)
        have hlp := h3.lp
        have n6 : o ≠ 6 := fun h => hop (.inl h)
        have n31 : o ≠ 31 := fun h => hop (.inr (.inl h))
        have n32 : o ≠ 32 := fun h => hop (.inr (.inr h))
        simp [f1, p0, hj', hx, hset, n6, n31, n32, hlp]
        refine kT _ ?_
        have : ∀ {r : Blk} {H : Heap}, St101 c out B r j H → St101 c out B r (j + 1) H := fun h => ⟨h.len, h.old, h.prog, by rw [hst']; exact h.bits, h.ref, h.lp⟩
        exact this (by simpa using hfin)
    · rw [hsp.len, ] at h
      have h1 := h.len
      have hb := h.bits
      rw [startsTo_all] at hb
      have h2 := h.loop (r' := .dead)
      refine (kre_ok (by simpa using h.lp)).2 ?_
      simp [f3]
      have e2 := h2.ref
      have e1 := h2.bits
      rw [startsTo_all] at e1
      have e0 := h2.old
      have el := h2.len
      generalize H.set (B.length + 3) .dead = H3 at e0 e1 e2 el ⊢
      simp [e2]
      exact hk H3 (by omega) e1 e0

end Go.Proofs.YtgbfbhahnoafoaaGreatDoor

/- Starts. -/
namespace Go.Proofs.YtgbfbhahnoafoaaGreatDoor
open Go Go.Abs

variable {Λ : List LoopInfo} {A : Heap} {k : KL}

theorem frozen_own' {B : Heap} {es : List AV} {v : AV} {b esz : Nat} (h : Gathers B esz v es) (hc : ∀ i o m cl, v = .own i o m cl → cl = false) (hes : ∀ k, freezeList (Abs.freeze 0 B (k + 10) false) es = some es) : Abs.freeze 0 B (b + 11) true v = some (.frz es es.isEmpty) := by
  rcases h with ⟨rfl, rfl⟩ | ⟨id, c, rfl, h1, h2, h3⟩
  · rfl
  · obtain rfl := hc _ _ _ _ rfl
    rw [show b + 11 = (b + 10) + 1 from rfl, fz_own, h2]
    have : es.isEmpty = false := by cases es <;> simp_all
    simp [hes, this]

/-- The numbers that are marked, of the first ones. -/
def marked (l : List Bool) (j : Nat) : List Nat := (List.range j).filter fun n => l.getD n false

theorem marked_succ {l : List Bool} {j : Nat} : marked l (j + 1) = if l.getD j false then marked l j ++ [j] else marked l j := by
  unfold marked
  rw [List.range_succ, List.filter_append]
  simp only [List.filter_cons, List.filter_nil]
  cases l.getD j false <;> simp

abbrev startA (out : List Dep) (n : Nat) : AV := .agg [iA n, iA (out.getD n dep0).2.2]
def startsLA (c : Prog) (out : List Dep) : AV := .frz ((marked (startsL c out) c.ins.length).map (startA out)) (marked (startsL c out) c.ins.length).isEmpty

def startsPA (c : Prog) : AV := if codeOk c then match depthsP c with
    | some out => .tuple [startsLA c out, iA 0]
    | none => .tuple [.frz [] true, iA 7]
  else .tuple [.frz [] true, iA 2]

theorem marked_len (l : List Bool) (j : Nat) : (marked l j).length ≤ j := by
  unfold marked
  exact Nat.le_trans (List.length_filter_le ..) (by simp)

theorem s37 (c : Prog) (hc : c.Ok) : Comes 37 [c.av] (startsPA c) := fun Λ A k => call_iff fun k hk => by
  rw [k_apart rfl c37 rfl (by simp [F37]) (by simp)]
  have eo := s97 c hc
  unfold openedA at eo
  unfold startsPA at hk
  cases hok : codeOk c with
  | false =>
    rw [hok] at eo hk
    simp at eo hk
    simp [F37, eo]
    exact hk
  | true =>
  rw [hok] at eo hk
  simp only [if_true] at eo hk
  cases hd : depthsP c with
  | none =>
    rw [hd] at eo hk
    simp at eo hk
    simp [F37, eo]
    exact hk
  | some out =>
  rw [hd] at eo hk
  simp at eo hk
  obtain ⟨hf, hfun, hfl, hil⟩ := codeOk_fine hc hok
  have hsp := depthsP_sp hc hok hd
  simp [F37, eo]
  refine w101 c hf out hsp hil hfl (fun B' hl hb ho => ?_)
  simp at hl hb ⊢
  refine k_for (fun j f H => 2 < H.length ∧ hget H 2 = .cells 1 ((startsL c out).map .bool) ∧ f 4 = progF c out ∧ f 18 = .own 2 0 c.ins.length true ∧ f 19 = iA c.ins.length ∧ f 20 = iA j ∧ Gathers H 2 (f 6) ((marked (startsL c out) j).map (startA out)) ∧ (∀ i o m cl, f 6 = .own i o m cl → cl = false) ∧ (∀ i, (f 6).blockIs i → i ≠ 2)) c.ins.length
    ⟨hl, hb, by simp, by simp, by simp, by simp, .inl ⟨by simp, by simp [marked]⟩, fun i o m cl h => by simp at h, fun i hi => by obtain ⟨o, n, cc, hv⟩ := hi; simp at hv⟩ ?_
  rintro j f H hj ⟨hl, hb, f4, f18, f19, f20, hG, hcl, hid⟩
  by_cases hlt : j < c.ins.length
  · have hjs : j < (startsL c out).length := by rw [startsL_len]; exact hlt
    have hjo : j < out.length := by rw [hsp.len]; exact hlt
    have hgs : (startsL c out).getD j false = (startsL c out)[j] := by simp [List.getD, hjs]
    have hgo : out.getD j dep0 = out[j] := by simp [List.getD, hjo]
    cases hq : (startsL c out)[j] with
    | false =>
      simp [f18, f19, f20, hb, hlt, hq, startsL_len, wrap_succ (j := j) (by omega)]
      exact ⟨by omega, _, rfl, hl, hb, by simp [f4], by simp [f18], by simp [f19], by simp, by rw [marked_succ, hgs, hq]; simpa using hG, by simpa using hcl, by simpa using hid⟩
    | true =>
      have hml := marked_len (startsL c out) j
      have hGA := hG.append (l := [Blk.cells 2 [startA out j]])
      obtain ⟨o, ho', hG2, hl2, hk2, hv2⟩ := gather_append (bytes := 16) (y := .own H.length 0 1 true) (new := [startA out j]) hGA (by simp) (fun s h => by cases h) (by simp)
        (fun e he => by
          rcases List.mem_append.1 he with he | he
          · simp only [List.mem_map] at he; obtain ⟨x, _, rfl⟩ := he; rfl
          · simp only [List.mem_singleton] at he; subst he; rfl) (by simp [maxBytes]; omega) (by simp; omega)
      have hs2 : startA out j = .agg [.int .i64 j, .int .i64 (out[j]).2.2] := by rw [startA, hgo]
      rw [hs2] at ho' hl2 hk2 hG2
      simp at ho' hl2
      simp [f4, f18, f19, f20, hb, hlt, hjo, hq, startsL_len, ho', wrap_succ (j := j) (by omega)]
      simp at hk2 hv2
      refine ⟨by omega, _, rfl, by omega, ?_, by simp [f4], by simp [f18], by simp [f19], by simp, ?_, ?_, ?_⟩
      · rw [hk2 2 (by omega) (fun h => hid 2 h rfl), hget_app_lt hl]; exact hb
      · rw [marked_succ, hgs, hq]
        simp only [if_true, List.map_append, List.map_cons, List.map_nil, hs2]
        simpa using hG2
      · intro i o m cl h
        simp at h
        rw [hv2] at h
        cases h; rfl
      · intro i hi
        simp at hi
        rw [hv2] at hi
        obtain ⟨o, n, cc, hv⟩ := hi
        cases hv
        omega
  · obtain rfl : j = c.ins.length := by omega
    have hfz := frozen_own' (b := 52) hG hcl (fun k => fz_map (fun x => rfl) _)
    simp [f19, f20, F37, hfz]
    simpa [startsLA] using hk

end Go.Proofs.YtgbfbhahnoafoaaGreatDoor

/- The evaluator again, made to be run by the kernel: its functions look at one thing alone, by recursors; registers lie in a tree. First: lists, registers, values. -/
namespace Go.Abs

noncomputable section

/-! ### Lists -/

def lget? {X : Type} : List X → Nat → Option X := fun l => @List.rec X (fun _ => Nat → Option X) (fun _ => none) (fun a _ ih i => @Nat.rec (fun _ => Option X) (some a) (fun j _ => ih j) i) l
def lset {X : Type} : List X → Nat → X → List X := fun l => @List.rec X (fun _ => Nat → X → List X) (fun _ _ => []) (fun a tl ih i v => @Nat.rec (fun _ => List X) (v :: tl) (fun j _ => a :: ih j v) i) l
def llen {X : Type} : List X → Nat := fun l => @List.rec X (fun _ => Nat) 0 (fun _ _ ih => Nat.add ih 1) l
def lapp {X : Type} : List X → List X → List X := fun l => @List.rec X (fun _ => List X → List X) (fun m => m) (fun a _ ih m => a :: ih m) l
def ltake {X : Type} : List X → Nat → List X := fun l => @List.rec X (fun _ => Nat → List X) (fun _ => []) (fun a _ ih i => @Nat.rec (fun _ => List X) [] (fun j _ => a :: ih j) i) l
def ldrop {X : Type} : List X → Nat → List X := fun l => @List.rec X (fun _ => Nat → List X) (fun _ => []) (fun a tl ih i => @Nat.rec (fun _ => List X) (a :: tl) (fun j _ => ih j) i) l
def lall {X : Type} (p : X → Bool) : List X → Bool := fun l => @List.rec X (fun _ => Bool) true (fun a _ ih => @Bool.rec (fun _ => Bool) false ih (p a)) l
def lmap {X Y : Type} (f : X → Y) : List X → List Y := fun l => @List.rec X (fun _ => List Y) [] (fun a _ ih => f a :: ih) l

theorem lget?_eq {X : Type} : ∀ (l : List X) (i : Nat), lget? l i = l[i]?
  | [], i => rfl
  | a :: l, 0 => rfl
  | a :: l, i + 1 => by
    rw [List.getElem?_cons_succ, ← lget?_eq l i]; rfl
theorem lset_eq {X : Type} : ∀ (l : List X) (i : Nat) (v : X), lset l i v = l.set i v
  | [], _i, _v => rfl
  | _a :: _l, 0, _v => rfl
  | a :: l, i + 1, v => congrArg (a :: ·) (lset_eq l i v)
theorem llen_eq {X : Type} : ∀ l : List X, llen l = l.length
  | [] => rfl
  | _a :: l => congrArg (· + 1) (llen_eq l)
theorem lapp_eq {X : Type} : ∀ l m : List X, lapp l m = l ++ m
  | [], _m => rfl
  | a :: l, m => congrArg (a :: ·) (lapp_eq l m)
theorem ltake_eq {X : Type} : ∀ (l : List X) (i : Nat), ltake l i = l.take i
  | [], i => by simp [ltake]
  | a :: l, 0 => rfl
  | a :: l, i + 1 => congrArg (a :: ·) (ltake_eq l i)
theorem ldrop_eq {X : Type} : ∀ (l : List X) (i : Nat), ldrop l i = l.drop i
  | [], i => by simp [ldrop]
  | a :: l, 0 => rfl
  | a :: l, i + 1 => ldrop_eq l i
theorem lall_eq {X : Type} (p : X → Bool) : ∀ l : List X, lall p l = l.all p
  | [] => rfl
  | a :: l => by
    rw [List.all_cons, ← lall_eq p l]
    show @Bool.rec (fun _ => Bool) false (lall p l) (p a) = _
    cases p a <;> rfl
theorem lmap_eq {X Y : Type} (f : X → Y) : ∀ l : List X, lmap f l = l.map f
  | [] => rfl
  | a :: l => congrArg (f a :: ·) (lmap_eq f l)

/-- Some in the place of others. -/
def lput {X : Type} : List X → Nat → List X → List X := fun l => @List.rec X (fun _ => Nat → List X → List X) (fun _ x => x) (fun a tl ih i x => @Nat.rec (fun _ => List X) (lapp x (ldrop (a :: tl) (llen x))) (fun j _ => a :: ih j x) i) l
theorem lput_eq : ∀ (l : List AV) (i : Nat) (x : List AV), lput l i x = overlay l i x
  | [], i, x => by simp [lput, overlay]
  | a :: l, 0, x => by
    show lapp x (ldrop (a :: l) (llen x)) = _
    simp [lapp_eq, ldrop_eq, llen_eq, overlay]
  | a :: l, i + 1, x => by
    show a :: lput l i x = _
    rw [lput_eq l i x]
    simp [overlay, Nat.add_right_comm]

/-! ### The memory -/

def hgetK : Heap → Nat → Blk := fun A => @List.rec Blk (fun _ => Nat → Blk) (fun _ => .dead) (fun a _ ih i => @Nat.rec (fun _ => Blk) a (fun j _ => ih j) i) A
def hsetK : Heap → Nat → Blk → Heap := fun A => @List.rec Blk (fun _ => Nat → Blk → Heap) (fun i b => List.replicate i .dead ++ [b]) (fun a tl ih i b => @Nat.rec (fun _ => Heap) (b :: tl) (fun j _ => a :: ih j b) i) A

theorem hgetK_eq : ∀ (A : Heap) (i : Nat), hgetK A i = hget A i
  | [], i => by simp [hgetK, hget]
  | a :: A, 0 => rfl
  | a :: A, i + 1 => by
    show hgetK A i = _
    rw [hgetK_eq A i]; rfl
theorem hsetK_eq : ∀ (A : Heap) (i : Nat) (b : Blk), hsetK A i b = hset A i b
  | [], i, b => by simp [hsetK, hset]
  | a :: A, 0, b => by simp [hset]; rfl
  | a :: A, i + 1, b => by
    show a :: hsetK A i b = _
    rw [hsetK_eq A i b]
    unfold hset
    by_cases h : i < A.length
    · simp [h]
    · simp [h]

/-- What an operation does to the memory. -/
def outK (A : Heap) (o : Out) : Heap := @Out.rec (fun _ => Heap) (fun _ wr new => @List.rec (Nat × Blk) (fun _ => Heap)
    (@Option.rec Blk (fun _ => Heap) A (fun b => lapp A [b]) new)
    (fun p l _ => @List.rec (Nat × Blk) (fun _ => Heap) (@Option.rec Blk (fun _ => Heap) (hsetK A p.1 p.2) (fun b => putAll A (p :: ([(llen A, b)]))) new) (fun _ _ _ => applyOut A o) l) wr) o

theorem outK_eq (A : Heap) (o : Out) : outK A o = applyOut A o := by
  obtain ⟨v, wr, new⟩ := o
  match wr, new with
  | [], none => rfl
  | [], some b => show lapp A [b] = _; rw [lapp_eq, applyOut_new]
  | [p], none => show hsetK A p.1 p.2 = _; rw [hsetK_eq, applyOut_set]
  | [p], some b => show putAll A (p :: [(llen A, b)]) = _; rw [llen_eq]; rfl
  | p :: q :: l, new => rfl

/-! ### Registers in a tree -/

inductive RT where
  | tip
  | node (l : RT) (v : AV) (r : RT)

def RT.get : RT → Nat → AV := fun t => @RT.rec (fun _ => Nat → AV) (fun _ => undefA) (fun _ v _ gl gr i => @Nat.rec (fun _ => AV) v (fun j _ => @Nat.rec (fun _ => AV) (gl (Nat.div j 2)) (fun _ _ => gr (Nat.div j 2)) (Nat.mod j 2)) i) t
def RT.set : RT → Nat → AV → RT := fun t => @RT.rec (fun _ => Nat → AV → RT) (fun _ _ => .tip) (fun l v r sl sr i w => @Nat.rec (fun _ => RT) (.node l w r) (fun j _ => @Nat.rec (fun _ => RT) (.node (sl (Nat.div j 2) w) v r) (fun _ _ => .node l v (sr (Nat.div j 2) w)) (Nat.mod j 2)) i) t
def RT.mk : Nat → Nat → RT := fun k => @Nat.rec (fun _ => Nat → RT) (fun _ => .tip) (fun _ ih n => @Nat.rec (fun _ => RT) .tip (fun m _ => .node (ih (Nat.div (Nat.succ m) 2)) undefA (ih (Nat.div m 2))) n) k

/-- The tree has just so many. -/
inductive Braun : RT → Nat → Prop where
  | tip : Braun .tip 0
  | node (l : RT) (v : AV) (r : RT) (m : Nat) : Braun l ((m + 1) / 2) → Braun r (m / 2) → Braun (.node l v r) (m + 1)

theorem get_node {l r : RT} {v : AV} {i : Nat} : (RT.node l v r).get i = match i with | 0 => v | j + 1 => if j % 2 = 0 then l.get (j / 2) else r.get (j / 2) := by
  cases i with
  | zero => rfl
  | succ j =>
    show @Nat.rec (fun _ => AV) (l.get (j / 2)) (fun _ _ => r.get (j / 2)) (j % 2) = _
    rcases Nat.mod_two_eq_zero_or_one j with h | h <;> simp only [h] <;> rfl

theorem set_node {l r : RT} {v w : AV} {i : Nat} : (RT.node l v r).set i w = match i with | 0 => .node l w r | j + 1 => if j % 2 = 0 then .node (l.set (j / 2) w) v r else .node l v (r.set (j / 2) w) := by
  cases i with
  | zero => rfl
  | succ j =>
    show @Nat.rec (fun _ => RT) (.node (l.set (j / 2) w) v r) (fun _ _ => .node l v (r.set (j / 2) w)) (j % 2) = _
    rcases Nat.mod_two_eq_zero_or_one j with h | h <;> simp only [h] <;> rfl

theorem Braun.set {t : RT} {n : Nat} (h : Braun t n) (w : AV) : ∀ i, Braun (t.set i w) n := by
  induction h with
  | tip => intro i; exact .tip
  | node l v r m hl hr il ir =>
    intro i
    rw [set_node]
    cases i with
    | zero => exact .node l w r m hl hr
    | succ j =>
      simp only
      split
      · exact .node _ v r m (il _) hr
      · exact .node l v _ m hl (ir _)

theorem Braun.get_set {t : RT} {n : Nat} (h : Braun t n) (w : AV) : ∀ i j, i < n → (t.set i w).get j = if j = i then w else t.get j := by
  induction h with
  | tip => intro i j hi; omega
  | node l v r m hl hr il ir =>
    intro i j hi
    rw [set_node]
    cases i with
    | zero =>
      simp only
      rw [get_node, get_node]
      cases j <;> simp
    | succ i =>
      simp only
      split
      · rename_i hp
        rw [get_node, get_node]
        cases j with
        | zero => simp
        | succ j =>
          simp only [il (i / 2) (j / 2) (by omega)]
          by_cases hj : j % 2 = 0
          · simp only [hj, if_true]
            by_cases e : j = i
            · simp [e]
            · rw [if_neg (by omega), if_neg (by omega)]
          · simp only [hj, if_false]
            rw [if_neg (by omega)]
      · rename_i hp
        rw [get_node, get_node]
        cases j with
        | zero => simp
        | succ j =>
          simp only [ir (i / 2) (j / 2) (by omega)]
          by_cases hj : j % 2 = 0
          · simp only [hj, if_true]
            rw [if_neg (by omega)]
          · simp only [hj, if_false]
            by_cases e : j = i
            · simp [e]
            · rw [if_neg (by omega), if_neg (by omega)]

theorem Braun.set_out {t : RT} {n : Nat} (h : Braun t n) (w : AV) : ∀ i, n ≤ i → t.set i w = t := by
  induction h with
  | tip => intro i _; rfl
  | node l v r m hl hr il ir =>
    intro i hi
    rw [set_node]
    cases i with
    | zero => omega
    | succ i =>
      simp only
      split
      · rw [il _ (by omega)]
      · rw [ir _ (by omega)]

theorem Braun.mk : ∀ (k n : Nat), n < 2 ^ k → Braun (RT.mk k n) n
  | 0, n, h => by
    obtain rfl : n = 0 := by omega
    exact .tip
  | k + 1, 0, _ => .tip
  | k + 1, n + 1, h => by
    rw [Nat.pow_succ] at h
    exact .node _ _ _ n (Braun.mk k _ (by show (n + 1) / 2 < 2 ^ k; omega)) (Braun.mk k _ (by show n / 2 < 2 ^ k; omega))

theorem mk_get : ∀ (k n i : Nat), (RT.mk k n).get i = undefA
  | 0, n, i => rfl
  | k + 1, 0, i => rfl
  | k + 1, n + 1, i => by
    show (RT.node (RT.mk k ((n + 1) / 2)) undefA (RT.mk k (n / 2))).get i = _
    rw [get_node]
    cases i with
    | zero => rfl
    | succ j =>
      simp only [mk_get k]
      simp

/-- What is in the tree, as registers. -/
abbrev RT.regs (t : RT) (n : Nat) : Regs := Go.Abs.regs n t.get

theorem rset_tree {t : RT} {n i : Nat} {v : AV} (h : Braun t n) : rset (t.regs n) i v = (t.set i v).regs n := by
  rw [rset_regs]
  unfold regs
  by_cases hi : i < n
  · apply List.map_congr_left
    intro j _
    rw [h.get_set v i j hi]
    rfl
  · apply List.map_congr_left
    intro j hj
    rw [h.set_out v i (by omega)]
    have : j ≠ i := by have := List.mem_range.1 hj; omega
    simp [upd, this]

theorem rget_tree {t : RT} {n i : Nat} (h : Braun t n) : rget (t.regs n) i = t.get i := by
  rw [rget_regs]
  split
  · rfl
  · rename_i hi
    have : ∀ {t : RT} {n : Nat}, Braun t n → ∀ i, n ≤ i → t.get i = undefA := by
      intro t n h
      induction h with
      | tip => intro i _; rfl
      | node l v r m hl hr il ir =>
        intro i hi
        rw [get_node]
        cases i with
        | zero => omega
        | succ i =>
          simp only
          split
          · exact il _ (by omega)
          · exact ir _ (by omega)
    exact (this h i (by omega)).symm

def RT.put (t : RT) (d : Option Nat) (v : AV) : RT := @Option.rec Nat (fun _ => RT) t (fun i => t.set i v) d
theorem rput_tree {t : RT} {n : Nat} {d : Option Nat} {v : AV} (h : Braun t n) : rput (t.regs n) d v = (t.put d v).regs n := by
  cases d with
  | none => rfl
  | some i => exact rset_tree h
theorem Braun.put {t : RT} {n : Nat} (h : Braun t n) (d : Option Nat) (v : AV) : Braun (t.put d v) n := by
  cases d with
  | none => exact h
  | some i => exact h.set v i

/-- Registers that begin with some values. -/
def RT.fill : List AV → Nat → RT → RT := fun l => @List.rec AV (fun _ => Nat → RT → RT) (fun _ t => t) (fun a _ ih i t => ih (Nat.succ i) (t.set i a)) l

theorem fill_braun : ∀ (l : List AV) (i : Nat) (t : RT) (n : Nat), Braun t n → Braun (RT.fill l i t) n
  | [], _i, _t, _n, h => h
  | a :: l, i, t, n, h => fill_braun l (i + 1) (t.set i a) n (h.set a i)

theorem fill_get : ∀ (l : List AV) (i : Nat) (t : RT) (n : Nat), Braun t n → i + l.length ≤ n → ∀ j, (RT.fill l i t).get j = if i ≤ j ∧ j < i + l.length then l.getD (j - i) undefA else t.get j
  | [], i, t, n, h, _, j => by
    show t.get j = _
    rw [if_neg (by simp only [List.length_nil]; omega)]
  | a :: l, i, t, n, h, hl, j => by
    show (RT.fill l (i + 1) (t.set i a)).get j = _
    simp only [List.length_cons] at hl
    rw [fill_get l (i + 1) (t.set i a) n (h.set a i) (by omega) j, h.get_set a i j (by omega)]
    by_cases h1 : i + 1 ≤ j ∧ j < i + 1 + l.length
    · rw [if_pos h1, if_pos (by simp; omega)]
      have : j - i = (j - (i + 1)) + 1 := by omega
      rw [this]; rfl
    · rw [if_neg h1]
      by_cases h2 : j = i
      · subst h2
        rw [if_pos rfl, if_pos (by simp)]
        simp
      · rw [if_neg h2, if_neg (by simp; omega)]

theorem fill_regs {l : List AV} {k n : Nat} (h : n < 2 ^ k) (hl : l.length ≤ n) : (RT.fill l 0 (RT.mk k n)).regs n = regs n (ini l) := by
  unfold RT.regs regs
  apply List.map_congr_left
  intro j _
  rw [fill_get l 0 _ n (Braun.mk k n h) (by omega) j, mk_get]
  unfold ini
  by_cases h1 : j < l.length
  · rw [if_pos (by omega)]; rfl
  · rw [if_neg (by omega)]
    simp [List.getD, h1]

end
end Go.Abs
