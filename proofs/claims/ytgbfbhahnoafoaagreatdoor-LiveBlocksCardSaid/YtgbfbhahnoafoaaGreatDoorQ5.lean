/- A part of the proof: lemmas, no statement of the seat is proved in this file. -/
import Derived.Test.YtgbfbhahnoafoaaGreatDoorQ4
import Derived.Laws.Strings
set_option autoImplicit false
set_option maxRecDepth 100000

/- Which patterns are formed. -/
namespace Go.Proofs.YtgbfbhahnoafoaaGreatDoor
open Go Go.Abs

variable {Λ : List LoopInfo} {A : Heap} {k : KL}

def argsAt (cs : List Con) (n : Int) : Int := (cs.map Con.args).getD n.toNat 0

/-- A pattern's own part is as defined: its form, its number, how many parts it has. -/
def headOk (cs : List Con) (f n m : Int) : Bool :=
  if f = 1 ∨ f = 2 ∨ f = 5 then decide (m = 0) && decide (n = 0)
  else if f = 3 then decide (m = 0) && (decide (-1000000000 ≤ n) && decide (n ≤ 1000000000))
  else if f = 4 then decide (m = 0) && (decide (0 ≤ n) && decide (n ≤ 1))
  else if f = 6 then (decide (0 ≤ n) && decide (n ≤ (cs.length : Int) - 1)) && decide (m = argsAt cs n)
  else false

def noText (t : ByteArray) : Bool := decide (t.toList = [])

mutual
def Pat.fine (cs : List Con) : Pat → Bool
  | .mk f n t ps _ => headOk cs f n ps.length && noText t && fines cs ps
def fines (cs : List Con) : List Pat → Bool
  | [] => true
  | p :: ps => p.fine cs && fines cs ps
end

theorem fines_drop {cs : List Con} {ps : List Pat} {j : Nat} (h : j < ps.length) : fines cs (ps.drop j) = (ps[j].fine cs && fines cs (ps.drop (j + 1))) := by
  rw [List.drop_eq_getElem_cons h]; rfl

abbrev consA (cs : List Con) (cc : Bool) : AV := .frz (cs.map Con.av) cc

theorem argsAt_get {cs : List Con} {n : Int} (h1 : 0 ≤ n) (h2 : n ≤ (cs.length : Int) - 1) : ∃ h : n.toNat < cs.length, argsAt cs n = cs[n.toNat].args := by
  have h : n.toNat < cs.length := by omega
  exact ⟨h, by simp [argsAt, List.getD, h]⟩

/-- A pattern, in full. -/
abbrev patA (fm n : Int) (t : ByteArray) (ps : List Pat) (c : Bool) : AV := .agg [iA fm, iA n, .str t, .frz (ps.map Pat.av) c]

theorem b159 {Λ : List LoopInfo} {k : KE} (cs : List Con) (cc : Bool) (hcs : cs.length ≤ maxI) (fm n : Int) (t : ByteArray) (ps : List Pat) (c : Bool) (f : Nat → AV) (m : Int)
    (h1 : f 1 = consA cs cc) (h2 : f 2 = .ptr 0 0 0) (h5 : f 5 = .bool false) (h6 : f 6 = iA m) (h12 : f 12 = iA fm)
    (hk : ∀ f', f' 1 = f 1 → f' 2 = f 2 → f' 5 = .bool (headOk cs fm n m) → f' 6 = f 6 → k.run .normal (regs 82 f') [.cells 4 [patA fm n t ps c]]) :
    @kWp EL Λ F159b0 (regs 82 f) [.cells 4 [patA fm n t ps c]] k := by
  refine k_cut (fun f' B => B = [.cells 4 [patA fm n t ps c]] ∧ f' 1 = f 1 ∧ f' 2 = f 2 ∧ f' 5 = .bool (headOk cs fm n m) ∧ f' 6 = f 6) ?_ (fun f' B h => by obtain ⟨rfl, a, b, c, d⟩ := h; exact hk f' a b c d)
  unfold maxI at hcs
  unfold consA at h1
  have hw : IntKind.i64.wrap ((cs.length : Int) - 1) = (cs.length : Int) - 1 := wrap_i64 (by omega) (by omega)
  have hf : fm = 1 ∨ fm = 2 ∨ fm = 5 ∨ fm = 3 ∨ fm = 4 ∨ fm = 6 ∨ (fm ≠ 1 ∧ fm ≠ 2 ∧ fm ≠ 5 ∧ fm ≠ 3 ∧ fm ≠ 4 ∧ fm ≠ 6) := by omega
  rcases hf with rfl | rfl | rfl | rfl | rfl | rfl | hf
  case inr.inr.inr.inr.inr.inl =>
    by_cases hn : 0 ≤ n ∧ n ≤ (cs.length : Int) - 1
    · obtain ⟨hl, ha⟩ := argsAt_get hn.1 hn.2
      have hlt : n < (cs.length : Int) := by omega
      simp [F159b0, h1, h2, h6, h12, hw, hn.1, hn.2, hl, hlt]
      exact ⟨_, rfl, by simp [h1, h2, h6, headOk, hn.1, hn.2, ha]⟩
    · have hb : (decide (0 ≤ n) && decide (n ≤ (cs.length : Int) - 1)) = false := by simp; omega
      simp [F159b0, h1, h2, h12, hw, hb]
      exact ⟨_, rfl, by simp [h1, h2, h6, headOk, hb]⟩
  case inr.inr.inr.inr.inr.inr =>
    obtain ⟨a1, a2, a3, a4, a5, a6⟩ := hf
    simp [F159b0, h12, a1, a2, a3, a4, a5, a6]
    exact ⟨_, rfl, by simp [h1, h2, h5, h6, headOk, a1, a2, a3, a4, a5, a6]⟩
  all_goals
    by_cases hm : m = 0
    · simp [F159b0, h2, h6, h12, hm]
      exact ⟨_, rfl, by simp [h1, h2, h6, headOk, hm]⟩
    · simp [F159b0, h6, h12, hm]
      exact ⟨_, rfl, by simp [h1, h2, h6, headOk, hm]⟩

theorem s159 (cs : List Con) (cc : Bool) (hcs : cs.length ≤ maxI) : ∀ (p : Pat), p.Ok → Comes 159 [p.av, consA cs cc] (.bool (p.fine cs))
  | .mk fm n t ps c, hok, Λ, A, k => call_iff fun k hk => by
    obtain ⟨h1, h2, h3, h4⟩ := hok
    unfold maxI at h1
    rw [k_apart rfl c159 rfl (by simp [F159]) (by simp [consA])]
    simp [F159]
    refine b159 cs cc hcs fm n t ps c _ ps.length ?_ ?_ ?_ ?_ ?_ (fun f e1 e2 e5 e6 => ?_)
    · simp
    · simp
    · simp
    · simp
    · simp
    simp at e1 e2 e6
    have hres : (Pat.mk fm n t ps c).fine cs = (headOk cs fm n ps.length && noText t && fines cs ps) := rfl
    cases hh : headOk cs fm n ps.length <;> rw [hh] at e5 hres <;> by_cases ht : t.toList = [] <;> simp only [noText, ht, decide_true, decide_false] at hres
    all_goals
      simp [e2, e5, ht]
      refine k_for (fun j f B => B = [.cells 4 [patA fm n t ps c]] ∧ f 1 = consA cs cc ∧ f 2 = .ptr 0 0 0 ∧ f 6 = iA ps.length ∧ f 7 = iA j ∧ ∃ b, f 5 = .bool b ∧ (Pat.mk fm n t ps c).fine cs = (b && fines cs (ps.drop j))) ps.length ⟨rfl, by simp [e1], by simp [e2], by simp [e6], by simp, _, by simp; rfl, by simp [hres, ht]⟩ ?_
      rintro j f B hj ⟨rfl, h1', h2', h6', h7', b, h5', hp⟩
      by_cases hjl : j < ps.length
      · cases b with
        | true =>
          have hin : ps[j] ∈ ps := List.getElem_mem hjl
          have ih := s159 cs cc hcs ps[j] (h4 _ hin)
          rw [fines_drop hjl] at hp
          simp [h1', h2', h6', h7', h5', hjl, pat_cells, ih, wrap_succ (j := j) (by omega)]
          exact ⟨by omega, _, rfl, rfl, by simp [h1'], by simp [h2'], by simp [h6'], by simp, _, by simp; rfl, by simpa using hp⟩
        | false =>
          simp [h6', h7', h5', hjl, F159]
          rw [hp] at hk
          simpa using hk
      · rw [List.drop_eq_nil_of_le (by omega)] at hp
        simp [h6', h7', h5', hjl, F159]
        rw [hp] at hk
        simpa [fines] using hk
termination_by p => SizeOf.sizeOf p
decreasing_by
  all_goals
    have := List.sizeOf_lt_of_mem hin
    simp; omega

/-- R05's 'Pat'. -/
theorem s126 (cs : List Con) (cc : Bool) (hcs : cs.length ≤ maxI) (p : Pat) (h : p.Ok) : Comes 126 [p.av, consA cs cc] (.bool (p.fine cs)) := fun Λ A k => by
  have e := s159 cs cc hcs p h
  rw [k_apart rfl c126 rfl (by simp [F126]) (by simp [consA, pat_under])]
  obtain ⟨fm, n, t, ps, c⟩ := p
  unfold consA at *
  simp at e
  simp [F126, e]

end Go.Proofs.YtgbfbhahnoafoaaGreatDoor

/- Which codes are as defined, by the reference. -/
namespace Go.Proofs.YtgbfbhahnoafoaaGreatDoor
open Go Go.Abs

variable {Λ : List LoopInfo} {A : Heap} {k : KL}

structure Prog.Ok (c : Prog) : Prop where
  ins : c.ins.length ≤ maxI
  pats : c.pats.length ≤ maxI
  funs : c.funs.length ≤ maxI
  cons : c.cons.length ≤ maxI
  pat : ∀ p ∈ c.pats, p.Ok
  name : ∀ x ∈ c.cons, x.name.size ≤ maxI

def rng (a lo hi : Int) : Bool := decide (lo ≤ a) && decide (a ≤ hi)

/-- An instruction as defined. -/
def insOk (c : Prog) (x : Ins) : Bool :=
  if x.op ≠ 19 ∧ x.b ≠ 0 then false
  else if x.op = 1 then rng x.a (-1000000000) 1000000000
  else if x.op = 2 then rng x.a 0 1
  else if x.op = 4 then rng x.a 0 29
  else if x.op = 5 then rng x.a 0 (c.funs.length - 1)
  else if x.op = 6 ∨ x.op = 11 ∨ x.op = 12 ∨ x.op = 31 ∨ x.op = 32 then rng x.a 0 (c.ins.length - 1)
  else if x.op = 10 then rng x.a 1 30
  else if x.op = 18 then rng x.a 0 (c.cons.length - 1)
  else if x.op = 19 then rng x.a 0 (c.pats.length - 1) && rng x.b 0 (c.ins.length - 1)
  else if x.op = 29 then rng x.a 0 3
  else rng x.op 1 34 && decide (x.a = 0)

theorem s127 (c : Prog) (hc : c.Ok) (x : Ins) : Comes 127 [c.av, .agg [iA x.op, iA x.a, iA x.b]] (.bool (insOk c x)) := fun Λ A k => by
  rw [k_apart rfl c127 rfl (by simp [F127]) (by simp [Prog.av])]
  obtain ⟨o, a, b⟩ := x
  have h1 := hc.ins
  have h2 := hc.pats
  have h3 := hc.funs
  have h4 := hc.cons
  unfold maxI at h1 h2 h3 h4
  have w1 : IntKind.i64.wrap ((c.ins.length : Int) - 1) = (c.ins.length : Int) - 1 := wrap_i64 (by omega) (by omega)
  have w2 : IntKind.i64.wrap ((c.pats.length : Int) - 1) = (c.pats.length : Int) - 1 := wrap_i64 (by omega) (by omega)
  have w3 : IntKind.i64.wrap ((c.funs.length : Int) - 1) = (c.funs.length : Int) - 1 := wrap_i64 (by omega) (by omega)
  have w4 : IntKind.i64.wrap ((c.cons.length : Int) - 1) = (c.cons.length : Int) - 1 := wrap_i64 (by omega) (by omega)
  have hcs : o = 1 ∨ o = 2 ∨ o = 4 ∨ o = 5 ∨ o = 6 ∨ o = 11 ∨ o = 12 ∨ o = 31 ∨ o = 32 ∨ o = 10 ∨ o = 18 ∨ o = 29 ∨ o = 19 ∨ (o ≠ 1 ∧ o ≠ 2 ∧ o ≠ 4 ∧ o ≠ 5 ∧ o ≠ 6 ∧ o ≠ 11 ∧ o ≠ 12 ∧ o ≠ 31 ∧ o ≠ 32 ∧ o ≠ 10 ∧ o ≠ 18 ∧ o ≠ 29 ∧ o ≠ 19) := by omega
  rcases hcs with rfl | rfl | rfl | rfl | rfl | rfl | rfl | rfl | rfl | rfl | rfl | rfl | rfl | hcs
  case inr.inr.inr.inr.inr.inr.inr.inr.inr.inr.inr.inr.inl =>
    by_cases ha : (decide (0 ≤ a) && decide (a ≤ (c.pats.length : Int) - 1)) = true
    · simp [F127, Prog.av, w1, w2, ha, insOk, rng]
    · have ha : (decide (0 ≤ a) && decide (a ≤ (c.pats.length : Int) - 1)) = false := by simpa using ha
      simp [F127, Prog.av, w2, ha, insOk, rng]
  case inr.inr.inr.inr.inr.inr.inr.inr.inr.inr.inr.inr.inr =>
    obtain ⟨a1, a2, a3, a4, a5, a6, a7, a8, a9, a10, a11, a12, a13⟩ := hcs
    by_cases hb : b = 0
    · by_cases ho : (decide (1 ≤ o) && decide (o ≤ 34)) = true
      · simp [F127, Prog.av, insOk, rng, hb, a1, a2, a3, a4, a5, a6, a7, a8, a9, a10, a11, a12, a13, ho]
      · have ho : (decide (1 ≤ o) && decide (o ≤ 34)) = false := by simpa using ho
        simp [F127, Prog.av, insOk, rng, hb, a1, a2, a3, a4, a5, a6, a7, a8, a9, a10, a11, a12, a13, ho]
    · simp [F127, Prog.av, insOk, hb, a13]
  all_goals
    by_cases hb : b = 0
    · simp [F127, Prog.av, w1, w3, w4, insOk, rng, hb]
    · simp [F127, Prog.av, insOk, hb]

/-- A great name. -/
def greatOk (s : ByteArray) : Bool := decide (1 ≤ s.size) && decide (s.size ≤ 8) && (match s.data.toList with | b :: r => decide (65 ≤ b.toNat) && decide (b.toNat ≤ 90) && r.all lowB | [] => false)

theorem size_toList (s : ByteArray) : s.data.toList.length = s.size := by simp

theorem extract_rest {s : ByteArray} : (s.extract 1 s.size).data.toList = s.data.toList.drop 1 := by
  rw [ByteArray.data_extract, Array.toList_extract]
  simp [List.extract_eq_take_drop]
  rw [List.take_of_length_le]
  simp

theorem s176 (s : ByteArray) : Comes 176 [.str s] (.bool (greatOk s)) := fun Λ A k => by
  rw [k_apart rfl c176 rfl (by simp [F176]) (by simp)]
  unfold greatOk
  by_cases h1 : 1 ≤ s.size
  · by_cases h2 : s.size ≤ 8
    · have h0 : 0 < s.size := by omega
      have hg : s[0]? = some s[0] := by simp [h0]
      obtain ⟨b, r, hl⟩ : ∃ b r, s.data.toList = b :: r := by
        cases h : s.data.toList with
        | nil => have := size_toList s; rw [h] at this; simp at this; omega
        | cons b r => exact ⟨b, r, rfl⟩
      have hb : s[0] = b := by
        have : s.data.toList[0]? = some s[0] := by rw [Array.getElem?_toList]; exact hg
        rw [hl] at this; simpa using this.symm
      have hr : (s.extract 1 s.size).data.toList = r := by rw [extract_rest, hl]; rfl
      have e : Comes 195 [.str (s.extract 1 s.size)] (.bool (r.all lowB)) := fun Λ A k => by rw [s195 (s.extract 1 s.size) (by unfold maxI; simp; omega), hr]
      have i1 : (1 : Int) ≤ (s.size : Int) := by omega
      have i2 : (s.size : Int) ≤ 8 := by omega
      by_cases h3 : 65 ≤ b.toNat
      · have n3 : (65 : Int) ≤ (b.toNat : Int) := by omega
        by_cases h4 : b.toNat ≤ 90
        · have n4 : (b.toNat : Int) ≤ 90 := by omega
          simp [F176, h1, h2, h0, hb, h3, h4, n3, n4, hl, e, i1, i2]
        · have n4 : ¬ (b.toNat : Int) ≤ 90 := by omega
          simp [F176, h1, h2, h0, hb, h3, h4, n3, n4, hl, i1, i2]
      · have n3 : ¬ (65 : Int) ≤ (b.toNat : Int) := by omega
        simp [F176, h1, h2, h0, hb, h3, n3, hl, i1, i2]
    · have i1 : (1 : Int) ≤ (s.size : Int) := by omega
      have i2 : ¬ (s.size : Int) ≤ 8 := by omega
      simp [F176, h1, h2, i1, i2]
  · have i1 : ¬ (1 : Int) ≤ (s.size : Int) := by omega
    simp [F176, h1, i1]

/-- Constructors as defined. -/
def consOk (cs : List Con) : Bool := (cs.all fun x => greatOk x.name && rng x.args 0 3) && decide (cs.length ≤ 20) && differ (cs.map Con.name)

theorem s158 (cs : List Con) (cc : Bool) (h : cs.length ≤ 1000000) : Comes 158 [consA cs cc] (.bool (consOk cs)) := fun Λ A k => call_iff fun k hk => by
  rw [k_apart rfl c158 rfl (by simp [F158]) (by simp [consA])]
  simp [F158, consA]
  refine k_for (fun j f B => f 0 = consA cs cc ∧ f 4 = iA j ∧ Gathers B 1 (f 3) ((cs.take j).map fun x => .str x.name) ∧ (cs.take j).all (fun x => greatOk x.name && rng x.args 0 3) = true) cs.length ⟨by simp [consA], by simp, .inl ⟨by simp, by simp⟩, by simp⟩ ?_
  rintro j f B hj ⟨h0, h4, h3, hp⟩
  unfold consA at h0
  by_cases hlt : j < cs.length
  · have e1 := s176 cs[j].name
    have hfalse : (greatOk cs[j].name && rng cs[j].args 0 3) = false → consOk cs = false := fun hx => by
      unfold consOk
      have : (cs.all fun x => greatOk x.name && rng x.args 0 3) = false := by
        rw [List.all_eq_false]; exact ⟨cs[j], List.getElem_mem hlt, by simp [hx]⟩
      rw [this]; rfl
    cases hg : greatOk cs[j].name with
    | false =>
      rw [hg] at e1
      have hr := hfalse (by rw [hg]; rfl)
      rw [hr] at hk
      simp [h0, h4, hlt, e1, F158]
      exact hk
    | true =>
      rw [hg] at e1
      cases hr : rng cs[j].args 0 3 with
      | false =>
        have hr2 := hfalse (by rw [hg, hr]; rfl)
        rw [hr2] at hk
        unfold rng at hr
        simp [h0, h4, hlt, e1, hr, F158]
        exact hk
      | true =>
        have hall : (cs.take (j + 1)).all (fun x => greatOk x.name && rng x.args 0 3) = true := by
          rw [List.take_succ_eq_append_getElem hlt, List.all_append, hp]
          simp [hg, hr]
        unfold rng at hr
        have hG := h3.append (l := [Blk.cells 1 [AV.str cs[j].name]])
        obtain ⟨out, ho, hG2, _, _, _⟩ := gather_append (bytes := 16) (y := .own B.length 0 1 true) (new := [AV.str cs[j].name]) hG (by simp [elems]) (fun s h => by cases h) (by simp)
          (fun e he => by
            rcases List.mem_append.1 he with he | he
            · simp only [List.mem_map] at he; obtain ⟨x, _, rfl⟩ := he; rfl
            · simp only [List.mem_singleton] at he; subst he; rfl) (by simp [maxBytes]; omega) (by simp; omega)
        simp at ho
        simp [h0, h4, hlt, e1, hr, ho, wrap_succ (j := j) (by omega)]
        refine ⟨by omega, _, rfl, by simp [h0, consA], by simp, ?_, hall⟩
        have em : ((cs.take (j + 1)).map fun x => AV.str x.name) = ((cs.take j).map fun x => AV.str x.name) ++ [AV.str cs[j].name] := by
          rw [List.take_succ_eq_append_getElem hlt, List.map_append]; rfl
        rw [em]
        simpa using hG2
  · have hall : cs.take j = cs := List.take_of_length_le (by omega)
    rw [hall] at h3 hp
    have hR := h3.readable
    rw [show (cs.map fun x => AV.str x.name) = (cs.map Con.name).map AV.str by simp] at hR
    have hs := fun {Λ : List LoopInfo} {k : KL} => s178 (Λ := Λ) (k := k) hR (by unfold maxI; simp; omega)
    by_cases h20 : (cs.length : Int) ≤ 20
    · have n20 : cs.length ≤ 20 := by omega
      simp [h0, h4, hlt, h20, hs, F158]
      unfold consOk at hk
      rw [hp] at hk
      simpa [n20] using hk
    · have n20 : ¬ cs.length ≤ 20 := by omega
      simp [h0, h4, hlt, h20, F158]
      unfold consOk at hk
      simpa [n20] using hk

/-- R05's 'Cons'. -/
theorem s124 (cs : List Con) (cc : Bool) (h : cs.length ≤ 1000000) : Comes 124 [consA cs cc] (.bool (consOk cs)) := fun Λ A k => by
  have e := s158 cs cc h
  rw [k_apart rfl c124 rfl (by simp [F124]) (by simp [consA])]
  simp [F124, e]

end Go.Proofs.YtgbfbhahnoafoaaGreatDoor

/- Which codes are as defined, and small, by the reference. -/
namespace Go.Proofs.YtgbfbhahnoafoaaGreatDoor
open Go Go.Abs

variable {Λ : List LoopInfo} {A : Heap} {k : KL}

/-- The lists of a code are of lengths that are allowed. -/
def headC (c : Prog) : Bool :=
  rng c.ins.length 1 1500 && decide ((c.pats.length : Int) ≤ 100) && consOk c.cons && rng c.funs.length 1 300 && rng c.main 0 (c.funs.length - 1)

def patC (c : Prog) (p : Pat) : Bool := decide (0 ≤ p.weigh 12) && p.fine c.cons

/-- A code is as defined. -/
def codeOk (c : Prog) : Bool := headC c && c.pats.all (patC c) && c.funs.all (fun f => rng f 0 (c.ins.length - 1)) && c.ins.all (insOk c)

theorem all_take {X : Type} {p : X → Bool} {l : List X} {j : Nat} (h : (l.take j).all p = true) (hj : j < l.length) (hp : p l[j] = true) : (l.take (j + 1)).all p = true := by
  rw [List.take_succ_eq_append_getElem hj, List.all_append, h]
  simp [hp]

theorem all_not {X : Type} {p : X → Bool} {l : List X} {j : Nat} (hj : j < l.length) (hp : p l[j] = false) : l.all p = false := by
  rw [List.all_eq_false]; exact ⟨l[j], List.getElem_mem hj, by simp [hp]⟩

theorem all_done {X : Type} {p : X → Bool} {l : List X} {j : Nat} (h : (l.take j).all p = true) (hj : l.length ≤ j) : l.all p = true := by
  rwa [List.take_of_length_le hj] at h

theorem s79 (c : Prog) (hc : c.Ok) (hcons : c.cons.length ≤ 1000000) : Comes 79 [c.av] (.bool (codeOk c)) := fun Λ A k => call_iff fun k hk => by
  rw [k_apart rfl c79 rfl (by simp [F79]) (by simp)]
  have h1 := hc.ins
  have h2 := hc.pats
  have h3 := hc.funs
  have h4 := hc.cons
  have ec := s124 c.cons c.cc hcons
  unfold maxI at h1 h2 h3 h4
  have w1 : IntKind.i64.wrap ((c.ins.length : Int) - 1) = (c.ins.length : Int) - 1 := wrap_i64 (by omega) (by omega)
  have w3 : IntKind.i64.wrap ((c.funs.length : Int) - 1) = (c.funs.length : Int) - 1 := wrap_i64 (by omega) (by omega)
  cases b1 : rng c.ins.length 1 1500 with
  | false =>
    have : codeOk c = false := by simp [codeOk, headC, b1]
    rw [this] at hk
    unfold rng at b1
    simpa [F79, b1] using hk
  | true =>
  unfold rng at b1
  by_cases b2 : (c.pats.length : Int) ≤ 100
  case neg =>
    have : codeOk c = false := by simp [codeOk, headC, b2]
    rw [this] at hk
    have b2' : (c.pats.length : Int) > 100 := by omega
    simpa [F79, b1, b2'] using hk
  have b2' : ¬ (c.pats.length : Int) > 100 := by omega
  cases b3 : consOk c.cons with
  | false =>
    have : codeOk c = false := by simp [codeOk, headC, b3]
    rw [this] at hk
    rw [b3] at ec
    simpa [F79, b1, b2', ec] using hk
  | true =>
  rw [b3] at ec
  cases b4 : rng c.funs.length 1 300 with
  | false =>
    have : codeOk c = false := by simp [codeOk, headC, b4]
    rw [this] at hk
    unfold rng at b4
    simpa [F79, b1, b2', ec, b4] using hk
  | true =>
  unfold rng at b4
  cases b5 : rng c.main 0 (c.funs.length - 1) with
  | false =>
    have : codeOk c = false := by simp [codeOk, headC, b5]
    rw [this] at hk
    unfold rng at b5
    simpa [F79, b1, b2', ec, b4, w3, b5] using hk
  | true =>
  unfold rng at b5
  have hh : codeOk c = (c.pats.all (patC c) && c.funs.all (fun f => rng f 0 (c.ins.length - 1)) && c.ins.all (insOk c)) := by
    simp only [codeOk, headC, rng, b1, b3, b4, b5, b2, decide_true, Bool.and_true, Bool.true_and]
  rw [hh] at hk
  simp [F79, b1, b2', ec, b4, w3, b5]
  refine k_for (fun j f B => B = [.cells 5 [c.av]] ∧ f 1 = .ptr 0 0 0 ∧ f 3 = iA j ∧ (c.pats.take j).all (patC c) = true) c.pats.length ⟨rfl, by simp⟩ ?_
  rintro j f B hj ⟨rfl, g1, g3, hp⟩
  by_cases hlt : j < c.pats.length
  · have hok := hc.pat c.pats[j] (List.getElem_mem hlt)
    have e1 := s125 c.pats[j] hok 12 (by omega) (by omega)
    have e2 := s126 c.cons c.cc hc.cons c.pats[j] hok
    by_cases hw : c.pats[j].weigh 12 < 0
    · have : c.pats.all (patC c) = false := all_not hlt (by simp [patC]; intro h; omega)
      rw [this] at hk
      simp [g1, g3, hlt, pat_cells, e1, hw, F79]
      simpa using hk
    · have hw' : 0 ≤ c.pats[j].weigh 12 := by omega
      cases hf : c.pats[j].fine c.cons with
      | false =>
        have : c.pats.all (patC c) = false := all_not hlt (by simp [patC, hf])
        rw [this] at hk
        rw [hf] at e2
        simp [g1, g3, hlt, pat_cells, e1, e2, hw, F79]
        simpa using hk
      | true =>
        rw [hf] at e2
        simp [g1, g3, hlt, pat_cells, e1, e2, hw, wrap_succ (j := j) (by omega)]
        exact ⟨by omega, _, rfl, rfl, by simp [g1], by simp, all_take hp hlt (by simp [patC, hf, hw'])⟩
  · have hall := all_done hp (by omega)
    rw [hall, Bool.true_and] at hk
    simp [g1, g3, hlt]
    refine k_for (fun j f B => B = [.cells 5 [c.av]] ∧ f 1 = .ptr 0 0 0 ∧ f 4 = iA j ∧ (c.funs.take j).all (fun f => rng f 0 (c.ins.length - 1)) = true) c.funs.length ⟨rfl, by simp [g1]⟩ ?_
    clear hp g1 g3 hlt hj
    rintro j f B hj ⟨rfl, g1, g4, hp⟩
    by_cases hlt : j < c.funs.length
    · cases hr : rng c.funs[j] 0 (c.ins.length - 1) with
      | false =>
        have : c.funs.all (fun f => rng f 0 (c.ins.length - 1)) = false := all_not hlt hr
        rw [this] at hk
        unfold rng at hr
        simp [g1, g4, hlt, w1, hr, F79]
        simpa using hk
      | true =>
        have hq := all_take hp hlt hr
        unfold rng at hr
        simp [g1, g4, hlt, w1, hr, wrap_succ (j := j) (by omega)]
        exact ⟨by omega, _, rfl, rfl, by simp [g1], by simp, hq⟩
    · have hall := all_done hp (by omega)
      rw [hall, Bool.true_and] at hk
      simp [g1, g4, hlt]
      refine k_for (fun j f B => B = [.cells 5 [c.av]] ∧ f 1 = .ptr 0 0 0 ∧ f 5 = iA j ∧ (c.ins.take j).all (insOk c) = true) c.ins.length ⟨rfl, by simp [g1]⟩ ?_
      clear hp g1 g4 hlt hj
      rintro j f B hj ⟨rfl, g1, g5, hp⟩
      by_cases hlt : j < c.ins.length
      · have e1 := s127 c hc c.ins[j]
        cases hr : insOk c c.ins[j] with
        | false =>
          have : c.ins.all (insOk c) = false := all_not hlt hr
          rw [this] at hk
          rw [hr] at e1
          simp [g1, g5, hlt, e1, F79]
          simpa using hk
        | true =>
          rw [hr] at e1
          simp [g1, g5, hlt, e1, wrap_succ (j := j) (by omega)]
          exact ⟨by omega, _, rfl, rfl, by simp [g1], by simp, all_take hp hlt hr⟩
      · have hall := all_done hp (by omega)
        rw [hall] at hk
        simp [g1, g5, hlt, F79]
        exact hk

/-- Few and small parts. -/
def smallC (c : Prog) : Bool :=
  decide ((c.ins.length : Int) ≤ 1600) && decide ((c.pats.length : Int) ≤ 120) && decide ((c.funs.length : Int) ≤ 320) && decide ((c.cons.length : Int) ≤ 30) && c.pats.all Pat.Small && c.cons.all (fun x => decide ((x.name.size : Int) ≤ 30))

theorem s61 (c : Prog) (hc : c.Ok) : Comes 61 [c.av] (.bool (smallC c)) := fun Λ A k => call_iff fun k hk => by
  rw [k_apart rfl c61 rfl (by simp [F61]) (by simp)]
  have h2 := hc.pats
  have h4 := hc.cons
  unfold maxI at h2 h4
  by_cases b1 : (c.ins.length : Int) ≤ 1600
  case neg =>
    have : smallC c = false := by simp [smallC, b1]
    rw [this] at hk
    have b1' : (c.ins.length : Int) > 1600 := by omega
    simpa [F61, b1'] using hk
  have b1' : ¬ (c.ins.length : Int) > 1600 := by omega
  by_cases b2 : (c.pats.length : Int) ≤ 120
  case neg =>
    have : smallC c = false := by simp [smallC, b2]
    rw [this] at hk
    have b2' : (c.pats.length : Int) > 120 := by omega
    simpa [F61, b1', b2'] using hk
  have b2' : ¬ (c.pats.length : Int) > 120 := by omega
  by_cases b3 : (c.funs.length : Int) ≤ 320
  case neg =>
    have : smallC c = false := by simp [smallC, b3]
    rw [this] at hk
    have b3' : (c.funs.length : Int) > 320 := by omega
    simpa [F61, b1', b2', b3'] using hk
  have b3' : ¬ (c.funs.length : Int) > 320 := by omega
  by_cases b4 : (c.cons.length : Int) ≤ 30
  case neg =>
    have : smallC c = false := by simp [smallC, b4]
    rw [this] at hk
    have b4' : (c.cons.length : Int) > 30 := by omega
    simpa [F61, b1', b2', b3', b4'] using hk
  have b4' : ¬ (c.cons.length : Int) > 30 := by omega
  have hh : smallC c = (c.pats.all Pat.Small && c.cons.all (fun x => decide ((x.name.size : Int) ≤ 30))) := by
    simp only [smallC, b1, b2, b3, b4, decide_true, Bool.true_and]
  rw [hh] at hk
  simp [F61, b1', b2', b3', b4']
  refine k_for (fun j f B => B = [.cells 5 [c.av]] ∧ f 1 = .ptr 0 0 0 ∧ f 3 = iA j ∧ (c.pats.take j).all Pat.Small = true) c.pats.length ⟨rfl, by simp⟩ ?_
  rintro j f B hj ⟨rfl, g1, g3, hp⟩
  by_cases hlt : j < c.pats.length
  · have hok := hc.pat c.pats[j] (List.getElem_mem hlt)
    have e1 := s113 c.pats[j] hok
    cases hw : c.pats[j].Small with
    | false =>
      have : c.pats.all Pat.Small = false := all_not hlt hw
      rw [this] at hk
      rw [hw] at e1
      simp [g1, g3, hlt, pat_cells, e1, F61]
      simpa using hk
    | true =>
      rw [hw] at e1
      simp [g1, g3, hlt, pat_cells, e1, wrap_succ (j := j) (by omega)]
      exact ⟨by omega, _, rfl, rfl, by simp [g1], by simp, all_take hp hlt hw⟩
  · have hall := all_done hp (by omega)
    rw [hall, Bool.true_and] at hk
    simp [g1, g3, hlt]
    refine k_for (fun j f B => B = [.cells 5 [c.av]] ∧ f 1 = .ptr 0 0 0 ∧ f 4 = iA j ∧ (c.cons.take j).all (fun x => decide ((x.name.size : Int) ≤ 30)) = true) c.cons.length ⟨rfl, by simp [g1]⟩ ?_
    clear hp g1 g3 hlt hj
    rintro j f B hj ⟨rfl, g1, g4, hp⟩
    by_cases hlt : j < c.cons.length
    · by_cases hr : (c.cons[j].name.size : Int) ≤ 30
      · have hr' : ¬ (c.cons[j].name.size : Int) > 30 := by omega
        simp [g1, g4, hlt, hr', wrap_succ (j := j) (by omega)]
        exact ⟨by omega, _, rfl, rfl, by simp [g1], by simp, all_take hp hlt (by simpa using hr)⟩
      · have hr' : (c.cons[j].name.size : Int) > 30 := by omega
        have : c.cons.all (fun x => decide ((x.name.size : Int) ≤ 30)) = false := all_not hlt (by simpa using hr)
        rw [this] at hk
        simp [g1, g4, hlt, hr', F61]
        simpa using hk
    · have hall := all_done hp (by omega)
      rw [hall] at hk
      simp [g1, g4, hlt, F61]
      exact hk

/-- What the statements go no further than. -/
def largeC (c : Prog) : Bool := !(smallC c) || decide ((c.ins.length : Int) > 700)

theorem s11 (c : Prog) (hc : c.Ok) : Comes 11 [c.av] (.bool (largeC c)) := fun Λ A k => by
  have e := s61 c hc
  rw [k_apart rfl c11 rfl (by simp [F11]) (by simp)]
  unfold largeC
  cases hs : smallC c with
  | false => rw [hs] at e; simp [F11, e]
  | true => rw [hs] at e; simp [F11, e]

end Go.Proofs.YtgbfbhahnoafoaaGreatDoor

/- The program's check of a code: names, lists. -/
namespace Go.Proofs.YtgbfbhahnoafoaaGreatDoor
open Go Go.Abs

variable {Λ : List LoopInfo} {A : Heap} {k : KL}

theorem get_bang {s : ByteArray} {i : Nat} (h : i < s.size) : s.get! i = s[i] := by
  cases s with
  | mk d =>
    have hd : i < d.size := h
    simp [ByteArray.get!, hd]
    rfl

theorem empty_str {s : ByteArray} : s.toList.isEmpty = decide (s.size = 0) := by
  rw [Bool.eq_iff_iff]
  simp only [List.isEmpty_iff, decide_eq_true_eq, ByteArray.toList_eq]
  constructor
  · intro h
    rw [← size_toList, h]; rfl
  · intro h
    exact List.eq_nil_of_length_eq_zero (by rw [size_toList, h])

theorem decode_one {s : ByteArray} {i : Nat} (h : i < s.size) (hb : s[i].toNat < 128) : Utf8.decode s i = (s[i].toNat, 1) := by
  have hg := get_bang h
  unfold Utf8.decode
  simp only [Nat.add_zero, hg]
  rw [if_pos (by omega)]

theorem decode_big {s : ByteArray} {i : Nat} (h : i < s.size) (hb : 128 ≤ s[i].toNat) : 128 ≤ (Utf8.decode s i).1 := by
  have hg := get_bang h
  unfold Utf8.decode
  simp only [Nat.add_zero, hg]
  rw [if_neg (by omega)]
  repeat' split
  all_goals (try simp only [Utf8.runeError])
  all_goals first | omega | (simp at *; omega)

/-- The program's 'great'. -/
theorem s199 (s : ByteArray) (hm : s.size ≤ maxI) : Comes 199 [.str s] (.bool (greatOk s)) := fun Λ A k => call_iff fun k hk => by
  rw [k_apart rfl c199 rfl (by simp [F199]) (by simp)]
  unfold maxI at hm
  unfold greatOk at hk
  by_cases h1 : 1 ≤ s.size
  case neg =>
    have h0 : s.size = 0 := by omega
    simp [h1] at hk
    simp [F199, empty_str, h0]
    exact hk
  have h0 : ¬ s.size = 0 := by omega
  by_cases h2 : s.size ≤ 8
  case neg =>
    have i2 : (s.size : Int) > 8 := by omega
    simp [h2] at hk
    simp [F199, empty_str, h0, i2]
    exact hk
  have i2 : ¬ (s.size : Int) > 8 := by omega
  have hp : 0 < s.size := by omega
  have hg : s[0]? = some s[0] := by simp [hp]
  obtain ⟨b, r, hl⟩ : ∃ b r, s.data.toList = b :: r := by
    cases h : s.data.toList with
    | nil => have := size_toList s; rw [h] at this; simp at this; omega
    | cons b r => exact ⟨b, r, rfl⟩
  have hb : s[0] = b := by
    have : s.data.toList[0]? = some s[0] := by rw [Array.getElem?_toList]; exact hg
    rw [hl] at this; simpa using this.symm
  simp only [hl, h1, h2, decide_true, Bool.true_and] at hk
  by_cases h3 : (b.toNat : Int) < 65
  · have : (decide (65 ≤ b.toNat) && decide (b.toNat ≤ 90) && r.all lowB) = false := by
      have : ¬ 65 ≤ b.toNat := by omega
      simp [this]
    rw [this] at hk
    simp [F199, empty_str, h0, i2, hg, hb, h3]
    exact hk
  by_cases h4 : (b.toNat : Int) > 90
  · have : (decide (65 ≤ b.toNat) && decide (b.toNat ≤ 90) && r.all lowB) = false := by
      have : ¬ b.toNat ≤ 90 := by omega
      simp [this]
    rw [this] at hk
    simp [F199, empty_str, h0, i2, hg, hb, h3, h4]
    exact hk
  have h5 : (decide (65 ≤ b.toNat) && decide (b.toNat ≤ 90) && r.all lowB) = r.all lowB := by
    have h5 : 65 ≤ b.toNat := by omega
    have h6 : b.toNat ≤ 90 := by omega
    simp [h5, h6]
  rw [h5] at hk
  have hr : (s.extract 1 s.size).data.toList = r := by rw [extract_rest, hl]; rfl
  have i1 : (1 : Int) ≤ (s.size : Int) := by omega
  simp [F199, empty_str, h0, i2, hg, hb, h3, h4, i1]
  generalize ht : s.extract 1 s.size = t at hr ⊢
  have hts : t.size = r.length := by rw [← hr, size_toList]
  refine k_for (fun j f B => B = [.siter t j] ∧ f 24 = .ptr 0 0 0 ∧ (r.take j).all lowB = true) r.length ⟨by simp, by simp, by simp⟩ ?_
  rintro j f B hj ⟨rfl, h24, hp⟩
  by_cases hlt : j < r.length
  · have hj2 : j < t.size := by omega
    have hbj : t[j] = r[j] := by
      have : t.data.toList[j]? = some t[j] := by rw [Array.getElem?_toList]; exact getElem?_pos t j hj2
      rw [hr, List.getElem?_eq_getElem hlt] at this
      simpa using this.symm
    cases hb2 : lowB r[j] with
    | true =>
      have hq := all_take hp hlt hb2
      unfold lowB at hb2
      simp at hb2
      have hd := decode_one (s := t) hj2 (by rw [hbj]; omega)
      rw [hbj] at hd
      have n1 : ¬ (r[j].toNat : Int) < 97 := by omega
      have n2 : ¬ (r[j].toNat : Int) > 122 := by omega
      simp [h24, hj2, hd, n1, n2, hset]
      exact ⟨by omega, _, rfl, rfl, by simp [h24], hq⟩
    | false =>
      have hall : r.all lowB = false := by rw [List.all_eq_false]; exact ⟨r[j], List.getElem_mem hlt, by simp [hb2]⟩
      rw [hall] at hk
      by_cases n1 : ((Utf8.decode t j).1 : Int) < 97
      · simp [h24, hj2, n1, hset, F199]
        exact hk
      · have n2 : ((Utf8.decode t j).1 : Int) > 122 := by
          by_cases h128 : t[j].toNat < 128
          · rw [decode_one hj2 h128] at n1 ⊢
            rw [hbj] at n1 ⊢
            unfold lowB at hb2
            simp at hb2
            simp only at n1 ⊢
            have := hb2 (by omega)
            omega
          · have := decode_big hj2 (by omega)
            omega
        simp [h24, hj2, n1, n2, hset, F199]
        exact hk
  · have hall : r.all lowB = true := by rwa [List.take_of_length_le (by omega)] at hp
    rw [hall] at hk
    have hj2 : ¬ j < t.size := by omega
    simp [h24, hj2, F199]
    exact hk

end Go.Proofs.YtgbfbhahnoafoaaGreatDoor

/- The program's 'all', with functions that change nothing. -/
namespace Go.Proofs.YtgbfbhahnoafoaaGreatDoor
open Go Go.Abs

/-- A function that tells something of a value, and changes nothing. -/
def Tells (Λ : List LoopInfo) (A : Heap) (fn a : AV) (b : Bool) : Prop := ∀ (l : Heap) (k : KL), @kCall EL Λ fn [a] (A ++ l) k ↔ k.run (.ret (.bool b)) (A ++ l)

theorem Tells.app {Λ : List LoopInfo} {A l : Heap} {fn a : AV} {b : Bool} (h : Tells Λ A fn a b) : Tells Λ (A ++ l) fn a b := fun l' k => by
  rw [List.append_assoc]; exact h _ _

theorem s208 {Λ : List LoopInfo} {A : Heap} {k : KL} {g : Nat} {q : List AV} (hu : AV.unders 0 q = false) (xs : List Pat) (c : Bool) (hx : xs.length ≤ maxI) (P : Pat → Bool) (h : ∀ x ∈ xs, Tells Λ A (.func (.func g) [] q) x.av (P x)) :
    @kCall EL Λ (.func (.func 208) [] []) [.frz (xs.map Pat.av) c, .func (.func g) [] q] A k ↔ k.run (.ret (iA (match xs.findIdx? P with | some i => i | none => -1))) A := call_iff fun k hk => by
  rw [k_fun rfl c208 (by simp [hu]) (by simp [F208])]
  unfold maxI at hx
  simp [F208]
  refine k_for (fun j f B => B = A ∧ f 0 = .frz (xs.map Pat.av) c ∧ f 1 = .func (.func g) [] q ∧ f 8 = iA j ∧ f 7 = iA xs.length ∧ ∀ i, i < j → (h : i < xs.length) → P xs[i] = false) xs.length ⟨rfl, by simp⟩ ?_
  rintro j f B hj ⟨rfl, h0, h1, h8, h7, hp⟩
  by_cases hlt : j < xs.length
  · have he := h xs[j] (List.getElem_mem hlt) [] 
    simp only [List.append_nil] at he
    skip
    cases hP : P xs[j] with
    | true =>
      have hfi : xs.findIdx? P = some j := by
        rw [List.findIdx?_eq_some_iff_getElem]
        exact ⟨hlt, hP, fun i hi => by simpa using hp i hi (by omega)⟩
      rw [hfi] at hk
      rw [hP] at he
      simp [h0, h1, h8, h7, hlt, pat_cells, he, F208]
      exact hk
    | false =>
      rw [hP] at he
      simp [h0, h1, h8, h7, hlt, pat_cells, he, wrap_succ (j := j) (by omega)]
      refine ⟨by omega, _, rfl, rfl, by simp [h0], by simp [h1], by simp, by simp [h7], fun i hi hil => ?_⟩
      by_cases hij : i = j
      · subst hij; exact hP
      · exact hp i (by omega) hil
  · have hfi : xs.findIdx? P = none := by
      rw [List.findIdx?_eq_none_iff]
      intro x hx'
      obtain ⟨i, hi, rfl⟩ := List.getElem_of_mem hx'
      exact hp i (by omega) hi
    rw [hfi] at hk
    simp [h8, h7, hlt, F208]
    exact hk

theorem s200 {Λ : List LoopInfo} {A : Heap} {k : KL} {g : Nat} {q : List AV} (hu : AV.unders 0 q = false) (xs : List Pat) (c : Bool) (hx : xs.length ≤ maxI) (P : Pat → Bool) (h : ∀ x ∈ xs, Tells Λ A (.func (.func g) [] q) x.av (P x)) :
    @kCall EL Λ (.func (.func 200) [] []) [.frz (xs.map Pat.av) c, .func (.func g) [] q] A k ↔ k.run (.ret (.bool (xs.any P))) A := call_iff fun k hk => by
  rw [k_fun rfl c200 (by simp [hu]) (by simp [F200])]
  have e := fun {k : KL} => s208 (k := k) hu xs c hx P h
  cases hf : xs.findIdx? P with
  | some i =>
    have ha : xs.any P = true := by
      rw [List.any_eq_true]
      obtain ⟨h1, h2, _⟩ := List.findIdx?_eq_some_iff_getElem.1 hf
      exact ⟨xs[i], List.getElem_mem h1, h2⟩
    rw [hf] at e
    rw [ha] at hk
    simp [F200, e]
    exact hk
  | none =>
    have ha : xs.any P = false := by
      rw [List.any_eq_false]
      intro x hx
      simp [List.findIdx?_eq_none_iff.1 hf x hx]
    rw [hf] at e
    rw [ha] at hk
    simp [F200, e]
    exact hk

theorem t201 {Λ : List LoopInfo} {A : Heap} {g : Nat} {q : List AV} {x : Pat} {b : Bool} (h : Tells Λ A (.func (.func g) [] q) x.av b) : Tells Λ (A ++ [.cells 1 [.func (.func g) [] q]]) (.func (.func 201) [] [.ptr A.length 0 0]) x.av (!b) := fun l k => by
  have hc : ∀ l', hget (((A ++ [.cells 1 [.func (.func g) [] q]]) ++ l) ++ l') A.length = .cells 1 [.func (.func g) [] q] := fun l' => by
    rw [List.append_assoc, List.append_assoc, hget_app0]; rfl
  have h' : ∀ l' (k : KL), @kCall EL Λ (.func (.func g) [] q) [x.av] (((A ++ [.cells 1 [.func (.func g) [] q]]) ++ l) ++ l') k ↔ k.run (.ret (.bool b)) (((A ++ [.cells 1 [.func (.func g) [] q]]) ++ l) ++ l') := fun l' k => by
    simp only [List.append_assoc]; exact h _ k
  generalize ((A ++ [Blk.cells 1 [AV.func (.func g) [] q]]) ++ l) = B at hc h' ⊢
  generalize A.length = id at hc ⊢
  rw [k_fun rfl c201 (by simp) (by simp [F201])]
  obtain ⟨f, n, t, ps, cc⟩ := x
  simp only [Pat.av_mk] at h'
  simp [F201, hc, h']

/-- 'all'. -/
theorem s182 {Λ : List LoopInfo} {A : Heap} {k : KL} {g : Nat} {q : List AV} (hu : AV.unders 0 q = false) (xs : List Pat) (c : Bool) (hx : xs.length ≤ maxI) (P : Pat → Bool) (h : ∀ x ∈ xs, Tells Λ A (.func (.func g) [] q) x.av (P x)) :
    @kCall EL Λ (.func (.func 182) [] []) [.frz (xs.map Pat.av) c, .func (.func g) [] q] A k ↔ k.run (.ret (.bool (xs.all P))) A := by
  rw [k_fun rfl c182 (by simp [hu]) (by simp [F182])]
  have e := fun {k : KL} => s200 (Λ := Λ) (A := A ++ [.cells 1 [.func (.func g) [] q]]) (k := k) (g := 201) (q := [.ptr A.length 0 0]) (by simp) xs c hx (fun x => !P x) (fun x hx => t201 (h x hx))
  have : (!xs.any fun x => !P x) = xs.all P := by simp [List.all_eq_not_any_not]
  rw [← this]
  simp [F182, e]

theorem s209 {Λ : List LoopInfo} {A : Heap} {k : KL} {g : Nat} {q : List AV} (hu : AV.unders 0 q = false) (xs : List Ins) (c : Bool) (hx : xs.length ≤ maxI) (P : Ins → Bool) (h : ∀ x ∈ xs, Tells Λ A (.func (.func g) [] q) x.av (P x)) :
    @kCall EL Λ (.func (.func 209) [] []) [.frz (xs.map Ins.av) c, .func (.func g) [] q] A k ↔ k.run (.ret (iA (match xs.findIdx? P with | some i => i | none => -1))) A := call_iff fun k hk => by
  rw [k_fun rfl c209 (by simp [hu]) (by simp [F209])]
  unfold maxI at hx
  simp [F209]
  refine k_for (fun j f B => B = A ∧ f 0 = .frz (xs.map Ins.av) c ∧ f 1 = .func (.func g) [] q ∧ f 8 = iA j ∧ f 7 = iA xs.length ∧ ∀ i, i < j → (h : i < xs.length) → P xs[i] = false) xs.length ⟨rfl, by simp⟩ ?_
  rintro j f B hj ⟨rfl, h0, h1, h8, h7, hp⟩
  by_cases hlt : j < xs.length
  · have he := h xs[j] (List.getElem_mem hlt) [] 
    simp only [List.append_nil] at he
    simp only [Ins.av] at he
    cases hP : P xs[j] with
    | true =>
      have hfi : xs.findIdx? P = some j := by
        rw [List.findIdx?_eq_some_iff_getElem]
        exact ⟨hlt, hP, fun i hi => by simpa using hp i hi (by omega)⟩
      rw [hfi] at hk
      rw [hP] at he
      simp [h0, h1, h8, h7, hlt, Ins.av, he, F209]
      exact hk
    | false =>
      rw [hP] at he
      simp [h0, h1, h8, h7, hlt, Ins.av, he, wrap_succ (j := j) (by omega)]
      refine ⟨by omega, _, rfl, rfl, by simp [h0], by simp [h1], by simp, by simp [h7], fun i hi hil => ?_⟩
      by_cases hij : i = j
      · subst hij; exact hP
      · exact hp i (by omega) hil
  · have hfi : xs.findIdx? P = none := by
      rw [List.findIdx?_eq_none_iff]
      intro x hx'
      obtain ⟨i, hi, rfl⟩ := List.getElem_of_mem hx'
      exact hp i (by omega) hi
    rw [hfi] at hk
    simp [h8, h7, hlt, F209]
    exact hk

theorem s203 {Λ : List LoopInfo} {A : Heap} {k : KL} {g : Nat} {q : List AV} (hu : AV.unders 0 q = false) (xs : List Ins) (c : Bool) (hx : xs.length ≤ maxI) (P : Ins → Bool) (h : ∀ x ∈ xs, Tells Λ A (.func (.func g) [] q) x.av (P x)) :
    @kCall EL Λ (.func (.func 203) [] []) [.frz (xs.map Ins.av) c, .func (.func g) [] q] A k ↔ k.run (.ret (.bool (xs.any P))) A := call_iff fun k hk => by
  rw [k_fun rfl c203 (by simp [hu]) (by simp [F203])]
  have e := fun {k : KL} => s209 (k := k) hu xs c hx P h
  cases hf : xs.findIdx? P with
  | some i =>
    have ha : xs.any P = true := by
      rw [List.any_eq_true]
      obtain ⟨h1, h2, _⟩ := List.findIdx?_eq_some_iff_getElem.1 hf
      exact ⟨xs[i], List.getElem_mem h1, h2⟩
    rw [hf] at e
    rw [ha] at hk
    simp [F203, e]
    exact hk
  | none =>
    have ha : xs.any P = false := by
      rw [List.any_eq_false]
      intro x hx
      simp [List.findIdx?_eq_none_iff.1 hf x hx]
    rw [hf] at e
    rw [ha] at hk
    simp [F203, e]
    exact hk

theorem t204 {Λ : List LoopInfo} {A : Heap} {g : Nat} {q : List AV} {x : Ins} {b : Bool} (h : Tells Λ A (.func (.func g) [] q) x.av b) : Tells Λ (A ++ [.cells 1 [.func (.func g) [] q]]) (.func (.func 204) [] [.ptr A.length 0 0]) x.av (!b) := fun l k => by
  have hc : ∀ l', hget (((A ++ [.cells 1 [.func (.func g) [] q]]) ++ l) ++ l') A.length = .cells 1 [.func (.func g) [] q] := fun l' => by
    rw [List.append_assoc, List.append_assoc, hget_app0]; rfl
  have h' : ∀ l' (k : KL), @kCall EL Λ (.func (.func g) [] q) [x.av] (((A ++ [.cells 1 [.func (.func g) [] q]]) ++ l) ++ l') k ↔ k.run (.ret (.bool b)) (((A ++ [.cells 1 [.func (.func g) [] q]]) ++ l) ++ l') := fun l' k => by
    simp only [List.append_assoc]; exact h _ k
  generalize ((A ++ [Blk.cells 1 [AV.func (.func g) [] q]]) ++ l) = B at hc h' ⊢
  generalize A.length = id at hc ⊢
  rw [k_fun rfl c204 (by simp) (by simp [F204])]
  skip
  simp only [Ins.av] at h'
  simp [F204, Ins.av, hc, h']

/-- 'all'. -/
theorem s186 {Λ : List LoopInfo} {A : Heap} {k : KL} {g : Nat} {q : List AV} (hu : AV.unders 0 q = false) (xs : List Ins) (c : Bool) (hx : xs.length ≤ maxI) (P : Ins → Bool) (h : ∀ x ∈ xs, Tells Λ A (.func (.func g) [] q) x.av (P x)) :
    @kCall EL Λ (.func (.func 186) [] []) [.frz (xs.map Ins.av) c, .func (.func g) [] q] A k ↔ k.run (.ret (.bool (xs.all P))) A := by
  rw [k_fun rfl c186 (by simp [hu]) (by simp [F186])]
  have e := fun {k : KL} => s203 (Λ := Λ) (A := A ++ [.cells 1 [.func (.func g) [] q]]) (k := k) (g := 204) (q := [.ptr A.length 0 0]) (by simp) xs c hx (fun x => !P x) (fun x hx => t204 (h x hx))
  have : (!xs.any fun x => !P x) = xs.all P := by simp [List.all_eq_not_any_not]
  rw [← this]
  simp [F186, e]

end Go.Proofs.YtgbfbhahnoafoaaGreatDoor

/- The program's check of a code: patterns. -/
namespace Go.Proofs.YtgbfbhahnoafoaaGreatDoor
open Go Go.Abs

theorem fines_all {cs : List Con} : ∀ ps : List Pat, fines cs ps = ps.all (Pat.fine cs)
  | [] => rfl
  | p :: ps => by simp [fines, fines_all ps]

theorem t202 {Λ : List LoopInfo} {B : Heap} {id : Nat} {cs : List Con} {cc : Bool} {p : Pat} {b : Bool} (hc : ∀ l, hget (B ++ l) id = .cells 1 [consA cs cc]) (ih : Comes 185 [p.av, consA cs cc] (.bool b)) :
    Tells Λ B (.func (.func 202) [] [.ptr id 0 0]) p.av b := fun l k => by
  have hc' : ∀ l', hget ((B ++ l) ++ l') id = .cells 1 [consA cs cc] := fun l' => by rw [List.append_assoc]; exact hc _
  generalize B ++ l = B' at hc' ⊢
  obtain ⟨f, n, t, ps, c⟩ := p
  simp only [Pat.av_mk] at ih
  rw [k_fun rfl c202 (by simp) (by simp [F202])]
  simp [F202, hc', ih]

theorem b185 {Λ : List LoopInfo} {k : KE} (cs : List Con) (cc : Bool) (hcs : cs.length ≤ maxI) (fm n : Int) (t : ByteArray) (ps : List Pat) (c : Bool) (f : Nat → AV)
    (h2 : f 2 = .ptr 0 0 0) (h3 : f 3 = .ptr 1 0 0) (h5 : f 5 = iA 0) (h7 : f 7 = iA fm) 
    (hF : ∀ f', headOk cs fm n ps.length = false → f' 4 = .bool false → k.run .ret (regs 58 f') [.cells 4 [patA fm n t ps c], .cells 1 [consA cs cc]])
    (hk : ∀ f' m, f' 2 = .ptr 0 0 0 → f' 3 = .ptr 1 0 0 → headOk cs fm n ps.length = decide ((ps.length : Int) = m) → f' 5 = iA m → k.run .normal (regs 58 f') [.cells 4 [patA fm n t ps c], .cells 1 [consA cs cc]]) :
    @kWp EL Λ F185b0 (regs 58 f) [.cells 4 [patA fm n t ps c], .cells 1 [consA cs cc]] k := by
  unfold maxI at hcs
  have hw : IntKind.i64.wrap ((cs.length : Int) - 1) = (cs.length : Int) - 1 := wrap_i64 (by omega) (by omega)
  have hf : fm = 1 ∨ fm = 2 ∨ fm = 5 ∨ fm = 3 ∨ fm = 4 ∨ fm = 6 ∨ (fm ≠ 1 ∧ fm ≠ 2 ∧ fm ≠ 5 ∧ fm ≠ 3 ∧ fm ≠ 4 ∧ fm ≠ 6) := by omega
  rcases hf with rfl | rfl | rfl | rfl | rfl | rfl | hf
  case inr.inr.inr.inr.inr.inl =>
    by_cases hn : 0 ≤ n ∧ n ≤ (cs.length : Int) - 1
    · obtain ⟨hl, ha⟩ := argsAt_get hn.1 hn.2
      have hlt : n < (cs.length : Int) := by omega
      simp [F185b0, h2, h3, h7, hw, hn.1, hn.2, hl, hlt]
      exact hk _ (argsAt cs n) (by simp [h2]) (by simp [h3]) (by simp [headOk, hn.1, hn.2]) (by simp [ha])
    · have hb : (decide (0 ≤ n) && decide (n ≤ (cs.length : Int) - 1)) = false := by simp; omega
      simp [F185b0, h2, h3, h7, hw, hb]
      exact hF _ (by simp [headOk, hb]) (by simp)
  case inr.inr.inr.inr.inr.inr =>
    obtain ⟨a1, a2, a3, a4, a5, a6⟩ := hf
    simp [F185b0, h7, a1, a2, a3, a4, a5, a6]
    exact hF _ (by simp [headOk, a1, a2, a3, a4, a5, a6]) (by simp)
  case inr.inr.inr.inl =>
    cases hb : (decide (-1000000000 ≤ n) && decide (n ≤ 1000000000)) with
    | true =>
      simp [F185b0, h2, h7, hb]
      exact hk _ 0 (by simp [h2]) (by simp [h3]) (by simp [headOk, hb]) (by simp [h5])
    | false =>
      simp [F185b0, h2, h7, hb]
      exact hF _ (by simp [headOk, hb]) (by simp)
  case inr.inr.inr.inr.inl =>
    cases hb : (decide (0 ≤ n) && decide (n ≤ 1)) with
    | true =>
      simp [F185b0, h2, h7, hb]
      exact hk _ 0 (by simp [h2]) (by simp [h3]) (by simp [headOk, hb]) (by simp [h5])
    | false =>
      simp [F185b0, h2, h7, hb]
      exact hF _ (by simp [headOk, hb]) (by simp)
  all_goals
    by_cases hm : n = 0
    · subst hm
      simp [F185b0, h2, h7]
      exact hk _ 0 (by simp [h2]) (by simp [h3]) (by simp [headOk]) (by simp [h5])
    · simp [F185b0, h2, h7, hm]
      exact hF _ (by simp [headOk, hm]) (by simp)

theorem s185 (cs : List Con) (cc : Bool) (hcs : cs.length ≤ maxI) : ∀ (p : Pat), p.Ok → Comes 185 [p.av, consA cs cc] (.bool (p.fine cs))
  | .mk fm n t ps c, hok, Λ, A, k => call_iff fun k hk => by
    obtain ⟨h1, h2, h3, h4⟩ := hok
    rw [k_apart rfl c185 rfl (by simp [F185]) (by simp [consA])]
    have hres : (Pat.mk fm n t ps c).fine cs = (headOk cs fm n ps.length && noText t && fines cs ps) := rfl
    simp [F185]
    refine b185 cs cc hcs fm n t ps c _ ?_ ?_ ?_ ?_ (fun f' hh h4 => ?_) (fun f' m e2 e3 hh e5 => ?_)
    · simp
    · simp
    · simp
    · simp
    · rw [hres, hh] at hk
      simp [F185, h4]
      simpa using hk
    · by_cases ht : t.toList = []
      · have ht' : t.toList.isEmpty = true := by simp [ht]
        by_cases hm : (ps.length : Int) = m
        · subst hm
          have e := fun {k : KL} => s182 (Λ := []) (A := [.cells 4 [patA fm n t ps c], .cells 1 [consA cs cc]]) (k := k) (g := 202) (q := [.ptr 1 0 0]) (by simp) ps c h1 (Pat.fine cs) (fun x hx => t202 (fun l => by rfl) (s185 cs cc hcs x (h4 x hx)))
          rw [← fines_all] at e
          simp only [noText, ht, hh, decide_true, Bool.true_and] at hres
          rw [hres] at hk
          simp [F185, e2, e3, e5, ht', e]
          exact hk
        · simp only [noText, ht, hh, hm, decide_true, decide_false, Bool.false_and] at hres
          rw [hres] at hk
          simp [F185, e2, e5, ht', hm]
          exact hk
      · simp only [noText, ht, decide_false, Bool.and_false, Bool.false_and] at hres
        rw [hres] at hk
        have ht' : t.toList.isEmpty = false := by simp [ht]
        simp [F185, e2, ht']
        exact hk
termination_by p => SizeOf.sizeOf p
decreasing_by
  have := List.sizeOf_lt_of_mem hx
  simp; omega

end Go.Proofs.YtgbfbhahnoafoaaGreatDoor

/- Regions that draw their order and write: rules to rewrite with. -/
namespace Go.Abs

variable {E : Env} {Λ : List LoopInfo} {R R' : Regs} {A A' A0 : Heap}

theorem wpd_nil {n0 : Nat} {ds : List Done} {Q : Regs → List Done → Prop} : WpD E Λ A0 n0 [] R ds Q ↔ Q R ds := by
  constructor
  · rintro ⟨n, R', ds', h, hq⟩; simp [evDraw] at h; obtain ⟨rfl, rfl⟩ := h; exact hq
  · exact fun h => ⟨0, _, _, rfl, h⟩

/-- The memory that an operation is done at. -/
def bitOf (E : Env) (A0 : Heap) (R : Regs) (ds : List Done) (pre : List Nat) (op : IOp) : Heap := only (putAll A0 (pick pre.contains 0 (ds.map Done.eff))) (foot E R op)

theorem wpd_plain {n0 : Nat} {ds : List Done} {d : Option Nat} {g : Option (Option Nat × Bool)} {op : IOp} {pre : List Nat} {l : List (IOper × List Nat)} {Q : Regs → List Done → Prop} (h : op.plain = true) :
    WpD E Λ A0 n0 ((⟨d, g, op⟩, pre) :: l) R ds Q ↔
      gd g R (okOut (evOp E R (bitOf E A0 R ds pre op) (n0 + ds.length) op) (fun out => out.wr.all (fun d => decide (d.1 < n0 + ds.length)) = true ∧
          WpD E Λ A0 n0 l (rput R d out.v) (ds ++ [@Done.mk out.v (out.wr ++ (out.new.toList.map fun b => (n0 + ds.length, b))) ⟨bitOf E A0 R ds pre op⟩]) Q))
        (WpD E Λ A0 n0 l (rput R d undefA) (ds ++ [@Done.mk undefA [] ⟨[]⟩]) Q) := by
  unfold WpD gd
  simp only [evDraw, drawOne, plain_callee h]
  by_cases hg : guarded R g = true
  · simp only [hg, if_true]
    unfold bitOf
    cases he : evOp E R (only (putAll A0 (pick pre.contains 0 (ds.map Done.eff))) (foot E R op)) (n0 + ds.length) op with
    | none => simp [okOut]
    | some out =>
      simp only [okOut]
      cases hw : out.wr.all (fun d => decide (d.1 < n0 + ds.length)) with
      | true => simp
      | false => simp
  · simp only [hg, Bool.false_eq_true, if_false]

def CRes.toD (R : Regs) (E : Env) (Λ : List LoopInfo) (A0 : Heap) (n0 : Nat) (ds : List Done) (pre : List Nat) (B : Heap) (d : Option Nat) (l : List (IOper × List Nat)) (Q : Regs → List Done → Prop) (r : CRes) (A' : Heap) : Prop :=
  match r with
  | .ret v => (B.length = A'.length ∧ v.named (fun id => decide (id < n0) || pre.contains (id - n0)) = true ∧ (diff 0 B A').all (fun d => (fun id => decide (id < n0) || pre.contains (id - n0)) d.1 && d.2.named (fun id => decide (id < n0) || pre.contains (id - n0))) = true) ∧
      WpD E Λ A0 n0 l (rput R d v) (ds ++ [@Done.mk v (diff 0 B A') ⟨B⟩]) Q
  | .panic _ => False

theorem wpd_call {n0 : Nat} {ds : List Done} {d : Option Nat} {g : Option (Option Nat × Bool)} {f : Arg} {xs : List Arg} {pre : List Nat} {l : List (IOper × List Nat)} {Q : Regs → List Done → Prop} :
    WpD E Λ A0 n0 ((⟨d, g, .call f xs⟩, pre) :: l) R ds Q ↔
      gd g R (WpC E Λ (arg E R f) (args E R xs) (bitOf E A0 R ds pre (.call f xs)) (CRes.toD R E Λ A0 n0 ds pre (bitOf E A0 R ds pre (.call f xs)) d l Q))
        (WpD E Λ A0 n0 l (rput R d undefA) (ds ++ [@Done.mk undefA [] ⟨[]⟩]) Q) := by
  unfold gd
  by_cases hg : guarded R g = true
  · simp only [hg, if_true]
    constructor
    · rintro ⟨n, R', ds', h1, hq⟩
      simp only [evDraw, drawOne, hg, if_true, callee] at h1
      split at h1 <;> (try (cases h1; done))
      rename_i dn hd
      split at hd <;> (try (cases hd; done))
      rename_i v A' hx
      split at hd <;> (try (cases hd; done))
      rename_i hs
      cases hd
      exact ⟨n, .ret v, A', hx, hs, n, R', ds', h1, hq⟩
    · rintro ⟨n, r, A', h1, hq⟩
      cases r with
      | ret v =>
        obtain ⟨hs, m, R', ds', h2, hq⟩ := hq
        refine ⟨max n m, R', ds', ?_, hq⟩
        have h3 := call_mono (Nat.le_max_left n m) _ _ _ _ h1
        unfold bitOf at h3 hs h2
        simp only [evDraw, drawOne, hg, if_true, callee, h3, if_pos hs]
        exact evDraw_le (call_mono (Nat.le_max_right n m)) h2
      | panic v => exact hq.elim
  · simp only [hg, Bool.false_eq_true, if_false]
    unfold WpD
    simp only [evDraw, drawOne, hg, Bool.false_eq_true, if_false]

abbrev KD := Kont (Regs → List Done → Prop)
def kDraw (E : Env) (Λ : List LoopInfo) (A0 : Heap) (n0 : Nat) (l : List (IOper × List Nat)) (R : Regs) (ds : List Done) [k : KD] : Prop := WpD E Λ A0 n0 l R ds k.run
@[simp] theorem kd_nil {n0 : Nat} {ds : List Done} {k : KD} : @kDraw E Λ A0 n0 [] R ds k ↔ k.run R ds := wpd_nil
@[simp] theorem kd_plain {n0 : Nat} {ds : List Done} {d : Option Nat} {g : Option (Option Nat × Bool)} {op : IOp} {pre : List Nat} {l : List (IOper × List Nat)} {k : KD} (h : op.plain = true) :
    @kDraw E Λ A0 n0 ((⟨d, g, op⟩, pre) :: l) R ds k ↔
      @kGd g R ⟨@kOut (evOp E R (bitOf E A0 R ds pre op) (n0 + ds.length) op) ⟨fun out => out.wr.all (fun d => decide (d.1 < n0 + ds.length)) = true ∧
          @kDraw E Λ A0 n0 l (rput R d out.v) (ds ++ [@Done.mk out.v (out.wr ++ (out.new.toList.map fun b => (n0 + ds.length, b))) ⟨bitOf E A0 R ds pre op⟩]) k⟩⟩
        ⟨@kDraw E Λ A0 n0 l (rput R d undefA) (ds ++ [@Done.mk undefA [] ⟨[]⟩]) k⟩ := wpd_plain h
def kToD (R : Regs) (E : Env) (Λ : List LoopInfo) (A0 : Heap) (n0 : Nat) (ds : List Done) (pre : List Nat) (B : Heap) (d : Option Nat) (l : List (IOper × List Nat)) (r : CRes) (A' : Heap) [k : KD] : Prop := CRes.toD R E Λ A0 n0 ds pre B d l k.run r A'
@[simp] theorem kToD_same {n0 : Nat} {ds : List Done} {pre : List Nat} {B : Heap} {d : Option Nat} {l : List (IOper × List Nat)} {v : AV} {k : KD} : @kToD R E Λ A0 n0 ds pre B d l (.ret v) B k ↔
    v.named (fun id => decide (id < n0) || pre.contains (id - n0)) = true ∧ @kDraw E Λ A0 n0 l (rput R d v) (ds ++ [@Done.mk v [] ⟨B⟩]) k := by
  unfold kToD CRes.toD kDraw
  simp [diff_self]
@[simp] theorem kd_call {n0 : Nat} {ds : List Done} {d : Option Nat} {g : Option (Option Nat × Bool)} {f : Arg} {xs : List Arg} {pre : List Nat} {l : List (IOper × List Nat)} {k : KD} :
    @kDraw E Λ A0 n0 ((⟨d, g, .call f xs⟩, pre) :: l) R ds k ↔
      @kGd g R ⟨@kCall E Λ (arg E R f) (args E R xs) (bitOf E A0 R ds pre (.call f xs)) ⟨fun r A' => @kToD R E Λ A0 n0 ds pre (bitOf E A0 R ds pre (.call f xs)) d l r A' k⟩⟩
        ⟨@kDraw E Λ A0 n0 l (rput R d undefA) (ds ++ [@Done.mk undefA [] ⟨[]⟩]) k⟩ := wpd_call
@[simp] theorem kg_region {p q : IOper × List Nat} {s : List (IOper × List Nat)} {k : KO} (h : quietSeg E (p :: q :: s) = false) : @kSeg E Λ (p :: q :: s) R A k ↔
    @kDraw E Λ (A ++ List.replicate (p :: q :: s).length .dead) A.length (p :: q :: s) R [] ⟨fun R' ds => drawOk (p :: q :: s) ds = true ∧ k.run (.next R' (putAll (A ++ List.replicate (p :: q :: s).length .dead) (ds.map Done.eff).flatten))⟩ := wpg_region h

/-! ### The memory of one operation -/

@[simp] theorem pick_nil {X : Type} {S : Nat → Bool} {i : Nat} : pick S i ([] : List (List (Nat × X))) = [] := rfl
@[simp] theorem pick_skip {X : Type} {S : Nat → Bool} {i : Nat} {Ws : List (List (Nat × X))} : pick S i ([] :: Ws) = pick S (i + 1) Ws := by
  simp only [pick]; split <;> rfl

theorem hget_dead_app {m i : Nat} : hget (A ++ List.replicate m .dead) i = hget A i := by
  unfold hget List.getD
  by_cases h : i < A.length
  · rw [List.getElem?_append_left h]
  · rw [List.getElem?_append_right (by omega), List.getElem?_eq_none (l := A) (by omega), List.getElem?_replicate]
    split <;> rfl

@[simp] theorem foot_load {g : Bool} {n : Nat} {a : Arg} : foot E R (.load g n a) = match arg E R a with | .ptr i _ _ => some [i] | _ => some [] := id rfl
@[simp] theorem foot_idxS {n : Nat} {a b : Arg} : foot E R (.idxS n a b) = match arg E R a with | .own i _ _ _ => some [i] | _ => some [] := id rfl
@[simp] theorem foot_slice {n : Nat} {a : Arg} {b c d : Option Arg} : foot E R (.slice n a b c d) = match arg E R a with | .own i _ _ _ => some [i] | _ => some [] := id rfl

@[simp] theorem foot_store {n : Nat} {a b : Arg} : foot E R (.store n a b) = none := id rfl
@[simp] theorem foot_len {q : LK} {a : Arg} : foot E R (.len q a) = none := id rfl
@[simp] theorem foot_call {a : Arg} {l : List Arg} : foot E R (.call a l) = none := id rfl
@[simp] theorem foot_mov {a : Arg} : foot E R (.mov a) = some [] := id rfl
@[simp] theorem foot_addOff {a : Arg} {n : Nat} : foot E R (.addOff a n) = some [] := id rfl
@[simp] theorem foot_bin {o : BinOp} {a b : Arg} : foot E R (.bin o a b) = some [] := id rfl
@[simp] theorem foot_build {z : List AV} {p : List (Nat × Nat × Arg)} : foot E R (.build z p) = some [] := id rfl
@[simp] theorem foot_alloc {z : AV} : foot E R (.alloc z) = some [] := id rfl
@[simp] theorem foot_lookup {q : EqK} {z : AV} {o : Bool} {x y : Arg} : foot E R (.lookup q z o x y) = none := id rfl
@[simp] theorem foot_append {e b : Nat} {x y : Arg} : foot E R (.append e b x y) = none := id rfl

@[simp] theorem hget_bit {ds : List Done} {pre : List Nat} {op : IOp} {i : Nat} (hp : pick pre.contains 0 (ds.map Done.eff) = []) : hget (bitOf E A0 R ds pre op) i = match foot E R op with
    | none => hget A0 i
    | some l => if l.contains i then hget A0 i else .dead := by
  unfold bitOf
  rw [hp]
  cases hf : foot E R op with
  | none => rfl
  | some l =>
    simp only [putAll, only, hget, List.getD, List.getElem?_map, List.getElem?_zipIdx]
    cases hA : A0[i]? with
    | none => simp
    | some b => simp only [Option.map_some, Option.getD_some, Nat.zero_add]

theorem bit_dead {ds : List Done} {pre : List Nat} {op : IOp} {i : Nat} (h : hget A0 i = .dead) (hp : pick pre.contains 0 (ds.map Done.eff) = []) : (hget (bitOf E A0 R ds pre op) i).live = false := by
  rw [hget_bit hp]
  split
  · rw [h]; rfl
  · split
    · rw [h]; rfl
    · rfl

/-- One of them writes, and what it writes nobody else looks at. -/
theorem drawOk_last {l : List (IOper × List Nat)} {ds : List Done} {d : Done} (hq : ∀ x ∈ ds, x.eff = []) (hd : ∀ x ∈ ds, ∀ e ∈ d.eff, (hget x.look.run e.1).live = false) (_hl : l.length = ds.length + 1) : drawOk l (ds ++ [d]) = true := by
  unfold drawOk
  rw [List.all_eq_true]
  rintro ⟨⟨q, dq⟩, i⟩ hqi
  rw [List.all_eq_true]
  rintro ⟨⟨p, dp⟩, j⟩ hpj
  rw [List.mem_zipIdx_iff_getElem?] at hqi hpj
  obtain ⟨q1, q2⟩ := List.getElem?_zip_eq_some.1 hqi
  obtain ⟨p1, p2⟩ := List.getElem?_zip_eq_some.1 hpj
  simp only at q1 q2 p1 p2
  have cl : ∀ {i : Nat} {x : Done}, (ds ++ [d])[i]? = some x → (x ∈ ds ∧ x.eff = []) ∨ (x = d ∧ i = ds.length) := fun {i x} h => by
    by_cases hi : i < ds.length
    · rw [List.getElem?_append_left hi] at h
      have := List.mem_of_getElem? h
      exact .inl ⟨this, hq x this⟩
    · rw [List.getElem?_append_right (by omega)] at h
      have h0 : i - ds.length = 0 := by have := (List.getElem?_eq_some_iff.1 h).1; simp at this; omega
      rw [h0] at h
      simp at h
      exact .inr ⟨h.symm, by omega⟩
  rcases cl q2 with ⟨hm, he⟩ | ⟨rfl, hi⟩
  · simp [he]
  · rcases cl p2 with ⟨hm, he⟩ | ⟨rfl, hj⟩
    · simp only [he, List.all_nil, Bool.and_true, Bool.or_eq_true, List.all_eq_true, Bool.not_eq_true']
      exact .inr fun e hee => hd dp hm e hee
    · simp [hi, hj]

theorem bit_blind {ds : List Done} {pre : List Nat} {op : IOp} {i : Nat} (hf : foot E R op = some []) : (hget (bitOf E A0 R ds pre op) i).live = false := by
  unfold bitOf
  rw [hf]
  simp only [only, hget, List.getD, List.getElem?_map, List.getElem?_zipIdx]
  cases (putAll A0 (pick pre.contains 0 (ds.map Done.eff)))[i]? <;> simp [Blk.live]

theorem bit_off {ds : List Done} {pre : List Nat} {op : IOp} {i : Nat} {l : List Nat} (hf : foot E R op = some l) (hi : l.contains i = false) : (hget (bitOf E A0 R ds pre op) i).live = false := by
  unfold bitOf
  rw [hf]
  simp only [only, hget, List.getD, List.getElem?_map, List.getElem?_zipIdx]
  cases (putAll A0 (pick pre.contains 0 (ds.map Done.eff)))[i]? <;> simp_all [Blk.live]

/-- One of them writes, wherever it stands, and what it writes nobody else looks at. -/
theorem drawOk_one {l : List (IOper × List Nat)} {ds ds2 : List Done} {d : Done} (hq : ∀ x ∈ ds ++ ds2, x.eff = [] ∧ ∀ e ∈ d.eff, (hget x.look.run e.1).live = false) : drawOk l (ds ++ d :: ds2) = true := by
  unfold drawOk
  rw [List.all_eq_true]
  rintro ⟨⟨q, dq⟩, i⟩ hqi
  rw [List.all_eq_true]
  rintro ⟨⟨p, dp⟩, j⟩ hpj
  rw [List.mem_zipIdx_iff_getElem?] at hqi hpj
  obtain ⟨q1, q2⟩ := List.getElem?_zip_eq_some.1 hqi
  obtain ⟨p1, p2⟩ := List.getElem?_zip_eq_some.1 hpj
  simp only at q1 q2 p1 p2
  have cl : ∀ {i : Nat} {x : Done}, (ds ++ d :: ds2)[i]? = some x → (x ∈ ds ++ ds2) ∨ (x = d ∧ i = ds.length) := fun {i x} h => by
    by_cases hi : i < ds.length
    · rw [List.getElem?_append_left hi] at h
      exact .inl (List.mem_append_left _ (List.mem_of_getElem? h))
    · rw [List.getElem?_append_right (by omega)] at h
      cases hj : i - ds.length with
      | zero =>
        rw [hj] at h
        simp at h
        exact .inr ⟨h.symm, by omega⟩
      | succ m =>
        rw [hj] at h
        exact .inl (List.mem_append_right _ (List.mem_of_getElem? (by simpa using h)))
  rcases cl q2 with hm | ⟨rfl, hi⟩
  · simp [(hq dq hm).1]
  · rcases cl p2 with hm | ⟨rfl, hj⟩
    · simp only [(hq dp hm).1, List.all_nil, Bool.and_true, Bool.or_eq_true, List.all_eq_true, Bool.not_eq_true']
      exact .inr fun e hee => (hq dp hm).2 e hee
    · simp [hi, hj]

/-- The last one writes; what does not come before it by an edge does not look there. -/
theorem drawOk_last2 {l : List (IOper × List Nat)} {q : IOper × List Nat} {ds : List Done} {d : Done} (hl : l.length = ds.length)
    (hq : ∀ x ∈ ds.zipIdx, x.1.eff = [] ∧ (q.2.contains x.2 = true ∨ ∀ e ∈ d.eff, (hget x.1.look.run e.1).live = false)) : drawOk (l ++ [q]) (ds ++ [d]) = true := by
  unfold drawOk
  rw [List.all_eq_true]
  rintro ⟨⟨q1, dq⟩, i⟩ hqi
  rw [List.all_eq_true]
  rintro ⟨⟨p1, dp⟩, j⟩ hpj
  rw [List.mem_zipIdx_iff_getElem?] at hqi hpj
  obtain ⟨a1, a2⟩ := List.getElem?_zip_eq_some.1 hqi
  obtain ⟨b1, b2⟩ := List.getElem?_zip_eq_some.1 hpj
  simp only at a1 a2 b1 b2
  have cl : ∀ {i : Nat} {x : Done} {o : IOper × List Nat}, (ds ++ [d])[i]? = some x → (l ++ [q])[i]? = some o → ((x, i) ∈ ds.zipIdx) ∨ (x = d ∧ i = ds.length ∧ o = q) := fun {i x o} h h' => by
    by_cases hi : i < ds.length
    · rw [List.getElem?_append_left hi] at h
      exact .inl (List.mem_zipIdx_iff_getElem?.2 (by simpa using h))
    · rw [List.getElem?_append_right (by omega)] at h
      rw [List.getElem?_append_right (by omega)] at h'
      have h0 : i - ds.length = 0 := by have := (List.getElem?_eq_some_iff.1 h).1; simp at this; omega
      rw [h0] at h
      rw [hl, h0] at h'
      simp at h h'
      exact .inr ⟨h.symm, by omega, h'.symm⟩
  rcases cl a2 a1 with hm | ⟨rfl, hi, rfl⟩
  · have h := (hq _ hm).1
    simp only at h
    simp [h]
  · rcases cl b2 b1 with hm | ⟨rfl, hj, _⟩
    · obtain ⟨h1, h2⟩ := hq _ hm
      simp only at h1 h2
      rcases h2 with h2 | h2
      · simp only [h2, Bool.or_true, Bool.true_or]
      · simp only [h1, List.all_nil, Bool.and_true, Bool.or_eq_true, List.all_eq_true, Bool.not_eq_true']
        exact .inr fun e hee => h2 e hee
    · simp [hi, hj]

end Go.Abs

/- The program's check of a code: instructions. -/
namespace Go.Proofs.YtgbfbhahnoafoaaGreatDoor
open Go Go.Abs

abbrev Fld := Int × Int × Bool
abbrev fldA (f : Fld) : AV := .agg [iA f.1, iA f.2.1, .bool f.2.2]
def fld0 : Fld := (0, 0, false)

/-- The bounds of an instruction's first field. -/
def fieldA (c : Prog) (op : Int) : Fld :=
  if op = 1 then (-1000000000, 1000000000, true)
  else if op = 2 then (0, 1, true)
  else if op = 4 then (0, 29, true)
  else if op = 5 then (0, c.funs.length - 1, true)
  else if op = 6 ∨ op = 11 ∨ op = 12 ∨ op = 31 ∨ op = 32 then (0, c.ins.length - 1, true)
  else if op = 10 then (1, 30, true)
  else if op = 18 then (0, c.cons.length - 1, true)
  else if op = 19 then (0, c.pats.length - 1, true)
  else if op = 29 then (0, 3, true)
  else fld0

def fieldB (c : Prog) (op : Int) : Fld := if op = 19 then (0, c.ins.length - 1, true) else fld0

theorem ins_fields (c : Prog) (x : Ins) : insOk c x = (rng x.op 1 34 && rng x.a (fieldA c x.op).1 (fieldA c x.op).2.1 && rng x.b (fieldB c x.op).1 (fieldB c x.op).2.1) := by
  obtain ⟨o, a, b⟩ := x
  have z : ∀ t : Int, rng t 0 0 = decide (t = 0) := fun t => by unfold rng; rw [Bool.eq_iff_iff]; simp; omega
  unfold insOk fieldA fieldB
  simp only
  by_cases h19 : o = 19
  · subst h19; simp [rng]
  · simp only [h19, ne_eq, not_false_eq_true, true_and, if_false, fld0, z]
    by_cases hb : b = 0
    · simp only [hb, not_true, if_false, decide_true, Bool.and_true]
      have hcs : o = 1 ∨ o = 2 ∨ o = 4 ∨ o = 5 ∨ o = 6 ∨ o = 11 ∨ o = 12 ∨ o = 31 ∨ o = 32 ∨ o = 10 ∨ o = 18 ∨ o = 29 ∨ (o ≠ 1 ∧ o ≠ 2 ∧ o ≠ 4 ∧ o ≠ 5 ∧ o ≠ 6 ∧ o ≠ 11 ∧ o ≠ 12 ∧ o ≠ 31 ∧ o ≠ 32 ∧ o ≠ 10 ∧ o ≠ 18 ∧ o ≠ 29) := by omega
      rcases hcs with rfl | rfl | rfl | rfl | rfl | rfl | rfl | rfl | rfl | rfl | rfl | rfl | hcs
      case inr.inr.inr.inr.inr.inr.inr.inr.inr.inr.inr.inr =>
        simp [hcs, z]
      all_goals simp [rng]
    · simp [hb]

abbrev H188 (c : Prog) (a b : Fld) : Heap := [.cells 5 [c.av], .cells 3 [fldA a], .cells 3 [fldA b], .cells 3 [fldA (0, c.ins.length - 1, true)]]

theorem b188 {Λ : List LoopInfo} {k : KE} (c : Prog) (hc : c.Ok) (op : Int) (f : Nat → AV)
    (h1 : f 1 = iA op) (h2 : f 2 = .ptr 0 0 0) (h4 : f 4 = .ptr 1 0 0) (h5 : f 5 = .ptr 2 0 0) (h7 : f 7 = .ptr 3 0 0) (h13 : f 13 = iA op)
    (hk : ∀ f' (l : List Blk), f' 1 = iA op → f' 4 = .ptr 1 0 0 → f' 5 = .ptr 2 0 0 → k.run .normal (regs 62 f') (H188 c (fieldA c op) (fieldB c op) ++ l)) :
    @kWp EL Λ F188b0 (regs 62 f) (H188 c fld0 fld0) k := by
  have l1 := hc.ins
  have l2 := hc.pats
  have l3 := hc.funs
  have l4 := hc.cons
  unfold maxI at l1 l2 l3 l4
  have w1 : IntKind.i64.wrap ((c.ins.length : Int) - 1) = (c.ins.length : Int) - 1 := wrap_i64 (by omega) (by omega)
  have w2 : IntKind.i64.wrap ((c.pats.length : Int) - 1) = (c.pats.length : Int) - 1 := wrap_i64 (by omega) (by omega)
  have w3 : IntKind.i64.wrap ((c.funs.length : Int) - 1) = (c.funs.length : Int) - 1 := wrap_i64 (by omega) (by omega)
  have w4 : IntKind.i64.wrap ((c.cons.length : Int) - 1) = (c.cons.length : Int) - 1 := wrap_i64 (by omega) (by omega)
  have hcs : op = 1 ∨ op = 2 ∨ op = 4 ∨ op = 5 ∨ op = 6 ∨ op = 11 ∨ op = 12 ∨ op = 31 ∨ op = 32 ∨ op = 10 ∨ op = 18 ∨ op = 29 ∨ op = 19 ∨ (op ≠ 1 ∧ op ≠ 2 ∧ op ≠ 4 ∧ op ≠ 5 ∧ op ≠ 6 ∧ op ≠ 11 ∧ op ≠ 12 ∧ op ≠ 31 ∧ op ≠ 32 ∧ op ≠ 10 ∧ op ≠ 18 ∧ op ≠ 29 ∧ op ≠ 19) := by omega
  rcases hcs with rfl | rfl | rfl | rfl | rfl | rfl | rfl | rfl | rfl | rfl | rfl | rfl | rfl | hcs
  case inr.inr.inr.inr.inr.inr.inr.inr.inr.inr.inr.inr.inl =>
    simp [F188b0, h2, h4, h5, h7, h13, w2]
    simp [fieldA, fieldB] at hk
    refine ⟨drawOk_last2 (l := [_, _, _, _, _, _]) (ds := [_, _, _, _, _, _]) rfl (fun x hx => ?_), ?_⟩
    · simp only [List.zipIdx_cons, List.zipIdx_nil, List.mem_cons, List.not_mem_nil, or_false] at hx
      rcases hx with rfl | rfl | rfl | rfl | rfl | rfl <;> refine ⟨rfl, ?_⟩ <;> first | exact .inl rfl | exact .inr (fun e he => by simp at he; rw [he]; exact bit_off (l := [3]) (by simp [h7]) rfl)
    · simp [putAll, hset_lt]
      exact hk _ _ (by simp [h1]) (by simp [h4]) (by simp [h5])
  case inr.inr.inr.inr.inr.inr.inr.inr.inr.inr.inr.inr.inr =>
    simp [fieldA, fieldB, hcs] at hk
    simp [F188b0, h13, hcs]
    exact hk _ [] (by simp [h1]) (by simp [h4]) (by simp [h5])
  all_goals
    simp [fieldA, fieldB] at hk
    simp [F188b0, h2, h4, h7, h13, w3, w4]
    exact hk _ [] (by simp [h1]) (by simp [h4]) (by simp [h5])

theorem s188 (c : Prog) (hc : c.Ok) (op : Int) : Comes 188 [c.av, iA op] (.tuple [fldA (fieldA c op), fldA (fieldB c op), .bool (rng op 1 34)]) := fun Λ A k => call_iff fun k hk => by
  rw [k_apart rfl c188 rfl (by simp [F188]) (by simp)]
  have l1 := hc.ins
  unfold maxI at l1
  have w1 : IntKind.i64.wrap ((c.ins.length : Int) - 1) = (c.ins.length : Int) - 1 := wrap_i64 (by omega) (by omega)
  simp [F188, w1, hset]
  refine b188 c hc op _ ?_ ?_ ?_ ?_ ?_ ?_ (fun f l h1 h4 h5 => ?_)
  · simp
  · simp
  · simp
  · simp
  · simp
  · simp
  simp [h1, h4, h5]
  refine ⟨by simp [AV.named], drawOk_last2 (l := [_, _, _, _]) (ds := [_, _, _, _]) rfl (fun x hx => ?_), ?_⟩
  · simp only [List.zipIdx_cons, List.zipIdx_nil, List.mem_cons, List.not_mem_nil, or_false] at hx
    rcases hx with rfl | rfl | rfl | rfl <;> refine ⟨rfl, ?_⟩ <;> first | exact .inl rfl | exact .inr (fun e he => by simp at he; rw [he]; exact bit_off (l := [2]) (by simp [h5]) rfl)
  · simp [putAll, hset_lt, h4, h5, F188]
    exact hk

/-- The closure of 'Check' over instructions. -/
theorem t187 {Λ : List LoopInfo} {B : Heap} {id : Nat} {c : Prog} (hok : c.Ok) (hc : ∀ l, hget (B ++ l) id = .cells 5 [c.av]) (x : Ins) :
    Tells Λ B (.func (.func 187) [] [.ptr id 0 0]) x.av (insOk c x) := fun l k => by
  have hc' : ∀ l', hget ((B ++ l) ++ l') id = .cells 5 [c.av] := fun l' => by rw [List.append_assoc]; exact hc _
  generalize B ++ l = B' at hc' ⊢
  have e := s188 c hok x.op
  rw [ins_fields]
  unfold rng at *
  rw [k_fun rfl c187 (by simp) (by simp [F187])]
  cases h1 : (decide (1 ≤ x.op) && decide (x.op ≤ 34)) with
  | false =>
    rw [h1] at e
    simp [F187, hc', e]
  | true =>
    rw [h1] at e
    cases h2 : (decide ((fieldA c x.op).1 ≤ x.a) && decide (x.a ≤ (fieldA c x.op).2.1)) with
    | false => simp [F187, hc', e, h2]
    | true => simp [F187, hc', e, h2]

theorem t183 {Λ : List LoopInfo} {B : Heap} {id : Nat} {c : Prog} (hok : c.Ok) (hc : ∀ l, hget (B ++ l) id = .cells 5 [c.av]) (p : Pat) (hp : p.Ok) :
    Tells Λ B (.func (.func 183) [] [.ptr id 0 0]) p.av (patC c p) := fun l k => by
  have hc' : ∀ l', hget ((B ++ l) ++ l') id = .cells 5 [c.av] := fun l' => by rw [List.append_assoc]; exact hc _
  generalize B ++ l = B' at hc' ⊢
  have e1 := s184 p hp 12 (by omega) (by omega)
  have e2 := s185 c.cons c.cc hok.cons p hp
  unfold patC
  rw [k_fun rfl c183 (by simp) (by simp [F183])]
  obtain ⟨f, n, t, ps, cc⟩ := p
  simp only [Pat.av_mk] at e1 e2 ⊢
  by_cases h : 0 ≤ (Pat.mk f n t ps cc).weigh 12
  · have h' : (Pat.mk f n t ps cc).weigh 12 ≥ 0 := h
    simp [F183, hc', e1, e2, h]
  · have h' : ¬ (Pat.mk f n t ps cc).weigh 12 ≥ 0 := h
    simp [F183, e1, h]

end Go.Proofs.YtgbfbhahnoafoaaGreatDoor

/- The program's 'all', with functions that change the memory. -/
namespace Go.Proofs.YtgbfbhahnoafoaaGreatDoor
open Go Go.Abs

/-- A call comes to true, with the one, or to false, with the other. -/
def Splits (Λ : List LoopInfo) (A : Heap) (fn a : AV) (T F : Heap → Prop) : Prop := ∀ (k : KL), (∀ B, T B → k.run (.ret (.bool true)) B) → (∀ B, F B → k.run (.ret (.bool false)) B) → @kCall EL Λ fn [a] A k

theorem Tells.splits {Λ : List LoopInfo} {A : Heap} {fn a : AV} {b : Bool} (h : Tells Λ A fn a b) {T F : Heap → Prop} (hT : b = true → T A) (hF : b = false → F A) : Splits Λ A fn a T F := fun k kT kF => by
  have := (h [] k).2
  rw [List.append_nil] at this
  refine this ?_
  cases b with
  | true => exact kT A (hT rfl)
  | false => exact kF A (hF rfl)

theorem w109 {Λ : List LoopInfo} {A : Heap} {k : KL} {g : Nat} {q : List AV} (hu : AV.unders 0 q = false) (xs : List Int) (c : Bool) (hx : xs.length ≤ maxI) (I : Nat → Heap → Prop) (J : Heap → Prop) (h0 : I 0 A)
    (step : ∀ j B (hj : j < xs.length), I j B → Splits Λ B (.func (.func g) [] q) (iA xs[j]) J (I (j + 1)))
    (hF : ∀ B, I xs.length B → k.run (.ret (iA (-1))) B) (hT : ∀ B (j : Nat), J B → k.run (.ret (iA j)) B) :
    @kCall EL Λ (.func (.func 109) [] []) [.frz (xs.map iA) c, .func (.func g) [] q] A k := by
  rw [k_fun rfl c109 (by simp [hu]) (by simp [F109])]
  unfold maxI at hx
  simp [F109]
  refine k_for (fun j f B => I j B ∧ f 0 = .frz (xs.map iA) c ∧ f 1 = .func (.func g) [] q ∧ f 8 = iA j ∧ f 7 = iA xs.length) xs.length ⟨h0, by simp⟩ ?_
  rintro j f B hj ⟨hI, h0, h1, h8, h7⟩
  by_cases hlt : j < xs.length
  · simp [h0, h1, h8, h7, hlt]
    refine step j B hlt hI _ (fun B' h => ?_) (fun B' h => ?_)
    · have := hT B' j h
      simp [F109]
      exact this
    · simp [h8, wrap_succ (j := j) (by omega)]
      exact ⟨by omega, _, rfl, h, by simp [h0], by simp [h1], by simp, by simp [h7]⟩
  · have he : j = xs.length := by omega
    subst he
    have := hF B hI
    simp [h8, h7, F109]
    exact this

theorem w48 {Λ : List LoopInfo} {A : Heap} {k : KL} {g : Nat} {q : List AV} (hu : AV.unders 0 q = false) (xs : List Int) (c : Bool) (hx : xs.length ≤ maxI) (I : Nat → Heap → Prop) (J : Heap → Prop) (h0 : I 0 A)
    (step : ∀ j B (hj : j < xs.length), I j B → Splits Λ B (.func (.func g) [] q) (iA xs[j]) J (I (j + 1)))
    (hF : ∀ B, I xs.length B → k.run (.ret (.bool false)) B) (hT : ∀ B, J B → k.run (.ret (.bool true)) B) :
    @kCall EL Λ (.func (.func 48) [] []) [.frz (xs.map iA) c, .func (.func g) [] q] A k := by
  rw [k_fun rfl c48 (by simp [hu]) (by simp [F48])]
  simp [F48]
  refine w109 hu xs c hx I J h0 step (fun B h => ?_) (fun B j h => ?_)
  · have := hF B h
    simp
    exact this
  · have := hT B h
    simp
    exact this

theorem w189 {Λ : List LoopInfo} {B : Heap} {g id : Nat} {q : List AV} {x : Int} {T F : Heap → Prop} (hc : ∀ l, hget (B ++ l) id = .cells 1 [.func (.func g) [] q]) (h : ∀ l, Splits Λ (B ++ l) (.func (.func g) [] q) (iA x) T F) :
    Splits Λ B (.func (.func 189) [] [.ptr id 0 0]) (iA x) F T := fun k kT kF => by
  rw [k_fun rfl c189 (by simp) (by simp [F189])]
  have h0 := h []; rw [List.append_nil] at h0
  have hc0 := hc []
  rw [List.append_nil] at hc0
  simp [F189, hc0]
  refine h0 _ (fun B' h => ?_) (fun B' h => ?_)
  · have := kF B' h
    simp [F189]
    exact this
  · have := kT B' h
    simp [F189]
    exact this

/-- 'all'. -/
theorem w165 {Λ : List LoopInfo} {A : Heap} {k : KL} {g : Nat} {q : List AV} (hu : AV.unders 0 q = false) (xs : List Int) (c : Bool) (hx : xs.length ≤ maxI) (I : Nat → Heap → Prop) (J : Heap → Prop) (h0 : I 0 (A ++ [.cells 1 [.func (.func g) [] q]]))
    (hI : ∀ j B l, I j B → A.length < B.length ∧ hget B A.length = .cells 1 [.func (.func g) [] q] ∧ I j (B ++ l))
    (step : ∀ j B (hj : j < xs.length), I j B → Splits Λ B (.func (.func g) [] q) (iA xs[j]) (I (j + 1)) J)
    (hT : ∀ B, I xs.length B → k.run (.ret (.bool true)) B) (hF : ∀ B, J B → k.run (.ret (.bool false)) B) :
    @kCall EL Λ (.func (.func 165) [] []) [.frz (xs.map iA) c, .func (.func g) [] q] A k := by
  rw [k_fun rfl c165 (by simp [hu]) (by simp [F165])]
  simp [F165]
  refine w48 (by simp) xs c hx I J h0 (fun j B hj h => w189 (fun l => ?_) (fun l => step j _ hj (hI j B l h).2.2)) (fun B h => ?_) (fun B h => ?_)
  · rw [hget_app_lt (hI j B l h).1]; exact (hI j B l h).2.1
  · have := hT B h
    simp
    exact this
  · have := hF B h
    simp
    exact this

theorem w210 {Λ : List LoopInfo} {A : Heap} {k : KL} {g : Nat} {q : List AV} (hu : AV.unders 0 q = false) (xs : List Con) (c : Bool) (hx : xs.length ≤ maxI) (I : Nat → Heap → Prop) (J : Heap → Prop) (h0 : I 0 A)
    (step : ∀ j B (hj : j < xs.length), I j B → Splits Λ B (.func (.func g) [] q) xs[j].av J (I (j + 1)))
    (hF : ∀ B, I xs.length B → k.run (.ret (iA (-1))) B) (hT : ∀ B (j : Nat), J B → k.run (.ret (iA j)) B) :
    @kCall EL Λ (.func (.func 210) [] []) [.frz (xs.map Con.av) c, .func (.func g) [] q] A k := by
  rw [k_fun rfl c210 (by simp [hu]) (by simp [F210])]
  unfold maxI at hx
  simp [F210]
  refine k_for (fun j f B => I j B ∧ f 0 = .frz (xs.map Con.av) c ∧ f 1 = .func (.func g) [] q ∧ f 8 = iA j ∧ f 7 = iA xs.length) xs.length ⟨h0, by simp⟩ ?_
  rintro j f B hj ⟨hI, h0, h1, h8, h7⟩
  by_cases hlt : j < xs.length
  · simp [h0, h1, h8, h7, hlt, Con.av]
    refine step j B hlt hI _ (fun B' h => ?_) (fun B' h => ?_)
    · have := hT B' j h
      simp [F210]
      exact this
    · simp [h8, wrap_succ (j := j) (by omega)]
      exact ⟨by omega, _, rfl, h, by simp [h0], by simp [h1], by simp, by simp [h7]⟩
  · have he : j = xs.length := by omega
    subst he
    have := hF B hI
    simp [h8, h7, F210]
    exact this

theorem w206 {Λ : List LoopInfo} {A : Heap} {k : KL} {g : Nat} {q : List AV} (hu : AV.unders 0 q = false) (xs : List Con) (c : Bool) (hx : xs.length ≤ maxI) (I : Nat → Heap → Prop) (J : Heap → Prop) (h0 : I 0 A)
    (step : ∀ j B (hj : j < xs.length), I j B → Splits Λ B (.func (.func g) [] q) xs[j].av J (I (j + 1)))
    (hF : ∀ B, I xs.length B → k.run (.ret (.bool false)) B) (hT : ∀ B, J B → k.run (.ret (.bool true)) B) :
    @kCall EL Λ (.func (.func 206) [] []) [.frz (xs.map Con.av) c, .func (.func g) [] q] A k := by
  rw [k_fun rfl c206 (by simp [hu]) (by simp [F206])]
  simp [F206]
  refine w210 hu xs c hx I J h0 step (fun B h => ?_) (fun B j h => ?_)
  · have := hF B h
    simp
    exact this
  · have := hT B h
    simp
    exact this

theorem w207 {Λ : List LoopInfo} {B : Heap} {g id : Nat} {q : List AV} {x : Con} {T F : Heap → Prop} (hc : ∀ l, hget (B ++ l) id = .cells 1 [.func (.func g) [] q]) (h : ∀ l, Splits Λ (B ++ l) (.func (.func g) [] q) x.av T F) :
    Splits Λ B (.func (.func 207) [] [.ptr id 0 0]) x.av F T := fun k kT kF => by
  rw [k_fun rfl c207 (by simp) (by simp [F207])]
  skip
  have hc0 := hc []
  rw [List.append_nil] at hc0
  simp [F207, hc]
  refine h _ _ (fun B' h => ?_) (fun B' h => ?_)
  · have := kF B' h
    simp [F207]
    exact this
  · have := kT B' h
    simp [F207]
    exact this

/-- 'all'. -/
theorem w197 {Λ : List LoopInfo} {A : Heap} {k : KL} {g : Nat} {q : List AV} (hu : AV.unders 0 q = false) (xs : List Con) (c : Bool) (hx : xs.length ≤ maxI) (I : Nat → Heap → Prop) (J : Heap → Prop) (h0 : I 0 (A ++ [.cells 1 [.func (.func g) [] q]]))
    (hI : ∀ j B l, I j B → A.length < B.length ∧ hget B A.length = .cells 1 [.func (.func g) [] q] ∧ I j (B ++ l))
    (step : ∀ j B (hj : j < xs.length), I j B → Splits Λ B (.func (.func g) [] q) xs[j].av (I (j + 1)) J)
    (hT : ∀ B, I xs.length B → k.run (.ret (.bool true)) B) (hF : ∀ B, J B → k.run (.ret (.bool false)) B) :
    @kCall EL Λ (.func (.func 197) [] []) [.frz (xs.map Con.av) c, .func (.func g) [] q] A k := by
  rw [k_fun rfl c197 (by simp [hu]) (by simp [F197])]
  simp [F197]
  refine w206 (by simp) xs c hx I J h0 (fun j B hj h => w207 (fun l => ?_) (fun l => step j _ hj (hI j B l h).2.2)) (fun B h => ?_) (fun B h => ?_)
  · rw [hget_app_lt (hI j B l h).1]; exact (hI j B l h).2.1
  · have := hT B h
    simp
    exact this
  · have := hF B h
    simp
    exact this

end Go.Proofs.YtgbfbhahnoafoaaGreatDoor
