/- A part of the proof: lemmas, no statement of the seat is proved in this file. -/
import Derived.Test.YtgbfbhahnoafoaaGreatDoorQ5
set_option autoImplicit false
set_option maxRecDepth 100000

/- The program's check of a code. -/
namespace Go.Proofs.YtgbfbhahnoafoaaGreatDoor
open Go Go.Abs

abbrev entA (x : ByteArray) : AV × AV := (.str x, .bool true)

theorem find_no {xs : List ByteArray} {s : ByteArray} (h : (xs.any fun x => x.toList == s.toList) = false) : ∀ i, findA (.one .str) (.str s) (xs.map entA) i = some none := by
  induction xs with
  | nil => intro i; rfl
  | cons x xs ih =>
    intro i
    rw [List.any_cons, Bool.or_eq_false_iff] at h
    have h1 : (s.toList == x.toList) = false := by rw [Bool.beq_comm]; exact h.1
    simp [h1, ih h.2]

theorem find_yes {xs : List ByteArray} {s : ByteArray} (h : (xs.any fun x => x.toList == s.toList) = true) : ∀ i, ∃ m, findA (.one .str) (.str s) (xs.map entA) i = some (some (m, .bool true)) := by
  induction xs with
  | nil => simp at h
  | cons x xs ih =>
    intro i
    cases h1 : (s.toList == x.toList) with
    | true => exact ⟨i, by simp [h1]⟩
    | false =>
      rw [List.any_cons, Bool.beq_comm, h1, Bool.false_or] at h
      obtain ⟨m, hm⟩ := ih h (i + 1)
      exact ⟨m, by simp [h1, hm]⟩

def conOk (x : Con) : Bool := greatOk x.name && rng x.args 0 3

/-- The names of the first ones differ. -/
def differN (xs : List ByteArray) (j : Nat) : Bool := (List.range j).all fun j => !((xs.take j).any fun x => x.toList == (xs.getD j default).toList)

theorem differN_succ {xs : List ByteArray} {j : Nat} (hj : j < xs.length) : differN xs (j + 1) = (differN xs j && !((xs.take j).any fun x => x.toList == xs[j].toList)) := by
  unfold differN
  rw [List.range_succ, List.all_append]
  simp [List.getD, hj]

theorem differN_le {xs : List ByteArray} {j : Nat} (hj : j ≤ xs.length) (h : differN xs j = false) : differ xs = false := by
  unfold differN at h
  unfold differ
  rw [List.all_eq_false] at h ⊢
  obtain ⟨i, hi, h2⟩ := h
  exact ⟨i, by simp at hi ⊢; omega, h2⟩

def ents (cs : List Con) (j : Nat) : List (AV × AV) := ((cs.map Con.name).take j).map entA

def I198 (cs : List Con) (fn : AV) (j : Nat) (B : Heap) : Prop := 3 ≤ B.length ∧ hget B 0 = .map (ents cs j) ∧ hget B 1 = .cells 1 [.map 0] ∧ hget B 2 = .cells 1 [fn] ∧ (cs.take j).all conOk = true ∧ differN (cs.map Con.name) j = true

theorem w198 {Λ : List LoopInfo} {cs : List Con} {fn : AV} {j : Nat} {B : Heap} (hj : j < cs.length) (hm : ∀ x ∈ cs, x.name.size ≤ maxI) (hI : I198 cs fn j B) :
    Splits Λ B (.func (.func 198) [] [.ptr 1 0 0]) cs[j].av (I198 cs fn (j + 1)) (fun _ => consOk cs = false) := fun k kT kF => by
  obtain ⟨hl, h0, h1, h2, hp, hd⟩ := hI
  rw [k_fun rfl c198 (by simp) (by simp [F198])]
  have hx0 : ∀ l, hget (B ++ l) 0 = .map (ents cs j) := fun l => by rw [hget_app_lt (by omega)]; exact h0
  have hx1 : ∀ l, hget (B ++ l) 1 = .cells 1 [.map 0] := fun l => by rw [hget_app_lt (by omega)]; exact h1
  have hx2 : ∀ l, hget (B ++ l) 2 = .cells 1 [fn] := fun l => by rw [hget_app_lt (by omega)]; exact h2
  have hs : ∀ l b, (B ++ l).set 0 b = B.set 0 b ++ l := fun l b => List.set_append_left _ _ (by omega)
  have e1 := s199 cs[j].name (hm _ (List.getElem_mem hj))
  have hjn : j < (cs.map Con.name).length := by simpa using hj
  have hdj := differN_succ hjn
  simp only [List.getElem_map] at hdj
  have hbad : conOk cs[j] = false → consOk cs = false := fun h => by
    have : cs.all conOk = false := all_not hj h
    unfold consOk
    show (cs.all conOk && _ && _) = false
    rw [this]; rfl
  have hset : ∀ l b, hset (B ++ l) 0 b = (B ++ l).set 0 b := fun l b => hset_lt (by simp; omega)
  cases ha : ((cs.map Con.name).take j).any (fun x => x.toList == cs[j].name.toList) with
  | true =>
    obtain ⟨m, hfm⟩ := find_yes ha 0
    change findA _ _ (ents cs j) 0 = _ at hfm
    have hdf : consOk cs = false := by
      have := differN_le (by simp; omega) (show differN (cs.map Con.name) (j + 1) = false by rw [hdj, ha]; simp)
      unfold consOk
      rw [this]; simp
    cases hg : greatOk cs[j].name with
    | false =>
      rw [hg] at e1
      simp [F198, Con.av, e1, hx0, hx1, hfm]
      exact kF _ hdf
    | true =>
      rw [hg] at e1
      cases hr : rng cs[j].args 0 3 with
      | false =>
        unfold rng at hr
        simp [F198, Con.av, e1, hr, hx0, hx1, hfm]
        exact kF _ hdf
      | true =>
        unfold rng at hr
        simp [F198, Con.av, e1, hr, hx0, hx1, hfm]
        exact kF _ hdf
  | false =>
    have hfm : findA _ _ (ents cs j) 0 = _ := find_no ha 0
    cases hg : greatOk cs[j].name with
    | false =>
      rw [hg] at e1
      simp [F198, Con.av, e1, hx0, hx1, hfm]
      exact kF _ (hbad (by simp [conOk, hg]))
    | true =>
      rw [hg] at e1
      cases hr : rng cs[j].args 0 3 with
      | false =>
        have := hbad (by simp [conOk, hr])
        unfold rng at hr
        simp [F198, Con.av, e1, hr, hx0, hx1, hfm]
        exact kF _ this
      | true =>
        have hok := all_take hp hj (by simp [conOk, hr, hg])
        unfold rng at hr
        simp [F198, Con.av, e1, hr, hx0, hx1, hfm]
        refine kT _ ⟨by simp; omega, ?_, ?_, ?_, hok, by rw [hdj, hd, ha]; rfl⟩
        · have : 0 < B.length := by omega
          unfold ents
          rw [List.take_succ_eq_append_getElem hjn]
          simp [hget, this]
        · rw [← hx1 [Blk.cells 2 [AV.agg [AV.str cs[j].name, iA cs[j].args]]]]
          unfold hget List.getD
          rw [List.getElem?_set_ne (by omega)]
        · rw [← hx2 [Blk.cells 2 [AV.agg [AV.str cs[j].name, iA cs[j].args]]]]
          unfold hget List.getD
          rw [List.getElem?_set_ne (by omega)]

/-- The program's 'constructors'. -/
theorem s180 (cs : List Con) (cc : Bool) (hcs : cs.length ≤ maxI) (hm : ∀ x ∈ cs, x.name.size ≤ maxI) : Comes 180 [consA cs cc] (.bool (consOk cs)) := fun Λ A k => call_iff fun k hk => by
  rw [k_apart rfl c180 rfl (by simp [F180]) (by simp [consA])]
  by_cases hl : (cs.length : Int) ≤ 20
  · simp [F180, hl, hset]
    refine w197 (by simp) cs cc hcs (I198 cs (.func (.func 198) [] [.ptr 1 0 0])) (fun _ => consOk cs = false) ⟨by simp, rfl, rfl, rfl, rfl, rfl⟩ (fun j B l h => ?_) (fun j B hj h => w198 hj hm h) (fun B h => ?_) (fun B h => ?_)
    · obtain ⟨a1, a2, a3, a4, a5, a6⟩ := h
      exact ⟨by simp; omega, a4, by simp; omega, by rw [hget_app_lt (by omega)]; exact a2, by rw [hget_app_lt (by omega)]; exact a3, by rw [hget_app_lt (by omega)]; exact a4, a5, a6⟩
    · obtain ⟨a1, a2, a3, a4, a5, a6⟩ := h
      have : consOk cs = true := by
        unfold consOk
        show (cs.all conOk && _ && _) = true
        rw [List.take_length] at a5
        rw [a5]
        have e : differ (cs.map Con.name) = differN (cs.map Con.name) cs.length := by unfold differ differN; simp
        rw [e, a6]
        simp; omega
      rw [this] at hk
      simp [F180]
      exact hk
    · rw [h] at hk
      simp [F180]
      exact hk
  · have : consOk cs = false := by
      unfold consOk
      have : ¬ cs.length ≤ 20 := by omega
      simp [this]
    rw [this] at hk
    simp [F180, hl]
    exact hk

theorem t181 {Λ : List LoopInfo} {B : Heap} {id : Nat} {n : Int} (hn : -1000000 ≤ n ∧ n ≤ 1000000) (hc : ∀ l, hget (B ++ l) id = .cells 1 [iA n]) (f : Int) :
    Tells Λ B (.func (.func 181) [] [.ptr id 0 0]) (iA f) (rng f 0 (n - 1)) := fun l k => by
  have hc' : ∀ l', hget ((B ++ l) ++ l') id = .cells 1 [iA n] := fun l' => by rw [List.append_assoc]; exact hc _
  have hc0 := hc' []
  rw [List.append_nil] at hc0
  generalize B ++ l = B' at hc' hc0 ⊢
  have w := wrap_i64 (n := n - 1) (by omega) (by omega)
  rw [k_fun rfl c181 (by simp) (by simp [F181])]
  simp [F181, hc0, w, rng]

/-- The program's 'Check'. -/
theorem s162 (c : Prog) (hc : c.Ok) : Comes 162 [c.av] (iA (if codeOk c then 0 else 2)) := fun Λ A k => call_iff fun k hk => by
  rw [k_apart rfl c162 rfl (by simp [F162]) (by simp)]
  have h1 := hc.ins
  have h2 := hc.pats
  have h3 := hc.funs
  have h4 := hc.cons
  have ec := s180 c.cons c.cc hc.cons hc.name
  unfold maxI at h1 h2 h3 h4
  have w3 : IntKind.i64.wrap ((c.funs.length : Int) - 1) = (c.funs.length : Int) - 1 := wrap_i64 (by omega) (by omega)
  have hbad : codeOk c = false → k.run (.ret (iA 2)) A := fun h => by rw [h] at hk; exact hk
  cases b1 : rng c.ins.length 1 1500 with
  | false =>
    have := hbad (by simp [codeOk, headC, b1])
    unfold rng at b1
    simpa [F162, b1, hset] using this
  | true =>
  have hn1 : (c.ins.length : Int) ≤ 1500 := by unfold rng at b1; simp at b1; omega
  by_cases b2 : (c.pats.length : Int) ≤ 100
  case neg =>
    have := hbad (by simp [codeOk, headC, b2])
    have b2' : (c.pats.length : Int) > 100 := by omega
    unfold rng at b1
    simpa [F162, b1, b2', hset] using this
  have b2' : ¬ (c.pats.length : Int) > 100 := by omega
  cases b3 : consOk c.cons with
  | false =>
    have := hbad (by simp [codeOk, headC, b3])
    rw [b3] at ec
    unfold rng at b1
    simpa [F162, b1, b2', ec, hset] using this
  | true =>
  rw [b3] at ec
  cases b4 : rng c.funs.length 1 300 with
  | false =>
    have := hbad (by simp [codeOk, headC, b4])
    unfold rng at b4 b1
    simpa [F162, b1, b2', ec, b4, hset] using this
  | true =>
  cases b5 : rng c.main 0 (c.funs.length - 1) with
  | false =>
    have := hbad (by simp [codeOk, headC, b5])
    unfold rng at b5 b4 b1
    simpa [F162, b1, b2', ec, b4, w3, b5, hset] using this
  | true =>
  have hh : codeOk c = (c.pats.all (patC c) && c.funs.all (fun f => rng f 0 (c.ins.length - 1)) && c.ins.all (insOk c)) := by
    simp only [codeOk, headC, b1, b3, b4, b5, b2, decide_true, Bool.and_true, Bool.true_and]
  unfold rng at b5 b4 b1
  simp [F162, b1, b2', ec, b4, w3, b5, hset]
  let A0 : Heap := [.cells 5 [c.av], .cells 1 [iA c.ins.length], .cells 1 [.func (.func 181) [] [.ptr 1 0 0]]]
  have q0 : ∀ l : Heap, hget (A0 ++ l) 0 = .cells 5 [c.av] := fun l => rfl
  refine w165 (by simp) c.funs c.fc hc.funs (fun j B => (∃ l, B = A0 ++ l) ∧ (c.funs.take j).all (fun f => rng f 0 (c.ins.length - 1)) = true) (fun _ => c.funs.all (fun f => rng f 0 (c.ins.length - 1)) = false) ⟨⟨[], rfl⟩, rfl⟩ (fun j B l h => ?_) (fun j B hj h => ?_) (fun B h => ?_) (fun B h => ?_)
  · obtain ⟨⟨l', rfl⟩, hp⟩ := h
    exact ⟨by simp [A0], rfl, ⟨l' ++ l, by simp⟩, hp⟩
  · obtain ⟨⟨l', rfl⟩, hp⟩ := h
    refine (t181 (n := c.ins.length) (by omega) (fun l => rfl) c.funs[j]).splits (fun hb => ⟨⟨l', rfl⟩, all_take hp hj hb⟩) (fun hb => all_not hj hb)
  · obtain ⟨⟨l', rfl⟩, hp⟩ := h
    rw [List.take_length] at hp
    rw [hp, Bool.and_true] at hh
    have e2 := fun {k : KL} => s182 (Λ := []) (A := A0 ++ l') (k := k) (g := 183) (q := [.ptr 0 0 0]) (by simp) c.pats c.pc hc.pats (patC c) (fun x hx => t183 hc (fun l => rfl) x (hc.pat x hx))
    have e3 := fun {k : KL} => s186 (Λ := []) (A := A0 ++ l') (k := k) (g := 187) (q := [.ptr 0 0 0]) (by simp) c.ins c.ic hc.ins (insOk c) (fun x hx => t187 hc (fun l => rfl) x)
    have z1 : hget (A0 ++ l') 0 = .cells 5 [c.av] := rfl
    have z2 : hget (A0 ++ l') 1 = .cells 1 [iA c.ins.length] := rfl
    generalize A0 ++ l' = B at e2 e3 z1 z2 ⊢
    cases p1 : c.pats.all (patC c) with
    | false =>
      rw [p1] at e2
      have := hbad (by rw [hh, p1]; rfl)
      simp [z1, e2, F162]
      exact this
    | true =>
      rw [p1] at e2 hh
      cases p2 : c.ins.all (insOk c) with
      | false =>
        rw [p2] at e3
        have := hbad (by rw [hh, p2]; rfl)
        simp [z1, e2, e3, F162]
        exact this
      | true =>
        rw [p2] at e3 hh
        rw [hh] at hk
        simp [z1, e2, e3, F162]
        exact hk
  · have := hbad (by rw [hh, h]; simp)
    simp [F162]
    exact this

end Go.Proofs.YtgbfbhahnoafoaaGreatDoor

/- What follows an instruction, by the reference. -/
namespace Go.Proofs.YtgbfbhahnoafoaaGreatDoor
open Go Go.Abs

variable {Λ : List LoopInfo} {A : Heap} {k : KL}

attribute [simp] fz_own

abbrev depA (s e : Int) : AV := .agg [.bool true, iA s, iA e]
abbrev reachA (r : Int × Int × Int) : AV := .agg [iA r.1, .bool true, iA r.2.1, iA r.2.2]

/-- How many names the pattern of a number has. -/
def Prog.namesOf (c : Prog) (i : Int) : Int := (c.pats.map Pat.names).getD i.toNat 0

def pushR (o : Int) : Int := if o ≠ 9 ∧ o ≠ 10 ∧ o ≠ 11 ∧ o ≠ 12 ∧ o ≠ 19 then 1 else 0

/-- R10's 'follow'. -/
def followR (c : Prog) (n : Int) (x : Ins) (s e : Int) : List (Int × Int × Int) × Bool :=
  if asksR x.op (c.argsOf x.a) < 0 then ([], decide (s = -1 - asksR x.op (c.argsOf x.a)))
  else if s < asksR x.op (c.argsOf x.a) ∨ (x.op = 4 ∧ e ≤ x.a) ∨ (x.op = 10 ∧ e < x.a) then ([], false)
  else if x.op = 8 ∨ x.op = 20 ∨ x.op = 34 then ([], true)
  else if x.op = 9 then ([(n + 1, s - asksR x.op (c.argsOf x.a), e + 1)], true)
  else if x.op = 10 then ([(n + 1, s, e - x.a)], true)
  else if x.op = 11 then ([(x.a, s, e)], true)
  else if x.op = 12 then ([(n + 1, s - 1, e), (x.a, s - 1, e)], true)
  else if x.op = 19 then ([(n + 1, s - 1, e + c.namesOf x.a), (x.b, s, e)], true)
  else if x.op = 6 ∨ x.op = 32 then ([(n + 1, s + 1, e), (x.a, 0, e + 1)], true)
  else if x.op = 31 then ([(n + 1, s + 1, e), (x.a, 0, e)], true)
  else ([(n + 1, s - asksR x.op (c.argsOf x.a) + 1, e)], true)

/-- All that the walk of a code asks of it. -/
structure Prog.Fine (c : Prog) : Prop where
  ok : c.Ok
  ins : ∀ x ∈ c.ins, insOk c x = true
  cons : ∀ x ∈ c.cons, 0 ≤ x.args ∧ x.args ≤ 3
  pats : ∀ p ∈ c.pats, p.size ≤ 1000
  len : c.ins.length ≤ 100000
  lens : c.cons.length ≤ 100000 ∧ c.pats.length ≤ 100000

theorem argsOf_le {c : Prog} (h : c.Fine) {i : Int} : 0 ≤ c.argsOf i ∧ c.argsOf i ≤ 3 := by
  unfold Prog.argsOf
  by_cases hi : i.toNat < c.cons.length
  · simp [List.getD, hi]
    exact h.cons _ (List.getElem_mem hi)
  · simp [List.getD, hi]

theorem namesOf_le {c : Prog} (h : c.Fine) {i : Int} : 0 ≤ c.namesOf i ∧ c.namesOf i ≤ 1000 := by
  unfold Prog.namesOf
  by_cases hi : i.toNat < c.pats.length
  · simp [List.getD, hi]
    have h1 := (c.pats[i.toNat]).names_le
    have h2 := h.pats _ (List.getElem_mem hi)
    omega
  · simp [List.getD, hi]

theorem insOk_op {c : Prog} {x : Ins} (h : insOk c x = true) : 1 ≤ x.op ∧ x.op ≤ 34 := by
  unfold insOk at h
  split at h
  · cases h
  iterate 9 (split at h; · omega)
  simp only [rng, Bool.and_eq_true, decide_eq_true_eq] at h
  omega

set_option maxHeartbeats 4000000 in
theorem s129 (c : Prog) (hc : c.Fine) (n : Nat) (hn : n < c.ins.length) (s e : Int) (hs : 0 ≤ s ∧ s ≤ 1000) (he : 0 ≤ e ∧ e ≤ 10000) :
    Comes 129 [c.av, iA n, depA s e] (.tuple [.frz ((followR c n c.ins[n] s e).1.map reachA) true, .bool (followR c n c.ins[n] s e).2]) := fun Λ A k => by
  rw [k_apart rfl c129 rfl (by simp [F129]) (by simp)]
  have hi := hc.ins _ (List.getElem_mem hn)
  have ha := argsOf_le hc (i := c.ins[n].a)
  have hnm := namesOf_le hc (i := c.ins[n].a)
  have hl := hc.len
  have W : ∀ t : Int, -1000000 ≤ t → t ≤ 1000000 → IntKind.i64.wrap t = t := fun t h1 h2 => wrap_i64 (by omega) (by omega)
  have hlen1 := hc.lens.1
  have hlen2 := hc.lens.2
  obtain ⟨o, a, b, hx⟩ : ∃ o a b, c.ins[n] = ⟨o, a, b⟩ := ⟨_, _, _, rfl⟩
  have e160 := fun {Λ : List LoopInfo} {A : Heap} {k : KL} => s160 (Λ := Λ) (A := A) (k := k) c c.ins[n] (fun h => by
    rw [hx] at h hi ⊢
    simp only at h
    subst h
    simp [insOk, rng] at hi
    simp only; omega)
  rw [hx] at hi ha hnm e160 ⊢
  simp only at ha hnm e160
  have w1 := W s (by omega) (by omega)
  have w2 := W (s - 1) (by omega) (by omega)
  have w3 := W (s - 2) (by omega) (by omega)
  have w4 := W (s + 1) (by omega) (by omega)
  have w5 := W (s - 1 + 1) (by omega) (by omega)
  have w6 := W (s - 2 + 1) (by omega) (by omega)
  have w7 := W ((n : Int) + 1) (by omega) (by omega)
  have w8 := W (e + 1) (by omega) (by omega)
  have w9 := W (s - c.argsOf a) (by omega) (by omega)
  have w10 := W (s - c.argsOf a + 1) (by omega) (by omega)
  have v1 := W 1 (by omega) (by omega)
  have v2 := W 2 (by omega) (by omega)
  have ho := insOk_op hi
  simp only at ho
  have hg : c.ins[n]? = some c.ins[n] := by simp [hn]
  have hcs : o = 1 ∨ o = 2 ∨ o = 3 ∨ o = 4 ∨ o = 5 ∨ o = 6 ∨ o = 7 ∨ o = 8 ∨ o = 9 ∨ o = 10 ∨ o = 11 ∨ o = 12 ∨ o = 13 ∨ o = 14 ∨ o = 15 ∨ o = 16 ∨ o = 17 ∨ o = 18 ∨ o = 19 ∨ o = 20 ∨ o = 21 ∨ o = 22 ∨ o = 23 ∨ o = 24 ∨ o = 25 ∨ o = 26 ∨ o = 27 ∨ o = 28 ∨ o = 29 ∨ o = 30 ∨ o = 31 ∨ o = 32 ∨ o = 33 ∨ o = 34 := by omega
  rcases hcs with rfl | rfl | rfl | rfl | rfl | rfl | rfl | rfl | rfl | rfl | rfl | rfl | rfl | rfl | rfl | rfl | rfl | rfl | rfl | rfl | rfl | rfl | rfl | rfl | rfl | rfl | rfl | rfl | rfl | rfl | rfl | rfl | rfl | rfl
  case inr.inr.inr.inl =>
    have h1 : ¬ s < 0 := by omega
    by_cases h2 : e ≤ a
    · simp [F129, hn, hx, e160, asksR, followR, h1, h2]
    · simp [F129, hn, hx, e160, asksR, followR, h1, h2, w1, w4, w7]
  case inr.inr.inr.inr.inr.inr.inr.inr.inr.inl =>
    have h1 : ¬ s < 0 := by omega
    have hra : b = 0 ∧ 1 ≤ a ∧ a ≤ 30 := by simpa [insOk, rng] using hi
    have w11 := W (e - a) (by omega) (by omega)
    by_cases h2 : e < a
    · simp [F129, hn, hx, e160, asksR, followR, h1, h2]
    · simp [F129, hn, hx, e160, asksR, followR, h1, h2, w1, w7, w11]
  case inr.inr.inr.inr.inr.inr.inr.inr.inr.inr.inr.inr.inr.inr.inr.inr.inr.inl =>
    have h1 : ¬ c.argsOf a < 0 := by omega
    by_cases h2 : s < c.argsOf a
    · simp [F129, hn, hx, e160, asksR, followR, h1, h2]
    · simp [F129, hn, hx, e160, asksR, followR, h1, h2, w7, w9, w10]
  case inr.inr.inr.inr.inr.inr.inr.inr.inr.inr.inr.inr.inr.inr.inr.inr.inr.inr.inl =>
    have hra : (0 ≤ a ∧ a ≤ (c.pats.length : Int) - 1) ∧ (0 ≤ b ∧ b ≤ (c.ins.length : Int) - 1) := by simpa [insOk, rng] using hi
    have hla : a.toNat < c.pats.length := by omega
    have hlt : a < (c.pats.length : Int) := by omega
    have e136 := s136 c.pats[a.toNat] (hc.ok.pat _ (List.getElem_mem hla)) (hc.pats _ (List.getElem_mem hla))
    have hno : c.namesOf a = c.pats[a.toNat].names := by simp [Prog.namesOf, List.getD, hla]
    rw [hno] at hnm
    have w11 := W (e + c.pats[a.toNat].names) (by omega) (by omega)
    by_cases h1 : s < 1
    · simp [F129, hn, hx, e160, asksR, followR, h1]
    · simp [F129, hn, hx, e160, asksR, followR, h1, w2, w7, w11, hla, hlt, hra.1.1, pat_cells, e136, hno]
  all_goals
    have h0 : ¬ s < 0 := by omega
    by_cases h1 : s < 1
    · have h2 : s < 2 := by omega
      simp [F129, hn, hx, e160, asksR, followR, h0, h1, h2, v1, v2, w1, w4, w7, w8]
    · by_cases h2 : s < 2
      · simp [F129, hn, hx, e160, asksR, followR, h0, h1, h2, v1, v2, w1, w2, w4, w7, w8]
      · simp [F129, hn, hx, e160, asksR, followR, h0, h1, h2, v1, v2, w1, w2, w3, w4, w6, w7, w8]

end Go.Proofs.YtgbfbhahnoafoaaGreatDoor

/- The depths of a code, by the reference. -/
namespace Go.Proofs.YtgbfbhahnoafoaaGreatDoor
open Go Go.Abs

variable {Λ : List LoopInfo} {A : Heap} {k : KL}

abbrev Dep := Bool × Int × Int
abbrev depAV (d : Dep) : AV := .agg [.bool d.1, iA d.2.1, iA d.2.2]
def dep0 : Dep := (false, 0, 0)
def ins0 : Ins := ⟨0, 0, 0⟩

def badR (c : Prog) (out : List Dep) (r : Int × Int × Int) : Bool :=
  decide ((c.ins.length : Int) ≤ r.1) || decide (60 < r.2.1) || decide (30 < r.2.2) || ((out.getD r.1.toNat dep0).1 && decide (out.getD r.1.toNat dep0 ≠ (true, r.2.1, r.2.2)))

/-- The reference's walk: a queue of what is reached. -/
def walkR (c : Prog) : Nat → List Dep → List (Int × Int × Int) → Option (List Dep)
  | 0, _, _ => none
  | _ + 1, out, [] => some out
  | m + 1, out, r :: q =>
    if badR c out r then none
    else if (out.getD r.1.toNat dep0).1 then walkR c m out q
    else if (followR c r.1 (c.ins.getD r.1.toNat ins0) r.2.1 r.2.2).2 then walkR c m (out.set r.1.toNat (true, r.2.1, r.2.2)) (q ++ (followR c r.1 (c.ins.getD r.1.toNat ins0) r.2.1 r.2.2).1) else none

def depthsR (c : Prog) : Option (List Dep) := walkR c (3 * c.ins.length + c.funs.length + 1) (List.replicate c.ins.length dep0) (c.funs.map fun f => (f, 0, 1))

/-- What the call answers. -/
def depthsA (c : Prog) : AV := match depthsR c with
  | some out => .tuple [.frz (out.map depAV) true, .bool true]
  | none => .tuple [.frz [] true, .bool false]

def unr (out : List Dep) : Nat := out.countP (fun d => !d.1)

theorem unr_set {out : List Dep} {n : Nat} {d : Dep} (hn : n < out.length) (h : (out[n]).1 = false) (hd : d.1 = true) : unr (out.set n d) + 1 = unr out := by
  unfold unr
  rw [List.countP_set hn]
  simp [h, hd]
  have : 0 < out.countP (fun d => !d.1) := List.countP_pos_iff.2 ⟨out[n], List.getElem_mem hn, by simp [h]⟩
  omega

theorem unr_rep (n : Nat) : unr (List.replicate n dep0) = n := by
  unfold unr; rw [List.countP_replicate]; simp [dep0]

theorem fz_deps {B : Heap} {k : Nat} (out : List Dep) : freezeList (Abs.freeze 0 B (k + 2) false) (out.map depAV) = some (out.map depAV) := by
  induction out with
  | nil => rfl
  | cons d out ih => simp [ih]

/-- What the queue's entries are like. -/
def okR (c : Prog) (r : Int × Int × Int) : Prop := 0 ≤ r.1 ∧ r.1 ≤ c.ins.length ∧ 0 ≤ r.2.1 ∧ r.2.1 ≤ 100 ∧ 0 ≤ r.2.2 ∧ r.2.2 ≤ 2000

theorem followR_le {c : Prog} {n : Int} {x : Ins} {s e : Int} : (followR c n x s e).1.length ≤ 2 := by
  unfold followR
  repeat' split
  all_goals simp

theorem followR_ok {c : Prog} (hc : c.Fine) {n : Nat} (hn : n < c.ins.length) {x : Ins} (hx : insOk c x = true) {s e : Int} (h1 : 0 ≤ s) (h2 : s ≤ 60) (h3 : 0 ≤ e) (h4 : e ≤ 30) : ∀ r ∈ (followR c n x s e).1, okR c r := by
  have ha := argsOf_le hc (i := x.a)
  have hnm := namesOf_le hc (i := x.a)
  have hl := hc.len
  obtain ⟨o, a, b⟩ := x
  simp only at ha hnm
  have hj : (o = 6 ∨ o = 11 ∨ o = 12 ∨ o = 31 ∨ o = 32) → 0 ≤ a ∧ a ≤ (c.ins.length : Int) - 1 := fun h => by
    rcases h with rfl | rfl | rfl | rfl | rfl <;> (by_cases hb : b = 0 <;> simp [insOk, rng, hb] at hx; exact hx)
  have hj2 : o = 19 → 0 ≤ b ∧ b ≤ (c.ins.length : Int) - 1 := fun h => by
    subst h; simp [insOk, rng] at hx; exact hx.2
  have hj3 : o = 10 → 1 ≤ a ∧ a ≤ 30 := fun h => by
    subst h; by_cases hb : b = 0 <;> simp [insOk, rng, hb] at hx; exact hx
  have hk : asksR o (c.argsOf a) ≤ 3 := by unfold asksR; repeat' split
                                           all_goals omega
  have hk9 : (o = 9 ∨ o = 12 ∨ o = 19) → asksR o (c.argsOf a) = 1 := fun h => by rcases h with rfl | rfl | rfl <;> rfl
  intro r hr
  unfold followR at hr
  simp only at hr
  repeat' split at hr
  all_goals simp at hr
  all_goals first
    | (rcases hr with rfl | rfl <;> simp only [okR] <;> omega)
    | (subst hr; simp only [okR]; omega)

/-- What stands before each turn of its second loop. -/
def I80 (c : Prog) (m : Nat) (f : Nat → AV) (B : Heap) : Prop := ∃ (out : List Dep) (todo : List (Int × Int × Int)) (i fuel : Nat), 2 ≤ B.length ∧ hget B 0 = .cells 5 [c.av] ∧ hget B 1 = .cells 3 (out.map depAV) ∧ out.length = c.ins.length ∧ f 1 = .ptr 0 0 0 ∧ f 4 = .own 1 0 c.ins.length true ∧ f 7 = iA i ∧ i ≤ todo.length ∧
        Gathers B 4 (f 5) (todo.map reachA) ∧ (∀ b, (f 5).blockIs b → 2 ≤ b) ∧ m = 3 * unr out + (todo.length - i) ∧ (∀ r ∈ todo, okR c r) ∧ walkR c fuel out (todo.drop i) = depthsR c ∧ m + 1 ≤ fuel ∧ todo.length + 2 * unr out ≤ 400000

theorem s80 (c : Prog) (hc : c.Fine) (hf : ∀ f ∈ c.funs, 0 ≤ f ∧ f < c.ins.length) (hfl : c.funs.length ≤ 100000) : Comes 80 [c.av] (depthsA c) := fun Λ A k => call_iff fun k hk => by
  rw [k_apart rfl c80 rfl (by simp [F80]) (by simp)]
  have hl := hc.len
  have hmx : (c.ins.length : Int) * 24 ≤ maxBytes := by simp [maxBytes]; omega
  have hmx2 : c.ins.length * 24 ≤ maxBytes := by simp [maxBytes]; omega
  have hmx3 : (c.ins.length : Int) ≤ 9223372036854775807 := by omega
  simp [F80, mkSliceA, hmx, hmx3]
  refine k_for (fun j f B => 2 ≤ B.length ∧ hget B 0 = .cells 5 [c.av] ∧ hget B 1 = .cells 3 ((List.replicate c.ins.length dep0).map depAV) ∧ f 1 = .ptr 0 0 0 ∧ f 4 = .own 1 0 c.ins.length true ∧ f 6 = iA j ∧
    Gathers B 4 (f 5) (((c.funs.take j).map fun f => (f, 0, 1)).map reachA) ∧ ∀ i, (f 5).blockIs i → 2 ≤ i) c.funs.length ?_ ?_
  · refine ⟨by simp, by simp [hget], ?_, by simp, by simp, by simp, .inl ⟨by simp, by simp⟩, fun i hi => ?_⟩
    · simp [hget, dep0]
    · obtain ⟨o, n, cc, hv⟩ := hi
      simp at hv
  · rintro j f B hj ⟨hB, hb0, hb1, h1, h4, h6, hG, hid⟩
    by_cases hlt : j < c.funs.length
    · have hx0 : ∀ l, hget (B ++ l) 0 = .cells 5 [c.av] := fun l => by rw [hget_app_lt (by omega)]; exact hb0
      simp [h1, h6, hb0, hlt, hx0, AV.named, AV.nameds]
      refine ⟨drawOk_last (ds := [_, _, _, _, _, _, _, _]) (by simp) (fun x hx e he => ?_) rfl, ?_⟩
      · have he' : e.1 = B.length + 8 := by simp at he; rw [he]
        rw [he']
        simp only [List.mem_cons, List.not_mem_nil, or_false] at hx
        rcases hx with rfl | rfl | rfl | rfl | rfl | rfl | rfl | rfl <;> exact bit_dead (by simp) (by simp)
      · have hGA := hG.append (l := [Blk.dead, Blk.dead, Blk.dead, Blk.dead, Blk.dead, Blk.dead, Blk.dead, Blk.dead, Blk.cells 4 [AV.agg [AV.int IntKind.i64 c.funs[j], AV.bool true, iA 0, iA 1]]])
        obtain ⟨out, ho, hG2, hl2, hk2, hv2⟩ := gather_append (bytes := 32) (y := .own (B.length + 8) 0 1 true) (new := [reachA (c.funs[j], 0, 1)]) hGA (by simp) (fun s h => by cases h) (by simp)
          (fun e he => by
            rcases List.mem_append.1 he with he | he
            · simp only [List.mem_map] at he; obtain ⟨x, _, rfl⟩ := he; rfl
            · simp only [List.mem_singleton] at he; subst he; rfl) (by simp [maxBytes]; omega) (by simp; omega)
        simp at ho hl2
        simp [putAll, ho, wrap_succ (j := j) (by omega), h6]
        have hid2 : ¬ (f 5).blockIs 0 ∧ ¬ (f 5).blockIs 1 := ⟨fun h => absurd (hid 0 h) (by omega), fun h => absurd (hid 1 h) (by omega)⟩
        refine ⟨by omega, _, rfl, by omega, ?_, ?_, by simp [h1], by simp [h4], by simp, ?_, ?_⟩
        · rw [hk2 0 (by simp) hid2.1, hget_app_lt (by omega)]; exact hb0
        · rw [hk2 1 (by simp) hid2.2, hget_app_lt (by omega)]; exact hb1
        · rw [List.take_succ_eq_append_getElem hlt, List.map_append, List.map_append]
          exact hG2
        · intro i hi
          simp at hi
          rw [hv2] at hi
          obtain ⟨o, n, cc, hv⟩ := hi
          simp at hv
          omega
    · have hje : c.funs.take j = c.funs := List.take_of_length_le (by omega)
      rw [hje] at hG
      simp [h1, h6, hb0, hlt]
      refine k_while (I80 c) (m := 3 * c.ins.length + c.funs.length)
        ⟨List.replicate c.ins.length dep0, c.funs.map (fun f => (f, 0, 1)), 0, _, hB, hb0, hb1, by simp, by simp [h1], by simp [h4], by simp, by simp, by simpa using hG, by simpa using hid, by rw [unr_rep]; simp, ?_, rfl, by omega, by rw [unr_rep]; simp; omega⟩ ?_
      · intro r hr
        obtain ⟨f, hf1, rfl⟩ := List.mem_map.1 hr
        have := hf f hf1
        exact ⟨this.1, by simp; omega, by simp, by simp, by simp, by simp⟩
      · clear hG hid hb1 h1 h4 h6 hB hb0 hlt hj
        rintro m f B ⟨out, todo, i, fuel, hB, hb0, hb1, hol, h1, h4, h7, hi, hG, hid, hm, hok, hw, hfu, hbd⟩
        have hlen := hG.readable.len
        rw [List.length_map] at hlen
        by_cases hlt : i < todo.length
        · rcases hG with ⟨_, h0⟩ | ⟨id, cl, h5, hidl, hgid, _⟩
          · exfalso
            have : todo = [] := by simpa using h0
            subst this; simp at hlt
          · have hid2 := hid id ⟨_, _, _, h5⟩
            have hx0 : ∀ l, hget (B ++ l) 0 = .cells 5 [c.av] := fun l => by rw [hget_app_lt (by omega)]; exact hb0
            have hx1 : ∀ l, hget (B ++ l) 1 = .cells 3 (out.map depAV) := fun l => by rw [hget_app_lt (by omega)]; exact hb1
            have hxi : ∀ l, hget (B ++ l) id = .cells 4 (todo.map reachA) := fun l => by rw [hget_app_lt (by omega)]; exact hgid
            obtain ⟨a, s, e, hr⟩ : ∃ a s e, todo[i] = (a, s, e) := ⟨_, _, _, rfl⟩
            have hokr := hok _ (List.getElem_mem hlt)
            rw [hr] at hokr
            obtain ⟨o1, o2, o3, o4, o5, o6⟩ := hokr
            simp only at o1 o2 o3 o4 o5 o6
            obtain ⟨n, rfl⟩ := Int.eq_ofNat_of_zero_le o1
            rw [List.drop_eq_getElem_cons hlt, hr] at hw
            obtain ⟨fu, rfl⟩ : ∃ m', fuel = m' + 1 := ⟨fuel - 1, by omega⟩
            simp only [walkR] at hw
            have hbad : badR c out (n, s, e) = true → k.run (CRes.ret (.tuple [.frz [] true, .bool false])) A := fun hb => by
              rw [if_pos hb] at hw
              simpa [depthsA, ← hw] using hk
            simp [h5, h7, hlt, hxi]
            refine ⟨drawOk_one (ds := [_, _, _, _, _, _, _, _, _, _]) (ds2 := [_]) (fun x hx => ?_), ?_⟩
            · simp only [List.cons_append, List.nil_append, List.mem_cons, List.not_mem_nil, or_false] at hx
              rcases hx with rfl | rfl | rfl | rfl | rfl | rfl | rfl | rfl | rfl | rfl | rfl <;> refine ⟨rfl, fun e' he => ?_⟩ <;> (have he' : e'.1 = B.length + 10 := by simp at he; rw [he]) <;> rw [he'] <;> first | exact bit_blind rfl | exact bit_dead (by simp) (by simp)
            · by_cases a1 : (c.ins.length : Int) ≤ n
              · simp [putAll, hget_app, h1, hx0, hr, a1, F80]
                exact hbad (by simp [badR]; omega)
              have ha : n < c.ins.length := by omega
              have hao : n < out.length := by omega
              by_cases a2 : 60 < s
              · simp [putAll, hget_app, h1, hx0, hr, a1, a2, F80]
                exact hbad (by simp [badR, a2])
              by_cases a3 : 30 < e
              · simp [putAll, hget_app, h1, hx0, hr, a1, a2, a3, F80]
                exact hbad (by simp [badR, a3])
              have hgo : out.getD n dep0 = out[n] := by simp [List.getD, hao]
              obtain ⟨q, s2, e2, hq⟩ : ∃ q s2 e2, out[n] = (q, s2, e2) := ⟨_, _, _, rfl⟩
              have hbd2 : badR c out (n, s, e) = (q && decide ((q, s2, e2) ≠ (true, s, e))) := by
                simp only [badR, Int.toNat_natCast, hgo, hq, a1, a2, a3, decide_false, Bool.false_or]
              cases q with
              | true =>
                by_cases a5 : s2 = s ∧ e2 = e
                · obtain ⟨rfl, rfl⟩ := a5
                  simp [putAll, hget_app, h1, h4, h7, hx0, hx1, hol, hr, a1, a2, a3, ha, hq, wrap_succ (j := i) (by omega)]
                  rw [hbd2] at hw
                  simp [List.getD, hao, hq] at hw
                  have hG : Gathers B 4 (f 5) (todo.map reachA) := .inr ⟨id, cl, h5, hidl, hgid, by assumption⟩
                  refine ⟨3 * unr out + (todo.length - (i + 1)), by omega, _, rfl, out, todo, i + 1, fu, by simp, hx0 _, hx1 _, hol, by simp [h1], by simp [h4], by simp, by omega, by simpa using hG.append, hid, rfl, hok, hw, by omega, hbd⟩
                · have : k.run (CRes.ret (.tuple [.frz [] true, .bool false])) A := hbad (by rw [hbd2]; simp; omega)
                  have h5' : (!decide (s2 = s) || !decide (e2 = e)) = true := by simp; omega
                  simp [putAll, hget_app, h1, h4, hx0, hx1, hol, hr, a1, a2, a3, ha, hq, h5', F80]
                  exact this
              | false =>
                have hset : ∀ l b, (B ++ l).set 1 b = B.set 1 b ++ l := fun l b => List.set_append_left _ _ (by omega)
                have e129 := s129 c hc n ha s e ⟨o3, by omega⟩ ⟨o5, by omega⟩
                generalize hB1 : List.set B 1 (Blk.cells 3 ((List.map depAV out).set n (AV.agg [AV.bool true, iA s, iA e]))) = B1
                have hB1l : B1.length = B.length := by rw [← hB1]; simp
                have g0 : ∀ l, hget (B1 ++ l) 0 = .cells 5 [c.av] := fun l => by
                  rw [hget_app_lt (by omega), ← hB1]; simpa [hget] using hb0
                have gB : ∀ l i, hget (B1 ++ l) (B.length + i) = hget l i := fun l i => by rw [← hB1l]; exact hget_app
                simp [putAll, hget_app, h1, h4, hx0, hx1, hol, hr, a1, a2, a3, ha, hq, hset, hB1, g0, gB, e129]
                have hgi : c.ins.getD n ins0 = c.ins[n] := by simp [List.getD, ha]
                rw [hbd2] at hw
                simp only [Bool.false_and, Bool.false_eq_true, if_false, Int.toNat_natCast, hgo, hq, hgi] at hw
                cases hfo : (followR c n c.ins[n] s e).2 with
                | false =>
                  rw [hfo] at hw
                  simp [F80]
                  simpa [depthsA, ← hw] using hk
                | true =>
                  rw [hfo] at hw
                  simp
                  have hG : Gathers B 4 (f 5) (todo.map reachA) := .inr ⟨id, cl, h5, hidl, hgid, by assumption⟩
                  have hG1 : Gathers B1 4 (f 5) (todo.map reachA) := .inr ⟨id, cl, h5, by omega, by
                    rw [← hB1, ← hgid]
                    unfold hget List.getD
                    rw [List.getElem?_set_ne (by omega)], by assumption⟩
                  have hle := followR_le (c := c) (n := n) (x := c.ins[n]) (s := s) (e := e)
                  obtain ⟨ot, ho, hG2, hl2, hk2, hv2⟩ := gather_append0 (bytes := 32) (y := .frz ((followR c n c.ins[n] s e).1.map reachA) true) (new := (followR c n c.ins[n] s e).1.map reachA) (hG1.append (l := [Blk.dead, Blk.dead, Blk.dead, Blk.dead, Blk.dead, Blk.dead, Blk.dead, Blk.dead, Blk.dead, Blk.dead,
                      Blk.cells 3 [AV.agg [AV.bool true, iA s, iA e]], Blk.dead])) (by simp) (fun s h => by cases h)
                    (fun e he => by rw [← List.map_append] at he; obtain ⟨x, _, rfl⟩ := List.mem_map.1 he; rfl) (by simp [maxBytes]; omega) (by simp; omega)
                  simp at ho hl2
                  simp [ho, h7, wrap_succ (j := i) (by omega)]
                  have hid3 : ¬ (f 5).blockIs 0 ∧ ¬ (f 5).blockIs 1 := ⟨fun h => absurd (hid 0 h) (by omega), fun h => absurd (hid 1 h) (by omega)⟩
                  have hun := unr_set (out := out) (n := n) (d := (true, s, e)) hao (by rw [hq]) rfl
                  refine ⟨3 * unr (out.set n (true, s, e)) + ((todo ++ (followR c n c.ins[n] s e).1).length - (i + 1)), by simp; omega, _, rfl,
                    out.set n (true, s, e), todo ++ (followR c n c.ins[n] s e).1, i + 1, fu, by omega, ?_, ?_, by simpa using hol, by simp [h1], by simp [h4], by simp, by simp; omega, by simpa using hG2, ?_, rfl, ?_, ?_, by simp; omega, by simp; omega⟩
                  · rw [hk2 0 (by simp) hid3.1]; exact g0 _
                  · rw [hk2 1 (by simp) hid3.2, hget_app_lt (by omega), ← hB1]
                    have : 1 < B.length := by omega
                    simp [hget, this]
                  · intro b hb
                    have := hv2 b (by simpa using hb)
                    rcases this with h | h
                    · exact hid b h
                    · simp at h; omega
                  · intro r hr
                    rcases List.mem_append.1 hr with hr | hr
                    · exact hok r hr
                    · exact followR_ok hc ha (hc.ins _ (List.getElem_mem ha)) o3 (by omega) o5 (by omega) r hr
                  · rw [List.drop_append_of_le_length (by omega)]
                    simpa using hw
        · have hie : todo.drop i = [] := List.drop_eq_nil_of_le (by omega)
          rw [hie] at hw
          obtain ⟨m', rfl⟩ : ∃ m', fuel = m' + 1 := ⟨fuel - 1, by omega⟩
          have hd : depthsR c = some out := by rw [← hw]; rfl
          have htk : List.take c.ins.length (out.map depAV) = out.map depAV := List.take_of_length_le (by simp; omega)
          simp [h4, h7, hlen, hlt, hb1, hol, F80, htk, fz_deps]
          simpa [depthsA, hd] using hk

end Go.Proofs.YtgbfbhahnoafoaaGreatDoor

/- Loops over functions, and what they yield: rules. -/
namespace Go.Abs

variable {E : Env} {Λ : List LoopInfo} {R R' : Regs} {A A' : Heap}

/-- Behind a loop over a function. -/
def kRangeEnd (R : Regs) (l : Nat) (r : CRes) (A1 : Heap) [k : KE] : Prop := match r with
  | .ret _ => match hget A1 l with
    | .loop true none => k.run .normal R (A1.set l .dead)
    | .loop false (some .ret) => k.run .ret R (A1.set l .dead)
    | .loop false (some (.exit id)) => k.run (.exit id) R (A1.set l .dead)
    | _ => False
  | _ => False

theorem k_rangeF {f : Arg} {ps : List Nat} {asg b : ICode} {k : KE} (hp : plainFunc E (arg E R f) = true)
    (h : @kCall E (⟨A.length, R, ps, asg, b⟩ :: Λ) (arg E R f) [.yld A.length] (A ++ [.loop true none]) ⟨fun r A1 => @kRangeEnd R A.length r A1 k⟩) : @kWp E Λ (.rangeF f ps asg b) R A k := by
  obtain ⟨n, r, A1, h1, h2⟩ := h
  cases r with
  | panic v => exact h2.elim
  | ret v =>
    simp only [kRangeEnd] at h2
    split at h2
    · rename_i hg
      exact ⟨n + 1, .normal, R, A1.set A.length .dead, by rw [ev, if_pos hp, h1]; simp only [hg], h2⟩
    · rename_i hg
      exact ⟨n + 1, .ret, R, A1.set A.length .dead, by rw [ev, if_pos hp, h1]; simp only [hg], h2⟩
    · rename_i id hg
      exact ⟨n + 1, .exit id, R, A1.set A.length .dead, by rw [ev, if_pos hp, h1]; simp only [hg], h2⟩
    · exact h2.elim

/-- Behind a turn. -/
def kYldEnd (l : Nat) (e : AExit) (A2 : Heap) [k : KL] : Prop := (∃ a b, hget A2 l = .loop a b) ∧ match e with
  | .normal => k.run (.ret (.bool true)) (A2.set l (.loop true none))
  | .ret => k.run (.ret (.bool false)) (A2.set l (.loop false (some .ret)))
  | .exit id => k.run (.ret (.bool false)) (A2.set l (.loop false (some (.exit id))))
  | .panic _ => False

/-- In a turn, its variables set. -/
def kYldIn (E : Env) (Λ : List LoopInfo) (i : LoopInfo) (l : Nat) (e : AExit) (R1 : Regs) (A1 : Heap) [k : KL] : Prop := e = .normal ∧ hget A1 l = .loop true none ∧
    @kWp E Λ i.body R1 (A1.set l (.loop false none)) ⟨fun e _ A2 => @kYldEnd l e A2 k⟩

theorem k_yld {l : Nat} {as0 : List AV} {k : KL} {i : LoopInfo} (hi : Λ.find? (fun i => i.id == l) = some i) (hl : as0.length = i.params.length)
    (h : @kWp E Λ i.assign ((i.params.zip as0).foldl (fun R p => rset R p.1 p.2) i.regs) A ⟨fun e R1 A1 => @kYldIn E Λ i l e R1 A1 k⟩) : @kCall E Λ (.yld l) as0 A k := by
  obtain ⟨n, e, R1, A1, h1, rfl, hg, m, e2, R2, A2, h2, ⟨a, b, hg2⟩, h3⟩ := h
  have e1 := ev_mono (Nat.le_max_left n m) h1
  have e2' := ev_mono (Nat.le_max_right n m) h2
  cases e2 with
  | normal => exact ⟨max n m, .ret (.bool true), _, by rw [callOf, hi]; simp only [hl, if_true, e1, hg, e2', hg2], h3⟩
  | ret => exact ⟨max n m, .ret (.bool false), _, by rw [callOf, hi]; simp only [hl, if_true, e1, hg, e2', hg2], h3⟩
  | exit id => exact ⟨max n m, .ret (.bool false), _, by rw [callOf, hi]; simp only [hl, if_true, e1, hg, e2', hg2], h3⟩
  | panic v => exact h3.elim

/-- A call of a method. -/
def kInv (E : Env) (Λ : List LoopInfo) (v : AV) (m : String) (as0 : List AV) (A : Heap) [k : KL] : Prop := ∃ t w f p, v = .iface t w ∧ E.mtab t m = some (f, p) ∧ @kCall E Λ (.func (.func f) [w] []) as0 A k

theorem kInv_iff {t f : Nat} {w : AV} {m : String} {as0 : List AV} {p : Bool} {k : KL} (h : E.mtab t m = some (f, p)) : @kInv E Λ (.iface t w) m as0 A k ↔ @kCall E Λ (.func (.func f) [w] []) as0 A k := by
  constructor
  · rintro ⟨t', w', f', p', h1, h2, h3⟩
    cases h1
    rw [h] at h2
    cases h2
    exact h3
  · exact fun h3 => ⟨t, w, f, p, rfl, h, h3⟩

@[simp] theorem ko_invoke {d : Option Nat} {g : Option (Option Nat × Bool)} {x : Arg} {m : String} {xs : List Arg} {l : List IOper} {k : KO} : @kOps E Λ (⟨d, g, .invoke x m xs⟩ :: l) R A k ↔
    @kGd g R ⟨@kInv E Λ (arg E R x) m (args E R xs) A ⟨fun r A' => @kToO R E Λ d l r A' k⟩⟩ ⟨@kOps E Λ l (rput R d undefA) A k⟩ := by
  cases hc : callee E R (.invoke x m xs) with
  | some q =>
    obtain ⟨f, as0⟩ := q
    rw [ko_callee hc]
    simp only [callee] at hc
    split at hc <;> (try (cases hc; done))
    rename_i t v hx
    split at hc <;> (try (cases hc; done))
    rename_i f' p hm
    cases hc
    rw [hx]
    have e : ∀ k : KL, @kInv E Λ (.iface t v) m (args E R xs) A k ↔ @kCall E Λ (.func (.func f') [v] []) (args E R xs) A k := fun k => kInv_iff hm
    unfold kGd
    simp only [e]
  | none =>
    have key : ∀ c, evOps E c (⟨d, g, .invoke x m xs⟩ :: l) R A = _ := fun c => evOps_nocallee (E := E) (R := R) (A := A) (c := c) (o := ⟨d, g, .invoke x m xs⟩) (l := l) hc rfl (fun x h => by cases h)
    unfold kGd gd kOps WpO
    by_cases hg : guarded R g = true
    · simp only [hg, if_true] at key ⊢
      simp only [key]
      constructor
      · rintro ⟨n, r, h, _⟩; cases h
      · rintro ⟨t, w, f, p, h1, h2, _⟩
        simp only [callee, h1, h2] at hc
        cases hc
    · simp only [hg, Bool.false_eq_true, if_false] at key ⊢
      simp only [key]

attribute [simp] rset_regs

theorem k_yld0 {as0 : List AV} {k : KL} {i : LoopInfo} (hl : as0.length = i.params.length)
    (h : @kWp E (i :: Λ) i.assign ((i.params.zip as0).foldl (fun R p => rset R p.1 p.2) i.regs) A ⟨fun e R1 A1 => @kYldIn E (i :: Λ) i i.id e R1 A1 k⟩) : @kCall E (i :: Λ) (.yld i.id) as0 A k := k_yld (by simp) hl h

@[simp] theorem kyin_normal {i : LoopInfo} {l : Nat} {k : KL} : @kYldIn E Λ i l .normal R A k ↔ hget A l = .loop true none ∧ @kWp E Λ i.body R (A.set l (.loop false none)) ⟨fun e _ A2 => @kYldEnd l e A2 k⟩ := by
  simp [kYldIn]
@[simp] theorem kyend_normal {l : Nat} {k : KL} : @kYldEnd l .normal A k ↔ (∃ a b, hget A l = .loop a b) ∧ k.run (.ret (.bool true)) (A.set l (.loop true none)) := Iff.rfl
@[simp] theorem kyend_ret {l : Nat} {k : KL} : @kYldEnd l .ret A k ↔ (∃ a b, hget A l = .loop a b) ∧ k.run (.ret (.bool false)) (A.set l (.loop false (some .ret))) := Iff.rfl
@[simp] theorem kyend_exit {l i : Nat} {k : KL} : @kYldEnd l (.exit i) A k ↔ (∃ a b, hget A l = .loop a b) ∧ k.run (.ret (.bool false)) (A.set l (.loop false (some (.exit i)))) := Iff.rfl
theorem kre_ok {l : Nat} {v : AV} {k : KE} (h : hget A l = .loop true none) : @kRangeEnd R l (.ret v) A k ↔ k.run .normal R (A.set l .dead) := by simp [kRangeEnd, h]
theorem kre_ret {l : Nat} {v : AV} {k : KE} (h : hget A l = .loop false (some .ret)) : @kRangeEnd R l (.ret v) A k ↔ k.run .ret R (A.set l .dead) := by simp [kRangeEnd, h]
theorem kre_exit {l i : Nat} {v : AV} {k : KE} (h : hget A l = .loop false (some (.exit i))) : @kRangeEnd R l (.ret v) A k ↔ k.run (.exit i) R (A.set l .dead) := by simp [kRangeEnd, h]

end Go.Abs

/- The program's 'Depths': what instructions ask for, and what follows them. -/
namespace Go.Proofs.YtgbfbhahnoafoaaGreatDoor
open Go Go.Abs

/-- What an instruction asks for: of what kind (265: wide, 267: least, 268: just), and how many. -/
def wantR (x : Ins) (args : Int) : Nat × Int :=
  if x.op = 4 then (265, x.a + 1) else if x.op = 10 then (265, x.a)
  else if x.op = 7 ∨ x.op = 13 ∨ x.op = 14 ∨ x.op = 15 ∨ x.op = 16 ∨ x.op = 17 ∨ x.op = 23 ∨ x.op = 27 then (267, 2)
  else if x.op = 8 then (268, 2) else if x.op = 34 then (268, 1)
  else if x.op = 9 ∨ x.op = 12 ∨ x.op = 19 ∨ x.op = 21 ∨ x.op = 22 ∨ x.op = 24 ∨ x.op = 25 ∨ x.op = 28 ∨ x.op = 29 then (267, 1)
  else if x.op = 18 then (267, args) else (267, 0)

abbrev wantA (w : Nat × Int) : AV := .iface w.1 (.agg [iA w.2])

theorem op_cases (o : Int) (h : 1 ≤ o ∧ o ≤ 34) : o = 1 ∨ o = 2 ∨ o = 3 ∨ o = 4 ∨ o = 5 ∨ o = 6 ∨ o = 7 ∨ o = 8 ∨ o = 9 ∨ o = 10 ∨ o = 11 ∨ o = 12 ∨ o = 13 ∨ o = 14 ∨ o = 15 ∨ o = 16 ∨ o = 17 ∨ o = 18 ∨ o = 19 ∨ o = 20 ∨ o = 21 ∨ o = 22 ∨ o = 23 ∨ o = 24 ∨ o = 25 ∨ o = 26 ∨ o = 27 ∨ o = 28 ∨ o = 29 ∨ o = 30 ∨ o = 31 ∨ o = 32 ∨ o = 33 ∨ o = 34 := by omega

theorem s164 (c : Prog) (x : Ins) (hx : insOk c x = true) (_hl : c.cons.length ≤ 1000000) : Comes 164 [c.av, x.av] (wantA (wantR x (c.argsOf x.a))) := fun Λ A k => by
  rw [k_apart rfl c164 rfl (by simp [F164]) (by simp)]
  have ho := insOk_op hx
  obtain ⟨o, a, b⟩ := x
  simp only at ho ⊢
  rcases op_cases o ho with rfl | rfl | rfl | rfl | rfl | rfl | rfl | rfl | rfl | rfl | rfl | rfl | rfl | rfl | rfl | rfl | rfl | rfl | rfl | rfl | rfl | rfl | rfl | rfl | rfl | rfl | rfl | rfl | rfl | rfl | rfl | rfl | rfl | rfl
  case inr.inr.inr.inl =>
    simp [insOk, rng] at hx
    have w := wrap_i64 (n := a + 1) (by omega) (by omega)
    simp [F164, wantR, w]
  case inr.inr.inr.inr.inr.inr.inr.inr.inr.inr.inr.inr.inr.inr.inr.inr.inr.inl =>
    simp [insOk, rng] at hx
    have h3 : a.toNat < c.cons.length := by omega
    have h4 : 0 ≤ a := by omega
    have h5 : a < (c.cons.length : Int) := by omega
    simp [F164, wantR, Prog.argsOf, h3, h4, h5]
  all_goals simp [F164, wantR]

def metR (w : Nat × Int) (s e : Int) : Bool := if w.1 = 265 then decide (w.2 ≤ e) else if w.1 = 267 then decide (w.2 ≤ s) else decide (s = w.2)

theorem m265 : EL.mtab 265 "hearth/code.met" = some (226, false) := by kernel_rfl
theorem m267 : EL.mtab 267 "hearth/code.met" = some (227, false) := by kernel_rfl
theorem m268 : EL.mtab 268 "hearth/code.met" = some (228, false) := by kernel_rfl

theorem met_inv {Λ : List LoopInfo} {A : Heap} {k : KL} (w : Nat × Int) (s e : Int) (hw : w.1 = 265 ∨ w.1 = 267 ∨ w.1 = 268) : @kInv EL Λ (wantA w) "hearth/code.met" [depA s e] A k ↔ k.run (.ret (.bool (metR w s e))) A := by
  obtain ⟨t, n⟩ := w
  simp only at hw
  rcases hw with rfl | rfl | rfl
  · rw [kInv_iff m265, k_apart rfl c226 rfl (by simp [F226]) (by simp)]
    simp [F226, metR]
  · rw [kInv_iff m267, k_apart rfl c227 rfl (by simp [F227]) (by simp)]
    simp [F227, metR]
  · rw [kInv_iff m268, k_apart rfl c228 rfl (by simp [F228]) (by simp)]
    simp [F228, metR]

theorem wantR_kind (x : Ins) (n : Int) : (wantR x n).1 = 265 ∨ (wantR x n).1 = 267 ∨ (wantR x n).1 = 268 := by
  unfold wantR
  repeat' split
  all_goals simp

theorem s192 (x : Ins) (w : Nat × Int) (hw : w.1 = 265 ∨ w.1 = 267 ∨ w.1 = 268) : Comes 192 [x.av, wantA w] (.bool (decide (w.1 = 268 ∨ x.op = 20))) := fun Λ A k => by
  rw [k_apart rfl c192 rfl (by simp [F192]) (by simp)]
  obtain ⟨t, n⟩ := w
  simp only at hw
  rcases hw with rfl | rfl | rfl <;> simp [F192]

/-- How the depths grow. -/
def growR (c : Prog) (x : Ins) : Int × Int :=
  if x.op = 1 ∨ x.op = 2 ∨ x.op = 3 ∨ x.op = 4 ∨ x.op = 5 ∨ x.op = 6 ∨ x.op = 26 ∨ x.op = 30 ∨ x.op = 33 ∨ x.op = 31 ∨ x.op = 32 then (1, 0)
  else if x.op = 7 ∨ x.op = 12 ∨ x.op = 13 ∨ x.op = 14 ∨ x.op = 15 ∨ x.op = 16 ∨ x.op = 17 ∨ x.op = 23 ∨ x.op = 27 then (-1, 0)
  else if x.op = 9 then (-1, 1)
  else if x.op = 10 then (0, -x.a)
  else if x.op = 18 then (1 - c.argsOf x.a, 0)
  else if x.op = 19 then (-1, c.namesOf x.a)
  else (0, 0)

theorem s191 (c : Prog) (hc : c.Fine) (x : Ins) (hx : insOk c x = true) : Comes 191 [c.av, x.av] (.tuple [iA (growR c x).1, iA (growR c x).2]) := fun Λ A k => by
  rw [k_apart rfl c191 rfl (by simp [F191]) (by simp)]
  have ho := insOk_op hx
  have ha := argsOf_le hc (i := x.a)
  have hlen1 := hc.lens.1
  have hlen2 := hc.lens.2
  obtain ⟨o, a, b⟩ := x
  simp only at ho ha ⊢
  rcases op_cases o ho with rfl | rfl | rfl | rfl | rfl | rfl | rfl | rfl | rfl | rfl | rfl | rfl | rfl | rfl | rfl | rfl | rfl | rfl | rfl | rfl | rfl | rfl | rfl | rfl | rfl | rfl | rfl | rfl | rfl | rfl | rfl | rfl | rfl | rfl
  case inr.inr.inr.inr.inr.inr.inr.inr.inr.inl =>
    have hra : b = 0 ∧ 1 ≤ a ∧ a ≤ 30 := by simpa [insOk, rng] using hx
    have w := wrap_i64 (n := -a) (by omega) (by omega)
    simp [F191, growR, w]
  case inr.inr.inr.inr.inr.inr.inr.inr.inr.inr.inr.inr.inr.inr.inr.inr.inr.inl =>
    simp [insOk, rng] at hx
    have h3 : a.toNat < c.cons.length := by omega
    have h4 : 0 ≤ a := by omega
    have h5 : a < (c.cons.length : Int) := by omega
    have w := wrap_i64 (n := 1 - c.argsOf a) (by omega) (by omega)
    have e : c.argsOf a = c.cons[a.toNat].args := by simp [Prog.argsOf, h3]
    rw [e] at w
    simp [F191, growR, e, h3, h4, h5, w]
  case inr.inr.inr.inr.inr.inr.inr.inr.inr.inr.inr.inr.inr.inr.inr.inr.inr.inr.inl =>
    have hra : (0 ≤ a ∧ a ≤ (c.pats.length : Int) - 1) ∧ (0 ≤ b ∧ b ≤ (c.ins.length : Int) - 1) := by simpa [insOk, rng] using hx
    have hla : a.toNat < c.pats.length := by omega
    have hlt : a < (c.pats.length : Int) := by omega
    have e205 := s205 c.pats[a.toNat] (hc.ok.pat _ (List.getElem_mem hla)) (hc.pats _ (List.getElem_mem hla))
    have hno : c.namesOf a = c.pats[a.toNat].names := by simp [Prog.namesOf, List.getD, hla]
    simp [F191, growR, hno, hla, hlt, hra.1.1, pat_cells, e205]
  all_goals simp [F191, growR]

end Go.Proofs.YtgbfbhahnoafoaaGreatDoor

/- The program's 'Depths': what follows an instruction, one after the other. -/
namespace Go.Proofs.YtgbfbhahnoafoaaGreatDoor
open Go Go.Abs

/-- A call comes to true, with the one, or to false, with the other. -/
def SplitsL (Λ : List LoopInfo) (A : Heap) (fn : AV) (xs : List AV) (T F : Heap → Prop) : Prop := ∀ (k : KL), (∀ B, T B → k.run (.ret (.bool true)) B) → (∀ B, F B → k.run (.ret (.bool false)) B) → @kCall EL Λ fn xs A k

abbrev fol (c : Prog) (x : Ins) (s e n : Int) : AV := .func (.func 190) [] [.fp [c.av] 0 0, .fp [x.av] 0 0, .fp [depA s e] 0 0, .fp [iA n] 0 0]

theorem fz_func {n : Nat} {A : Heap} {k : Nat} {t : Bool} {f : Fn} {a b : List AV} : Abs.freeze n A (k + 1) t (.func f a b) = match freezeList (Abs.freeze n A k t) a, freezeList (Abs.freeze n A k t) b with
      | some x, some y => some (.func f x y)
      | _, _ => none := rfl
theorem fz_ptr {n : Nat} {A : Heap} {k : Nat} {t : Bool} {id i off : Nat} : Abs.freeze n A (k + 1) t (.ptr id i off) = if id < n then (if t then some (.ptr id i off) else none) else match hget A id with
      | .cells _ es => (freezeList (Abs.freeze n A k false) es).map fun l => .fp l i off
      | _ => none := rfl

theorem s168 (c : Prog) (n : Nat) (hn : n < c.ins.length) (s e : Int) : Comes 168 [c.av, iA n, depA s e] (fol c c.ins[n] s e n) := fun Λ A k => by
  rw [k_apart rfl c168 rfl (by simp [F168]) (by simp)]
  have h0 : (n : Int) < (c.ins.length : Int) := by omega
  simp [F168, hn, hset, fz_func, fz_ptr]
  exact Iff.rfl

/-- What follows, in the program's order. -/
def followL (c : Prog) (n : Int) (x : Ins) (s e : Int) : List (Int × Int × Int) :=
  let next := (s + (growR c x).1, e + (growR c x).2)
  if x.op = 11 then [(x.a, next)]
  else (if x.op = 12 then [(x.a, next)] else if x.op = 19 then [(x.b, s, e)] else if x.op = 6 ∨ x.op = 32 then [(x.a, 0, e + 1)] else if x.op = 31 then [(x.a, 0, e)] else [])
    ++ (if x.op = 8 ∨ x.op = 34 ∨ x.op = 20 then [] else [(n + 1, next)])

theorem w190 {Λ : List LoopInfo} {B : Heap} {k : KL} {l : Nat} (c : Prog) (hc : c.Fine) (n : Nat) (hn : n < c.ins.length) (x : Ins) (hx : insOk c x = true) (s e : Int) (hs : 0 ≤ s ∧ s ≤ 1000) (he : 0 ≤ e ∧ e ≤ 1000)
    (L : List (Int × Int × Int)) (hL : L = followL c n x s e) (I : Nat → Heap → Prop) (J : Heap → Prop) (h0 : I 0 (B ++ [.cells 3 [depA (s + (growR c x).1) (e + (growR c x).2)]]))
    (hI : ∀ j B' l, I j B' → B.length < B'.length ∧ hget B' B.length = .cells 3 [depA (s + (growR c x).1) (e + (growR c x).2)] ∧ I j (B' ++ l))
    (step : ∀ j B (hj : j < L.length), I j B → SplitsL Λ B (.yld l) [iA L[j].1, depA L[j].2.1 L[j].2.2] (I (j + 1)) J)
    (hend : ∀ B, I L.length B → k.run (.ret (.tuple [])) B) (hJ : ∀ B, J B → k.run (.ret (.tuple [])) B) :
    @kCall EL Λ (fol c x s e n) [.yld l] B k := by
  have eg := s191 c hc x hx
  have ew := s164 c x hx (by have := hc.lens.1; omega)
  have ee := s192 x (wantR x (c.argsOf x.a)) (wantR_kind x _)
  have ho := insOk_op hx
  have ha := argsOf_le hc (i := x.a)
  have hnm := namesOf_le hc (i := x.a)
  have hl := hc.len
  rw [k_fun rfl c190 (by simp) (by simp [F190])]
  obtain ⟨o, a, b⟩ := x
  simp only [Ins.av] at ho ha hnm eg ew ee h0 hI
  have hra : o = 10 → 1 ≤ a ∧ a ≤ 30 := fun h => by
    subst h
    have hra : b = 0 ∧ 1 ≤ a ∧ a ≤ 30 := by simpa [insOk, rng] using hx
    exact hra.2
  have hg : -10 ≤ (growR c ⟨o, a, b⟩).1 ∧ (growR c ⟨o, a, b⟩).1 ≤ 10 ∧ -100 ≤ (growR c ⟨o, a, b⟩).2 ∧ (growR c ⟨o, a, b⟩).2 ≤ 1000 := by
    unfold growR
    simp only
    repeat' split
    all_goals (refine ⟨?_, ?_, ?_, ?_⟩ <;> simp only <;> omega)
  have w1 := wrap_i64 (n := s + (growR c ⟨o, a, b⟩).1) (by omega) (by omega)
  have w2 := wrap_i64 (n := e + (growR c ⟨o, a, b⟩).2) (by omega) (by omega)
  have w3 := wrap_i64 (n := (n : Int) + 1) (by omega) (by omega)
  have w4 := wrap_i64 (n := e + 1) (by omega) (by omega)
  unfold followL at hL
  simp only at hL
  generalize growR c ⟨o, a, b⟩ = g at *
  rcases op_cases o ho with rfl | rfl | rfl | rfl | rfl | rfl | rfl | rfl | rfl | rfl | rfl | rfl | rfl | rfl | rfl | rfl | rfl | rfl | rfl | rfl | rfl | rfl | rfl | rfl | rfl | rfl | rfl | rfl | rfl | rfl | rfl | rfl | rfl | rfl
  case inr.inr.inr.inr.inr.inr.inr.inr.inr.inr.inl =>
    simp at hL
    subst hL
    simp [F190, eg, w1, w2, hset]
    refine step 0 _ (by simp) h0 _ (fun B' h => ?_) (fun B' h => ?_)
    · simp [F190]
      exact hend _ h
    · simp [F190]
      exact hJ _ h
  case inr.inl =>
    simp at hL
    subst hL
    simp [wantR] at ew ee
    simp [F190, eg, ew, ee, w1, w2, w3, hset]
    refine step 0 _ (by simp) h0 _ (fun B' h => ?_) (fun B' h => ?_)
    · simp [F190]
      exact hend _ h
    · simp [F190]
      exact hJ _ h
  case inr.inr.inr.inr.inr.inl =>
    simp at hL
    subst hL
    simp [wantR] at ew ee
    simp [F190, eg, w1, w2, w4, hset]
    refine step 0 _ (by simp) h0 _ (fun B' h => ?_) (fun B' h => ?_)
    · simp [ew, ee, w3, (hI _ _ [] h).2.1]
      refine step 1 _ (by simp) h _ (fun B' h => ?_) (fun B' h => ?_)
      · simp [F190]
        exact hend _ h
      · simp [F190]
        exact hJ _ h
    · simp [F190]
      exact hJ _ h
  case inr.inr.inr.inr.inr.inr.inr.inr.inr.inr.inr.inl =>
    simp at hL
    subst hL
    simp [wantR] at ew ee
    simp [F190, eg, w1, w2, hset]
    refine step 0 _ (by simp) h0 _ (fun B' h => ?_) (fun B' h => ?_)
    · simp [ew, ee, w3, (hI _ _ [] h).2.1]
      refine step 1 _ (by simp) h _ (fun B' h => ?_) (fun B' h => ?_)
      · simp [F190]
        exact hend _ h
      · simp [F190]
        exact hJ _ h
    · simp [F190]
      exact hJ _ h
  case inr.inr.inr.inr.inr.inr.inr.inr.inr.inr.inr.inr.inr.inr.inr.inr.inr.inr.inl =>
    simp at hL
    subst hL
    simp [wantR] at ew ee
    simp [F190, eg, w1, w2, hset]
    refine step 0 _ (by simp) h0 _ (fun B' h => ?_) (fun B' h => ?_)
    · simp [ew, ee, w3, (hI _ _ [] h).2.1]
      refine step 1 _ (by simp) h _ (fun B' h => ?_) (fun B' h => ?_)
      · simp [F190]
        exact hend _ h
      · simp [F190]
        exact hJ _ h
    · simp [F190]
      exact hJ _ h
  case inr.inr.inr.inr.inr.inr.inr.inr.inr.inr.inr.inr.inr.inr.inr.inr.inr.inr.inr.inr.inr.inr.inr.inr.inr.inr.inr.inr.inr.inr.inl =>
    simp at hL
    subst hL
    simp [wantR] at ew ee
    simp [F190, eg, w1, w2, hset]
    refine step 0 _ (by simp) h0 _ (fun B' h => ?_) (fun B' h => ?_)
    · simp [ew, ee, w3, (hI _ _ [] h).2.1]
      refine step 1 _ (by simp) h _ (fun B' h => ?_) (fun B' h => ?_)
      · simp [F190]
        exact hend _ h
      · simp [F190]
        exact hJ _ h
    · simp [F190]
      exact hJ _ h
  case inr.inr.inr.inr.inr.inr.inr.inr.inr.inr.inr.inr.inr.inr.inr.inr.inr.inr.inr.inr.inr.inr.inr.inr.inr.inr.inr.inr.inr.inr.inr.inl =>
    simp at hL
    subst hL
    simp [wantR] at ew ee
    simp [F190, eg, w1, w2, w4, hset]
    refine step 0 _ (by simp) h0 _ (fun B' h => ?_) (fun B' h => ?_)
    · simp [ew, ee, w3, (hI _ _ [] h).2.1]
      refine step 1 _ (by simp) h _ (fun B' h => ?_) (fun B' h => ?_)
      · simp [F190]
        exact hend _ h
      · simp [F190]
        exact hJ _ h
    · simp [F190]
      exact hJ _ h
  case inr.inr.inr.inr.inr.inr.inr.inl =>
    simp at hL
    subst hL
    simp [wantR] at ew ee
    simp [F190, eg, ew, ee, w1, w2, hset]
    exact hend _ h0
  case inr.inr.inr.inr.inr.inr.inr.inr.inr.inr.inr.inr.inr.inr.inr.inr.inr.inr.inr.inl =>
    simp at hL
    subst hL
    simp [wantR] at ew ee
    simp [F190, eg, ew, ee, w1, w2, hset]
    exact hend _ h0
  case inr.inr.inr.inr.inr.inr.inr.inr.inr.inr.inr.inr.inr.inr.inr.inr.inr.inr.inr.inr.inr.inr.inr.inr.inr.inr.inr.inr.inr.inr.inr.inr.inr =>
    simp at hL
    subst hL
    simp [wantR] at ew ee
    simp [F190, eg, ew, ee, w1, w2, hset]
    exact hend _ h0
  all_goals
    simp at hL
    subst hL
    simp [wantR] at ew ee
    simp [F190, eg, ew, ee, w1, w2, w3, hset]
    refine step 0 _ (by simp) h0 _ (fun B' h => ?_) (fun B' h => ?_)
    · simp [F190]
      exact hend _ h
    · simp [F190]
      exact hJ _ h

end Go.Proofs.YtgbfbhahnoafoaaGreatDoor

/- Lists that a function gathers and cuts. -/
namespace Go.Abs

/-- A list that is put on and taken off: nothing yet, or the front of a block of its own. -/
def Pile (B : Heap) (esz : Nat) (v : AV) (es : List AV) : Prop :=
  (v = .frz [] true ∧ es = []) ∨ ∃ id c rest, v = .own id 0 es.length c ∧ id < B.length ∧ hget B id = .cells esz (es ++ rest)

theorem Gathers.pile {B : Heap} {esz : Nat} {v : AV} {es : List AV} (h : Gathers B esz v es) : Pile B esz v es := by
  rcases h with h | ⟨id, c, h1, h2, h3, _⟩
  · exact .inl h
  · exact .inr ⟨id, c, [], h1, h2, by simpa using h3⟩

theorem pile_append {B : Heap} {esz bytes : Nat} {x y : AV} {es new : List AV} (hx : Pile B esz x es) (hy : elems B y = some new) (hys : ∀ s, y ≠ .str s) (hne : new ≠ []) (hsz : ∀ e ∈ es ++ new, e.cells.length = esz)
    (hb : (es.length + new.length) * bytes ≤ maxBytes) (hb2 : es.length + new.length ≤ 9223372036854775807) :
    ∃ out, appendA B B.length esz bytes x y = some out ∧ Pile (applyOut B out) esz out.v (es ++ new) ∧ B.length < (applyOut B out).length ∧ (∀ i, i < B.length → ¬ x.blockIs i → hget (applyOut B out) i = hget B i) ∧ out.v = .own B.length 0 (es.length + new.length) false := by
  have hemp : new.isEmpty = false := by cases new <;> simp_all
  have hall : (es ++ new).all (fun e => decide (e.cells.length = esz)) = true := by
    rw [List.all_eq_true]; intro e he; simpa using hsz e he
  have h1 : appendA B B.length esz bytes x y = appendL B B.length esz bytes x new := by
    cases y <;> first | (simp only [appendA, hy]; done) | exact absurd rfl (hys _)
  rcases hx with ⟨rfl, rfl⟩ | ⟨id, c, rest, rfl, hid, hget'⟩
  · obtain ⟨out, a1, a2, a3, a4, a5⟩ := gather_append (bytes := bytes) (.inl ⟨rfl, rfl⟩ : Gathers B esz (.frz [] true) []) hy hys hne hsz hb hb2
    exact ⟨out, a1, a2.pile, a3, a4, a5⟩
  · rw [h1]
    have he : elems B (.own id 0 es.length c) = some es := by simp [hget']
    have hw : wide B esz (.own id 0 es.length c) = true := by simp [wide, hget']
    cases c with
    | true =>
      refine ⟨⟨.own B.length 0 (es.length + new.length) false, [], some (.cells esz (es ++ new))⟩, ?_, .inr ⟨B.length, false, [], by simp, by simp, by simp⟩, by simp, fun i hi _ => ?_, rfl⟩
      · simp only [appendL, hemp, Bool.false_eq_true, if_false, he]
        rw [if_pos ⟨hb, hb2, hw, hall⟩]
        simp [appOut]
      · simp [hget_app_lt hi]
    | false =>
      refine ⟨⟨.own B.length 0 (es.length + new.length) false, [(id, .dead)], some (.cells esz (es ++ new))⟩, ?_, .inr ⟨B.length, false, [], by simp, ?_, ?_⟩, ?_, fun i hi hn => ?_, rfl⟩
      · simp only [appendL, hemp, Bool.false_eq_true, if_false, he]
        rw [if_pos ⟨hb, hb2, hw, hall⟩]
        simp [appOut]
      · rw [applyOut_both hid]; simp [hid]
      · rw [applyOut_both hid, hset_lt hid]
        have : (B.set id .dead).length = B.length := by simp
        have h3 := hget_snoc (A := B.set id .dead) (b := .cells esz (es ++ new))
        rw [this] at h3; simpa using h3
      · rw [applyOut_both hid]; simp [hid]
      · rw [applyOut_both hid, hget_app_lt (by simpa [hid] using hi), hget_hset]
        have : i ≠ id := fun e => hn ⟨0, es.length, false, by rw [e]⟩
        rw [upd1_ne _ _ _ this]

theorem Pile.keep {B B' : Heap} {esz : Nat} {v : AV} {es : List AV} (h : Pile B esz v es) (hl : B.length ≤ B'.length) (hk : ∀ i, i < B.length → v.blockIs i → hget B' i = hget B i) : Pile B' esz v es := by
  rcases h with h | ⟨id, c, rest, rfl, h1, h2⟩
  · exact .inl h
  · exact .inr ⟨id, c, rest, rfl, by omega, by rw [hk id h1 ⟨_, _, _, rfl⟩]; exact h2⟩

theorem Pile.append {B : Heap} {l : List Blk} {esz : Nat} {v : AV} {es : List AV} (h : Pile B esz v es) : Pile (B ++ l) esz v es :=
  h.keep (by simp) (fun i hi _ => hget_app_lt hi)

theorem Pile.len {B : Heap} {esz : Nat} {v : AV} {es : List AV} (h : Pile B esz v es) : lenA B .slice v = some (.int .i64 es.length) := by
  rcases h with ⟨rfl, rfl⟩ | ⟨id, c, rest, rfl, _, _⟩ <;> rfl

theorem Pile.cells {B : Heap} {esz : Nat} {v : AV} {es : List AV} (h : Pile B esz v es) : v.cells = [v] ∧ v.isCell = true := by
  rcases h with ⟨rfl, rfl⟩ | ⟨id, c, rest, rfl, _, _⟩ <;> exact ⟨rfl, rfl⟩

end Go.Abs
