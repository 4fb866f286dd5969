/- A part of the proof: lemmas, no statement of the seat is proved in this file. -/
import Derived.Test.YtgbfbhahnoafoaaGreatDoorQ2
import Derived.Below
import Derived.Carry
import Derived.LaidMore
import Derived.MakeChecks
import Derived.OpenShut
import Derived.ProofKit
import Derived.Shelf.Slices.Clone
import Derived.SizedLaws
import Derived.Stop.Joined
import Derived.Test.YtgbfbhahnoafoaaGreatDoorCards
import Derived.Test.YtgbfbhahnoafoaaGreatDoorTie
import Derived.WideShapes
import GoSem.ClaimChange
set_option autoImplicit false
set_option maxRecDepth 100000

/- What an argument reads as: data of whole numbers, bools, strings, slices, structs and arrays as abstract values, frozen. -/
namespace Go.Abs

variable {P : Program} {w : World} {σ : Sig} {F D : Nat → Prop}

theorem list_choice {X : Type} {p : Nat → X → Prop} : ∀ (n : Nat), (∀ i, i < n → ∃ x, p i x) → ∃ l : List X, l.length = n ∧ ∀ i x, l[i]? = some x → p i x
  | 0, _ => ⟨[], rfl, fun i x h => by simp at h⟩
  | n + 1, h => by
    obtain ⟨l, h1, h2⟩ := list_choice n (fun i hi => h i (by omega))
    obtain ⟨x, hx⟩ := h n (by omega)
    refine ⟨l ++ [x], by simp [h1], fun i y hy => ?_⟩
    by_cases hi : i < n
    · rw [List.getElem?_append_left (by omega)] at hy
      exact h2 i y hy
    · rw [List.getElem?_append_right (by omega)] at hy
      have : i = n := by
        have := (List.getElem?_eq_some_iff.1 hy).1
        simp at this; omega
      subst this
      rw [h1, Nat.sub_self] at hy
      simp at hy; subst hy; exact hx

def aggB (P : Program) (t : TypeId) : Bool := match P.underlying t with | some (.struct _) | some (.array _ _) => true | _ => false

/-- A value out of its cells. -/
def packA (agg : Bool) (cs : List AV) : AV := if agg then .agg cs else cs.headD undefA

def Fields (p : TypeId → List AV → Prop) : List Field → List (List AV) → Prop
  | [], [] => True
  | f :: fs, a :: as0 => p f.type a ∧ Fields p fs as0
  | _, _ => False

/-- What the abstract cells of a type look like. -/
def Shape (P : Program) : Nat → TypeId → List AV → Prop
  | 0, _, _ => False
  | k + 1, t, avs => match P.underlying t with
    | some .bool => ∃ b, avs = [.bool b]
    | some (.int q) => ∃ n, avs = [.int q n] ∧ q.min ≤ n ∧ n ≤ q.max
    | some .string => ∃ s : ByteArray, avs = [.str s] ∧ s.size ≤ maxLen
    | some (.slice e) => ∃ es clip, avs = [.frz es clip] ∧ es.length ≤ maxLen ∧ ∀ x ∈ es, ∃ cs, Shape P k e cs ∧ cs.length = P.cellsOf e ∧ x = packA (aggB P e) cs
    | some (.struct fs) => ∃ parts, avs = parts.flatten ∧ Fields (Shape P k) fs.toList parts
    | some (.array n e) => ∃ parts : List (List AV), parts.length = n ∧ avs = parts.flatten ∧ ∀ p ∈ parts, Shape P k e p
    | _ => False

/-- Fields lie one behind the other. -/
def laidFs (P : Program) : List Field → Nat → Option Nat
  | [], off => some off
  | f :: fs, off => if f.offset = off then laidFs P fs (off + P.cellsOf f.type) else none

/-- A set of types that is closed. -/
def closedTs (P : Program) (S : List TypeId) : Bool :=
  S.all fun t => match P.underlying t with
    | some .bool | some (.int _) | some .string => decide (P.cellsOf t = 1)
    | some (.slice e) => S.contains e && decide (0 < P.cellsOf e) && decide (P.cellsOf t = 1)
    | some (.struct fs) => fs.toList.all (fun f => S.contains f.type) && decide (laidFs P fs.toList 0 = some (P.cellsOf t))
    | some (.array n e) => S.contains e && decide (P.cellsOf t = n * P.cellsOf e)
    | _ => false

/-- Cells that read as abstract ones. -/
def CR (w : World) (σ : Sig) (F D : Nat → Prop) (avs : List AV) (cs : List Value) : Prop :=
  avs.length = cs.length ∧ (∀ (i : Nat) x u, avs[i]? = some x → cs[i]? = some u → VR w σ F D x u) ∧ ∀ x ∈ avs, x.isCell = true ∧ x.under 0 = true

theorem CR.nil : CR w σ F D [] [] := ⟨rfl, fun i x u h => by simp at h, fun x h => by simp at h⟩

theorem CR.one {x : AV} {u : Value} (h : VR w σ F D x u) (h1 : x.isCell = true) (h2 : x.under 0 = true) : CR w σ F D [x] [u] :=
  ⟨rfl, fun i y v hy hv => by cases i <;> simp at hy hv; subst hy; subst hv; exact h, fun y hy => by simp at hy; subst hy; exact ⟨h1, h2⟩⟩

theorem CR.append {a b : List AV} {cs ds : List Value} (h : CR w σ F D a cs) (k : CR w σ F D b ds) : CR w σ F D (a ++ b) (cs ++ ds) := by
  obtain ⟨h1, h2, h3⟩ := h
  obtain ⟨k1, k2, k3⟩ := k
  refine ⟨by simp [h1, k1], fun i x u hx hu => ?_, fun x hx => ?_⟩
  · by_cases hi : i < a.length
    · rw [List.getElem?_append_left hi] at hx
      rw [List.getElem?_append_left (by omega)] at hu
      exact h2 i x u hx hu
    · rw [List.getElem?_append_right (by omega)] at hx
      rw [List.getElem?_append_right (by omega)] at hu
      rw [h1] at hx
      exact k2 _ x u hx hu
  · rcases List.mem_append.1 hx with h | h
    · exact h3 x h
    · exact k3 x h

theorem pack_cells {g : Bool} {cs : List AV} (hc : ∀ x ∈ cs, x.isCell = true) (h1 : g = false → cs.length = 1) : (packA g cs).cells = cs := by
  cases g with
  | true => rfl
  | false =>
    obtain ⟨x, rfl⟩ : ∃ x, cs = [x] := by
      have := h1 rfl
      match cs, this with
      | [x], _ => exact ⟨x, rfl⟩
    have := hc x (by simp)
    simp only [packA, Bool.false_eq_true, if_false, List.headD_cons]
    cases x <;> first | rfl | (simp [AV.isCell] at this)

theorem pack_under {g : Bool} {cs : List AV} (hc : ∀ x ∈ cs, x.under 0 = true) : (packA g cs).under 0 = true := by
  cases g with
  | true => simp [packA, AV.under, unders_iff]; exact hc
  | false =>
    simp only [packA, Bool.false_eq_true, if_false]
    cases cs with
    | nil => simp [undefA, AV.under, AV.unders]
    | cons x cs => exact hc x (by simp)

theorem fields_cells {H : Type} {g : TypeId → List Value → Option (DataW H × List MemPlace)} {cs : List Value} {p : TypeId → List AV → Prop} :
    ∀ (fs : List Field) (off tot : Nat) (xs : List (DataW H × List MemPlace)), (∀ f ∈ fs, ∀ cs x, g f.type cs = some x → ∃ avs, CR w σ F D avs cs ∧ p f.type avs) → (fs.mapM fun f => g f.type ((cs.drop f.offset).take (P.cellsOf f.type))) = some xs →
      laidFs P fs off = some tot → tot ≤ cs.length → ∃ parts, CR w σ F D parts.flatten ((cs.drop off).take (tot - off)) ∧ Fields p fs parts ∧ off ≤ tot
  | [], off, tot, xs, _, _, hl, _ => by
    simp [laidFs] at hl; subst hl
    exact ⟨[], by simpa using CR.nil, trivial, Nat.le_refl _⟩
  | f :: fs, off, tot, xs, ih, h, hl, ht => by
    simp only [List.mapM_cons, Option.bind_eq_bind, Option.bind_eq_some_iff, Option.pure_def, Option.some.injEq] at h
    obtain ⟨x, hx, ys, hys, rfl⟩ := h
    simp only [laidFs] at hl
    split at hl <;> (try (simp at hl; done))
    rename_i ho
    obtain ⟨parts, h1, h2, h3⟩ := fields_cells fs _ _ _ (fun f hf => ih f (List.mem_cons_of_mem _ hf)) hys hl ht
    obtain ⟨a, h4, h5⟩ := ih f (by simp) _ _ hx
    refine ⟨a :: parts, ?_, ⟨h5, h2⟩, by omega⟩
    have e : (cs.drop off).take (tot - off) = (cs.drop off).take (P.cellsOf f.type) ++ (cs.drop (off + P.cellsOf f.type)).take (tot - (off + P.cellsOf f.type)) := by
      rw [show tot - off = P.cellsOf f.type + (tot - (off + P.cellsOf f.type)) by omega, List.take_add, List.drop_drop]
    rw [e, List.flatten_cons]
    rw [ho] at h4
    exact h4.append h1

theorem row_cells {H : Type} {g : List Value → Option (DataW H × List MemPlace)} {cs : List Value} {p : List AV → Prop} {m : Nat}
    (ih : ∀ cs x, g cs = some x → ∃ avs, CR w σ F D avs cs ∧ p avs) : ∀ (n : Nat) (xs : List (DataW H × List MemPlace)), ((List.range n).mapM fun i => g ((cs.drop (i * m)).take m)) = some xs → n * m ≤ cs.length →
      ∃ parts : List (List AV), parts.length = n ∧ CR w σ F D parts.flatten (cs.take (n * m)) ∧ ∀ q ∈ parts, p q
  | 0, xs, _, _ => ⟨[], rfl, by simpa using CR.nil, fun q h => by simp at h⟩
  | n + 1, xs, h, hn => by
    rw [List.range_succ, List.mapM_append] at h
    simp only [Option.bind_eq_bind, Option.bind_eq_some_iff, Option.pure_def, Option.some.injEq, List.mapM_cons, List.mapM_nil] at h
    obtain ⟨ys, hys, zs, ⟨z, hz, _, _, _⟩, _⟩ := h
    have hm : (n + 1) * m = n * m + m := Nat.succ_mul n m
    obtain ⟨parts, h1, h2, h3⟩ := row_cells ih n ys hys (by omega)
    obtain ⟨a, h4, h5⟩ := ih _ _ hz
    refine ⟨parts ++ [a], by simp [h1], ?_, fun q hq => ?_⟩
    · rw [hm, List.take_add, List.flatten_append]
      simpa using h2.append h4
    · rcases List.mem_append.1 hq with hq | hq
      · exact h3 q hq
      · simp at hq; subst hq; exact h5

/-- The list form of 'mapM' over numbers. -/
theorem mapM_range {X : Type} {f : Nat → Option X} {n : Nat} {l : List X} (h : (List.range n).mapM f = some l) : l.length = n ∧ ∀ i x, l[i]? = some x → f i = some x := by
  obtain ⟨h1, h2⟩ := mapM_some h
  rw [List.length_range] at h1
  refine ⟨h1, fun i x hx => h2 i i x ?_ hx⟩
  have := (List.getElem?_eq_some_iff.1 hx).1
  rw [List.getElem?_range (by omega)]

theorem trod_shape {H : Type} {enc : TypeId × Value → H} {held : Bool} {base : Nat} {S : List TypeId} (hS : closedTs P S = true) (hF : ∀ b, b < w.heap.size → F b) :
    ∀ (k : Nat) (t : TypeId) (cs : List Value) (x : DataW H × List MemPlace), t ∈ S → DataW.trod enc P w base (fun _ => true) held k t cs = some x → ∃ avs, CR w σ F D avs cs ∧ (Shape P k t avs ∧ avs.length = P.cellsOf t)
  | 0, t, cs, x, _, h => by simp [DataW.trod] at h
  | k + 1, t, cs, x, ht, h => by
    have ih := trod_shape (H := H) (enc := enc) (held := held) (base := base) hS hF k
    have hc := (List.all_eq_true.1 hS) t ht
    simp only [DataW.trod] at h
    cases hu : P.underlying t with
    | none => rw [hu] at hc; cases hc
    | some d =>
      rw [hu] at hc h
      simp only [Shape, hu]
      cases d <;> simp only at hc h <;> (try (cases hc; done))
      case bool =>
        split at h <;> (first | (rename_i heq; cases heq; done) | (rename_i heq _; cases heq; done) | (rename_i heq _ _; cases heq; done) | (cases h; done) | skip)
        rename_i b heq
        exact ⟨_, CR.one (.bool b) rfl rfl, ⟨b, rfl⟩, by simpa using (of_decide_eq_true hc).symm⟩
      case int q =>
        split at h <;> (first | (rename_i heq; cases heq; done) | (rename_i heq _; cases heq; done) | (rename_i heq _ _; cases heq; done) | (cases h; done) | skip)
        rename_i q1 q2 n heq
        cases heq
        split at h <;> (try (cases h; done))
        rename_i hq
        obtain ⟨rfl, hq⟩ := hq
        simp only [Lit.wf, Bool.and_eq_true, decide_eq_true_eq] at hq
        exact ⟨_, CR.one (.int q2 n) rfl rfl, ⟨n, rfl, hq⟩, by simpa using (of_decide_eq_true hc).symm⟩
      case string =>
        split at h <;> (first | (rename_i heq; cases heq; done) | (rename_i heq _; cases heq; done) | (rename_i heq _ _; cases heq; done) | (cases h; done) | skip)
        rename_i b heq
        split at h <;> (try (cases h; done))
        rename_i hq
        exact ⟨_, CR.one (.str b) rfl rfl, ⟨b, rfl, hq⟩, by simpa using (of_decide_eq_true hc).symm⟩
      case slice e =>
        simp only [Bool.and_eq_true, decide_eq_true_eq, List.contains_iff_mem] at hc
        obtain ⟨⟨he, hpos⟩, hone⟩ := hc
        split at h <;> (first | (rename_i heq; cases heq; done) | (rename_i heq _; cases heq; done) | (rename_i heq _ _; cases heq; done) | (cases h; done) | skip)
        · exact ⟨_, CR.one (.frz0 true none 0 (fun _ => rfl)) rfl rfl, ⟨[], true, rfl, by simp, by simp⟩, by simpa using hone.symm⟩
        · rename_i e' a len cap heq
          cases heq
          split at h <;> (try (cases h; done))
          rename_i hlc
          obtain ⟨_, hlen, hcap⟩ := hlc
          simp only [Option.bind_eq_some_iff, Option.map_eq_some_iff] at h
          obtain ⟨xs, hxs, rest, hrest, hx⟩ := h
          obtain ⟨hl, hel⟩ := mapM_range hxs
          have each : ∀ i, i < len → ∃ avs cs', w.cells? base (a.add (i * P.cellsOf e)) (P.cellsOf e) = some cs' ∧ CR w σ F D avs cs' ∧ Shape P k e avs ∧ avs.length = P.cellsOf e := fun i hi => by
            have h1 : xs[i]? = some xs[i] := by simp [hl, hi]
            have h2 := hel i _ h1
            simp only [Option.bind_eq_some_iff] at h2
            obtain ⟨cs', h3, h4⟩ := h2
            obtain ⟨avs, h5, h6, h7⟩ := ih e cs' _ he h4
            exact ⟨avs, cs', h3, h5, h6, h7⟩
          obtain ⟨as0, has, hasp⟩ := list_choice len each
          rcases Nat.eq_zero_or_pos len with h0 | hposl
          · subst h0
            refine ⟨_, CR.one (.frz0 (decide (cap = 0)) (some a) cap (fun h => by simpa using h)) rfl rfl, ⟨[], _, rfl, by simp, by simp⟩, by simpa using hone.symm⟩
          · have hspot : a.spot = none ∧ a.block < w.heap.size := by
              obtain ⟨avs, cs', h3, h5, _⟩ := each 0 hposl
              simp only [World.cells?] at h3
              split at h3 <;> (try (cases h3; done))
              obtain ⟨m1, m2⟩ := mapM_range h3
              have h8 := m2 0 cs'[0] (by simp [m1, hpos])
              simp only [Nat.zero_mul, World.cell?, Addr.add] at h8
              simp only [if_true] at h8
              split at h8 <;> (try (cases h8; done))
              rename_i hb
              split at h8 <;> (try (cases h8; done))
              rename_i hsp
              refine ⟨by simpa using hsp, (Array.getElem?_eq_some_iff.1 hb).1⟩
            have ea : a = ⟨a.block, a.off, none⟩ := by rw [← hspot.1]
            have hcell : ∀ (i j : Nat), i < len → j < P.cellsOf e → ∀ cs', w.cells? base (a.add (i * P.cellsOf e)) (P.cellsOf e) = some cs' → w.cell? ⟨a.block, a.off + i * P.cellsOf e + j, none⟩ = cs'[j]? := fun i j hi hj cs' h3 => by
              simp only [World.cells?] at h3
              split at h3 <;> (try (cases h3; done))
              obtain ⟨m1, m2⟩ := mapM_range h3
              have h8 := m2 j cs'[j] (by simp [m1, hj])
              rw [ea, addr_add, addr_add] at h8
              rw [h8]; simp [m1, hj]
            have hagg : aggB P e = false → P.cellsOf e = 1 := fun hg => by
              have hce := (List.all_eq_true.1 hS) e he
              unfold aggB at hg
              cases hue : P.underlying e with
              | none => rw [hue] at hce; cases hce
              | some de =>
                rw [hue] at hce hg
                cases de <;> simp only at hce hg <;> first | (cases hg; done) | (cases hce; done) | (exact of_decide_eq_true hce) | (simp only [Bool.and_eq_true, decide_eq_true_eq] at hce; exact hce.2)
            have packc : ∀ (i : Nat) av, as0[i]? = some av → (packA (aggB P e) av).cells = av ∧ av.length = P.cellsOf e := fun i av hi => by
              obtain ⟨cs', h3, h5, h6, h7⟩ := hasp i av hi
              exact ⟨pack_cells (fun x hx => (h5.2.2 x hx).1) (fun hg => by rw [h7]; exact hagg hg), h7⟩
            have vr : VR w σ F D (.frz (as0.map (packA (aggB P e))) (decide (cap = len))) (.slice (some a) (as0.map (packA (aggB P e))).length cap) := by
              rw [ea]
              refine .frz1 (as0.map (packA (aggB P e))) (decide (cap = len)) a.block a.off cap (P.cellsOf e) (fun i j => (w.cell? ⟨a.block, a.off + i * P.cellsOf e + j, none⟩).getD Go.undef) (by simp [has, hlen]) (fun h => by simpa [has] using h) (hF _ hspot.2) ?_ ?_ ?_ ?_ ?_
              · intro x hx
                obtain ⟨av, hav, rfl⟩ := List.mem_map.1 hx
                obtain ⟨i, hi⟩ := List.getElem?_of_mem hav
                rw [(packc i av hi).1, (packc i av hi).2]
              · intro x hx
                obtain ⟨av, hav, rfl⟩ := List.mem_map.1 hx
                obtain ⟨i, hi⟩ := List.getElem?_of_mem hav
                obtain ⟨cs', h3, h5, _⟩ := hasp i av hi
                exact pack_under (fun x hx => (h5.2.2 x hx).2)
              · intro x hx q hq
                obtain ⟨av, hav, rfl⟩ := List.mem_map.1 hx
                obtain ⟨i, hi⟩ := List.getElem?_of_mem hav
                rw [(packc i av hi).1] at hq
                obtain ⟨cs', h3, h5, _⟩ := hasp i av hi
                exact (h5.2.2 q hq).1
              · intro i x j q hi hj
                rw [List.getElem?_map, Option.map_eq_some_iff] at hi
                obtain ⟨av, hav, rfl⟩ := hi
                rw [(packc i av hav).1] at hj
                obtain ⟨cs', h3, h5, h6, h7⟩ := hasp i av hav
                have hil : i < len := by rw [← has]; exact (List.getElem?_eq_some_iff.1 hav).1
                have hjl := (List.getElem?_eq_some_iff.1 hj).1
                rw [hcell i j hil (by omega) cs' h3]
                have : j < cs'.length := by rw [← h5.1]; exact hjl
                simp [this]
              · intro i x j q hi hj
                rw [List.getElem?_map, Option.map_eq_some_iff] at hi
                obtain ⟨av, hav, rfl⟩ := hi
                rw [(packc i av hav).1] at hj
                obtain ⟨cs', h3, h5, h6, h7⟩ := hasp i av hav
                have hil : i < len := by rw [← has]; exact (List.getElem?_eq_some_iff.1 hav).1
                have hjl := (List.getElem?_eq_some_iff.1 hj).1
                rw [hcell i j hil (by omega) cs' h3]
                have : j < cs'.length := by rw [← h5.1]; exact hjl
                exact h5.2.1 j q _ hj (by simp [this])
            rw [List.length_map, has] at vr
            refine ⟨_, CR.one vr rfl rfl, ⟨_, _, rfl, by simp only [List.length_map, has]; omega, fun x hx => ?_⟩, by simpa using hone.symm⟩
            obtain ⟨av, hav, rfl⟩ := List.mem_map.1 hx
            obtain ⟨i, hi⟩ := List.getElem?_of_mem hav
            obtain ⟨cs', h3, h5, h6, h7⟩ := hasp i av hi
            exact ⟨av, h6, h7, rfl⟩
      case struct fs =>
        simp only [Bool.and_eq_true, decide_eq_true_eq, List.all_eq_true, List.contains_iff_mem] at hc
        obtain ⟨hmem, hlaid⟩ := hc
        split at h <;> (try (cases h; done))
        rename_i hlen
        simp only [Option.map_eq_some_iff] at h
        obtain ⟨xs, hxs, _⟩ := h
        obtain ⟨parts, h1, h2, _⟩ := fields_cells (P := P) (p := Shape P k) fs.toList 0 (P.cellsOf t) xs (fun f hf cs x hx => by
          obtain ⟨avs, h3, h4, _⟩ := ih f.type cs x (hmem f hf) hx
          exact ⟨avs, h3, h4⟩) hxs hlaid (by omega)
        rw [List.drop_zero, Nat.sub_zero, ← hlen, List.take_length] at h1
        exact ⟨_, h1, ⟨parts, rfl, h2⟩, by rw [h1.1, hlen]⟩
      case array n e =>
        simp only [Bool.and_eq_true, decide_eq_true_eq, List.contains_iff_mem] at hc
        obtain ⟨he, hsz⟩ := hc
        split at h <;> (try (cases h; done))
        rename_i hlen
        simp only [Option.map_eq_some_iff] at h
        obtain ⟨xs, hxs, _⟩ := h
        obtain ⟨parts, h1, h2, h3⟩ := row_cells (fun cs x h => ih e cs x he h) n xs hxs (by omega)
        rw [← hsz, ← hlen, List.take_length] at h2
        exact ⟨_, h2, ⟨parts, h1, rfl, fun p hp => (h3 p hp).1⟩, by rw [h2.1, hlen]⟩

end Go.Abs

/- A law's call, out of the evaluator's answer. -/
namespace Go.Abs
open Go.RowKit

variable {P : Program} {gl : List Nat} {E : Env} {w w' : World} {σ : Sig} {F D : Nat → Prop}

/-- What an argument of a type is. -/
def ArgOk (P : Program) (t : TypeId) (x : AV) : Prop := ∃ k cs, Shape P k t cs ∧ cs.length = P.cellsOf t ∧ x = packA (aggB P t) cs

theorem arg_shape {H : Type} {enc : TypeId × Value → H} {held : Bool} {base b0 : Nat} {S : List TypeId} {t : TypeId} {v : Value} {d : DataW H} {ps : List MemPlace} {r : Reach} (hS : closedTs P S = true) (ht : t ∈ S)
    (hF : ∀ b, b < w.heap.size → F b) (hv : Value.okWide P w r b0 t v) (h : DataW.Trod enc P w base (fun _ => true) held t v d ps) : ∃ x, VR w σ F D x v ∧ ArgOk P t x := by
  obtain ⟨k, h⟩ := h
  obtain ⟨avs, h1, h2, h3⟩ := trod_shape (σ := σ) (D := D) hS hF k t _ _ ht h
  refine ⟨packA (aggB P t) avs, ?_, k, avs, h2, h3, rfl⟩
  have hc := (List.all_eq_true.1 hS) t ht
  unfold Value.okWide at hv
  cases hu : P.underlying t with
  | none => rw [hu] at hc; cases hc
  | some dsc =>
    rw [hu] at hc hv
    have single : v.cells.toList = [v] → aggB P t = false → VR w σ F D (packA (aggB P t) avs) v := fun e hg => by
      rw [e] at h1
      obtain ⟨x, rfl⟩ : ∃ x, avs = [x] := by
        have := h1.1
        match avs, this with
        | [x], _ => exact ⟨x, rfl⟩
      rw [hg]
      exact h1.2.1 0 x v rfl rfl
    have agg : aggB P t = true → (∃ cs, v = .agg cs ∧ cs.size = P.cellsOf t ∧ Row.okWide P w r b0 t cs) → VR w σ F D (packA (aggB P t) avs) v := fun hg ⟨cs, e, _, _⟩ => by
      subst e
      rw [hg]
      have e2 : (Value.agg cs).cells.toList = cs.toList := rfl
      rw [e2] at h1
      refine .agg avs cs (by rw [h1.1]; simp) (fun x hx => (h1.2.2 x hx).1) (fun i x u hx hu => h1.2.1 i x u hx (by simpa using hu))
    cases dsc <;> simp only at hc hv <;> (try (cases hc; done))
    case struct fs => exact agg (by simp [aggB, hu]) hv
    case array n e => exact agg (by simp [aggB, hu]) hv
    all_goals
      refine single ?_ (by simp [aggB, hu])
      unfold Cell.okWide at hv
      rw [hu] at hv
      cases v <;> first | rfl | (simp [Cell.ok, hu] at hv)

theorem args_shape {H : Type} {enc : TypeId × Value → H} {held : Bool} {base b0 : Nat} {S : List TypeId} {r : Reach} (hS : closedTs P S = true) (hF : ∀ b, b < w.heap.size → F b) :
    ∀ (ts : List TypeId) (vs : List Value) (ds : List (DataW H)) (ps : List MemPlace), (∀ t ∈ ts, t ∈ S) → (∀ (j : Nat) t v, ts[j]? = some t → vs[j]? = some v → Value.okWide P w r b0 t v) →
      DataW.TrodAll enc P w base (fun _ => true) held ts vs ds ps → ∃ as0 : List AV, as0.length = vs.length ∧ as0.length = ts.length ∧ (∀ (i : Nat) x u, as0[i]? = some x → vs[i]? = some u → VR w σ F D x u) ∧ ∀ (i : Nat) t x, ts[i]? = some t → as0[i]? = some x → ArgOk P t x
  | [], [], [], _, _, _, _ => ⟨[], rfl, rfl, fun i x u h => by simp at h, fun i t x h => by simp at h⟩
  | t :: ts, v :: vs, d :: ds, ps, hts, hval, h => by
    obtain ⟨p, q, h1, h2, _⟩ := h
    obtain ⟨x, h3, h4⟩ := arg_shape (σ := σ) (D := D) hS (hts t (by simp)) hF (hval 0 t v rfl rfl) h1
    obtain ⟨as0, h5, h6, h7, h8⟩ := args_shape hS hF ts vs ds q (fun t ht => hts t (List.mem_cons_of_mem _ ht)) (fun j t v ht hv => hval (j + 1) t v (by simpa using ht) (by simpa using hv)) h2
    refine ⟨x :: as0, by simp [h5], by simp [h6], fun i y u hy hu => ?_, fun i t' y ht' hy => ?_⟩
    · cases i with
      | zero => simp at hy hu; subst hy; subst hu; exact h3
      | succ i => exact h7 i y u (by simpa using hy) (by simpa using hu)
    · cases i with
      | zero => simp at hy ht'; subst hy; subst ht'; exact h4
      | succ i => exact h8 i t' y (by simpa using ht') (by simpa using hy)
  | [], [], _ :: _, _, _, _, h => h.elim
  | [], _ :: _, _, _, _, _, h => h.elim
  | _ :: _, [], _, _, _, _, h => h.elim
  | _ :: _, _ :: _, [], _, _, _, h => h.elim

/-- Nothing is owned where the code under view begins. -/
theorem rel_start (hF : ∀ b, F b → b < w.heap.size) : Rel (hget []) (below []) w σ F := by
  have hd : ∀ id, hget [] id = .dead := fun id => hget_dead (by simp)
  have hl : ∀ {id : Nat} {p : Prop}, (hget [] id).live = true → p := fun {id p} h => by rw [hd] at h; cases h
  refine ⟨fun id h => hl h, fun id => (by rw [hd]; trivial), fun i j h => hl h, ?_, hF, ?_⟩
  · rintro b ⟨id, h, _⟩; exact hl h
  · rintro b _ ⟨id, h, _⟩; exact hl h

/-- What the evaluator answers, the call answers, and everything older is as it was. -/
theorem law_calls (hE : EnvOk P E gl) {g : FuncId} {as0 : List AV} {us : Array Value} {n : Nat} {A' : Heap} {b : Bool} (hi : E.intr g = none) (he : callOf E (ev E n) [] (.func (.func g) [] []) as0 [] = some (.ret (.bool b), A'))
    (hg : GlobOk E gl w (fun b => b < w.heap.size)) (hus : us.size = as0.length) (hvs : ∀ (i : Nat) x u, as0[i]? = some x → us[i]? = some u → VR w (fun _ => (0, 0, 0)) (fun b => b < w.heap.size) (below []) x u) :
    Calls P g us w (fun e w' => e = .returned (.bool b) ∧ Below w.heap.size w w') := by
  have hrel : Rel (hget []) (below []) w (fun _ => (0, 0, 0)) (fun b => b < w.heap.size) := rel_start (fun _ h => h)
  obtain ⟨d, h1, h2⟩ := func_call hE (evOk hE n) he ⟨hrel, hg, fun i hi => by cases hi⟩ (.func (.func g) [] [] #[] #[] rfl rfl (fun i x u h => by simp at h) (fun i x u h => by simp at h)) hus hvs
  simp [Deferred.ofValue] at h1
  subst h1
  cases hF0 : E.fns g with
  | none => simp [callOf, hi, hF0] at he
  | some F0 =>
    obtain ⟨hcf, hname⟩ := hE.fns g F0 hF0
    simp only [compFun, Option.bind_eq_bind, Option.bind_eq_some_iff, Option.some.injEq] at hcf
    obtain ⟨fn, hfn, c, hbody, _⟩ := hcf
    have e1 : (invoke (.fn (.func g) #[]) us).run P w = (callFunc g us).run P w := by simp [invoke]
    rw [e1, run_callFunc hfn hbody (hname fn hfn)] at h2
    have h3 : Calls P g us w _ := h2
    refine h3.mono fun e w' hR => ?_
    obtain ⟨σ', F', hs, u, rfl, hv⟩ := hR
    cases hv
    refine ⟨rfl, hs.ext.os, hs.ext.tape, hs.ext.output, hs.ext.size, fun k hk => hs.ext.same k hk ?_⟩
    rintro ⟨id, h, _⟩
    rw [hget_dead (by simp)] at h; cases h

end Go.Abs

/- slices.Clone of a slice without elements: nil or not, an empty one comes back. Laid at this program. -/
namespace Go.Proofs.YtgbfbhahnoafoaaGreatDoor
open Go Go.Abs Go.Shelf Go.RowKit Go.Lib

def ren45 : Go.Shelf.Ren := ⟨fun | 15 => 45 | n => n, fun | 3 => 3 | 4 => 4 | 22 => 24 | n => n, fun n => n⟩
theorem lays45 : Lays2.n15 Tryz.prog ren45 where
  mixed := by kernel_rfl
  f15 := Tryz.func45.trans (congrArg some (by kernel_rfl))
  t3 := Tryz.underlying3
  a3 := Tryz.isAgg3
  z3 := Tryz.sizeOf3
  v3 := Tryz.zeroValue3
  t4 := Tryz.underlying4
  a4 := Tryz.isAgg4
  z4 := Tryz.sizeOf4
  v4 := Tryz.zeroValue4
  t22 := Tryz.underlying24
  a22 := Tryz.isAgg24
  z22 := Tryz.sizeOf24
  v22 := Tryz.zeroValue24
  i3 := by kernel_rfl

set_option maxHeartbeats 2000000 in
theorem clone_some {P : Program} {ρ : Ren} (L : Lays2.n15 P ρ) (a : Addr) (c : Nat) (w : World) :
    Calls P (ρ.f 15) #[.slice (some a) 0 c] w fun e w' => ∃ v', e = .returned v' ∧ w'.ownsRow w.heap.size (ρ.t 3) 1 v' 0 [] ∧ Below w.heap.size w w' := by
  have mixed := L.mixed; have t3 := L.t3; have a3 := L.a3; have z3 := L.z3; have v3 := L.v3; have t4 := L.t4; have a4 := L.a4; have z4 := L.z4; have v4 := L.v4; have t22 := L.t22; have a22 := L.a22; have z22 := L.z22; have v22 := L.v22
  obtain ⟨i0, hi, hz0, hz1, hz2⟩ := info_parts L.i3
  have q22 : ∀ (w : World) (a : Option Addr) (n c n' c' : Nat), (binOp .eql (ρ.t 22) (.slice a n c) (.slice none n' c')).run P w = .ok (.bool a.isNone) w := fun w a n c n' c' => Lib.run_eql_slice_nil w _ _ a n c n' c' L.t22
  have u22 : ∀ w, Sem.run P (underlying (ρ.t 22)) w = .ok (TypeDesc.slice (ρ.t 3)) w := run_underlying t22
  go_enter L.f15, Body2.n15_ntmps ρ
  go_wp2_with (at_builtin; refine wpList_append_own _ rfl _ _ (ρ.t 22) rfl w.heap.size (ρ.t 3) i0 (.int .i64 0) 1 8 t22 hi hz0 hz1 hz2 rfl (by decide) _ _ _ rfl (World.ownsRow_made w #[] 0 (Nat.le_refl _) (Nat.zero_le _) rfl) a 0 c [] rfl ?qc1 ?qc2 ?qc3 ?qc4 ?qc5 ?qc6 ?_)
  case qc1 => simp
  case qc2 => intro j u hj; simp at hj
  case qc3 => intro u hu; cases hu
  case qc4 => unfold maxLen; omega
  case qc5 => omega
  case qc6 => simp
  intro v' w1 hown hgrow hnil
  go_wp2
  go_ret
  refine ⟨v', rfl, by simpa using hown, ?_⟩
  exact ((Below.refl _ w).alloc (Nat.le_refl _) _).grown hgrow (by simp) (by intro k hk; simp [Value.ownBlock] at hk; omega)

/-- What lies above is no matter. -/
theorem step_below {H : Nat → Blk} {D : Nat → Prop} {σ : Sig} {F : Nat → Prop} {w w' : World} (hr : Rel H D w σ F) (hb : Below w.heap.size w w') : Step H D σ F w H D σ F w' := by
  have hc : ∀ (b : Nat) (vs : Array Value) (T : TypeId) (fr : Nat × Nat), w.heap[b]? = some (Obj.cells vs T fr) → ∃ vs', w'.heap[b]? = some (Obj.cells vs' T fr) ∧ vs'.size = vs.size := fun b vs T fr h => by
    have hlt : b < w.heap.size := (Array.getElem?_eq_some_iff.1 h).1
    exact ⟨vs, (hb.block b hlt).trans h, rfl⟩
  refine ⟨⟨hr.dom, fun id => ?_, hr.inj, fun b h => Nat.lt_of_lt_of_le (hr.size b h) hb.size, fun b h => Nat.lt_of_lt_of_le (hr.fsize b h) hb.size, hr.apart⟩,
    ⟨hb.size, fun b h _ => hb.block b h, hc, fun b r h => ?_, fun _ h => h, fun _ h => .inl h, hb.os, hb.output, hb.tape⟩, fun _ _ => rfl, fun _ h => h, fun _ h => .inl h⟩
  · by_cases hl : (H id).live = true
    · exact (hr.br id).carry (hb.block _ (hr.size _ ⟨id, hl, rfl⟩)) (fun h => hr.dom id h) (fun _ h => h) (fun b h => hb.block b (hr.fsize b h)) hc (fun _ _ => rfl) (fun _ h => h)
    · cases hbk : H id <;> rw [hbk] at hl <;> first | trivial | exact absurd rfl hl
  · have hlt : b < w.heap.size := (Array.getElem?_eq_some_iff.1 h).1
    exact ⟨r.state, r.pending, (hb.block b hlt).trans h⟩

def easy45 : List AV → Option AV
  | [.frz [] _] => some (.frz [] false)
  | _ => none

theorem easy45_ok {xs : List AV} {v : AV} (h : easy45 xs = some v) (A : Heap) (σ : Sig) (F : Nat → Prop) (w : World) (us : Array Value) (hr : Rel (hget A) (below A) w σ F) (hus : us.size = xs.length)
    (hv : ∀ (i : Nat) x u, xs[i]? = some x → us[i]? = some u → VR w σ F (below A) x u) : CallTo Tryz.prog (CallEnd (hget A) (below A) σ F w A (below A) (.ret v)) ((callFunc 45 us).run Tryz.prog w) := by
  unfold easy45 at h
  split at h <;> (try (cases h; done))
  rename_i c
  cases h
  obtain ⟨u, rfl⟩ : ∃ u, us = #[u] := by
    have : us.size = 1 := hus
    exact ⟨us[0], by apply Array.ext <;> simp [this]; intro i h; obtain rfl : i = 0 := by omega
                     rfl⟩
  have h0 := hv 0 (.frz [] c) u rfl rfl
  rw [run_callFunc Tryz.func45 rfl (by kernel_rfl)]
  have key : ∀ (a : Option Addr) (cap : Nat), Calls Tryz.prog 45 #[.slice a 0 cap] w (CallEnd (hget A) (below A) σ F w A (below A) (.ret (.frz [] false))) := fun a cap => by
    cases a with
    | none =>
      refine (Any.slices_Clone_int_nil lays45 0 cap w).mono fun e w' hq => ?_
      obtain ⟨rfl, rfl⟩ := hq
      exact ⟨σ, F, Step.refl hr, _, rfl, .frz0 false none 0 (by simp)⟩
    | some a =>
      refine (clone_some lays45 a cap w).mono fun e w' hq => ?_
      obtain ⟨v', rfl, ho, hb⟩ := hq
      refine ⟨σ, F, step_below hr hb, v', rfl, ?_⟩
      obtain ⟨_, ⟨rfl, _⟩ | ⟨g, cap, cur, rfl, _⟩⟩ := ho
      · exact .frz0 false none 0 (by simp)
      · exact .frz0 false _ cap (by simp)
  show Calls _ _ _ _ _
  cases h0 with
  | frz0 _ a cap _ => exact key a cap
  | frz1 _ _ b off cap => exact key _ cap

end Go.Proofs.YtgbfbhahnoafoaaGreatDoor

/- The rows of this seat, each out of the evaluator's answer. -/
namespace Go.Proofs.YtgbfbhahnoafoaaGreatDoor
open Go Go.Abs Go.ChangeShapes Go.WideShapes Go.ChangeAt Go.RowKit

/-- The table, as the card tells it. -/
def table : List Int := [0, 1, 56, 2, 57, 49, 28, 3, 61, 58, 42, 50, 38, 29, 17, 4, 62, 47, 59, 36, 45, 43, 51, 22, 53, 39, 33, 30, 24, 18, 12, 5, 63, 55, 48, 27, 60, 41, 37, 16, 46, 35, 44, 21, 52, 32, 23, 11, 54, 26, 40, 15, 34, 20, 31, 10, 25, 14, 19, 9, 13, 8, 7, 6]

def tableA : AV := .fp [.agg (table.map (.int .u8))] 0 0

/-- Functions whose results are kept as they are. -/
def kept (g : Nat) : Bool := [135, 101, 81, 45, 52, 163, 166, 165, 189, 48, 109, 197, 207, 206, 210, 198, 190, 142, 104, 46, 107, 143, 47].contains g

/-- Functions of plain values. -/
def aparts (g : Nat) : Bool := decide (g < 229) && !(kept g) && g != 139

/-- What is read of the program. -/
noncomputable def EL : Env where
  fns g := match Tryz.prog.funcs[g]? with
    | some fn => if fn.name == "runtime.NumGoroutine" then Option.none else compFun Tryz.prog [0] g
    | Option.none => Option.none
  intr _ := Option.none
  keep := kept
  glob g := if g = 0 then some tableA else Option.none
  mtab := mtabOf Tryz.prog
  noisy _ := false
  apart := aparts
  easy g xs := if g = 45 then easy45 xs else Option.none

theorem envOk : EnvOk Tryz.prog EL [0] := by
  refine ⟨by kernel_rfl, fun g F h => ?_, fun g h hi => (by cases hi), fun t m p h => h, fun g xs v h A σ F w us hr hus hv => ?_⟩
  rotate_left
  · simp only [EL] at h
    split at h <;> (try (cases h; done))
    rename_i hg
    subst hg
    exact easy45_ok h A σ F w us hr hus hv
  simp only [EL] at h
  split at h <;> (try (cases h; done))
  rename_i fn hfn
  split at h <;> (try (cases h; done))
  rename_i hn
  refine ⟨h, fun fn' hf => ?_⟩
  rw [hfn] at hf
  cases hf
  simpa using hn

theorem fns_of {g : Nat} {fn : Func} {F : IFun} (h : Tryz.prog.funcs[g]? = some fn) (hn : (fn.name == "runtime.NumGoroutine") = false) (hc : compFun Tryz.prog [0] g = some F) : EL.fns g = some F := by
  simp only [EL, h, hn, Bool.false_eq_true, if_false, hc]

def S0 : List Nat := [27, 22, 157, 155, 3, 23, 188, 186, 9, 24, 25, 190, 5, 36, 34, 77, 4, 101]
theorem closed0 : closedTs Tryz.prog S0 = true := by kernel_rfl

theorem own : ownKnob Tryz.prog.godebug = Option.none := by kernel_rfl
theorem laidOut : laidOutB Tryz.prog = true := by kernel_rfl
theorem gTab : Tryz.prog.globalNamed "math/bits.deBruijn64tab" = some 0 := by kernel_rfl
theorem tTab : (Tryz.prog.globals[0]?).map (·.type) = some 232 := by kernel_rfl

abbrev laidL : List (String × DataW Unit) := [("math/bits.deBruijn64tab", Rows.laid_math_bits_deBruijn64tab)]

/-- The door's own heap meets the condition. -/
theorem door_met (os : Os) (args : Array Value) : laidMetH Tryz.prog laidL ((World.doorLaid Tryz.prog 4000 os).forCall (fun _ _ => 0) ⟨#[], args, []⟩).memory :=
  laidMetH_of_parts3 (fuel := 8) (laidMet_of_run' 8 (by kernel_rfl) (by kernel_rfl)) (by kernel_rfl) (by kernel_rfl)

theorem table_datum : Rows.laid_math_bits_deBruijn64tab (H := Unit) = .agg (table.map fun n => .lit (.int .u8 n)) := rfl

theorem glob_of_laid {W : World} (h : laidMetH Tryz.prog laidL W) : GlobOk EL [0] W (fun b => b < W.heap.size) := by
  rw [MakeChecks.laidMetH_plain _ _ _ (by kernel_rfl)] at h
  obtain ⟨ps, ⟨g0, t0, cs0, f0, p0, q0, hg0, ht0, hv0, hd0, _, _⟩, _, _⟩ := h
  obtain rfl := Option.some.inj (gTab.symm.trans hg0)
  obtain rfl := Option.some.inj (tTab.symm.trans ht0)
  obtain ⟨xs, m, rfl, hx, hlen, hn, hel⟩ := DataW.trod_array Tryz.underlying232 hd0
  have c5 : Tryz.prog.cellsOf 5 = 1 := by kernel_rfl
  have hsz : cs0.toList.length = 64 := by rw [hlen]; kernel_rfl
  rw [table_datum] at hx
  simp only [Prod.mk.injEq, DataW.agg.injEq] at hx
  have cell : ∀ j, j < 64 → W.cell? ⟨0, j, Option.none⟩ = some (.int .u8 (table.getD j 0)) := fun j hj => by
    have h1 := hel j hj
    have h2 : xs[j]? = some xs[j] := by simp [hn, hj]
    rw [h2, c5] at h1
    obtain ⟨n, e1, e2, _⟩ := DataW.trod_int Tryz.underlying5 h1
    have h3 : (table.map fun n => (DataW.lit (.int .u8 n) : DataW Unit))[j]? = some xs[j].1 := by rw [hx.1, List.getElem?_map, h2]; rfl
    rw [List.getElem?_map, Option.map_eq_some_iff] at h3
    obtain ⟨n', h4, h5⟩ := h3
    rw [e2] at h5
    simp only [DataW.lit.injEq, Lit.int.injEq, true_and] at h5
    subst h5
    have h6 := World.var?_cell hg0 hv0 j
    rw [h6]
    have h7 : cs0.toList[j]? = some (.int .u8 n') := by
      rw [Nat.mul_one] at e1
      have : (cs0.toList.drop j)[0]? = some (.int .u8 n') := by
        have : ((cs0.toList.drop j).take 1)[0]? = some (.int .u8 n') := by rw [e1]; rfl
        simpa [List.getElem?_take] using this
      simpa using this
    rw [Array.getElem?_toList] at h7
    rw [h7]
    simp [List.getD, h4]
  intro g hg
  obtain rfl : g = 0 := by simpa using hg
  refine ⟨tableA, rfl, fun σ D => ?_⟩
  have hb : 0 < W.heap.size := World.block_lt_of_cell? W ⟨0, 0, Option.none⟩ (cell 0 (by decide))
  have := VR.fp (w := W) (σ := σ) (F := fun b => b < W.heap.size) (D := D) [.agg (table.map (.int .u8))] 0 0 0 0 64 (fun i j => .int .u8 (table.getD j 0)) hb
    (fun e he => by simp at he; subst he; rfl) (fun e he => by simp at he; subst he; rfl) (fun e he x hx => by
      simp only [List.mem_singleton] at he; subst he
      simp only [AV.cells, List.mem_map] at hx
      obtain ⟨n, _, rfl⟩ := hx; rfl)
    (fun i e j x hi hj => by
      cases i <;> simp only [List.getElem?_cons_zero, List.getElem?_cons_succ, List.getElem?_nil, Option.some.injEq, reduceCtorEq] at hi
      subst hi
      simp only [AV.cells] at hj
      have : j < 64 := by have := (List.getElem?_eq_some_iff.1 hj).1; simpa [table] using this
      have h8 := cell j this
      simpa using h8)
    (fun i e j x hi hj => by
      cases i <;> simp only [List.getElem?_cons_zero, List.getElem?_cons_succ, List.getElem?_nil, Option.some.injEq, reduceCtorEq] at hi
      subst hi
      simp only [AV.cells, List.getElem?_map, Option.map_eq_some_iff] at hj
      obtain ⟨n, h9, rfl⟩ := hj
      have : table.getD j 0 = n := by simp [List.getD, h9]
      show VR W σ _ D (.int .u8 n) (.int .u8 (table.getD j 0))
      rw [this]
      exact .int .u8 n)
  exact this

/-- One row's contract, out of the evaluator's answer. -/
theorem contract {f : Nat} {fn : Func} {s : ChangeSpec} (_hf : Tryz.prog.funcs[f]? = some fn) (hp : ∀ t ∈ fn.params.toList, t ∈ S0) (hr : fn.resultTypes = #[4]) (hvars : s.vars = [])
    (hs : ∀ (H : Type) (ds : List (DataW H)), ds.length = fn.params.size → s.fn H (ds ++ []) = { results := [.lit (.bool true)], args := ds, vars := [] })
    (law : ∀ ys : List AV, ys.length = fn.params.size → (∀ (i : Nat) t x, fn.params[i]? = some t → ys[i]? = some x → ArgOk Tryz.prog t x) → ∃ n A', callOf EL (ev EL n) [] (.func (.func f) [] []) ys [] = some (.ret (.bool true), A'))
    {H : Type} {enc : TypeId × Value → H} {W : World} {base : Nat} {args : Array Value} {ds gs : List (DataW H)} {before : List MemPlace}
    (hval : ∀ (j : Nat) t v, fn.params[j]? = some t → args[j]? = some v → Value.okWide Tryz.prog W .any base t v)
    (hW : DataW.Whole enc Tryz.prog fn.params.toList s.vars false W args.toList ds gs before) (hL : laidMetH Tryz.prog laidL W) :
    Calls Tryz.prog f args W fun e W' => ∃ v, e = .returned v ∧ s.post enc Tryz.prog fn false true false false W args v W' := by
  have hW' := hW
  obtain ⟨p, q, hA, hV, rfl, hfz, hnd⟩ := hW
  rw [hvars] at hV
  obtain ⟨rfl, rfl⟩ := trodVars_none hV
  obtain ⟨ys, h1, h2, h3, h4⟩ := args_shape (σ := fun _ => (0, 0, 0)) (F := fun b => b < W.heap.size) (D := below []) closed0 (fun _ h => h) _ _ _ _ hp (fun j t v ht hv => hval j t v (by simpa using ht) (by simpa using hv)) hA
  obtain ⟨n, A', he⟩   := law ys (by simpa using h2) (fun i t x ht hx => h4 i t x (by simpa using ht) hx)
  refine (law_calls envOk rfl he (glob_of_laid hL) (by simpa using h1.symm) (fun i x u hx hu => h3 i x u hx (by simpa using hu))).mono fun e W' ⟨he, bel⟩ => ?_
  subst he
  have hds : ds.length = fn.params.size := by
    have : ∀ (ts : List TypeId) (vs : List Value) (ds : List (DataW H)) (ps : List MemPlace), DataW.TrodAll enc Tryz.prog W 0 (fun _ => true) true ts vs ds ps → ds.length = ts.length := by
      intro ts
      induction ts with
      | nil => intro vs ds ps h; cases vs <;> cases ds <;> first | rfl | exact h.elim
      | cons t ts ih =>
        intro vs ds ps h
        cases vs <;> cases ds <;> first | exact h.elim | skip
        obtain ⟨_, _, _, h, _⟩ := h
        simp [ih _ _ _ h]
    simpa using this _ _ _ _ hA
  refine ⟨_, rfl, ds, [], _, [], p, [], hW', ?_, ?_, ?_, bel.frame _, fun h => by cases h⟩
  · rw [hs H ds hds, hr]
    exact trodAll_mk1 (shut_bool Tryz.underlying4 _)
  · rw [hs H ds hds]
    have : ∀ (ts : List TypeId) (vs : List Value) (ds : List (DataW H)) (ps : List MemPlace), (∀ t ∈ ts, t ∈ S0) → DataW.TrodAll enc Tryz.prog W 0 (fun _ => true) true ts vs ds ps →
        DataW.TrodAll enc Tryz.prog W' 0 (fun b => decide (b < W.heap.size)) true ts vs ds ps := by
      intro ts
      induction ts with
      | nil => intro vs ds ps _ h; cases vs <;> cases ds <;> first | exact h | exact h.elim
      | cons t ts ih =>
        intro vs ds ps hm h
        cases vs <;> cases ds <;> first | exact h.elim | skip
        obtain ⟨p, q, k1, k2, k3⟩ := h
        refine ⟨p, q, ?_, ih _ _ _ (fun t ht => hm t (List.mem_cons_of_mem _ ht)) k2, k3⟩
        have hread : (S0.all fun t => Tryz.prog.readableRec t && decide (t < Tryz.prog.types.size)) = true := by kernel_rfl
        have := List.all_eq_true.1 hread t (hm t (by simp))
        simp only [Bool.and_eq_true, decide_eq_true_eq] at this
        have lt : ∀ x ∈ p, x.block < W.heap.size := by obtain ⟨m, hm⟩ := k1; exact DataW.trod_lt m _ _ _ hm
        exact Below.trod laidOut this.1 this.2 k1 bel lt
    exact this _ _ _ _ hp hA
  · rw [hs H ds hds, hvars]; rfl

end Go.Proofs.YtgbfbhahnoafoaaGreatDoor

/- More depth tells the same. -/
namespace Go.Abs

variable {E : Env} {Λ : List LoopInfo} {R R' : Regs} {A A' : Heap} {c d : CallF}

def CLe (c d : CallF) : Prop := ∀ f xs A r, c f xs A = some r → d f xs A = some r

/-- An operation that neither calls nor panics. -/
def IOp.plain : IOp → Bool
  | .call _ _ | .invoke _ _ _ | .panic _ => false
  | _ => true

theorem evOps_plain {o : IOper} {l : List IOper} (h : o.op.plain = true) : evOps E c (o :: l) R A =
    if guarded R o.guard then match evOp E R A A.length o.op with
      | some out => evOps E c l (rput R o.dst out.v) (applyOut A out)
      | none => none
    else evOps E c l (rput R o.dst undefA) A := by
  simp only [evOps]
  split
  · cases hop : o.op <;> rw [hop] at h <;> first | rfl | (cases h; done)
  · rfl

theorem evOps_callee {o : IOper} {l : List IOper} {f : AV} {xs : List AV} (h : callee E R o.op = some (f, xs)) : evOps E c (o :: l) R A =
    if guarded R o.guard then match c f xs A with
      | some (.ret v, A') => evOps E c l (rput R o.dst v) A'
      | some (.panic v, A') => some (.panic v R A')
      | none => none
    else evOps E c l (rput R o.dst undefA) A := by
  simp only [evOps]
  split
  · cases hop : o.op <;> rw [hop] at h <;> (try (simp only [callee, reduceCtorEq] at h; done))
    · simp only [callee, Option.some.injEq, Prod.mk.injEq] at h
      obtain ⟨rfl, rfl⟩ := h
      rfl
    · rename_i x m l'
      simp only [h]
      rfl
  · rfl

theorem evOps_panic {o : IOper} {l : List IOper} {x : Arg} (h : o.op = .panic x) : evOps E c (o :: l) R A =
    if guarded R o.guard then match arg E R x with | .iface t v => some (.panic (.iface t v) R A) | _ => none
    else evOps E c l (rput R o.dst undefA) A := by
  simp only [evOps, h]
  rfl

theorem evOps_nocallee {o : IOper} {l : List IOper} (h : callee E R o.op = none) (hp : o.op.plain = false) (hn : ∀ x, o.op ≠ .panic x) : evOps E c (o :: l) R A =
    if guarded R o.guard then none else evOps E c l (rput R o.dst undefA) A := by
  simp only [evOps]
  split
  · cases hop : o.op <;> rw [hop] at h hp <;> (try (cases hp; done))
    · simp [callee] at h
    · simp only [h]
    · exact absurd hop (hn _)
  · rfl

theorem evOps_le (h : CLe c d) : ∀ {l : List IOper} {R : Regs} {A : Heap} {r : OR}, evOps E c l R A = some r → evOps E d l R A = some r
  | [], R, A, r, he => he
  | o :: l, R, A, r, he => by
    by_cases hp : o.op.plain = true
    · rw [evOps_plain hp] at he ⊢
      split at he
      · rename_i hg
        rw [if_pos hg]
        split at he <;> (try (simp at he; done))
        exact evOps_le h he
      · rename_i hg
        rw [if_neg hg]
        exact evOps_le h he
    · have hp : o.op.plain = false := by simpa using hp
      cases hcl : callee E R o.op with
      | some q =>
        obtain ⟨f, xs⟩ := q
        rw [evOps_callee hcl] at he ⊢
        split at he
        · rename_i hg
          rw [if_pos hg]
          split at he <;> (try (simp at he; done))
          · rename_i hx; rw [h _ _ _ _ hx]; exact evOps_le h he
          · rename_i hx; rw [h _ _ _ _ hx]; exact he
        · rename_i hg
          rw [if_neg hg]
          exact evOps_le h he
      | none =>
        by_cases hpa : ∃ x, o.op = .panic x
        · obtain ⟨x, hx⟩ := hpa
          rw [evOps_panic hx] at he ⊢
          split at he
          · rename_i hg; rw [if_pos hg]; exact he
          · rename_i hg; rw [if_neg hg]; exact evOps_le h he
        · rw [evOps_nocallee hcl hp (fun x hx => hpa ⟨x, hx⟩)] at he ⊢
          split at he
          · cases he
          · rename_i hg; rw [if_neg hg]; exact evOps_le h he

theorem evQuiet_le (h : CLe c d) : ∀ {l : List (IOper × List Nat)} {R R' : Regs}, evQuiet E c A l R = some R' → evQuiet E d A l R = some R'
  | [], R, R', he => he
  | (o, pre) :: l, R, R', he => by
    simp only [evQuiet] at he ⊢
    split at he
    · rename_i hg
      rw [if_pos hg]
      split at he
      · rename_i hcl
        try simp only
        split at he <;> (try (simp at he; done))
        rename_i hx
        rw [h _ _ _ _ hx]
        try simp only
        split at he <;> (try (simp at he; done))
        rename_i hs
        rw [if_pos hs]
        exact evQuiet_le h he
      · rename_i hcl
        try simp only
        split at he <;> (try (simp at he; done))
        split at he <;> (try (simp at he; done))
        rename_i hs
        rw [if_pos hs]
        exact evQuiet_le h he
    · rename_i hg
      rw [if_neg hg]
      exact evQuiet_le h he

theorem drawOne_le (h : CLe c d) {n0 : Nat} {ds : List Done} {o : IOper} {pre : List Nat} {r : Done} (he : drawOne E c A n0 R ds o pre = some r) : drawOne E d A n0 R ds o pre = some r := by
  unfold drawOne at he ⊢
  split at he
  · rename_i hg
    rw [if_pos hg]
    simp only at he ⊢
    split at he
    · rename_i hcl
      try simp only
      split at he <;> (try (simp at he; done))
      rename_i hx
      rw [h _ _ _ _ hx]
      exact he
    · rename_i hcl
      exact he
  · rename_i hg
    rw [if_neg hg]
    exact he

theorem evDraw_le (h : CLe c d) {n0 : Nat} : ∀ {l : List (IOper × List Nat)} {R : Regs} {ds : List Done} {r : Regs × List Done}, evDraw E c A n0 l R ds = some r → evDraw E d A n0 l R ds = some r
  | [], R, ds, r, he => he
  | (o, pre) :: l, R, ds, r, he => by
    simp only [evDraw] at he ⊢
    split at he <;> (try (simp at he; done))
    rename_i hx
    rw [drawOne_le h hx]
    exact evDraw_le h he

theorem evSeg_le (h : CLe c d) {s : List (IOper × List Nat)} {r : OR} (he : evSeg E c s R A = some r) : evSeg E d s R A = some r := by
  unfold evSeg at he ⊢
  split at he
  · exact he
  · exact evOps_le h he
  · split at he
    · rename_i hq
      rw [if_pos hq]
      simp only [Option.map_eq_some_iff] at he ⊢
      obtain ⟨R', h1, h2⟩ := he
      exact ⟨R', evQuiet_le h h1, h2⟩
    · rename_i hq
      rw [if_neg hq]
      unfold evRegion at he ⊢
      simp only at he ⊢
      split at he <;> (try (simp at he; done))
      rename_i hx
      rw [evDraw_le h hx]
      exact he

theorem evSegs_le (h : CLe c d) : ∀ {l : List (List (IOper × List Nat))} {R : Regs} {A : Heap} {r : OR}, evSegs E c l R A = some r → evSegs E d l R A = some r
  | [], R, A, r, he => he
  | s :: l, R, A, r, he => by
    simp only [evSegs] at he ⊢
    cases hx : evSeg E c s R A with
    | none => rw [hx] at he; cases he
    | some r' =>
      rw [hx] at he
      rw [evSeg_le h hx]
      cases r' with
      | next R' A' => exact evSegs_le h he
      | panic v R' A' => exact he

theorem callBody_le {rec1 rec2 : List LoopInfo → ICode → Regs → Heap → Option (AExit × Regs × Heap)} (h : ∀ Λ c R A r, rec1 Λ c R A = some r → rec2 Λ c R A = some r) {Λ : List LoopInfo} {g : FuncId} {F : IFun} {xs : List AV} {r : CRes × Heap}
    (he : callBody E rec1 Λ g F xs A = some r) : callBody E rec2 Λ g F xs A = some r := by
  unfold callBody at he ⊢
  split at he <;> (try (simp at he; done))
  · rename_i hx; rw [h _ _ _ _ _ hx]; exact he
  · rename_i hx; rw [h _ _ _ _ _ hx]; exact he
  · rename_i hx; rw [h _ _ _ _ _ hx]; exact he

theorem callOf_le {rec1 rec2 : List LoopInfo → ICode → Regs → Heap → Option (AExit × Regs × Heap)} (h : ∀ Λ c R A r, rec1 Λ c R A = some r → rec2 Λ c R A = some r) (Λ : List LoopInfo) : CLe (callOf E rec1 Λ) (callOf E rec2 Λ) := by
  intro f xs A r he
  unfold callOf at he ⊢
  split at he
  · split at he
    · exact he
    · split at he
      · cases he
      · rename_i F hf
        try simp only
        split at he
        · exact he
        split at he
        · rename_i hap
          rw [if_pos hap]
          cases hb : callBody E rec1 [] _ F _ [] with
          | none => rw [hb] at he; simp [asideOf] at he
          | some q => rw [hb] at he; rw [callBody_le h hb]; exact he
        · rename_i hap
          rw [if_neg hap]
          exact callBody_le h he
  · split at he <;> (try (simp at he; done))
    rename_i hfind
    try simp only
    split at he <;> (try (simp at he; done))
    rename_i hlen
    rw [if_pos hlen]
    split at he <;> (try (simp at he; done))
    rename_i hx
    rw [h _ _ _ _ _ hx]
    try simp only
    split at he <;> (try (simp at he; done))
    rename_i hg
    split at he <;> (try (simp at he; done))
    rename_i hy
    rw [h _ _ _ _ _ hy]
    exact he
  · cases he

theorem ev_succ : ∀ (n : Nat) (Λ : List LoopInfo) (c : ICode) (R : Regs) (A : Heap) (r : AExit × Regs × Heap), ev E n Λ c R A = some r → ev E (n + 1) Λ c R A = some r
  | 0, _, _, _, _, _, he => by simp [ev] at he
  | n + 1, Λ, c, R, A, r, he => by
    have ih := ev_succ n
    have hc : ∀ Λ, CLe (callOf E (ev E n) Λ) (callOf E (ev E (n + 1)) Λ) := fun Λ => callOf_le ih Λ
    cases c with
    | skip => simpa only [ev] using he
    | exit id => simpa only [ev] using he
    | ret => simpa only [ev] using he
    | ops l =>
      rw [ev] at he ⊢
      cases hx : evOps E (callOf E (ev E n) Λ) l R A with
      | none => rw [hx] at he; cases he
      | some q => rw [hx] at he; rw [evOps_le (hc Λ) hx]; exact he
    | draw l =>
      rw [ev] at he ⊢
      cases hx : evSegs E (callOf E (ev E n) Λ) l R A with
      | none => rw [hx] at he; cases he
      | some q => rw [hx] at he; rw [evSegs_le (hc Λ) hx]; exact he
    | seq a b =>
      rw [ev] at he ⊢
      cases hx : ev E n Λ a R A with
      | none => rw [hx] at he; cases he
      | some q =>
        rw [hx] at he; rw [ih _ _ _ _ _ hx]
        obtain ⟨e, R1, A1⟩ := q
        cases e <;> first | exact ih _ _ _ _ _ he | exact he
    | cond x a b =>
      rw [ev] at he ⊢
      cases hx : arg E R x <;> rw [hx] at he <;> first | (cases he; done) | exact ih _ _ _ _ _ he
    | block id b =>
      rw [ev] at he ⊢
      cases hx : ev E n Λ b R A with
      | none => rw [hx] at he; cases he
      | some q => rw [hx] at he; rw [ih _ _ _ _ _ hx]; exact he
    | loop b =>
      rw [ev] at he ⊢
      cases hx : ev E n Λ b R A with
      | none => rw [hx] at he; cases he
      | some q =>
        rw [hx] at he; rw [ih _ _ _ _ _ hx]
        obtain ⟨e, R1, A1⟩ := q
        cases e <;> first | exact ih _ _ _ _ _ he | exact he
    | rangeF f ps a b =>
      rw [ev] at he ⊢
      split at he
      · rename_i hp
        rw [if_pos hp]
        cases hx : callOf E (ev E n) (⟨A.length, R, ps, a, b⟩ :: Λ) (arg E R f) [.yld A.length] (A ++ [.loop true none]) with
        | none => rw [hx] at he; cases he
        | some q => rw [hx] at he; rw [hc _ _ _ _ _ hx]; exact he
      · cases he

theorem ev_mono {n m : Nat} (hnm : n ≤ m) {Λ : List LoopInfo} {c : ICode} {R : Regs} {A : Heap} {r : AExit × Regs × Heap} (he : ev E n Λ c R A = some r) : ev E m Λ c R A = some r := by
  induction hnm with
  | refl => exact he
  | step _ ih => exact ev_succ _ _ _ _ _ _ ih

theorem call_mono {n m : Nat} (hnm : n ≤ m) {Λ : List LoopInfo} : CLe (callOf E (ev E n) Λ) (callOf E (ev E m) Λ) := callOf_le (fun _ _ _ _ _ h => ev_mono hnm h) Λ

end Go.Abs

/- What code comes to, by its parts: rules to rewrite with. -/
namespace Go.Abs

variable {E : Env} {Λ : List LoopInfo} {R R' : Regs} {A A' : Heap}

def Wp (E : Env) (Λ : List LoopInfo) (c : ICode) (R : Regs) (A : Heap) (Q : AExit → Regs → Heap → Prop) : Prop := ∃ n e R' A', ev E n Λ c R A = some (e, R', A') ∧ Q e R' A'
def WpC (E : Env) (Λ : List LoopInfo) (f : AV) (xs : List AV) (A : Heap) (Q : CRes → Heap → Prop) : Prop := ∃ n r A', callOf E (ev E n) Λ f xs A = some (r, A') ∧ Q r A'
def WpO (E : Env) (Λ : List LoopInfo) (l : List IOper) (R : Regs) (A : Heap) (Q : OR → Prop) : Prop := ∃ n r, evOps E (callOf E (ev E n) Λ) l R A = some r ∧ Q r
def WpS (E : Env) (Λ : List LoopInfo) (l : List (List (IOper × List Nat))) (R : Regs) (A : Heap) (Q : OR → Prop) : Prop := ∃ n r, evSegs E (callOf E (ev E n) Λ) l R A = some r ∧ Q r
def WpG (E : Env) (Λ : List LoopInfo) (l : List (IOper × List Nat)) (R : Regs) (A : Heap) (Q : OR → Prop) : Prop := ∃ n r, evSeg E (callOf E (ev E n) Λ) l R A = some r ∧ Q r
def WpQ (E : Env) (Λ : List LoopInfo) (A : Heap) (l : List (IOper × List Nat)) (R : Regs) (Q : Regs → Prop) : Prop := ∃ n R', evQuiet E (callOf E (ev E n) Λ) A l R = some R' ∧ Q R'
/-- 'evDraw', by parts. -/
def WpD (E : Env) (Λ : List LoopInfo) (A0 : Heap) (n0 : Nat) (l : List (IOper × List Nat)) (R : Regs) (ds : List Done) (Q : Regs → List Done → Prop) : Prop := ∃ n R' ds', evDraw E (callOf E (ev E n) Λ) A0 n0 l R ds = some (R', ds') ∧ Q R' ds'

/-! ### One answer alone -/

theorem ev_one {n m : Nat} {c : ICode} {r s : AExit × Regs × Heap} (h : ev E n Λ c R A = some r) (k : ev E m Λ c R A = some s) : r = s := by
  rcases Nat.le_total n m with hl | hl
  · exact Option.some.inj ((ev_mono hl h).symm.trans k)
  · exact Option.some.inj (h.symm.trans (ev_mono hl k))

theorem call_one {n m : Nat} {f : AV} {xs : List AV} {r s : CRes × Heap} (h : callOf E (ev E n) Λ f xs A = some r) (k : callOf E (ev E m) Λ f xs A = some s) : r = s := by
  rcases Nat.le_total n m with hl | hl
  · exact Option.some.inj ((call_mono hl _ _ _ _ h).symm.trans k)
  · exact Option.some.inj (h.symm.trans (call_mono hl _ _ _ _ k))

theorem Wp.mono {c : ICode} {Q Q' : AExit → Regs → Heap → Prop} (h : Wp E Λ c R A Q) (hq : ∀ e R' A', Q e R' A' → Q' e R' A') : Wp E Λ c R A Q' := by
  obtain ⟨n, e, R', A', h1, h2⟩ := h
  exact ⟨n, e, R', A', h1, hq _ _ _ h2⟩

theorem WpC.mono {f : AV} {xs : List AV} {Q Q' : CRes → Heap → Prop} (h : WpC E Λ f xs A Q) (hq : ∀ r A', Q r A' → Q' r A') : WpC E Λ f xs A Q' := by
  obtain ⟨n, r, A', h1, h2⟩ := h
  exact ⟨n, r, A', h1, hq _ _ h2⟩

/-! ### Code -/

theorem aw_skip {Q : AExit → Regs → Heap → Prop} : Wp E Λ .skip R A Q ↔ Q .normal R A := by
  constructor
  · rintro ⟨n, e, R', A', h, hq⟩
    cases n <;> simp [ev] at h
    obtain ⟨rfl, rfl, rfl⟩ := h; exact hq
  · exact fun h => ⟨1, .normal, R, A, rfl, h⟩

theorem aw_exit {id : Nat} {Q : AExit → Regs → Heap → Prop} : Wp E Λ (.exit id) R A Q ↔ Q (.exit id) R A := by
  constructor
  · rintro ⟨n, e, R', A', h, hq⟩
    cases n <;> simp [ev] at h
    obtain ⟨rfl, rfl, rfl⟩ := h; exact hq
  · exact fun h => ⟨1, .exit id, R, A, rfl, h⟩

theorem aw_ret {Q : AExit → Regs → Heap → Prop} : Wp E Λ .ret R A Q ↔ Q .ret R A := by
  constructor
  · rintro ⟨n, e, R', A', h, hq⟩
    cases n <;> simp [ev] at h
    obtain ⟨rfl, rfl, rfl⟩ := h; exact hq
  · exact fun h => ⟨1, .ret, R, A, rfl, h⟩

/-- What follows code that ends of itself. -/
def AExit.thn (e : AExit) (p q : Prop) : Prop := match e with | .normal => p | _ => q

theorem aw_seq {a b : ICode} {Q : AExit → Regs → Heap → Prop} : Wp E Λ (.seq a b) R A Q ↔ Wp E Λ a R A (fun e R' A' => e.thn (Wp E Λ b R' A' Q) (Q e R' A')) := by
  constructor
  · rintro ⟨n, e, R', A', h, hq⟩
    cases n with
    | zero => simp [ev] at h
    | succ n =>
      rw [ev] at h
      cases hx : ev E n Λ a R A with
      | none => rw [hx] at h; cases h
      | some q =>
        obtain ⟨e1, R1, A1⟩ := q
        rw [hx] at h
        refine ⟨n, e1, R1, A1, hx, ?_⟩
        cases e1 <;> simp only [AExit.thn, Option.some.injEq, Prod.mk.injEq] at h ⊢
        · exact ⟨n, e, R', A', h, hq⟩
        all_goals (obtain ⟨rfl, rfl, rfl⟩ := h; exact hq)
  · rintro ⟨n, e, R', A', h, hq⟩
    cases e <;> simp only [AExit.thn] at hq
    · obtain ⟨m, e2, R2, A2, h2, hq⟩ := hq
      refine ⟨max n m + 1, e2, R2, A2, ?_, hq⟩
      rw [ev, ev_mono (Nat.le_max_left n m) h]
      exact ev_mono (Nat.le_max_right n m) h2
    all_goals exact ⟨n + 1, _, R', A', by rw [ev, h], hq⟩

/-- Which way a condition goes. -/
def cnd (v : AV) (p q : Prop) : Prop := match v with | .bool t => (t = true → p) ∧ (t = false → q) | _ => False

theorem cnd_iff {v : AV} {p q : Prop} : cnd v p q ↔ ∃ t, v = .bool t ∧ ((t = true → p) ∧ (t = false → q)) := by
  constructor
  · intro h
    cases v <;> first | exact h.elim | exact ⟨_, rfl, h⟩
  · rintro ⟨t, rfl, h⟩; exact h

theorem aw_cond {x : Arg} {a b : ICode} {Q : AExit → Regs → Heap → Prop} : Wp E Λ (.cond x a b) R A Q ↔ cnd (arg E R x) (Wp E Λ a R A Q) (Wp E Λ b R A Q) := by
  rw [cnd_iff]
  constructor
  · rintro ⟨n, e, R', A', h, hq⟩
    cases n with
    | zero => simp [ev] at h
    | succ n =>
      rw [ev] at h
      split at h <;> (try (cases h; done))
      rename_i t ht
      refine ⟨t, ht, fun e1 => ?_, fun e1 => ?_⟩ <;> subst e1 <;> exact ⟨n, e, R', A', h, hq⟩
  · rintro ⟨t, ht, h1, h2⟩
    cases t with
    | true =>
      obtain ⟨n, e, R', A', h, hq⟩ := h1 rfl
      exact ⟨n + 1, e, R', A', by rw [ev, ht]; exact h, hq⟩
    | false =>
      obtain ⟨n, e, R', A', h, hq⟩ := h2 rfl
      exact ⟨n + 1, e, R', A', by rw [ev, ht]; exact h, hq⟩

/-- What a block makes of an exit. -/
def AExit.blk (id : Nat) (e : AExit) : AExit := match e with | .exit j => if j = id then .normal else .exit j | e => e

theorem aw_block {id : Nat} {b : ICode} {Q : AExit → Regs → Heap → Prop} : Wp E Λ (.block id b) R A Q ↔ Wp E Λ b R A (fun e R' A' => Q (e.blk id) R' A') := by
  have key : ∀ n, ev E (n + 1) Λ (.block id b) R A = (ev E n Λ b R A).map fun r => (r.1.blk id, r.2) := fun n => by
    rw [ev]
    cases hx : ev E n Λ b R A with
    | none => rfl
    | some q =>
      obtain ⟨e1, R1, A1⟩ := q
      cases e1 <;> simp only [Option.map_some, AExit.blk]
      split <;> rfl
  constructor
  · rintro ⟨n, e, R', A', h, hq⟩
    cases n with
    | zero => simp [ev] at h
    | succ n =>
      rw [key, Option.map_eq_some_iff] at h
      obtain ⟨⟨e1, R1, A1⟩, h1, h2⟩ := h
      cases h2
      exact ⟨n, e1, _, _, h1, hq⟩
  · rintro ⟨n, e, R', A', h, hq⟩
    exact ⟨n + 1, _, R', A', by rw [key, h]; rfl, hq⟩

theorem aw_loop {b : ICode} {Q : AExit → Regs → Heap → Prop} : Wp E Λ (.loop b) R A Q ↔ Wp E Λ b R A (fun e R' A' => e.thn (Wp E Λ (.loop b) R' A' Q) (Q e R' A')) := by
  constructor
  · rintro ⟨n, e, R', A', h, hq⟩
    cases n with
    | zero => simp [ev] at h
    | succ n =>
      rw [ev] at h
      cases hx : ev E n Λ b R A with
      | none => rw [hx] at h; cases h
      | some q =>
        obtain ⟨e1, R1, A1⟩ := q
        rw [hx] at h
        refine ⟨n, e1, R1, A1, hx, ?_⟩
        cases e1 <;> simp only [AExit.thn, Option.some.injEq, Prod.mk.injEq] at h ⊢
        · exact ⟨n, e, R', A', h, hq⟩
        all_goals (obtain ⟨rfl, rfl, rfl⟩ := h; exact hq)
  · rintro ⟨n, e, R', A', h, hq⟩
    cases e <;> simp only [AExit.thn] at hq
    · obtain ⟨m, e2, R2, A2, h2, hq⟩ := hq
      refine ⟨max n m + 1, e2, R2, A2, ?_, hq⟩
      rw [ev, ev_mono (Nat.le_max_left n m) h]
      exact ev_mono (Nat.le_max_right n m) h2
    all_goals exact ⟨n + 1, _, R', A', by rw [ev, h], hq⟩

def OR.toQ (Q : AExit → Regs → Heap → Prop) : OR → Prop
  | .next R A => Q .normal R A
  | .panic v R A => Q (.panic v) R A

theorem aw_ops {l : List IOper} {Q : AExit → Regs → Heap → Prop} : Wp E Λ (.ops l) R A Q ↔ WpO E Λ l R A (OR.toQ Q) := by
  constructor
  · rintro ⟨n, e, R', A', h, hq⟩
    cases n with
    | zero => simp [ev] at h
    | succ n =>
      rw [ev] at h
      cases hx : evOps E (callOf E (ev E n) Λ) l R A with
      | none => rw [hx] at h; cases h
      | some q =>
        rw [hx] at h
        refine ⟨n, q, hx, ?_⟩
        cases q <;> simp only [Option.some.injEq, Prod.mk.injEq] at h <;> obtain ⟨rfl, rfl, rfl⟩ := h <;> exact hq
  · rintro ⟨n, r, h, hq⟩
    cases r with
    | next R' A' => exact ⟨n + 1, .normal, R', A', by rw [ev, h], hq⟩
    | panic v R' A' => exact ⟨n + 1, .panic v, R', A', by rw [ev, h], hq⟩

theorem aw_draw {l : List (List (IOper × List Nat))} {Q : AExit → Regs → Heap → Prop} : Wp E Λ (.draw l) R A Q ↔ WpS E Λ l R A (OR.toQ Q) := by
  constructor
  · rintro ⟨n, e, R', A', h, hq⟩
    cases n with
    | zero => simp [ev] at h
    | succ n =>
      rw [ev] at h
      cases hx : evSegs E (callOf E (ev E n) Λ) l R A with
      | none => rw [hx] at h; cases h
      | some q =>
        rw [hx] at h
        refine ⟨n, q, hx, ?_⟩
        cases q <;> simp only [Option.some.injEq, Prod.mk.injEq] at h <;> obtain ⟨rfl, rfl, rfl⟩ := h <;> exact hq
  · rintro ⟨n, r, h, hq⟩
    cases r with
    | next R' A' => exact ⟨n + 1, .normal, R', A', by rw [ev, h], hq⟩
    | panic v R' A' => exact ⟨n + 1, .panic v, R', A', by rw [ev, h], hq⟩

/-! ### Operations -/

theorem wpo_nil {Q : OR → Prop} : WpO E Λ [] R A Q ↔ Q (.next R A) := by
  constructor
  · rintro ⟨n, r, h, hq⟩; simp [evOps] at h; subst h; exact hq
  · exact fun h => ⟨0, _, rfl, h⟩

/-- A guard: does the operation come to be done? -/
def gd (g : Option (Option Nat × Bool)) (R : Regs) (p q : Prop) : Prop := if guarded R g then p else q

theorem gd_none {p q : Prop} : gd none R p q ↔ p := by simp [gd, guarded]
/-- A guard's value. -/
def gdv (v : AV) (want : Bool) (p q : Prop) : Prop := match v with | .bool b => (b = want → p) ∧ (b = !want → q) | _ => q

theorem gd_some {t : Nat} {want : Bool} {p q : Prop} : gd (some (some t, want)) R p q ↔ gdv (rget R t) want p q := by
  unfold gdv
  cases hv : rget R t <;> (try (simp [gd, guarded, hv]; done))
  rename_i b
  cases b <;> cases want <;> simp [gd, guarded, hv]

def okOut (o : Option Out) (p : Out → Prop) : Prop := match o with | some out => p out | none => False

theorem wpo_plain {d : Option Nat} {g : Option (Option Nat × Bool)} {op : IOp} {l : List IOper} {Q : OR → Prop} (h : op.plain = true) : WpO E Λ (⟨d, g, op⟩ :: l) R A Q ↔
    gd g R (okOut (evOp E R A A.length op) (fun out => WpO E Λ l (rput R d out.v) (applyOut A out) Q)) (WpO E Λ l (rput R d undefA) A Q) := by
  have key : ∀ c, evOps E c (⟨d, g, op⟩ :: l) R A = _ := fun c => evOps_plain (E := E) (R := R) (A := A) (c := c) (o := ⟨d, g, op⟩) (l := l) h
  unfold WpO gd
  simp only [key]
  by_cases hg : guarded R g = true
  · simp only [hg, if_true]
    cases evOp E R A A.length op with
    | none => simp [okOut]
    | some out => simp [okOut]
  · simp only [hg, Bool.false_eq_true, if_false]

def CRes.toO (R : Regs) (E : Env) (Λ : List LoopInfo) (d : Option Nat) (l : List IOper) (Q : OR → Prop) (r : CRes) (A' : Heap) : Prop :=
  match r with | .ret v => WpO E Λ l (rput R d v) A' Q | .panic v => Q (.panic v R A')

theorem wpo_callee {d : Option Nat} {g : Option (Option Nat × Bool)} {op : IOp} {l : List IOper} {Q : OR → Prop} {f : AV} {xs : List AV} (h : callee E R op = some (f, xs)) : WpO E Λ (⟨d, g, op⟩ :: l) R A Q ↔
    gd g R (WpC E Λ f xs A (CRes.toO R E Λ d l Q)) (WpO E Λ l (rput R d undefA) A Q) := by
  have key : ∀ c, evOps E c (⟨d, g, op⟩ :: l) R A = _ := fun c => evOps_callee (E := E) (R := R) (A := A) (c := c) (o := ⟨d, g, op⟩) (l := l) h
  unfold gd
  by_cases hg : guarded R g = true
  · simp only [hg, if_true] at key ⊢
    constructor
    · rintro ⟨n, r, h1, hq⟩
      rw [key] at h1
      split at h1 <;> (try (cases h1; done))
      · rename_i v A' hx; exact ⟨n, .ret v, A', hx, n, r, h1, hq⟩
      · rename_i v A' hx; cases h1; exact ⟨n, .panic v, A', hx, hq⟩
    · rintro ⟨n, r, A', h1, hq⟩
      cases r with
      | ret v =>
        obtain ⟨m, r, h2, hq⟩ := hq
        refine ⟨max n m, r, ?_, hq⟩
        rw [key, call_mono (Nat.le_max_left n m) _ _ _ _ h1]
        exact evOps_le (call_mono (Nat.le_max_right n m)) h2
      | panic v => exact ⟨n, _, by rw [key, h1], hq⟩
  · simp only [hg, Bool.false_eq_true, if_false] at key ⊢
    unfold WpO
    simp only [key]

theorem wpo_call {d : Option Nat} {g : Option (Option Nat × Bool)} {f : Arg} {xs : List Arg} {l : List IOper} {Q : OR → Prop} : WpO E Λ (⟨d, g, .call f xs⟩ :: l) R A Q ↔
    gd g R (WpC E Λ (arg E R f) (args E R xs) A (CRes.toO R E Λ d l Q)) (WpO E Λ l (rput R d undefA) A Q) := wpo_callee rfl

/-! ### Regions that draw their order -/

def OR.toS (E : Env) (Λ : List LoopInfo) (l : List (List (IOper × List Nat))) (Q : OR → Prop) : OR → Prop
  | .next R A => WpS E Λ l R A Q
  | .panic v R A => Q (.panic v R A)

theorem wps_nil {Q : OR → Prop} : WpS E Λ [] R A Q ↔ Q (.next R A) := by
  constructor
  · rintro ⟨n, r, h, hq⟩; simp [evSegs] at h; subst h; exact hq
  · exact fun h => ⟨0, _, rfl, h⟩

theorem wps_cons {s : List (IOper × List Nat)} {l : List (List (IOper × List Nat))} {Q : OR → Prop} : WpS E Λ (s :: l) R A Q ↔ WpG E Λ s R A (OR.toS E Λ l Q) := by
  constructor
  · rintro ⟨n, r, h, hq⟩
    rw [evSegs] at h
    cases hx : evSeg E (callOf E (ev E n) Λ) s R A with
    | none => rw [hx] at h; cases h
    | some q =>
      rw [hx] at h
      refine ⟨n, q, hx, ?_⟩
      cases q with
      | next R' A' => exact ⟨n, r, h, hq⟩
      | panic v R' A' => cases h; exact hq
  · rintro ⟨n, r, h, hq⟩
    cases r with
    | next R' A' =>
      obtain ⟨m, r, h2, hq⟩ := hq
      refine ⟨max n m, r, ?_, hq⟩
      rw [evSegs, evSeg_le (call_mono (Nat.le_max_left n m)) h]
      exact evSegs_le (call_mono (Nat.le_max_right n m)) h2
    | panic v R' A' => exact ⟨n, _, by rw [evSegs, h], hq⟩

theorem wpg_nil {Q : OR → Prop} : WpG E Λ [] R A Q ↔ Q (.next R A) := by
  constructor
  · rintro ⟨n, r, h, hq⟩; simp [evSeg] at h; subst h; exact hq
  · exact fun h => ⟨0, _, rfl, h⟩

theorem wpg_one {q : IOper × List Nat} {Q : OR → Prop} : WpG E Λ [q] R A Q ↔ WpO E Λ [q.1] R A Q := Iff.rfl

theorem wpg_quiet {p q : IOper × List Nat} {s : List (IOper × List Nat)} {Q : OR → Prop} (h : quietSeg E (p :: q :: s) = true) : WpG E Λ (p :: q :: s) R A Q ↔ WpQ E Λ A (p :: q :: s) R (fun R' => Q (.next R' A)) := by
  unfold WpG WpQ evSeg
  simp only [h, if_true, Option.map_eq_some_iff]
  constructor
  · rintro ⟨n, r, ⟨R', h1, rfl⟩, hq⟩; exact ⟨n, R', h1, hq⟩
  · rintro ⟨n, R', h1, hq⟩; exact ⟨n, _, ⟨R', h1, rfl⟩, hq⟩

theorem wpg_region {p q : IOper × List Nat} {s : List (IOper × List Nat)} {Q : OR → Prop} (h : quietSeg E (p :: q :: s) = false) : WpG E Λ (p :: q :: s) R A Q ↔
    WpD E Λ (A ++ List.replicate (p :: q :: s).length .dead) A.length (p :: q :: s) R [] (fun R' ds => drawOk (p :: q :: s) ds = true ∧ Q (.next R' (putAll (A ++ List.replicate (p :: q :: s).length .dead) (ds.map Done.eff).flatten))) := by
  unfold WpG WpD evSeg
  simp only [h, Bool.false_eq_true, if_false]
  constructor
  · rintro ⟨n, r, h1, hq⟩
    unfold evRegion at h1
    simp only at h1
    split at h1 <;> (try (cases h1; done))
    rename_i R' ds hd
    split at h1 <;> cases h1
    rename_i hok
    exact ⟨n, R', ds, hd, hok, hq⟩
  · rintro ⟨n, R', ds, h1, hok, hq⟩
    refine ⟨n, _, ?_, hq⟩
    unfold evRegion
    simp only [h1, hok, if_true]

theorem wpq_nil {Q : Regs → Prop} : WpQ E Λ A [] R Q ↔ Q R := by
  constructor
  · rintro ⟨n, r, h, hq⟩; simp [evQuiet] at h; subst h; exact hq
  · exact fun h => ⟨0, _, rfl, h⟩

theorem plain_callee {op : IOp} (h : op.plain = true) : callee E R op = none := by cases op <;> first | rfl | cases h

theorem wpq_plain {d : Option Nat} {g : Option (Option Nat × Bool)} {op : IOp} {pre : List Nat} {l : List (IOper × List Nat)} {Q : Regs → Prop} (h : op.plain = true) : WpQ E Λ A ((⟨d, g, op⟩, pre) :: l) R Q ↔
    gd g R (okOut (evOp E R A A.length op) (fun out => out.wr = [] ∧ out.new = none ∧ WpQ E Λ A l (rput R d out.v) Q)) (WpQ E Λ A l (rput R d undefA) Q) := by
  unfold WpQ gd
  simp only [evQuiet, plain_callee h]
  by_cases hg : guarded R g = true
  · simp only [hg, if_true]
    cases evOp E R A A.length op with
    | none => simp [okOut]
    | some out =>
      simp only [okOut, Bool.and_eq_true, List.isEmpty_iff, Option.isNone_iff_eq_none]
      by_cases hw : out.wr = [] ∧ out.new = none
      · simp [hw.1, hw.2]
      · simp only [hw, if_false]
        constructor
        · rintro ⟨_, _, h, _⟩; cases h
        · rintro ⟨h1, h2, _⟩; exact absurd ⟨h1, h2⟩ hw
  · simp only [hg, Bool.false_eq_true, if_false]

def CRes.toQ (R : Regs) (E : Env) (Λ : List LoopInfo) (A : Heap) (d : Option Nat) (l : List (IOper × List Nat)) (Q : Regs → Prop) (r : CRes) (A' : Heap) : Prop :=
  match r with | .ret v => sameHeap A A' = true ∧ WpQ E Λ A l (rput R d v) Q | .panic _ => False

theorem wpq_callee {d : Option Nat} {g : Option (Option Nat × Bool)} {op : IOp} {pre : List Nat} {l : List (IOper × List Nat)} {Q : Regs → Prop} {f : AV} {xs : List AV} (h : callee E R op = some (f, xs)) : WpQ E Λ A ((⟨d, g, op⟩, pre) :: l) R Q ↔
    gd g R (WpC E Λ f xs A (CRes.toQ R E Λ A d l Q)) (WpQ E Λ A l (rput R d undefA) Q) := by
  unfold gd
  by_cases hg : guarded R g = true
  · simp only [hg, if_true]
    constructor
    · rintro ⟨n, R', h1, hq⟩
      simp only [evQuiet, h, hg, if_true] at h1
      split at h1 <;> (try (cases h1; done))
      rename_i v A' hx
      split at h1 <;> (try (cases h1; done))
      rename_i hs
      exact ⟨n, .ret v, A', hx, hs, n, R', h1, hq⟩
    · rintro ⟨n, r, A', h1, hq⟩
      cases r with
      | ret v =>
        obtain ⟨hs, m, R', h2, hq⟩ := hq
        refine ⟨max n m, R', ?_, hq⟩
        simp only [evQuiet, h, hg, if_true, call_mono (Nat.le_max_left n m) _ _ _ _ h1, hs]
        exact evQuiet_le (call_mono (Nat.le_max_right n m)) h2
      | panic v => exact hq.elim
  · simp only [hg, Bool.false_eq_true, if_false]
    unfold WpQ
    simp only [evQuiet, hg, Bool.false_eq_true, if_false]

theorem wpq_call {d : Option Nat} {g : Option (Option Nat × Bool)} {f : Arg} {xs : List Arg} {pre : List Nat} {l : List (IOper × List Nat)} {Q : Regs → Prop} : WpQ E Λ A ((⟨d, g, .call f xs⟩, pre) :: l) R Q ↔
    gd g R (WpC E Λ (arg E R f) (args E R xs) A (CRes.toQ R E Λ A d l Q)) (WpQ E Λ A l (rput R d undefA) Q) := wpq_callee rfl

/-! ### Calls -/

/-- Registers as a function. -/
def regs (n : Nat) (f : Nat → AV) : Regs := (List.range n).map f
def upd (f : Nat → AV) (i : Nat) (v : AV) : Nat → AV := fun j => if j = i then v else f j
def ini (l : List AV) : Nat → AV := fun i => l.getD i undefA

theorem rget_regs {n : Nat} {f : Nat → AV} {i : Nat} : rget (regs n f) i = if i < n then f i else undefA := by
  unfold rget regs List.getD
  by_cases h : i < n <;> simp [h]

theorem rset_regs {n : Nat} {f : Nat → AV} {i : Nat} {v : AV} : rset (regs n f) i v = regs n (upd f i v) := by
  unfold rset regs
  apply List.ext_getElem?
  intro j
  by_cases hj : j < n
  · by_cases e : i = j
    · subst e; simp [hj, upd]
    · simp [hj, e, upd, Ne.symm e]
  · simp [hj]

theorem rput_some {n : Nat} {f : Nat → AV} {i : Nat} {v : AV} : rput (regs n f) (some i) v = regs n (upd f i v) := rset_regs
theorem rput_none {R : Regs} {v : AV} : rput R none v = R := rfl

theorem regs_ini {l : List AV} {n : Nat} (h : l.length ≤ n) : l ++ List.replicate (n - l.length) undefA = regs n (ini l) := by
  unfold regs ini
  apply List.ext_getElem?
  intro j
  by_cases hj : j < l.length
  · rw [List.getElem?_append_left hj, List.getElem?_map, List.getElem?_range (by omega)]
    simp [List.getD, hj]
  · rw [List.getElem?_append_right (by omega), List.getElem?_map, List.getElem?_replicate]
    by_cases hn : j < n
    · rw [if_pos (by omega), List.getElem?_range hn]
      simp [List.getD, hj]
    · rw [if_neg (by omega)]
      simp [hn]

/-- What a function's end makes of what its body comes to. -/
def AExit.toC (E : Env) (g : FuncId) (rs : List IRes) (A : Heap) (Q : CRes → Heap → Prop) (e : AExit) (R' : Regs) (A' : Heap) : Prop :=
  match e with
  | .panic v => Q (.panic (leave (E.keep g) A A' v).1) (leave (E.keep g) A A' v).2
  | .normal | .ret => match resOf R' A' rs with
    | some vs => Q (.ret (leave (E.keep g) A A' (tupled vs)).1) (leave (E.keep g) A A' (tupled vs)).2
    | none => False
  | .exit _ => False

/-- What is handed back, given up or kept. -/
def handOver (keep : Bool) (A A' : Heap) (vs : Option (List AV)) (Q : CRes → Heap → Prop) : Prop := match vs with
  | some vs => Q (.ret (leave keep A A' (tupled vs)).1) (leave keep A A' (tupled vs)).2
  | none => False

theorem callBody_eq {g : FuncId} {F : IFun} {xs : List AV} {n : Nat} (hl : xs.length ≤ F.ntmps) : callBody E (ev E n) Λ g F xs A = (match ev E n Λ F.body (regs F.ntmps (ini xs)) A with
        | some (.panic v, _, A') => some (.panic (leave (E.keep g) A A' v).1, (leave (E.keep g) A A' v).2)
        | some (.normal, R', A') | some (.ret, R', A') => match resOf R' A' F.results with
          | some vs => some (.ret (leave (E.keep g) A A' (tupled vs)).1, (leave (E.keep g) A A' (tupled vs)).2)
          | none => none
        | _ => none) := by
  simp only [callBody]
  rw [regs_ini hl]
  rfl

theorem wpc_fun {g : FuncId} {F : IFun} {p q xs : List AV} {Q : CRes → Heap → Prop} (hi : E.intr g = none) (hf : E.fns g = some F) (ha : (E.apart g && AV.unders 0 (p ++ xs ++ q)) = false) (hl : (p ++ xs ++ q).length ≤ F.ntmps) (hz : E.easy g (p ++ xs ++ q) = none := by rfl) :
    WpC E Λ (.func (.func g) p q) xs A Q ↔ Wp E Λ F.body (regs F.ntmps (ini (p ++ xs ++ q))) A (AExit.toC E g F.results A Q) := by
  have key : ∀ n, callOf E (ev E n) Λ (.func (.func g) p q) xs A = (match ev E n Λ F.body (regs F.ntmps (ini (p ++ xs ++ q))) A with
        | some (.panic v, _, A') => some (.panic (leave (E.keep g) A A' v).1, (leave (E.keep g) A A' v).2)
        | some (.normal, R', A') | some (.ret, R', A') => match resOf R' A' F.results with
          | some vs => some (.ret (leave (E.keep g) A A' (tupled vs)).1, (leave (E.keep g) A A' (tupled vs)).2)
          | none => none
        | _ => none) := fun n => by
    simp only [callOf, hi, hf, hz, ha, Bool.false_eq_true, if_false]
    exact callBody_eq hl
  constructor
  · rintro ⟨n, r, A1, h, hq⟩
    rw [key] at h
    cases hx : ev E n Λ F.body (regs F.ntmps (ini (p ++ xs ++ q))) A with
    | none => rw [hx] at h; cases h
    | some s =>
      obtain ⟨e, R', A'⟩ := s
      rw [hx] at h
      refine ⟨n, e, R', A', hx, ?_⟩
      cases e <;> simp only [AExit.toC] at h ⊢
      · split at h <;> cases h; exact hq
      · cases h
      · split at h <;> cases h; exact hq
      · cases h; exact hq
  · rintro ⟨n, e, R', A', h, hq⟩
    cases e <;> simp only [AExit.toC] at hq
    · split at hq
      · rename_i vs hv; exact ⟨n, _, _, by rw [key, h]; simp only [hv], hq⟩
      · exact hq.elim
    · split at hq
      · rename_i vs hv; exact ⟨n, _, _, by rw [key, h]; simp only [hv], hq⟩
      · exact hq.elim
    · exact ⟨n, _, _, by rw [key, h], hq⟩

/-- What a function of plain values hands back. -/
def giveOut (keep : Bool) (A' A : Heap) (vs : Option (List AV)) (Q : CRes → Heap → Prop) : Prop := match vs with
  | some vs => (leave keep [] A' (tupled vs)).2 = [] ∧ (leave keep [] A' (tupled vs)).1.under 0 = true ∧ Q (.ret (leave keep [] A' (tupled vs)).1) A
  | none => False

def AExit.toA (E : Env) (g : FuncId) (rs : List IRes) (A : Heap) (Q : CRes → Heap → Prop) (e : AExit) (R' : Regs) (A' : Heap) : Prop :=
  match e with
  | .normal | .ret => giveOut (E.keep g) A' A (resOf R' A' rs) Q
  | _ => False

theorem wpc_apart {g : FuncId} {F : IFun} {p q xs : List AV} {Q : CRes → Heap → Prop} (hi : E.intr g = none) (hf : E.fns g = some F) (ha : E.apart g = true) (hl : (p ++ xs ++ q).length ≤ F.ntmps) (hu : AV.unders 0 (p ++ xs ++ q) = true) (hz : E.easy g (p ++ xs ++ q) = none := by rfl) :
    WpC E Λ (.func (.func g) p q) xs A Q ↔ Wp E [] F.body (regs F.ntmps (ini (p ++ xs ++ q))) [] (AExit.toA E g F.results A Q) := by
  have key : ∀ n, callOf E (ev E n) Λ (.func (.func g) p q) xs A = asideOf A (match ev E n [] F.body (regs F.ntmps (ini (p ++ xs ++ q))) [] with
        | some (.panic v, _, A') => some (.panic (leave (E.keep g) [] A' v).1, (leave (E.keep g) [] A' v).2)
        | some (.normal, R', A') | some (.ret, R', A') => match resOf R' A' F.results with
          | some vs => some (.ret (leave (E.keep g) [] A' (tupled vs)).1, (leave (E.keep g) [] A' (tupled vs)).2)
          | none => none
        | _ => none) := fun n => by
    simp only [callOf, hi, hf, hz, ha, Bool.true_and, hu, if_true]
    rw [callBody_eq hl]
  have aside : ∀ {v : AV} {B : Heap} {r : CRes} {A1 : Heap}, asideOf A (some (.ret v, B)) = some (r, A1) ↔ B = [] ∧ v.under 0 = true ∧ r = .ret v ∧ A1 = A := by
    intro v B r A1
    cases B with
    | nil =>
      simp only [asideOf]
      by_cases h : v.under 0 = true
      · simp [h, eq_comm]
      · simp [h]
    | cons b B => simp [asideOf]
  constructor
  · rintro ⟨n, r, A1, h, hq⟩
    rw [key] at h
    cases hx : ev E n [] F.body (regs F.ntmps (ini (p ++ xs ++ q))) [] with
    | none => rw [hx] at h; simp [asideOf] at h
    | some s =>
      obtain ⟨e, R', A'⟩ := s
      rw [hx] at h
      refine ⟨n, e, R', A', hx, ?_⟩
      cases e <;> simp only [AExit.toA] at h ⊢
      · cases hr : resOf R' A' F.results with
        | none => rw [hr] at h; simp [asideOf] at h
        | some vs =>
          rw [hr] at h
          obtain ⟨h1, h2, rfl, rfl⟩ := aside.1 h
          exact ⟨h1, h2, hq⟩
      · simp [asideOf] at h
      · cases hr : resOf R' A' F.results with
        | none => rw [hr] at h; simp [asideOf] at h
        | some vs =>
          rw [hr] at h
          obtain ⟨h1, h2, rfl, rfl⟩ := aside.1 h
          exact ⟨h1, h2, hq⟩
      · simp [asideOf] at h
  · rintro ⟨n, e, R', A', h, hq⟩
    cases e <;> simp only [AExit.toA] at hq <;> (try exact hq.elim)
    · cases hr : resOf R' A' F.results with
      | none => rw [hr] at hq; exact hq.elim
      | some vs =>
        rw [hr] at hq
        obtain ⟨h1, h2, h3⟩ := hq
        exact ⟨n, _, _, by rw [key, h]; simp only [hr]; exact aside.2 ⟨h1, h2, rfl, rfl⟩, h3⟩
    · cases hr : resOf R' A' F.results with
      | none => rw [hr] at hq; exact hq.elim
      | some vs =>
        rw [hr] at hq
        obtain ⟨h1, h2, h3⟩ := hq
        exact ⟨n, _, _, by rw [key, h]; simp only [hr]; exact aside.2 ⟨h1, h2, rfl, rfl⟩, h3⟩

end Go.Abs

/- Memory in rewriting: what was there, and what came behind it. -/
namespace Go.Abs

variable {E : Env} {Λ : List LoopInfo} {R R' : Regs} {A A' : Heap}

mutual
theorem AV.beq_refl : ∀ a : AV, AV.beq a a = true
  | .bool b => by simp [AV.beq]
  | .int k n => by simp [AV.beq]
  | .str s => by simp [AV.beq]
  | .frz es c => by simp [AV.beq, AV.beqs_refl es]
  | .own _ _ _ _ => by simp [AV.beq]
  | .nilp => rfl
  | .ptr _ _ _ => by simp [AV.beq]
  | .fp es _ _ => by simp [AV.beq, AV.beqs_refl es]
  | .map _ => by simp [AV.beq]
  | .nilm => rfl
  | .func f a b => by simp [AV.beq, AV.beqs_refl a, AV.beqs_refl b]
  | .yld _ => by simp [AV.beq]
  | .nilf => rfl
  | .iface t v => by simp [AV.beq, AV.beq_refl v]
  | .nili => rfl
  | .agg l => by simp [AV.beq, AV.beqs_refl l]
  | .tuple l => by simp [AV.beq, AV.beqs_refl l]
theorem AV.beqs_refl : ∀ l : List AV, AV.beqs l l = true
  | [] => rfl
  | a :: l => by simp [AV.beqs, AV.beq_refl a, AV.beqs_refl l]
end

theorem pairsEq_refl : ∀ l : List (AV × AV), pairsEq l l = true
  | [] => rfl
  | a :: l => by simp [pairsEq, AV.beq_refl, pairsEq_refl l]

theorem Blk.beq_refl (b : Blk) : b.beq b = true := by
  cases b <;> simp [Blk.beq, AV.beqs_refl, pairsEq_refl]

theorem diff_self : ∀ (i : Nat) (A : Heap), diff i A A = []
  | _, [] => by simp [diff]
  | i, a :: A => by simp [diff, Blk.beq_refl, diff_self (i + 1) A]

@[simp] theorem sameHeap_self : sameHeap A A = true := by simp [sameHeap, diff_self]

@[simp] theorem trunc_append {l : List Blk} : trunc A (A ++ l) = some A := by
  simp [trunc, diff_self]

theorem trunc_self : trunc A A = some A := by simp [trunc, diff_self]

theorem hget_app {l : List Blk} {i : Nat} : hget (A ++ l) (A.length + i) = hget l i := by
  unfold hget List.getD
  rw [List.getElem?_append_right (by omega)]
  congr 1; congr 1; omega

theorem hget_app0 {l : List Blk} : hget (A ++ l) A.length = hget l 0 := by simpa using hget_app (A := A) (l := l) (i := 0)

theorem hget_app_lt {l : List Blk} {i : Nat} (h : i < A.length) : hget (A ++ l) i = hget A i := by
  unfold hget List.getD
  rw [List.getElem?_append_left h]

theorem hset_app {l : List Blk} {i : Nat} {b : Blk} (h : i < l.length) : hset (A ++ l) (A.length + i) b = A ++ l.set i b := by
  unfold hset
  rw [if_pos (by simp; omega), List.set_append_right _ _ (by omega)]
  congr 1; congr 1; omega

theorem hset_app0 {l : List Blk} {b : Blk} (h : 0 < l.length) : hset (A ++ l) A.length b = A ++ l.set 0 b := by simpa using hset_app (A := A) (b := b) h

theorem hset_new {l : List Blk} {b : Blk} : hset (A ++ l) (A.length + l.length) b = A ++ (l ++ [b]) := by
  unfold hset
  rw [if_neg (by simp)]
  simp

theorem hset_new0 {b : Blk} : hset A A.length b = A ++ [b] := by
  unfold hset
  rw [if_neg (by simp)]
  simp

theorem applyOut_val {v : AV} : applyOut A ⟨v, [], none⟩ = A := rfl
theorem applyOut_new {v : AV} {b : Blk} : applyOut A ⟨v, [], some b⟩ = A ++ [b] := by simp [applyOut, putAll, hset_new0]
theorem applyOut_set {v : AV} {i : Nat} {b : Blk} : applyOut A ⟨v, [(i, b)], none⟩ = hset A i b := rfl
theorem applyOut_both {v : AV} {i : Nat} {b c : Blk} (h : i < A.length) : applyOut A ⟨v, [(i, b)], some c⟩ = hset A i b ++ [c] := by
  have e : (hset A i b).length = A.length := by unfold hset; rw [if_pos h]; simp
  simp [applyOut, putAll]
  rw [← e, hset_new0]

theorem okOut_some {o : Out} {p : Out → Prop} : okOut (some o) p ↔ p o := Iff.rfl
theorem okOut_just {v : AV} {p : Out → Prop} : okOut (just v) p ↔ p ⟨v, [], none⟩ := Iff.rfl
theorem okOut_val {v : AV} {p : Out → Prop} : okOut (val (some v)) p ↔ p ⟨v, [], none⟩ := Iff.rfl

end Go.Abs

/- The rules, marked to be rewritten with: what follows is kept out of sight until it comes up. -/
namespace Go.Abs

variable {E : Env} {Λ : List LoopInfo} {R R' : Regs} {A A' : Heap}

abbrev KE := Kont (AExit → Regs → Heap → Prop)
abbrev KO := Kont (OR → Prop)
abbrev KL := Kont (CRes → Heap → Prop)
abbrev KR := Kont (Regs → Prop)
abbrev KP := Kont Prop

def kOut (o : Option Out) [k : Kont (Out → Prop)] : Prop := okOut o k.run
def kWp (E : Env) (Λ : List LoopInfo) (c : ICode) (R : Regs) (A : Heap) [k : KE] : Prop := Wp E Λ c R A k.run
def kOps (E : Env) (Λ : List LoopInfo) (l : List IOper) (R : Regs) (A : Heap) [k : KO] : Prop := WpO E Λ l R A k.run
def kCall (E : Env) (Λ : List LoopInfo) (f : AV) (xs : List AV) (A : Heap) [k : KL] : Prop := WpC E Λ f xs A k.run
def kSegs (E : Env) (Λ : List LoopInfo) (l : List (List (IOper × List Nat))) (R : Regs) (A : Heap) [k : KO] : Prop := WpS E Λ l R A k.run
def kSeg (E : Env) (Λ : List LoopInfo) (l : List (IOper × List Nat)) (R : Regs) (A : Heap) [k : KO] : Prop := WpG E Λ l R A k.run
def kQuiet (E : Env) (Λ : List LoopInfo) (A : Heap) (l : List (IOper × List Nat)) (R : Regs) [k : KR] : Prop := WpQ E Λ A l R k.run
def kCnd (v : AV) [p : KP] [q : KP] : Prop := cnd v p.run q.run
def kGd (g : Option (Option Nat × Bool)) (R : Regs) [p : KP] [q : KP] : Prop := gd g R p.run q.run
def kGdv (v : AV) (want : Bool) [p : KP] [q : KP] : Prop := gdv v want p.run q.run
def kThn (e : AExit) [p : KP] [q : KP] : Prop := e.thn p.run q.run
def kHand (keep : Bool) (A A' : Heap) (vs : Option (List AV)) [k : KL] : Prop := handOver keep A A' vs k.run
def kIf (b : Bool) [p : KP] : Prop := b = true ∧ p.run

@[simp] theorem thn_normal {p q : KP} : @kThn .normal p q ↔ p.run := Iff.rfl
@[simp] theorem thn_ret {p q : KP} : @kThn .ret p q ↔ q.run := Iff.rfl
@[simp] theorem thn_exit {p q : KP} {i : Nat} : @kThn (.exit i) p q ↔ q.run := Iff.rfl
@[simp] theorem thn_panic {p q : KP} {v : AV} : @kThn (.panic v) p q ↔ q.run := Iff.rfl
@[simp] theorem blk_normal {i : Nat} : AExit.blk i .normal = .normal := rfl
@[simp] theorem blk_ret {i : Nat} : AExit.blk i .ret = .ret := rfl
@[simp] theorem blk_panic {i : Nat} {v : AV} : AExit.blk i (.panic v) = .panic v := rfl
@[simp] theorem blk_exit {i j : Nat} : AExit.blk i (.exit j) = if j = i then .normal else .exit j := rfl

@[simp] theorem k_skip {k : KE} : @kWp E Λ .skip R A k ↔ k.run .normal R A := aw_skip
@[simp] theorem k_exit {k : KE} {i : Nat} : @kWp E Λ (.exit i) R A k ↔ k.run (.exit i) R A := aw_exit
@[simp] theorem k_ret {k : KE} : @kWp E Λ .ret R A k ↔ k.run .ret R A := aw_ret
@[simp] theorem k_seq {a b : ICode} {k : KE} : @kWp E Λ (.seq a b) R A k ↔ @kWp E Λ a R A ⟨fun e R' A' => @kThn e ⟨@kWp E Λ b R' A' k⟩ ⟨k.run e R' A'⟩⟩ := aw_seq
@[simp] theorem k_cond {x : Arg} {a b : ICode} {k : KE} : @kWp E Λ (.cond x a b) R A k ↔ @kCnd (arg E R x) ⟨@kWp E Λ a R A k⟩ ⟨@kWp E Λ b R A k⟩ := aw_cond
@[simp] theorem k_block {i : Nat} {b : ICode} {k : KE} : @kWp E Λ (.block i b) R A k ↔ @kWp E Λ b R A ⟨fun e R' A' => k.run (e.blk i) R' A'⟩ := aw_block
theorem k_loop {b : ICode} {k : KE} : @kWp E Λ (.loop b) R A k ↔ @kWp E Λ b R A ⟨fun e R' A' => @kThn e ⟨@kWp E Λ (.loop b) R' A' k⟩ ⟨k.run e R' A'⟩⟩ := aw_loop
/-- Where operations lead. -/
def kTo (r : OR) [k : KE] : Prop := OR.toQ k.run r
@[simp] theorem k_ops {l : List IOper} {k : KE} : @kWp E Λ (.ops l) R A k ↔ @kOps E Λ l R A ⟨fun r => @kTo r k⟩ := aw_ops
@[simp] theorem k_draw {l : List (List (IOper × List Nat))} {k : KE} : @kWp E Λ (.draw l) R A k ↔ @kSegs E Λ l R A ⟨fun r => @kTo r k⟩ := aw_draw
@[simp] theorem kTo_next {k : KE} : @kTo (.next R A) k ↔ k.run .normal R A := Iff.rfl
@[simp] theorem kTo_panic {k : KE} {v : AV} : @kTo (.panic v R A) k ↔ k.run (.panic v) R A := Iff.rfl

@[simp] theorem ko_nil {k : KO} : @kOps E Λ [] R A k ↔ k.run (.next R A) := wpo_nil
@[simp] theorem ko_plain {d : Option Nat} {g : Option (Option Nat × Bool)} {op : IOp} {l : List IOper} {k : KO} (h : op.plain = true) : @kOps E Λ (⟨d, g, op⟩ :: l) R A k ↔
    @kGd g R ⟨@kOut (evOp E R A A.length op) ⟨fun out => @kOps E Λ l (rput R d out.v) (applyOut A out) k⟩⟩ ⟨@kOps E Λ l (rput R d undefA) A k⟩ := wpo_plain h
/-- Where a call leads. -/
def kToO (R : Regs) (E : Env) (Λ : List LoopInfo) (d : Option Nat) (l : List IOper) (r : CRes) (A' : Heap) [k : KO] : Prop := CRes.toO R E Λ d l k.run r A'
@[simp] theorem kToO_ret {d : Option Nat} {l : List IOper} {v : AV} {k : KO} : @kToO R E Λ d l (.ret v) A k ↔ @kOps E Λ l (rput R d v) A k := Iff.rfl
@[simp] theorem kToO_panic {d : Option Nat} {l : List IOper} {v : AV} {k : KO} : @kToO R E Λ d l (.panic v) A k ↔ k.run (.panic v R A) := Iff.rfl
@[simp] theorem ko_call {d : Option Nat} {g : Option (Option Nat × Bool)} {f : Arg} {xs : List Arg} {l : List IOper} {k : KO} : @kOps E Λ (⟨d, g, .call f xs⟩ :: l) R A k ↔
    @kGd g R ⟨@kCall E Λ (arg E R f) (args E R xs) A ⟨fun r A' => @kToO R E Λ d l r A' k⟩⟩ ⟨@kOps E Λ l (rput R d undefA) A k⟩ := wpo_call
theorem ko_callee {d : Option Nat} {g : Option (Option Nat × Bool)} {op : IOp} {l : List IOper} {k : KO} {f : AV} {xs : List AV} (h : callee E R op = some (f, xs)) : @kOps E Λ (⟨d, g, op⟩ :: l) R A k ↔
    @kGd g R ⟨@kCall E Λ f xs A ⟨fun r A' => @kToO R E Λ d l r A' k⟩⟩ ⟨@kOps E Λ l (rput R d undefA) A k⟩ := wpo_callee h

def kToS (E : Env) (Λ : List LoopInfo) (l : List (List (IOper × List Nat))) (r : OR) [k : KO] : Prop := OR.toS E Λ l k.run r
@[simp] theorem kToS_next {l : List (List (IOper × List Nat))} {k : KO} : @kToS E Λ l (.next R A) k ↔ @kSegs E Λ l R A k := Iff.rfl
@[simp] theorem kToS_panic {l : List (List (IOper × List Nat))} {k : KO} {v : AV} : @kToS E Λ l (.panic v R A) k ↔ k.run (.panic v R A) := Iff.rfl
@[simp] theorem ks_nil {k : KO} : @kSegs E Λ [] R A k ↔ k.run (.next R A) := wps_nil
@[simp] theorem ks_cons {s : List (IOper × List Nat)} {l : List (List (IOper × List Nat))} {k : KO} : @kSegs E Λ (s :: l) R A k ↔ @kSeg E Λ s R A ⟨fun r => @kToS E Λ l r k⟩ := wps_cons
@[simp] theorem kg_nil {k : KO} : @kSeg E Λ [] R A k ↔ k.run (.next R A) := wpg_nil
@[simp] theorem kg_one {q : IOper × List Nat} {k : KO} : @kSeg E Λ [q] R A k ↔ @kOps E Λ [q.1] R A k := wpg_one
@[simp] theorem kg_quiet {p q : IOper × List Nat} {s : List (IOper × List Nat)} {k : KO} (h : quietSeg E (p :: q :: s) = true) : @kSeg E Λ (p :: q :: s) R A k ↔ @kQuiet E Λ A (p :: q :: s) R ⟨fun R' => k.run (.next R' A)⟩ := wpg_quiet h
@[simp] theorem kq_nil {k : KR} : @kQuiet E Λ A [] R k ↔ k.run R := wpq_nil
@[simp] theorem kq_plain {d : Option Nat} {g : Option (Option Nat × Bool)} {op : IOp} {pre : List Nat} {l : List (IOper × List Nat)} {k : KR} (h : op.plain = true) : @kQuiet E Λ A ((⟨d, g, op⟩, pre) :: l) R k ↔
    @kGd g R ⟨@kOut (evOp E R A A.length op) ⟨fun out => out.wr = [] ∧ out.new = none ∧ @kQuiet E Λ A l (rput R d out.v) k⟩⟩ ⟨@kQuiet E Λ A l (rput R d undefA) k⟩ := wpq_plain h
def kToR (R : Regs) (E : Env) (Λ : List LoopInfo) (A : Heap) (d : Option Nat) (l : List (IOper × List Nat)) (r : CRes) (A' : Heap) [k : KR] : Prop := CRes.toQ R E Λ A d l k.run r A'
@[simp] theorem kToR_ret {d : Option Nat} {l : List (IOper × List Nat)} {v : AV} {k : KR} : @kToR R E Λ A d l (.ret v) A' k ↔ sameHeap A A' = true ∧ @kQuiet E Λ A l (rput R d v) k := Iff.rfl
@[simp] theorem kToR_panic {d : Option Nat} {l : List (IOper × List Nat)} {v : AV} {k : KR} : @kToR R E Λ A d l (.panic v) A' k ↔ False := Iff.rfl
@[simp] theorem kq_call {d : Option Nat} {g : Option (Option Nat × Bool)} {f : Arg} {xs : List Arg} {pre : List Nat} {l : List (IOper × List Nat)} {k : KR} : @kQuiet E Λ A ((⟨d, g, .call f xs⟩, pre) :: l) R k ↔
    @kGd g R ⟨@kCall E Λ (arg E R f) (args E R xs) A ⟨fun r A' => @kToR R E Λ A d l r A' k⟩⟩ ⟨@kQuiet E Λ A l (rput R d undefA) k⟩ := wpq_call

@[simp] theorem kgd_none {p q : KP} : @kGd none R p q ↔ p.run := gd_none
@[simp] theorem kgd_some {t : Nat} {want : Bool} {p q : KP} : @kGd (some (some t, want)) R p q ↔ @kGdv (rget R t) want p q := gd_some
@[simp] theorem kgdv_tt {p q : KP} : @kGdv (.bool true) true p q ↔ p.run := by simp [kGdv, gdv]
@[simp] theorem kgdv_tf {p q : KP} : @kGdv (.bool true) false p q ↔ q.run := by simp [kGdv, gdv]
@[simp] theorem kgdv_ft {p q : KP} : @kGdv (.bool false) true p q ↔ q.run := by simp [kGdv, gdv]
@[simp] theorem kgdv_ff {p q : KP} : @kGdv (.bool false) false p q ↔ p.run := by simp [kGdv, gdv]
@[simp] theorem kgdv_undef {p q : KP} {w : Bool} : @kGdv undefA w p q ↔ q.run := Iff.rfl
@[simp] theorem kcnd_true {p q : KP} : @kCnd (.bool true) p q ↔ p.run := by simp [kCnd, cnd]
@[simp] theorem kcnd_false {p q : KP} : @kCnd (.bool false) p q ↔ q.run := by simp [kCnd, cnd]
theorem kcnd_if {p q : KP} {b : Bool} : @kCnd (.bool b) p q ↔ if b = true then p.run else q.run := by cases b <;> simp [kCnd, cnd]
theorem kgdv_if {p q : KP} {b w : Bool} : @kGdv (.bool b) w p q ↔ if b = w then p.run else q.run := by cases b <;> cases w <;> simp [kGdv, gdv]

@[simp] theorem kout_some {o : Out} {k : Kont (Out → Prop)} : @kOut (some o) k ↔ k.run o := Iff.rfl
@[simp] theorem kout_just {v : AV} {k : Kont (Out → Prop)} : @kOut (just v) k ↔ k.run ⟨v, [], none⟩ := Iff.rfl
@[simp] theorem kout_val {v : AV} {k : Kont (Out → Prop)} : @kOut (val (some v)) k ↔ k.run ⟨v, [], none⟩ := Iff.rfl

/-- Where a function's end leads. -/
def kEnd (E : Env) (g : FuncId) (rs : List IRes) (A : Heap) (e : AExit) (R' : Regs) (A' : Heap) [k : KL] : Prop := AExit.toC E g rs A k.run e R' A'
@[simp] theorem kEnd_ret {g : FuncId} {rs : List IRes} {k : KL} : @kEnd E g rs A .ret R' A' k ↔ @kHand (E.keep g) A A' (resOf R' A' rs) k := Iff.rfl
@[simp] theorem kEnd_normal {g : FuncId} {rs : List IRes} {k : KL} : @kEnd E g rs A .normal R' A' k ↔ @kHand (E.keep g) A A' (resOf R' A' rs) k := Iff.rfl
@[simp] theorem kEnd_panic {g : FuncId} {rs : List IRes} {k : KL} {v : AV} : @kEnd E g rs A (.panic v) R' A' k ↔ k.run (.panic (leave (E.keep g) A A' v).1) (leave (E.keep g) A A' v).2 := Iff.rfl
@[simp] theorem kEnd_exit {g : FuncId} {rs : List IRes} {k : KL} {i : Nat} : @kEnd E g rs A (.exit i) R' A' k ↔ False := Iff.rfl
theorem k_fun {g : FuncId} {F : IFun} {p q xs : List AV} {k : KL} (hi : E.intr g = none) (hf : E.fns g = some F) (ha : (E.apart g && AV.unders 0 (p ++ xs ++ q)) = false) (hl : (p ++ xs ++ q).length ≤ F.ntmps) (hz : E.easy g (p ++ xs ++ q) = none := by rfl) :
    @kCall E Λ (.func (.func g) p q) xs A k ↔ @kWp E Λ F.body (regs F.ntmps (ini (p ++ xs ++ q))) A ⟨fun e R' A' => @kEnd E g F.results A e R' A' k⟩ := wpc_fun hi hf ha hl hz
def kGive (keep : Bool) (A' A : Heap) (vs : Option (List AV)) [k : KL] : Prop := giveOut keep A' A vs k.run
def kAside (E : Env) (g : FuncId) (rs : List IRes) (A : Heap) (e : AExit) (R' : Regs) (A' : Heap) [k : KL] : Prop := AExit.toA E g rs A k.run e R' A'
@[simp] theorem kAside_ret {g : FuncId} {rs : List IRes} {k : KL} : @kAside E g rs A .ret R' A' k ↔ @kGive (E.keep g) A' A (resOf R' A' rs) k := Iff.rfl
@[simp] theorem kAside_normal {g : FuncId} {rs : List IRes} {k : KL} : @kAside E g rs A .normal R' A' k ↔ @kGive (E.keep g) A' A (resOf R' A' rs) k := Iff.rfl
@[simp] theorem kGive_some {b : Bool} {vs : List AV} {k : KL} : @kGive b A' A (some vs) k ↔ (leave b [] A' (tupled vs)).2 = [] ∧ (leave b [] A' (tupled vs)).1.under 0 = true ∧ k.run (.ret (leave b [] A' (tupled vs)).1) A := Iff.rfl
/-- A call of a function of plain values. -/
theorem k_apart {g : FuncId} {F : IFun} {p q xs : List AV} {k : KL} (hi : E.intr g = none) (hf : E.fns g = some F) (ha : E.apart g = true) (hl : (p ++ xs ++ q).length ≤ F.ntmps) (hu : AV.unders 0 (p ++ xs ++ q) = true) (hz : E.easy g (p ++ xs ++ q) = none := by rfl) :
    @kCall E Λ (.func (.func g) p q) xs A k ↔ @kWp E [] F.body (regs F.ntmps (ini (p ++ xs ++ q))) [] ⟨fun e R' A' => @kAside E g F.results A e R' A' k⟩ := wpc_apart hi hf ha hl hu hz
@[simp] theorem trunc_nil : trunc [] A = some [] := by simp [trunc, diff]
@[simp] theorem khand_some {b : Bool} {vs : List AV} {k : KL} : @kHand b A A' (some vs) k ↔ k.run (.ret (leave b A A' (tupled vs)).1) (leave b A A' (tupled vs)).2 := Iff.rfl

/-- Plain operations. -/
@[simp] theorem pl_mov {x : Arg} : IOp.plain (.mov x) = true := id rfl
@[simp] theorem pl_pick {a b c : Arg} : IOp.plain (.pick a b c) = true := id rfl
@[simp] theorem pl_alloc {z : AV} : IOp.plain (.alloc z) = true := id rfl
@[simp] theorem pl_box {x : Arg} : IOp.plain (.box x) = true := id rfl
@[simp] theorem pl_build {z : List AV} {p : List (Nat × Nat × Arg)} : IOp.plain (.build z p) = true := id rfl
@[simp] theorem pl_buildSlice {e n : Nat} {z : AV} {p : List (Nat × Arg)} : IOp.plain (.buildSlice e z n p) = true := id rfl
@[simp] theorem pl_load {g : Bool} {n : Nat} {x : Arg} : IOp.plain (.load g n x) = true := id rfl
@[simp] theorem pl_store {n : Nat} {x y : Arg} : IOp.plain (.store n x y) = true := id rfl
@[simp] theorem pl_nilCheck {x : Arg} : IOp.plain (.nilCheck x) = true := id rfl
@[simp] theorem pl_bin {o : BinOp} {x y : Arg} : IOp.plain (.bin o x y) = true := id rfl
@[simp] theorem pl_eqv {n : Bool} {k : EqK} {x y : Arg} : IOp.plain (.eqv n k x y) = true := id rfl
@[simp] theorem pl_isNil {n : Bool} {k : NK} {x : Arg} : IOp.plain (.isNil k n x) = true := id rfl
@[simp] theorem pl_un {o : UnOp} {x : Arg} : IOp.plain (.un o x) = true := id rfl
@[simp] theorem pl_conv {k : IntKind} {x : Arg} : IOp.plain (.conv k x) = true := id rfl
@[simp] theorem pl_convStr {x : Arg} : IOp.plain (.convStr x) = true := id rfl
@[simp] theorem pl_mkIface {t : Nat} {x : Arg} : IOp.plain (.mkIface t x) = true := id rfl
@[simp] theorem pl_mkFunc {f : Fn} {a b : List Arg} : IOp.plain (.mkFunc f a b) = true := id rfl
@[simp] theorem pl_mkMap : IOp.plain .mkMap = true := id rfl
@[simp] theorem pl_mkSlice {e b : Nat} {z : AV} {l c : Arg} : IOp.plain (.mkSlice e b z l c) = true := id rfl
@[simp] theorem pl_slice {e : Nat} {x : Arg} {a b c : Option Arg} : IOp.plain (.slice e x a b c) = true := id rfl
@[simp] theorem pl_sliceStr {x : Arg} {a b : Option Arg} : IOp.plain (.sliceStr x a b) = true := id rfl
@[simp] theorem pl_addOff {x : Arg} {n : Nat} : IOp.plain (.addOff x n) = true := id rfl
@[simp] theorem pl_part {g : Bool} {o n : Nat} {x : Arg} : IOp.plain (.part g o n x) = true := id rfl
@[simp] theorem pl_idxS {e : Nat} {x y : Arg} : IOp.plain (.idxS e x y) = true := id rfl
@[simp] theorem pl_idxA {n e : Nat} {x y : Arg} : IOp.plain (.idxA n e x y) = true := id rfl
@[simp] theorem pl_idxV {g : Bool} {n e : Nat} {x y : Arg} : IOp.plain (.idxV g n e x y) = true := id rfl
@[simp] theorem pl_idxStr {x y : Arg} : IOp.plain (.idxStr x y) = true := id rfl
@[simp] theorem pl_lookup {k : EqK} {z : AV} {o : Bool} {x y : Arg} : IOp.plain (.lookup k z o x y) = true := id rfl
@[simp] theorem pl_mapSet {k : EqK} {x y z : Arg} : IOp.plain (.mapSet k x y z) = true := id rfl
@[simp] theorem pl_rangeStr {x : Arg} : IOp.plain (.rangeStr x) = true := id rfl
@[simp] theorem pl_nextStr {x : Arg} : IOp.plain (.nextStr x) = true := id rfl
@[simp] theorem pl_tassert {t : Nat} {z : AV} {o : Bool} {x : Arg} : IOp.plain (.tassert t z o x) = true := id rfl
@[simp] theorem pl_extract {x : Arg} {i : Nat} : IOp.plain (.extract x i) = true := id rfl
@[simp] theorem pl_append {e b : Nat} {x y : Arg} : IOp.plain (.append e b x y) = true := id rfl
@[simp] theorem pl_appendZ {e b : Nat} {z : AV} {x y : Arg} : IOp.plain (.appendZ e b z x y) = true := id rfl
@[simp] theorem pl_len {k : LK} {x : Arg} : IOp.plain (.len k x) = true := id rfl
@[simp] theorem pl_lenConst {n : Nat} : IOp.plain (.lenConst n) = true := id rfl
@[simp] theorem pl_capClip {x : Arg} : IOp.plain (.capClip x) = true := id rfl
@[simp] theorem pl_min2 {x y : Arg} : IOp.plain (.min2 x y) = true := id rfl
@[simp] theorem pl_max2 {x y : Arg} : IOp.plain (.max2 x y) = true := id rfl
@[simp] theorem pl_clear {e : Nat} {z : AV} {x : Arg} : IOp.plain (.clear e z x) = true := id rfl
@[simp] theorem pl_clearMap {x : Arg} : IOp.plain (.clearMap x) = true := id rfl

/-- Operations that leave the memory as it is. -/
@[simp] theorem qt_mov {x : Arg} : quietOp E (.mov x) = true := id rfl
@[simp] theorem qt_pick {a b c : Arg} : quietOp E (.pick a b c) = true := id rfl
@[simp] theorem qt_alloc {z : AV} : quietOp E (.alloc z) = false := id rfl
@[simp] theorem qt_box {x : Arg} : quietOp E (.box x) = false := id rfl
@[simp] theorem qt_build {z : List AV} {p : List (Nat × Nat × Arg)} : quietOp E (.build z p) = true := id rfl
@[simp] theorem qt_buildSlice {e n : Nat} {z : AV} {p : List (Nat × Arg)} : quietOp E (.buildSlice e z n p) = false := id rfl
@[simp] theorem qt_load {g : Bool} {n : Nat} {x : Arg} : quietOp E (.load g n x) = true := id rfl
@[simp] theorem qt_store {n : Nat} {x y : Arg} : quietOp E (.store n x y) = false := id rfl
@[simp] theorem qt_nilCheck {x : Arg} : quietOp E (.nilCheck x) = true := id rfl
@[simp] theorem qt_bin {o : BinOp} {x y : Arg} : quietOp E (.bin o x y) = true := id rfl
@[simp] theorem qt_eqv {n : Bool} {k : EqK} {x y : Arg} : quietOp E (.eqv n k x y) = true := id rfl
@[simp] theorem qt_isNil {n : Bool} {k : NK} {x : Arg} : quietOp E (.isNil k n x) = true := id rfl
@[simp] theorem qt_un {o : UnOp} {x : Arg} : quietOp E (.un o x) = true := id rfl
@[simp] theorem qt_conv {k : IntKind} {x : Arg} : quietOp E (.conv k x) = true := id rfl
@[simp] theorem qt_convStr {x : Arg} : quietOp E (.convStr x) = true := id rfl
@[simp] theorem qt_mkIface {t : Nat} {x : Arg} : quietOp E (.mkIface t x) = true := id rfl
@[simp] theorem qt_mkFunc {f : Fn} {a b : List Arg} : quietOp E (.mkFunc f a b) = true := id rfl
@[simp] theorem qt_mkMap : quietOp E .mkMap = false := id rfl
@[simp] theorem qt_mkSlice {e b : Nat} {z : AV} {l c : Arg} : quietOp E (.mkSlice e b z l c) = false := id rfl
@[simp] theorem qt_slice {e : Nat} {x : Arg} {a b c : Option Arg} : quietOp E (.slice e x a b c) = true := id rfl
@[simp] theorem qt_sliceStr {x : Arg} {a b : Option Arg} : quietOp E (.sliceStr x a b) = true := id rfl
@[simp] theorem qt_addOff {x : Arg} {n : Nat} : quietOp E (.addOff x n) = true := id rfl
@[simp] theorem qt_part {g : Bool} {o n : Nat} {x : Arg} : quietOp E (.part g o n x) = true := id rfl
@[simp] theorem qt_idxS {e : Nat} {x y : Arg} : quietOp E (.idxS e x y) = true := id rfl
@[simp] theorem qt_idxA {n e : Nat} {x y : Arg} : quietOp E (.idxA n e x y) = true := id rfl
@[simp] theorem qt_idxV {g : Bool} {n e : Nat} {x y : Arg} : quietOp E (.idxV g n e x y) = true := id rfl
@[simp] theorem qt_idxStr {x y : Arg} : quietOp E (.idxStr x y) = true := id rfl
@[simp] theorem qt_lookup {k : EqK} {z : AV} {o : Bool} {x y : Arg} : quietOp E (.lookup k z o x y) = true := id rfl
@[simp] theorem qt_mapSet {k : EqK} {x y z : Arg} : quietOp E (.mapSet k x y z) = false := id rfl
@[simp] theorem qt_rangeStr {x : Arg} : quietOp E (.rangeStr x) = false := id rfl
@[simp] theorem qt_nextStr {x : Arg} : quietOp E (.nextStr x) = false := id rfl
@[simp] theorem qt_tassert {t : Nat} {z : AV} {o : Bool} {x : Arg} : quietOp E (.tassert t z o x) = true := id rfl
@[simp] theorem qt_extract {x : Arg} {i : Nat} : quietOp E (.extract x i) = true := id rfl
@[simp] theorem qt_append {e b : Nat} {x y : Arg} : quietOp E (.append e b x y) = false := id rfl
@[simp] theorem qt_appendZ {e b : Nat} {z : AV} {x y : Arg} : quietOp E (.appendZ e b z x y) = false := id rfl
@[simp] theorem qt_len {k : LK} {x : Arg} : quietOp E (.len k x) = true := id rfl
@[simp] theorem qt_lenConst {n : Nat} : quietOp E (.lenConst n) = true := id rfl
@[simp] theorem qt_capClip {x : Arg} : quietOp E (.capClip x) = true := id rfl
@[simp] theorem qt_min2 {x y : Arg} : quietOp E (.min2 x y) = true := id rfl
@[simp] theorem qt_max2 {x y : Arg} : quietOp E (.max2 x y) = true := id rfl
@[simp] theorem qt_clear {e : Nat} {z : AV} {x : Arg} : quietOp E (.clear e z x) = false := id rfl
@[simp] theorem qt_clearMap {x : Arg} : quietOp E (.clearMap x) = false := id rfl
@[simp] theorem qt_call {g : FuncId} {a b : List AV} {l : List Arg} : quietOp E (.call (.const (.func (.func g) a b)) l) = !(E.noisy g) := id rfl
@[simp] theorem qt_callr {t : Nat} {l : List Arg} : quietOp E (.call (.reg t) l) = false := id rfl
@[simp] theorem qt_invoke {x : Arg} {m : String} {l : List Arg} : quietOp E (.invoke x m l) = false := id rfl
@[simp] theorem qs_nil : quietSeg E [] = true := id rfl
@[simp] theorem qs_cons {q : IOper × List Nat} {l : List (IOper × List Nat)} : quietSeg E (q :: l) = (quietOp E q.1.op && quietSeg E l) := id rfl

@[simp] theorem bin_geq {k : IntKind} {a b : Int} : bin .geq (.int k a) (.int k b) = some (.bool (decide (a ≥ b))) := by simp [bin]
@[simp] theorem bin_leq {k : IntKind} {a b : Int} : bin .leq (.int k a) (.int k b) = some (.bool (decide (a ≤ b))) := by simp [bin]
@[simp] theorem bin_lss {k : IntKind} {a b : Int} : bin .lss (.int k a) (.int k b) = some (.bool (decide (a < b))) := by simp [bin]
@[simp] theorem bin_gtr {k : IntKind} {a b : Int} : bin .gtr (.int k a) (.int k b) = some (.bool (decide (a > b))) := by simp [bin]
@[simp] theorem bin_add {k : IntKind} {a b : Int} : bin .add (.int k a) (.int k b) = some (.int k (k.wrap (a + b))) := by simp [bin]
@[simp] theorem bin_sub {k : IntKind} {a b : Int} : bin .sub (.int k a) (.int k b) = some (.int k (k.wrap (a - b))) := by simp [bin]
@[simp] theorem bin_mul {k : IntKind} {a b : Int} : bin .mul (.int k a) (.int k b) = some (.int k (k.wrap (a * b))) := by simp [bin]
@[simp] theorem eq_int {k : IntKind} {a b : Int} : eqBy (.one .int) (.int k a) (.int k b) = some (decide (a = b)) := by simp [eqBy, basicEq]; rfl
@[simp] theorem eq_many {ks : List KC} {x y : List AV} : eqBy (.many ks) (.agg x) (.agg y) = flatEq ks x y := id rfl
@[simp] theorem flat_nil : flatEq [] [] [] = some true := id rfl
@[simp] theorem flat_cons {k : KC} {ks : List KC} {a b : AV} {x y : List AV} : flatEq (k :: ks) (a :: x) (b :: y) = (basicEq k a b).bind fun p => (flatEq ks x y).map (p && ·) := by
  simp only [flatEq]
  cases basicEq k a b <;> cases flatEq ks x y <;> rfl
@[simp] theorem basic_int {k : IntKind} {a b : Int} : basicEq .int (.int k a) (.int k b) = some (decide (a = b)) := by simp [basicEq]; rfl
@[simp] theorem basic_bool {a b : Bool} : basicEq .bool (.bool a) (.bool b) = some (a == b) := id rfl
@[simp] theorem basic_str {a b : ByteArray} : basicEq .str (.str a) (.str b) = some (a.toList == b.toList) := id rfl
@[simp] theorem eq_bool {a b : Bool} : eqBy (.one .bool) (.bool a) (.bool b) = some (a == b) := rfl
@[simp] theorem eq_str {a b : ByteArray} : eqBy (.one .str) (.str a) (.str b) = some (a.toList == b.toList) := rfl
@[simp] theorem cells_agg {cs : List AV} : (AV.agg cs).cells = cs := id rfl
@[simp] theorem cells_bool {b : Bool} : (AV.bool b).cells = [.bool b] := id rfl
@[simp] theorem cells_int {k : IntKind} {n : Int} : (AV.int k n).cells = [.int k n] := id rfl
@[simp] theorem cells_str {b : ByteArray} : (AV.str b).cells = [.str b] := id rfl
@[simp] theorem cells_frz {es : List AV} {b : Bool} : (AV.frz es b).cells = [.frz es b] := id rfl
@[simp] theorem cells_own {a b c : Nat} {d : Bool} : (AV.own a b c d).cells = [.own a b c d] := id rfl
@[simp] theorem cells_ptr {a b c : Nat} : (AV.ptr a b c).cells = [.ptr a b c] := id rfl
@[simp] theorem cells_fp {es : List AV} {b c : Nat} : (AV.fp es b c).cells = [.fp es b c] := id rfl
@[simp] theorem cells_nilp : AV.nilp.cells = [.nilp] := id rfl
@[simp] theorem cells_nilm : AV.nilm.cells = [.nilm] := id rfl
@[simp] theorem cells_nilf : AV.nilf.cells = [.nilf] := id rfl
@[simp] theorem cells_nili : AV.nili.cells = [.nili] := id rfl
@[simp] theorem cells_map {m : Nat} : (AV.map m).cells = [.map m] := id rfl
@[simp] theorem cells_func {f : Fn} {a b : List AV} : (AV.func f a b).cells = [.func f a b] := id rfl
@[simp] theorem cells_yld {m : Nat} : (AV.yld m).cells = [.yld m] := id rfl
@[simp] theorem cells_iface {t : Nat} {v : AV} : (AV.iface t v).cells = [.iface t v] := id rfl
@[simp] theorem isc_agg {cs : List AV} : (AV.agg cs).isCell = false := id rfl
@[simp] theorem isc_tuple {cs : List AV} : (AV.tuple cs).isCell = false := id rfl
@[simp] theorem isc_bool {b : Bool} : (AV.bool b).isCell = true := id rfl
@[simp] theorem isc_int {k : IntKind} {n : Int} : (AV.int k n).isCell = true := id rfl
@[simp] theorem isc_str {b : ByteArray} : (AV.str b).isCell = true := id rfl
@[simp] theorem isc_frz {es : List AV} {b : Bool} : (AV.frz es b).isCell = true := id rfl
@[simp] theorem isc_own {a b c : Nat} {d : Bool} : (AV.own a b c d).isCell = true := id rfl
@[simp] theorem isc_ptr {a b c : Nat} : (AV.ptr a b c).isCell = true := id rfl
@[simp] theorem isc_fp {es : List AV} {b c : Nat} : (AV.fp es b c).isCell = true := id rfl
@[simp] theorem isc_nilp : AV.nilp.isCell = true := id rfl
@[simp] theorem isc_nilm : AV.nilm.isCell = true := id rfl
@[simp] theorem isc_nilf : AV.nilf.isCell = true := id rfl
@[simp] theorem isc_nili : AV.nili.isCell = true := id rfl
@[simp] theorem isc_map {m : Nat} : (AV.map m).isCell = true := id rfl
@[simp] theorem isc_func {f : Fn} {a b : List AV} : (AV.func f a b).isCell = true := id rfl
@[simp] theorem isc_yld {m : Nat} : (AV.yld m).isCell = true := id rfl
@[simp] theorem isc_iface {t : Nat} {v : AV} : (AV.iface t v).isCell = true := id rfl
@[simp] theorem rmk_agg {cs ds : List AV} : (AV.agg cs).remake ds = .agg ds := id rfl
@[simp] theorem rmk_int {k : IntKind} {n : Int} {ds : List AV} : (AV.int k n).remake ds = ds.headD undefA := id rfl
@[simp] theorem rmk_bool {b : Bool} {ds : List AV} : (AV.bool b).remake ds = ds.headD undefA := id rfl
@[simp] theorem rmk_str {b : ByteArray} {ds : List AV} : (AV.str b).remake ds = ds.headD undefA := id rfl
@[simp] theorem rmk_frz {es : List AV} {b : Bool} {ds : List AV} : (AV.frz es b).remake ds = ds.headD undefA := id rfl
@[simp] theorem rmk_own {a b c : Nat} {d : Bool} {ds : List AV} : (AV.own a b c d).remake ds = ds.headD undefA := id rfl
@[simp] theorem len_str {s : ByteArray} : lenA A .str (.str s) = some (.int .i64 s.size) := id rfl
@[simp] theorem len_frz {es : List AV} {c : Bool} : lenA A .slice (.frz es c) = some (.int .i64 es.length) := id rfl
@[simp] theorem len_own {i o n : Nat} {c : Bool} : lenA A .slice (.own i o n c) = some (.int .i64 n) := id rfl
@[simp] theorem len_nilm : lenA A .map .nilm = some (.int .i64 0) := id rfl
@[simp] theorem len_map {m : Nat} : lenA A .map (.map m) = match hget A m with | .map es => some (.int .i64 es.length) | _ => none := id rfl
@[simp] theorem ld_ptr {g : Bool} {n i j o : Nat} : ld A g n (.ptr i j o) = match spotOf A (.ptr i j o) with | some (e, off) => cut g n off e.cells | none => none := id rfl
@[simp] theorem ld_fp {g : Bool} {n i o : Nat} {es : List AV} : ld A g n (.fp es i o) = match spotOf A (.fp es i o) with | some (e, off) => cut g n off e.cells | none => none := id rfl
@[simp] theorem idxS_frz {e : Nat} {es : List AV} {c : Bool} {k : IntKind} {j : Int} : idxSA A e (.frz es c) (.int k j) = if 0 ≤ j ∧ j < es.length ∧ ((es.getD j.toNat undefA).cells.length = e) then some (.fp es j.toNat 0) else none := id rfl
@[simp] theorem idxS_own {e i0 off len : Nat} {c : Bool} {k : IntKind} {j : Int} : idxSA A e (.own i0 off len c) (.int k j) = match hget A i0 with
    | .cells e' _ => if 0 ≤ j ∧ j < len ∧ e' = e then some (.ptr i0 (off + j.toNat) 0) else none
    | _ => none := id rfl
@[simp] theorem slice_frz {es : List AV} {clip : Bool} {lo hi max : Option AV} : sliceA (.frz es clip) lo hi max = match bound hi es.length es.length with
    | some h => match bound lo 0 h with
      | some l => match max with
        | none => some (.frz ((es.take h).drop l) (clip && decide (h = es.length)))
        | some (.int _ m) => if m = h ∧ hi.isSome then some (.frz ((es.take h).drop l) true) else none
        | some _ => none
      | none => none
    | none => none := id rfl
@[simp] theorem slice_own {i0 off len : Nat} {clip : Bool} {lo hi max : Option AV} : sliceA (.own i0 off len clip) lo hi max = match bound hi len len with
    | some h => match bound lo 0 h with
      | some l => match max with
        | none => some (.own i0 (off + l) (h - l) (clip && decide (h = len)))
        | some (.int _ m) => if m = h ∧ hi.isSome then some (.own i0 (off + l) (h - l) true) else none
        | some _ => none
      | none => none
    | none => none := id rfl
@[simp] theorem elems_frz {es : List AV} {c : Bool} : elems A (.frz es c) = some es := id rfl
@[simp] theorem elems_own {i0 off len : Nat} {c : Bool} : elems A (.own i0 off len c) = match hget A i0 with
    | .cells _ es => if off + len ≤ es.length then some ((es.drop off).take len) else none
    | _ => none := id rfl
attribute [simp] spotOf cut st overlay addOffA fillA fillS partA idxAA idxVA idxStrA bound sliceStrA tassertA isNilA un minA maxA lookupA mapEntries findA okKey mapSetA mkSliceA
@[simp] theorem wide_nil {e : Nat} {c : Bool} : wide A e (.frz [] c) = true := id rfl
@[simp] theorem wide_cons {e : Nat} {c : Bool} {x : AV} {l : List AV} : wide A e (.frz (x :: l) c) = decide (x.cells.length = e) := id rfl
@[simp] theorem wide_map {X : Type} {e : Nat} {c : Bool} {l : List X} {g : X → AV} (h : ∀ x, (g x).cells.length = e) : wide A e (.frz (l.map g) c) = true := by
  cases l with
  | nil => rfl
  | cons x l => simp [h]
theorem wide_own {e id o n : Nat} {c : Bool} : wide A e (.own id o n c) = match hget A id with | .cells e' _ => decide (e' = e) | _ => false := rfl
attribute [simp] wide_own
@[simp] theorem hset_app' {l : List Blk} {i : Nat} {b : Blk} (h : i < l.length) : hset (A ++ l) (A.length + i) b = A ++ l.set i b := hset_app h
@[simp] theorem hset_app0' {l : List Blk} {b : Blk} (h : 0 < l.length) : hset (A ++ l) A.length b = A ++ l.set 0 b := hset_app0 h
@[simp] theorem hget_lit {b : Blk} {l : List Blk} : hget (b :: l) 0 = b := id rfl
@[simp] theorem hget_lit_succ {b : Blk} {l : List Blk} {i : Nat} : hget (b :: l) (i + 1) = hget l i := id rfl
@[simp] theorem trunc_append2 {l m : List Blk} : trunc A ((A ++ l) ++ m) = some A := by rw [List.append_assoc]; exact trunc_append
@[simp] theorem fz_bool {n k : Nat} {t : Bool} {b : Bool} : freeze n A (k + 1) t (.bool b) = some (.bool b) := id rfl
@[simp] theorem fz_int {n k : Nat} {t : Bool} {q : IntKind} {i : Int} : freeze n A (k + 1) t (.int q i) = some (.int q i) := id rfl
@[simp] theorem fz_str {n k : Nat} {t : Bool} {b : ByteArray} : freeze n A (k + 1) t (.str b) = some (.str b) := id rfl
@[simp] theorem fz_frz {n k : Nat} {t : Bool} {es : List AV} {b : Bool} : freeze n A (k + 1) t (.frz es b) = some (.frz es b) := id rfl
@[simp] theorem fz_fp {n k : Nat} {t : Bool} {es : List AV} {i j : Nat} : freeze n A (k + 1) t (.fp es i j) = some (.fp es i j) := id rfl
@[simp] theorem fz_nilp {n k : Nat} {t : Bool} : freeze n A (k + 1) t .nilp = some .nilp := id rfl
@[simp] theorem fz_nilm {n k : Nat} {t : Bool} : freeze n A (k + 1) t .nilm = some .nilm := id rfl
@[simp] theorem fz_nilf {n k : Nat} {t : Bool} : freeze n A (k + 1) t .nilf = some .nilf := id rfl
@[simp] theorem fz_nili {n k : Nat} {t : Bool} : freeze n A (k + 1) t .nili = some .nili := id rfl
@[simp] theorem fz_iface {n k : Nat} {t : Bool} {i : Nat} {v : AV} : freeze n A (k + 1) t (.iface i v) = (freeze n A k t v).map (.iface i) := id rfl
@[simp] theorem fz_agg {n k : Nat} {t : Bool} {l : List AV} : freeze n A (k + 1) t (.agg l) = (freezeList (freeze n A k t) l).map .agg := id rfl
@[simp] theorem fz_tuple {n k : Nat} {t : Bool} {l : List AV} : freeze n A (k + 1) t (.tuple l) = (freezeList (freeze n A k t) l).map .tuple := id rfl
@[simp] theorem fzl_nil {f : AV → Option AV} : freezeList f [] = some [] := id rfl
@[simp] theorem fzl_cons {f : AV → Option AV} {a : AV} {l : List AV} : freezeList f (a :: l) = (f a).bind fun b => (freezeList f l).map (b :: ·) := by
  simp only [freezeList]
  cases f a <;> cases freezeList f l <;> rfl
/-- What is handed back and what is left of the memory. -/
theorem leave_def {keep : Bool} {v : AV} : leave keep A A' v = if keep then (v, A') else match freeze A.length A' (63 + 1) true v, trunc A A' with
  | some v', some A'' => (v', A'')
  | _, _ => (v, A') := rfl
@[simp] theorem trunc_self' : trunc A A = some A := trunc_self
attribute [simp] leave_def

@[simp] theorem un_bool {n : Nat} {b : Bool} : (AV.bool b).under n = true := id rfl
@[simp] theorem un_int {n : Nat} {k : IntKind} {i : Int} : (AV.int k i).under n = true := id rfl
@[simp] theorem un_str {n : Nat} {b : ByteArray} : (AV.str b).under n = true := id rfl
@[simp] theorem un_frz {n : Nat} {es : List AV} {b : Bool} : (AV.frz es b).under n = true := id rfl
@[simp] theorem un_fp {n : Nat} {es : List AV} {i j : Nat} : (AV.fp es i j).under n = true := id rfl
@[simp] theorem un_nilp {n : Nat} : AV.nilp.under n = true := id rfl
@[simp] theorem un_nilm {n : Nat} : AV.nilm.under n = true := id rfl
@[simp] theorem un_nilf {n : Nat} : AV.nilf.under n = true := id rfl
@[simp] theorem un_nili {n : Nat} : AV.nili.under n = true := id rfl
@[simp] theorem un_iface {n t : Nat} {v : AV} : (AV.iface t v).under n = v.under n := id rfl
@[simp] theorem un_agg {n : Nat} {l : List AV} : (AV.agg l).under n = AV.unders n l := id rfl
@[simp] theorem un_tuple {n : Nat} {l : List AV} : (AV.tuple l).under n = AV.unders n l := id rfl
@[simp] theorem un_func {n : Nat} {f : Fn} {a b : List AV} : (AV.func f a b).under n = (AV.unders n a && AV.unders n b) := id rfl
@[simp] theorem un_own {n a b c : Nat} {d : Bool} : (AV.own a b c d).under n = decide (a < n) := id rfl
@[simp] theorem un_ptr {n a b c : Nat} : (AV.ptr a b c).under n = decide (a < n) := id rfl
@[simp] theorem un_map {n a : Nat} : (AV.map a).under n = decide (a < n) := id rfl
@[simp] theorem un_yld {n a : Nat} : (AV.yld a).under n = decide (a < n) := id rfl
@[simp] theorem uns_nil {n : Nat} : AV.unders n [] = true := id rfl
@[simp] theorem uns_cons {n : Nat} {a : AV} {l : List AV} : AV.unders n (a :: l) = (a.under n && AV.unders n l) := id rfl
@[simp] theorem hset_lt {i : Nat} {b : Blk} (h : i < A.length) : hset A i b = A.set i b := by unfold hset; rw [if_pos h]
theorem hget_snoc {b : Blk} : hget (A ++ [b]) A.length = b := by simp [hget, List.getD]

attribute [simp] rget_regs rput_some rput_none applyOut_val applyOut_new applyOut_set hget_app hget_app0 evOp arg args

@[simp] theorem upd_apply {f : Nat → AV} {i j : Nat} {v : AV} : upd f i v j = if j = i then v else f j := rfl
@[simp] theorem ini_apply {l : List AV} {i : Nat} : ini l i = l.getD i undefA := rfl
@[simp] theorem res_nil : resOf R A [] = some [] := rfl
@[simp] theorem res_tmp {t : Nat} {l : List IRes} : resOf R A (.tmp t :: l) = (resOf R A l).map (rget R t :: ·) := by
  simp only [resOf]
  cases resOf R A l <;> rfl
@[simp] theorem res_cell {t n : Nat} {g : Bool} {l : List IRes} : resOf R A (.cell t g n :: l) = match ld A g n (rget R t) with | some v => (resOf R A l).map (v :: ·) | none => none := by
  simp only [resOf]
  cases ld A g n (rget R t) <;> cases resOf R A l <;> rfl
@[simp] theorem tupled_one {v : AV} : tupled [v] = v := rfl
@[simp] theorem tupled_two {v w : AV} {l : List AV} : tupled (v :: w :: l) = .tuple (v :: w :: l) := rfl

end Go.Abs

/- Loops by invariants; what a call comes to, for rewriting. -/
namespace Go.Abs

variable {E : Env} {Λ : List LoopInfo} {R R' : Regs} {A A' : Heap}

theorem kWp_mono {c : ICode} {k k' : KE} (h : @kWp E Λ c R A k) (hq : ∀ e R' A', k.run e R' A' → k'.run e R' A') : @kWp E Λ c R A k' := Wp.mono h hq

/-- A loop, by an invariant and a measure. -/
theorem k_while {b : ICode} {N : Nat} {k : KE} {f : Nat → AV} (I : Nat → (Nat → AV) → Heap → Prop) {m : Nat} (h : I m f A)
    (step : ∀ m f A, I m f A → @kWp E Λ b (regs N f) A ⟨fun e R' A' => @kThn e ⟨∃ m' f', m' < m ∧ R' = regs N f' ∧ I m' f' A'⟩ ⟨k.run e R' A'⟩⟩) : @kWp E Λ (.loop b) (regs N f) A k := by
  induction m using Nat.strongRecOn generalizing f A with
  | _ m ih =>
    rw [k_loop]
    refine kWp_mono (step m f A h) (fun e R' A' hq => ?_)
    cases e with
    | normal =>
      obtain ⟨m', f', h1, rfl, h2⟩ := hq
      exact ih m' h1 h2
    | exit i => exact hq
    | ret => exact hq
    | panic v => exact hq

/-- Once more. -/
def Again (N j n : Nat) (R' : Regs) (A' : Heap) [I : Kont (Nat → (Nat → AV) → Heap → Prop)] : Prop := j ≤ n ∧ ∃ f', R' = regs N f' ∧ I.run j f' A'

/-- A loop that counts. -/
theorem k_for {b : ICode} {N : Nat} {k : KE} {f : Nat → AV} (I : Nat → (Nat → AV) → Heap → Prop) (n : Nat) (h : I 0 f A)
    (step : ∀ j f A, j ≤ n → I j f A → @kWp E Λ b (regs N f) A ⟨fun e R' A' => @kThn e ⟨@Again N (j + 1) n R' A' ⟨I⟩⟩ ⟨k.run e R' A'⟩⟩) : @kWp E Λ (.loop b) (regs N f) A k := by
  refine k_while (fun m f A => ∃ j, m = n - j ∧ j ≤ n ∧ I j f A) (m := n) ⟨0, rfl, Nat.zero_le _, h⟩ ?_
  rintro m f A ⟨j, rfl, hj, hI⟩
  refine kWp_mono (step j f A hj hI) (fun e R' A' hq => ?_)
  cases e with
  | normal =>
    obtain ⟨h1, f', rfl, h2⟩ := hq
    exact ⟨n - (j + 1), f', by omega, rfl, j + 1, rfl, h1, h2⟩
  | exit i => exact hq
  | ret => exact hq
  | panic v => exact hq

/-- What is known of registers and memory. -/
def Stand (N : Nat) (R' : Regs) (A' : Heap) [I : Kont ((Nat → AV) → Heap → Prop)] : Prop := ∃ f', R' = regs N f' ∧ I.run f' A'

/-- A part of the code, by what is known behind it. -/
theorem k_cut {c : ICode} {N : Nat} {k : KE} (I : (Nat → AV) → Heap → Prop) (h : @kWp E Λ c R A ⟨fun e R' A' => @kThn e ⟨@Stand N R' A' ⟨I⟩⟩ ⟨k.run e R' A'⟩⟩) (h2 : ∀ f B, I f B → k.run .normal (regs N f) B) : @kWp E Λ c R A k := by
  refine kWp_mono h (fun e R' A' hq => ?_)
  cases e with
  | normal => obtain ⟨f, rfl, hi⟩ := hq; exact h2 f A' hi
  | exit i => exact hq
  | ret => exact hq
  | panic v => exact hq

/-- One answer, whatever follows. -/
theorem call_iff {f : AV} {xs : List AV} {r : CRes} {k : KL} (h : ∀ k : KL, k.run r A' → @kCall E Λ f xs A k) : @kCall E Λ f xs A k ↔ k.run r A' := by
  refine ⟨fun hk => ?_, h k⟩
  obtain ⟨n, r1, A1, h1, h2, h3⟩ := h ⟨fun r' B => r' = r ∧ B = A'⟩ ⟨rfl, rfl⟩
  obtain ⟨m, r2, A2, h4, h5⟩ := hk
  have := call_one h1 h4
  cases this
  subst h2; subst h3
  exact h5

theorem wrap_i64 {n : Int} (h1 : -9223372036854775808 ≤ n) (h2 : n ≤ 9223372036854775807) : IntKind.i64.wrap n = n := by
  unfold IntKind.wrap
  simp [IntKind.signed, IntKind.bits]
  omega

theorem wrap_succ {j : Nat} (h : j < 9223372036854775807) : IntKind.i64.wrap ((j : Int) + 1) = ((j + 1 : Nat) : Int) := by
  rw [wrap_i64 (by omega) (by omega)]; simp

end Go.Abs
