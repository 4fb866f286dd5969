/- A part of the proof: lemmas, no statement of the seat is proved in this file. -/
import Derived.Test.YtgbfbhahnoafoaaGreatDoorQ7
set_option autoImplicit false
set_option maxRecDepth 100000

/- The evaluator made to be run by the kernel: values and operations. -/
namespace Go.Abs

noncomputable section

theorem brec_if {X : Type} {b : Bool} {x y : X} : @Bool.rec (fun _ => X) y x b = if b = true then x else y := by cases b <;> rfl

/-! ### Values, looked at -/

def AV.asInt (v : AV) : Option (IntKind × Int) :=
  @AV.rec (fun _ => Option (IntKind × Int)) (fun _ => Unit)
    (fun _ => none) (fun k n => some (k, n)) (fun _ => none) (fun _ _ _ => none) (fun _ _ _ _ => none) none (fun _ _ _ => none) (fun _ _ _ _ => none) (fun _ => none) none (fun _ _ _ _ _ => none) (fun _ => none) none (fun _ _ _ => none) none (fun _ _ => none) (fun _ _ => none) () (fun _ _ _ _ => ()) v
/-- A whole number, not below zero. -/
def AV.asNat (v : AV) : Option Nat :=
  @AV.rec (fun _ => Option Nat) (fun _ => Unit)
    (fun _ => none) (fun _ n => @Int.rec (fun _ => Option Nat) (fun m => some m) (fun _ => none) n) (fun _ => none) (fun _ _ _ => none) (fun _ _ _ _ => none) none (fun _ _ _ => none) (fun _ _ _ _ => none) (fun _ => none) none (fun _ _ _ _ _ => none) (fun _ => none) none (fun _ _ _ => none) none (fun _ _ => none) (fun _ _ => none) () (fun _ _ _ _ => ()) v
def AV.asBool (v : AV) : Option Bool :=
  @AV.rec (fun _ => Option Bool) (fun _ => Unit)
    (fun b => some b) (fun _ _ => none) (fun _ => none) (fun _ _ _ => none) (fun _ _ _ _ => none) none (fun _ _ _ => none) (fun _ _ _ _ => none) (fun _ => none) none (fun _ _ _ _ _ => none) (fun _ => none) none (fun _ _ _ => none) none (fun _ _ => none) (fun _ _ => none) () (fun _ _ _ _ => ()) v
def AV.asAgg (v : AV) : Option (List AV) :=
  @AV.rec (fun _ => Option (List AV)) (fun _ => Unit)
    (fun _ => none) (fun _ _ => none) (fun _ => none) (fun _ _ _ => none) (fun _ _ _ _ => none) none (fun _ _ _ => none) (fun _ _ _ _ => none) (fun _ => none) none (fun _ _ _ _ _ => none) (fun _ => none) none (fun _ _ _ => none) none (fun cs _ => some cs) (fun _ _ => none) () (fun _ _ _ _ => ()) v
def AV.asTuple (v : AV) : Option (List AV) :=
  @AV.rec (fun _ => Option (List AV)) (fun _ => Unit)
    (fun _ => none) (fun _ _ => none) (fun _ => none) (fun _ _ _ => none) (fun _ _ _ _ => none) none (fun _ _ _ => none) (fun _ _ _ _ => none) (fun _ => none) none (fun _ _ _ _ _ => none) (fun _ => none) none (fun _ _ _ => none) none (fun _ _ => none) (fun cs _ => some cs) () (fun _ _ _ _ => ()) v
def isCellK (v : AV) : Bool :=
  @AV.rec (fun _ => Bool) (fun _ => Unit)
    (fun _ => true) (fun _ _ => true) (fun _ => true) (fun _ _ _ => true) (fun _ _ _ _ => true) true (fun _ _ _ => true) (fun _ _ _ _ => true) (fun _ => true) true (fun _ _ _ _ _ => true) (fun _ => true) true (fun _ _ _ => true) true (fun _ _ => false) (fun _ _ => false) () (fun _ _ _ _ => ()) v

theorem isCellK_eq (v : AV) : isCellK v = v.isCell := by cases v <;> rfl
def cellsK (v : AV) : List AV := @Option.rec (List AV) (fun _ => List AV) [v] (fun cs => cs) v.asAgg
theorem cellsK_eq (v : AV) : cellsK v = v.cells := by cases v <;> rfl
def cellK (l : List AV) : Bool := lall isCellK l
theorem cellK_eq (l : List AV) : cellK l = l.all AV.isCell := by
  unfold cellK
  rw [lall_eq]
  congr 1
  funext v
  exact isCellK_eq v
def headK (l : List AV) : AV := @List.rec AV (fun _ => AV) undefA (fun a _ _ => a) l
def remakeK (e : AV) (cs : List AV) : AV := @Option.rec (List AV) (fun _ => AV) (headK cs) (fun _ => .agg cs) e.asAgg
theorem remakeK_eq (e : AV) (cs : List AV) : remakeK e cs = e.remake cs := by cases e <;> cases cs <;> rfl

/-! ### Memory -/

def cutK (agg : Bool) (n off : Nat) (cs : List AV) : Option AV := @Bool.rec (fun _ => Option AV) (lget? cs off) (@Bool.rec (fun _ => Option AV) none (some (.agg (ltake (ldrop cs off) n))) (Nat.ble (Nat.add off n) (llen cs))) agg
theorem cutK_eq (agg : Bool) (n off : Nat) (cs : List AV) : cutK agg n off cs = cut agg n off cs := by
  unfold cutK cut
  cases agg with
  | false => simp [lget?_eq]
  | true =>
    simp only [ltake_eq, ldrop_eq, llen_eq, if_true, brec_if, Nat.ble_eq]
    rfl

def ldE (es : List AV) (i off : Nat) (agg : Bool) (n : Nat) : Option AV := @Option.rec AV (fun _ => Option AV) none (fun e => cutK agg n off (cellsK e)) (lget? es i)
def ldK (p : AV) : Heap → Bool → Nat → Option AV :=
  @AV.rec (fun _ => Heap → Bool → Nat → Option AV) (fun _ => Unit)
    (fun _ _ _ _ => none) (fun _ _ _ _ _ => none) (fun _ _ _ _ => none) (fun _ _ _ _ _ _ => none) (fun _ _ _ _ _ _ _ => none) (fun _ _ _ => none)
    (fun id i off A agg n => @Blk.rec (fun _ => Option AV) none (fun _ es => ldE es i off agg n) (fun _ => none) (fun _ _ => none) (fun _ _ => none) (hgetK A id))
    (fun es i off _ _ agg n => ldE es i off agg n) (fun _ _ _ _ => none) (fun _ _ _ => none) (fun _ _ _ _ _ _ _ _ => none) (fun _ _ _ _ => none) (fun _ _ _ => none) (fun _ _ _ _ _ _ => none) (fun _ _ _ => none) (fun _ _ _ _ _ => none) (fun _ _ _ _ _ => none) () (fun _ _ _ _ => ()) p
theorem ldK_eq (p : AV) (A : Heap) (agg : Bool) (n : Nat) : ldK p A agg n = ld A agg n p := by
  have key : ∀ (es : List AV) (i off : Nat), ldE es i off agg n = match es[i]?.map fun e => (e, off) with | some (e, off) => cut agg n off e.cells | none => none := fun es i off => by
    unfold ldE
    rw [lget?_eq]
    cases es[i]? with
    | none => rfl
    | some e => simp [cutK_eq, cellsK_eq]
  cases p with
  | ptr id i off =>
    show @Blk.rec (fun _ => Option AV) none (fun _ es => ldE es i off agg n) (fun _ => none) (fun _ _ => none) (fun _ _ => none) (hgetK A id) = _
    rw [hgetK_eq]
    show _ = (match (match hget A id with | .cells _ es => es[i]?.map fun e => (e, off) | _ => none) with | some (e, off) => cut agg n off e.cells | none => none)
    generalize hget A id = b
    cases b <;> first | rfl | exact key _ _ _
  | fp es i off => exact key es i off
  | _ => rfl

def stE (id esz : Nat) (es : List AV) (i off n : Nat) (x : List AV) : Option (Nat × Blk) := @Option.rec AV (fun _ => Option (Nat × Blk)) none
  (fun e => @Bool.rec (fun _ => Option (Nat × Blk)) none (some (id, .cells esz (lset es i (remakeK e (lput (cellsK e) off x)))))
    (and (Nat.blt 0 n) (and (Nat.beq (llen x) n) (and (Nat.ble (Nat.add off n) (llen (cellsK e))) (cellK x))))) (lget? es i)
def stK (p : AV) : AV → Nat → Heap → Option (Nat × Blk) :=
  @AV.rec (fun _ => AV → Nat → Heap → Option (Nat × Blk)) (fun _ => Unit)
    (fun _ _ _ _ => none) (fun _ _ _ _ _ => none) (fun _ _ _ _ => none) (fun _ _ _ _ _ _ => none) (fun _ _ _ _ _ _ _ => none) (fun _ _ _ => none)
    (fun id i off x n A => @Blk.rec (fun _ => Option (Nat × Blk)) none (fun esz es => stE id esz es i off n (cellsK x)) (fun _ => none) (fun _ _ => none) (fun _ _ => none) (hgetK A id))
    (fun _ _ _ _ _ _ _ => none) (fun _ _ _ _ => none) (fun _ _ _ => none) (fun _ _ _ _ _ _ _ _ => none) (fun _ _ _ _ => none) (fun _ _ _ => none) (fun _ _ _ _ _ _ => none) (fun _ _ _ => none) (fun _ _ _ _ _ => none) (fun _ _ _ _ _ => none) () (fun _ _ _ _ => ()) p

theorem stK_eq (p x : AV) (n : Nat) (A : Heap) : stK p x n A = st A n p x := by
  cases p with
  | ptr id i off =>
    show @Blk.rec (fun _ => Option (Nat × Blk)) none (fun esz es => stE id esz es i off n (cellsK x)) (fun _ => none) (fun _ _ => none) (fun _ _ => none) (hgetK A id) = _
    rw [hgetK_eq]
    simp only [st]
    generalize hget A id = b
    cases b <;> try rfl
    rename_i esz es
    simp only [stE]
    rw [lget?_eq]
    cases es[i]? with
    | none => rfl
    | some e =>
      simp only [brec_if, lset_eq, remakeK_eq, lput_eq, cellsK_eq, llen_eq, cellK_eq]
      congr 1
      simp only [Bool.and_eq_true, Nat.blt_eq, Nat.ble_eq, Nat.beq_eq]
      rfl
  | _ => rfl

/-! ### Operations on values -/

def iltK (a b : Int) : Bool := @Int.rec (fun _ => Bool) (fun m => @Int.rec (fun _ => Bool) (fun n => Nat.blt m n) (fun _ => false) b) (fun m => @Int.rec (fun _ => Bool) (fun _ => true) (fun n => Nat.blt n m) b) a
theorem iltK_eq (a b : Int) : iltK a b = decide (a < b) := by
  rw [Bool.eq_iff_iff, decide_eq_true_eq]
  cases a with
  | ofNat m => cases b with
    | ofNat n => show Nat.blt m n = true ↔ _; rw [Nat.blt_eq]; simp [Int.ofNat_lt]
    | negSucc n => show false = true ↔ _; simp; omega
  | negSucc m => cases b with
    | ofNat n => show true = true ↔ _; simp; omega
    | negSucc n => show Nat.blt n m = true ↔ _; rw [Nat.blt_eq]; omega
def ieqK (a b : Int) : Bool := @Int.rec (fun _ => Bool) (fun m => @Int.rec (fun _ => Bool) (fun n => Nat.beq m n) (fun _ => false) b) (fun m => @Int.rec (fun _ => Bool) (fun _ => false) (fun n => Nat.beq m n) b) a
theorem ieqK_eq (a b : Int) : ieqK a b = decide (a = b) := by
  rw [Bool.eq_iff_iff, decide_eq_true_eq]
  cases a with
  | ofNat m => cases b with
    | ofNat n => show Nat.beq m n = true ↔ _; rw [Nat.beq_eq]; simp; omega
    | negSucc n => show false = true ↔ _; simp
  | negSucc m => cases b with
    | ofNat n => show false = true ↔ _; simp
    | negSucc n => show Nat.beq m n = true ↔ _; rw [Nat.beq_eq]; simp

def isI64 (k : IntKind) : Bool := @IntKind.rec (fun _ => Bool) false false false true false false false false k
/-- A kind's number. -/
def kindNo (k : IntKind) : Nat := @IntKind.rec (fun _ => Nat) 0 1 2 3 4 5 6 7 k
def kindEq (k j : IntKind) : Bool := Nat.beq (kindNo k) (kindNo j)
theorem kindEq_eq (k j : IntKind) : kindEq k j = decide (k = j) := by cases k <;> cases j <;> rfl

def wrapK (k : IntKind) (n : Int) : Int := @Bool.rec (fun _ => Int) (k.wrap n) (@Int.rec (fun _ => Int)
  (fun m => @Bool.rec (fun _ => Int) (k.wrap (.ofNat m)) (.ofNat m) (Nat.blt m 9223372036854775808))
  (fun m => @Bool.rec (fun _ => Int) (k.wrap (.negSucc m)) (.negSucc m) (Nat.blt m 9223372036854775808)) n) (isI64 k)
theorem wrapK_eq (k : IntKind) (n : Int) : wrapK k n = k.wrap n := by
  unfold wrapK
  cases k <;> try rfl
  simp only [isI64]
  cases n with
  | ofNat m =>
    simp only [brec_if]
    split
    · rename_i h
      rw [Nat.blt_eq] at h
      rw [wrap_i64] <;> simp <;> omega
    · rfl
  | negSucc m =>
    simp only [brec_if]
    split
    · rename_i h
      rw [Nat.blt_eq] at h
      rw [wrap_i64] <;> omega
    · rfl

/-- Two whole numbers of a kind. -/
def int2 (f : IntKind → Int → Int → Option AV) (e : AV → AV → Option AV) (x y : AV) : Option AV :=
  @Option.rec (IntKind × Int) (fun _ => Option AV) (e x y) (fun p => @Option.rec (IntKind × Int) (fun _ => Option AV) (e x y) (fun q =>
    @Bool.rec (fun _ => Option AV) none (f p.1 p.2 q.2) (kindEq p.1 q.1)) y.asInt) x.asInt

def binK (op : BinOp) : AV → AV → Option AV :=
  @BinOp.rec (fun _ => AV → AV → Option AV)
    (int2 (fun k a b => some (.int k (wrapK k (Int.add a b)))) (bin .add))
    (int2 (fun k a b => some (.int k (wrapK k (Int.sub a b)))) (bin .sub))
    (int2 (fun k a b => some (.int k (wrapK k (Int.mul a b)))) (bin .mul))
    (bin .quo) (bin .rem) (bin .and) (bin .or) (bin .xor) (bin .shl) (bin .shr) (bin .andNot) (bin .eql) (bin .neq)
    (int2 (fun _ a b => some (.bool (iltK a b))) (bin .lss))
    (int2 (fun _ a b => some (.bool (not (iltK b a)))) (bin .leq))
    (int2 (fun _ a b => some (.bool (iltK b a))) (bin .gtr))
    (int2 (fun _ a b => some (.bool (not (iltK a b)))) (bin .geq)) op

theorem int2_eq {f : IntKind → Int → Int → Option AV} {op : BinOp} (h : ∀ k j a b, bin op (.int k a) (.int j b) = if k = j then f k a b else none) (x y : AV) : int2 f (bin op) x y = bin op x y := by
  cases x with
  | int k a => cases y with
    | int j b =>
      show @Bool.rec (fun _ => Option AV) none (f k a b) (kindEq k j) = _
      rw [h, brec_if, kindEq_eq]
      simp
    | _ => rfl
  | _ => rfl

theorem binK_eq (op : BinOp) (x y : AV) : binK op x y = bin op x y := by
  cases op <;> try rfl
  case add =>
    refine (show binK .add x y = int2 (fun k a b => some (.int k (wrapK k (Int.add a b)))) (bin .add) x y from rfl).trans (int2_eq (fun k j a b => ?_) x y)
    simp only [bin, wrapK_eq]; rfl
  case sub =>
    refine (show binK .sub x y = int2 (fun k a b => some (.int k (wrapK k (Int.sub a b)))) (bin .sub) x y from rfl).trans (int2_eq (fun k j a b => ?_) x y)
    simp only [bin, wrapK_eq]; rfl
  case mul =>
    refine (show binK .mul x y = int2 (fun k a b => some (.int k (wrapK k (Int.mul a b)))) (bin .mul) x y from rfl).trans (int2_eq (fun k j a b => ?_) x y)
    simp only [bin, wrapK_eq]; rfl
  case lss =>
    refine (show binK .lss x y = int2 (fun _ a b => some (.bool (iltK a b))) (bin .lss) x y from rfl).trans (int2_eq (fun k j a b => ?_) x y)
    simp only [bin, iltK_eq]
  case leq =>
    refine (show binK .leq x y = int2 (fun _ a b => some (.bool (not (iltK b a)))) (bin .leq) x y from rfl).trans (int2_eq (fun k j a b => ?_) x y)
    simp only [bin, iltK_eq]
    have : (!decide (b < a)) = decide (a ≤ b) := by rw [Bool.eq_iff_iff]; simp
    rw [show not (decide (b < a)) = decide (a ≤ b) from this]
  case gtr =>
    refine (show binK .gtr x y = int2 (fun _ a b => some (.bool (iltK b a))) (bin .gtr) x y from rfl).trans (int2_eq (fun k j a b => ?_) x y)
    simp only [bin, iltK_eq]
  case geq =>
    refine (show binK .geq x y = int2 (fun _ a b => some (.bool (not (iltK a b)))) (bin .geq) x y from rfl).trans (int2_eq (fun k j a b => ?_) x y)
    simp only [bin, iltK_eq]
    have : (!decide (a < b)) = decide (a ≥ b) := by rw [Bool.eq_iff_iff]; simp
    rw [show not (decide (a < b)) = decide (a ≥ b) from this]

def kcRec (k : KC) (a b c : AV → AV → Option Bool) : AV → AV → Option Bool := @KC.rec (fun _ => AV → AV → Option Bool) a b c k
def basicK (k : KC) : AV → AV → Option Bool :=
  kcRec k (fun x y => @Option.rec (IntKind × Int) (fun _ => Option Bool) none (fun p => @Option.rec (IntKind × Int) (fun _ => Option Bool) none (fun q => @Bool.rec (fun _ => Option Bool) none (some (ieqK p.2 q.2)) (kindEq p.1 q.1)) y.asInt) x.asInt)
    (basicEq .bool) (basicEq .str)
theorem basicK_eq (k : KC) (x y : AV) : basicK k x y = basicEq k x y := by
  cases k with
  | int =>
    cases x with
    | int k a => cases y with
      | int j b =>
        show @Bool.rec (fun _ => Option Bool) none (some (ieqK a b)) (kindEq k j) = _
        rw [brec_if, kindEq_eq, ieqK_eq]
        simp [basicEq]
        rfl
      | _ => rfl
    | _ => rfl
  | _ => rfl
def eqByK (ek : EqK) : AV → AV → Option Bool := @EqK.rec (fun _ => AV → AV → Option Bool) basicK (fun ks => eqBy (.many ks)) ek
theorem eqByK_eq (ek : EqK) (x y : AV) : eqByK ek x y = eqBy ek x y := by
  cases ek with
  | one k => exact basicK_eq k x y
  | many ks => rfl

def addOffK (p : AV) : Nat → Option AV :=
  @AV.rec (fun _ => Nat → Option AV) (fun _ => Unit)
    (fun _ _ => none) (fun _ _ _ => none) (fun _ _ => none) (fun _ _ _ _ => none) (fun _ _ _ _ _ => none) (fun _ => none)
    (fun id i off k => some (.ptr id i (Nat.add off k))) (fun es i off _ k => some (.fp es i (Nat.add off k)))
    (fun _ _ => none) (fun _ => none) (fun _ _ _ _ _ _ => none) (fun _ _ => none) (fun _ => none) (fun _ _ _ _ => none) (fun _ => none) (fun _ _ _ => none) (fun _ _ _ => none) () (fun _ _ _ _ => ()) p
theorem addOffK_eq (p : AV) (k : Nat) : addOffK p k = addOffA p k := by cases p <;> rfl

def idxSK (x : AV) : Nat → Heap → Nat → Option AV :=
  @AV.rec (fun _ => Nat → Heap → Nat → Option AV) (fun _ => Unit)
    (fun _ _ _ _ => none) (fun _ _ _ _ _ => none) (fun _ _ _ _ => none)
    (fun es _ _ j _ esz => @Option.rec AV (fun _ => Option AV) none (fun e => @Bool.rec (fun _ => Option AV) none (some (.fp es j 0)) (Nat.beq (llen (cellsK e)) esz)) (lget? es j))
    (fun id off len _ j A esz => @Blk.rec (fun _ => Option AV) none (fun e _ => @Bool.rec (fun _ => Option AV) none (some (.ptr id (Nat.add off j) 0)) (and (Nat.blt j len) (Nat.beq e esz))) (fun _ => none) (fun _ _ => none) (fun _ _ => none) (hgetK A id))
    (fun _ _ _ => none) (fun _ _ _ _ _ _ => none) (fun _ _ _ _ _ _ _ => none) (fun _ _ _ _ => none) (fun _ _ _ => none) (fun _ _ _ _ _ _ _ _ => none) (fun _ _ _ _ => none) (fun _ _ _ => none) (fun _ _ _ _ _ _ => none) (fun _ _ _ => none) (fun _ _ _ _ _ => none) (fun _ _ _ _ _ => none) () (fun _ _ _ _ => ()) x
def idxSO (A : Heap) (esz : Nat) (x i : AV) : Option AV := @Option.rec Nat (fun _ => Option AV) none (fun j => idxSK x j A esz) i.asNat
theorem idxSO_eq (A : Heap) (esz : Nat) (x i : AV) : idxSO A esz x i = idxSA A esz x i := by
  cases i with
  | int k j =>
    cases j with
    | negSucc m =>
      show none = _
      cases x <;> try rfl
      rename_i id off len c
      simp only [idxSA]
      generalize hget A id = b
      cases b <;> simp
    | ofNat j =>
      show idxSK x j A esz = _
      cases x <;> try rfl
      · rename_i es c
        show @Option.rec AV (fun _ => Option AV) none (fun e => @Bool.rec (fun _ => Option AV) none (some (.fp es j 0)) (Nat.beq (llen (cellsK e)) esz)) (lget? es j) = _
        rw [lget?_eq]
        by_cases hj : j < es.length
        · simp only [idxSA, List.getElem?_eq_getElem hj, brec_if, llen_eq, cellsK_eq, Nat.beq_eq]
          simp [hj]
        · rw [List.getElem?_eq_none (by omega)]
          simp only [idxSA]
          rw [if_neg (by simp; omega)]
      · rename_i id off len c
        show @Blk.rec (fun _ => Option AV) none (fun e _ => @Bool.rec (fun _ => Option AV) none (some (.ptr id (Nat.add off j) 0)) (and (Nat.blt j len) (Nat.beq e esz))) (fun _ => none) (fun _ _ => none) (fun _ _ => none) (hgetK A id) = _
        rw [hgetK_eq]
        simp only [idxSA]
        generalize hget A id = b
        cases b <;> try rfl
        simp only [brec_if]
        congr 1
        simp
  | _ => cases x <;> rfl

def fillAK (l : List (Nat × Nat × AV)) : List AV → Option (List AV) := @List.rec (Nat × Nat × AV) (fun _ => List AV → Option (List AV)) (fun cs => some cs)
  (fun p _ ih cs => @Bool.rec (fun _ => Option (List AV)) none (ih (lput cs p.1 (cellsK p.2.2))) (and (Nat.beq (llen (cellsK p.2.2)) p.2.1) (and (Nat.ble (Nat.add p.1 p.2.1) (llen cs)) (cellK (cellsK p.2.2))))) l
theorem fillAK_eq : ∀ (l : List (Nat × Nat × AV)) (cs : List AV), fillAK l cs = fillA cs l
  | [], cs => by simp [fillA]; rfl
  | (off, size, x) :: l, cs => by
    show @Bool.rec (fun _ => Option (List AV)) none (fillAK l (lput cs off (cellsK x))) (and (Nat.beq (llen (cellsK x)) size) (and (Nat.ble (Nat.add off size) (llen cs)) (cellK (cellsK x)))) = _
    rw [brec_if, fillAK_eq l, lput_eq, cellsK_eq, llen_eq, llen_eq, cellK_eq]
    simp only [fillA]
    congr 1
    simp only [Bool.and_eq_true, Nat.ble_eq, Nat.beq_eq]
    rfl

def fillSK (esz : Nat) (l : List (Nat × AV)) : List AV → Option (List AV) := @List.rec (Nat × AV) (fun _ => List AV → Option (List AV)) (fun cs => some cs)
  (fun p _ ih es => @Bool.rec (fun _ => Option (List AV)) none (ih (lset es p.1 p.2)) (and (Nat.beq (llen (cellsK p.2)) esz) (and (Nat.blt p.1 (llen es)) (cellK (cellsK p.2))))) l
theorem fillSK_eq (esz : Nat) : ∀ (l : List (Nat × AV)) (es : List AV), fillSK esz l es = fillS esz es l
  | [], cs => by simp [fillS]; rfl
  | (i, x) :: l, es => by
    show @Bool.rec (fun _ => Option (List AV)) none (fillSK esz l (lset es i x)) (and (Nat.beq (llen (cellsK x)) esz) (and (Nat.blt i (llen es)) (cellK (cellsK x)))) = _
    rw [brec_if, fillSK_eq esz l, lset_eq, cellsK_eq, llen_eq, llen_eq, cellK_eq]
    simp only [fillS]
    congr 1
    simp only [Bool.and_eq_true, Nat.blt_eq, Nat.beq_eq]

def elemsK (x : AV) : Heap → Option (List AV) :=
  @AV.rec (fun _ => Heap → Option (List AV)) (fun _ => Unit)
    (fun _ _ => none) (fun _ _ _ => none) (fun _ _ => none) (fun es _ _ _ => some es)
    (fun id off len _ A => @Blk.rec (fun _ => Option (List AV)) none (fun _ es => @Bool.rec (fun _ => Option (List AV)) none (some (ltake (ldrop es off) len)) (Nat.ble (Nat.add off len) (llen es))) (fun _ => none) (fun _ _ => none) (fun _ _ => none) (hgetK A id))
    (fun _ => none) (fun _ _ _ _ => none) (fun _ _ _ _ _ => none) (fun _ _ => none) (fun _ => none) (fun _ _ _ _ _ _ => none) (fun _ _ => none) (fun _ => none) (fun _ _ _ _ => none) (fun _ => none) (fun _ _ _ => none) (fun _ _ _ => none) () (fun _ _ _ _ => ()) x
theorem elemsK_eq (x : AV) (A : Heap) : elemsK x A = elems A x := by
  cases x <;> try rfl
  rename_i id off len c
  show @Blk.rec (fun _ => Option (List AV)) none (fun _ es => @Bool.rec (fun _ => Option (List AV)) none (some (ltake (ldrop es off) len)) (Nat.ble (Nat.add off len) (llen es))) (fun _ => none) (fun _ _ => none) (fun _ _ => none) (hgetK A id) = _
  rw [hgetK_eq]
  simp only [elems]
  generalize hget A id = b
  cases b <;> try rfl
  simp only [brec_if, ltake_eq, ldrop_eq, llen_eq]
  congr 1
  simp

/-- 'append'. -/
def appLK (A : Heap) (nid esz bytes : Nat) (x : AV) (new old : List AV) : Option Out :=
  @Bool.rec (fun _ => Option Out) none
    (appOut nid esz x old new)
    (and (Nat.ble (Nat.mul (Nat.add (llen old) (llen new)) bytes) maxBytes) (and (Nat.ble (Nat.add (llen old) (llen new)) 9223372036854775807) (and (wide A esz x) (and (lall (fun e => Nat.beq (llen (cellsK e)) esz) old) (lall (fun e => Nat.beq (llen (cellsK e)) esz) new)))))
def isStr (v : AV) : Bool :=
  @AV.rec (fun _ => Bool) (fun _ => Unit)
    (fun _ => false) (fun _ _ => false) (fun _ => true) (fun _ _ _ => false) (fun _ _ _ _ => false) false (fun _ _ _ => false) (fun _ _ _ _ => false) (fun _ => false) false (fun _ _ _ _ _ => false) (fun _ => false) false (fun _ _ _ => false) false (fun _ _ => false) (fun _ _ => false) () (fun _ _ _ _ => ()) v
def appK (A : Heap) (nid esz bytes : Nat) (x y : AV) : Option Out :=
  @Bool.rec (fun _ => Option Out) (@Option.rec (List AV) (fun _ => Option Out) none
    (fun new => @List.rec AV (fun _ => Option Out) (appendL A nid esz bytes x []) (fun a l _ => @Option.rec (List AV) (fun _ => Option Out) none (fun old => appLK A nid esz bytes x (a :: l) old) (elemsK x A)) new) (elemsK y A)) none (isStr y)
theorem appLK_eq (A : Heap) (nid esz bytes : Nat) (x : AV) (new old : List AV) (he : elems A x = some old) (hn : new ≠ []) : appLK A nid esz bytes x new old = appendL A nid esz bytes x new := by
  have hemp : new.isEmpty = false := by cases new <;> simp_all
  unfold appLK appendL
  simp only [hemp, Bool.false_eq_true, if_false, he, brec_if, lall_eq, llen_eq, cellsK_eq]
  congr 1
  simp [List.all_append]
theorem appK_eq (A : Heap) (nid esz bytes : Nat) (x y : AV) : appK A nid esz bytes x y = appendA A nid esz bytes x y := by
  unfold appK
  by_cases hs : isStr y = true
  · rw [hs]
    cases y <;> first | rfl | cases hs
  · have hs : isStr y = false := by simpa using hs
    rw [hs]
    simp only
    have e : appendA A nid esz bytes x y = match elems A y with | some new => appendL A nid esz bytes x new | none => none := by
      cases y <;> first | rfl | (cases hs)
    rw [e]
    simp only [elemsK_eq]
    cases elems A y with
    | none => rfl
    | some new =>
      cases new with
      | nil => rfl
      | cons a l =>
        show @Option.rec (List AV) (fun _ => Option Out) none (fun old => appLK A nid esz bytes x (a :: l) old) (elems A x) = _
        cases he : elems A x with
        | none => simp [appendL, he]
        | some old => exact appLK_eq A nid esz bytes x (a :: l) old he (by simp)

def lenSK (x : AV) (A : Heap) (k : LK) : Option AV :=
  @AV.rec (fun _ => Heap → LK → Option AV) (fun _ => Unit)
    (fun b A k => lenA A k (.bool b)) (fun q n A k => lenA A k (.int q n)) (fun s A k => lenA A k (.str s)) (fun es _c _ _A k => @LK.rec (fun _ => Option AV) none (some (.int .i64 (.ofNat (llen es)))) none k) (fun id off len c A k => lenA A k (.own id off len c)) (fun A k => lenA A k .nilp) (fun a b c A k => lenA A k (.ptr a b c)) (fun a b c _ A k => lenA A k (.fp a b c)) (fun a A k => lenA A k (.map a)) (fun A k => lenA A k .nilm) (fun a b c _ _ A k => lenA A k (.func a b c)) (fun a A k => lenA A k (.yld a)) (fun A k => lenA A k .nilf) (fun a b _ A k => lenA A k (.iface a b)) (fun A k => lenA A k .nili) (fun a _ A k => lenA A k (.agg a)) (fun a _ A k => lenA A k (.tuple a)) () (fun _ _ _ _ => ()) x A k
theorem lenSK_eq (x : AV) (A : Heap) (k : LK) : lenSK x A k = lenA A k x := by
  cases x <;> try rfl
  rename_i es c
  show @LK.rec (fun _ => Option AV) none (some (.int .i64 (.ofNat (llen es)))) none k = _
  rw [llen_eq]
  cases k <;> rfl

/-! ### Operations, their arguments read by a function -/

def vK (v : Option AV) : Option Out := @Option.rec AV (fun _ => Option Out) none (fun v => some ⟨v, [], none⟩) v
theorem vK_eq (v : Option AV) : vK v = val v := by cases v <;> rfl
def newK (nid : Nat) (z : AV) : Option Out := @Bool.rec (fun _ => Option Out) none (some ⟨.ptr nid 0 0, [], some (.cells (llen (cellsK z)) [z])⟩) (cellK (cellsK z))
theorem newK_eq (nid : Nat) (z : AV) : newK nid z = if z.cells.all AV.isCell then some ⟨.ptr nid 0 0, [], some (.cells z.cells.length [z])⟩ else none := by
  unfold newK; rw [brec_if, cellsK_eq, cellK_eq, llen_eq]
def wrK (d : Option (Nat × Blk)) : Option Out := @Option.rec (Nat × Blk) (fun _ => Option Out) none (fun d => some ⟨undefA, [d], none⟩) d
theorem wrK_eq (d : Option (Nat × Blk)) : wrK d = match d with | some d => some ⟨undefA, [d], none⟩ | none => none := by cases d <;> rfl

/-- A plain operation. -/
def opK (op : IOp) : (Arg → AV) → Heap → Nat → Option Out :=
  @IOp.rec (fun _ => (Arg → AV) → Heap → Nat → Option Out)
    (fun x rd _ _ => some ⟨rd x, [], none⟩)
    (fun c a b rd _ _ => @Option.rec Bool (fun _ => Option Out) none (fun t => some ⟨@Bool.rec (fun _ => AV) (rd b) (rd a) t, [], none⟩) (rd c).asBool)
    (fun z _ _ nid => newK nid z)
    (fun x rd _ nid => newK nid (rd x))
    (fun z ps rd _ _ => @Option.rec (List AV) (fun _ => Option Out) none (fun l => some ⟨.agg l, [], none⟩) (fillAK (lmap (fun p => (p.1, p.2.1, rd p.2.2)) ps) z))
    (fun esz z n ps rd _ nid => if n = 0 then just (.frz [] true) else @Option.rec (List AV) (fun _ => Option Out) none (fun es => @Bool.rec (fun _ => Option Out) none (some ⟨.own nid 0 n true, [], some (.cells esz es)⟩) (and (Nat.beq (llen (cellsK z)) esz) (cellK (cellsK z)))) (fillSK esz (lmap (fun p => (p.1, rd p.2)) ps) (List.replicate n z)))
    (fun g n a rd A _ => vK (ldK (rd a) A g n))
    (fun n a x rd A _ => wrK (stK (rd a) (rd x) n A))
    (fun x rd _ _ => match rd x with
      | .ptr a b c => just (.ptr a b c)
      | .fp a b c => just (.fp a b c)
      | .func f a b => match f with | .func _ => just (.func f a b) | _ => none
      | .yld l => just (.yld l)
      | .iface t v => just (.iface t v)
      | .map m => just (.map m)
      | _ => none)
    (fun op x y rd _ _ => vK (binK op (rd x) (rd y)))
    (fun neg k x y rd _ _ => @Option.rec Bool (fun _ => Option Out) none (fun b => some ⟨.bool (b != neg), [], none⟩) (eqByK k (rd x) (rd y)))
    (fun k neg x rd _ _ => val ((isNilA k (rd x)).map fun b => .bool (b != neg)))
    (fun op x rd _ _ => vK (un op (rd x)))
    (fun k x rd _ _ => match rd x with | .int _ n => just (.int k (k.wrap n)) | _ => none)
    (fun x rd _ _ => match rd x with | .str s => just (.str s) | _ => none)
    (fun t x rd _ _ => just (.iface t (rd x)))
    (fun fn a b rd _ _ => just (.func fn (lmap rd a) (lmap rd b)))
    (fun _ _ nid => some ⟨.map nid, [], some (.map [])⟩)
    (fun esz bytes z l c rd _ nid => mkSliceA nid esz bytes z (rd l) (rd c))
    (fun esz x lo hi mx rd A _ => if wide A esz (rd x) then val (sliceA (rd x) (lo.map rd) (hi.map rd) (mx.map rd)) else none)
    (fun x lo hi rd _ _ => val (sliceStrA (rd x) (lo.map rd) (hi.map rd)))
    (fun a k rd _ _ => vK (addOffK (rd a) k))
    (fun g off n x rd _ _ => val (partA g off n (rd x)))
    (fun esz x i rd A _ => vK (idxSO A esz (rd x) (rd i)))
    (fun len esz x i rd _ _ => val (idxAA len esz (rd x) (rd i)))
    (fun g len esz x i rd _ _ => val (idxVA g len esz (rd x) (rd i)))
    (fun x i rd _ _ => val (idxStrA (rd x) (rd i)))
    (fun ek z ok m k rd A _ => val (lookupA A ek z ok (rd m) (rd k)))
    (fun ek m k v rd A _ => wrK (mapSetA A ek (rd m) (rd k) (rd v)))
    (fun x rd _ nid => match rd x with | .str s => some ⟨.ptr nid 0 0, [], some (.siter s 0)⟩ | _ => none)
    (fun it rd A _ => match rd it with
      | .ptr id 0 0 => match hget A id with
        | .siter s pos => if pos < s.size then
            some ⟨.tuple [.bool true, .int .i64 pos, .int .i32 (Utf8.decode s pos).1], [(id, .siter s (pos + (Utf8.decode s pos).2))], none⟩
          else just (.tuple [.bool false])
        | _ => none
      | _ => none)
    (fun t z ok x rd _ _ => val (tassertA t z ok (rd x)))
    (fun x i rd _ _ => @Option.rec (List AV) (fun _ => Option Out) none (fun vs => vK (lget? vs i)) (rd x).asTuple)
    (fun esz bytes x y rd A nid => appK A nid esz bytes (rd x) (rd y))
    (fun esz bytes z x n rd A nid => appendZA A nid esz bytes z (rd x) (rd n))
    (fun k x rd A _ => vK (lenSK (rd x) A k))
    (fun n _ _ _ => just (.int .i64 n))
    (fun x rd _ _ => match rd x with | .frz es true => just (.int .i64 es.length) | .own _ _ len true => just (.int .i64 len) | _ => none)
    (fun x y rd _ _ => val (minA (rd x) (rd y)))
    (fun x y rd _ _ => val (maxA (rd x) (rd y)))
    (fun _ _ _ _ _ _ => none)
    (fun esz z x rd A _ => clearA A esz z (rd x))
    (fun x rd A _ => clearMapA A (rd x))
    (fun _ _ _ _ _ => none)
    (fun _ _ _ _ _ _ => none)
    (fun _ _ _ _ => none) op

theorem opK_eq {E : Env} {R : Regs} (rd : Arg → AV) (hr : ∀ a, rd a = arg E R a) (A : Heap) (nid : Nat) (op : IOp) : opK op rd A nid = evOp E R A nid op := by
  obtain rfl : rd = arg E R := funext hr
  cases op <;> first
    | rfl
    | (simp only [evOp, ← vK_eq, ← ldK_eq, ← binK_eq, ← addOffK_eq, ← idxSO_eq, ← appK_eq, ← lenSK_eq]; rfl)
    | skip
  case pick c a b =>
    simp only [evOp]
    show @Option.rec Bool (fun _ => Option Out) none (fun t => some ⟨@Bool.rec (fun _ => AV) (arg E R b) (arg E R a) t, [], none⟩) (arg E R c).asBool = _
    cases arg E R c <;> try rfl
    rename_i t
    cases t <;> rfl
  case alloc z => exact newK_eq nid z
  case box x => exact newK_eq nid (arg E R x)
  case build z ps =>
    simp only [evOp]
    show @Option.rec (List AV) (fun _ => Option Out) none (fun l => some ⟨.agg l, [], none⟩) (fillAK (lmap (fun p => (p.1, p.2.1, arg E R p.2.2)) ps) z) = _
    rw [fillAK_eq, lmap_eq]
    cases fillA z _ <;> rfl
  case buildSlice esz z n ps =>
    simp only [evOp]
    show (if n = 0 then just (.frz [] true) else @Option.rec (List AV) (fun _ => Option Out) none (fun es => @Bool.rec (fun _ => Option Out) none (some ⟨.own nid 0 n true, [], some (.cells esz es)⟩) (and (Nat.beq (llen (cellsK z)) esz) (cellK (cellsK z)))) (fillSK esz (lmap (fun p => (p.1, arg E R p.2)) ps) (List.replicate n z))) = _
    rw [fillSK_eq, lmap_eq]
    congr 1
    cases fillS esz (List.replicate n z) _ with
    | none => rfl
    | some es =>
      simp only [brec_if, cellsK_eq, llen_eq, cellK_eq, Bool.and_eq_true, Nat.beq_eq]
  case store n a x =>
    simp only [evOp, ← stK_eq]
    exact wrK_eq _
  case eqv neg k x y =>
    simp only [evOp, ← eqByK_eq]
    show @Option.rec Bool (fun _ => Option Out) none (fun b => some ⟨.bool (b != neg), [], none⟩) (eqByK k (arg E R x) (arg E R y)) = _
    cases eqByK k (arg E R x) (arg E R y) <;> rfl
  case mkFunc fn a b =>
    simp only [evOp, args, ← lmap_eq]
    rfl
  case mapSet ek m k v =>
    simp only [evOp]
    exact wrK_eq _
  case extract x i =>
    simp only [evOp]
    show @Option.rec (List AV) (fun _ => Option Out) none (fun vs => vK (lget? vs i)) (arg E R x).asTuple = _
    cases arg E R x <;> try rfl
    show vK (lget? _ i) = _
    rw [vK_eq, lget?_eq]

end
end Go.Abs

/- The evaluator made to be run by the kernel: code and calls. -/
namespace Go.Abs

noncomputable section

/-- What is known of a function: its code, whether what it made is kept, whether it is called with no memory, and what some calls of it come to. -/
structure KI where
  F : IFun
  keep : Bool
  apart : Bool
  memo : List (List AV × AV)

/-- Functions by their numbers. -/
inductive KT where
  | tip
  | node (l : KT) (v : Option KI) (r : KT)

def KT.get (t : KT) : Nat → Option KI := @KT.rec (fun _ => Nat → Option KI) (fun _ => none) (fun _ v _ gl gr i => @Nat.rec (fun _ => Option KI) v (fun j _ => @Nat.rec (fun _ => Option KI) (gl (Nat.div j 2)) (fun _ _ => gr (Nat.div j 2)) (Nat.mod j 2)) i) t

def KT.ins : Nat → KT → Nat → KI → KT := fun k => @Nat.rec (fun _ => KT → Nat → KI → KT) (fun t _ _ => t)
  (fun _ ih t i w => @KT.rec (fun _ => KT)
    (@Nat.rec (fun _ => KT) (.node .tip (some w) .tip) (fun j _ => @Nat.rec (fun _ => KT) (.node (ih .tip (Nat.div j 2) w) none .tip) (fun _ _ => .node .tip none (ih .tip (Nat.div j 2) w)) (Nat.mod j 2)) i)
    (fun l v r _ _ => @Nat.rec (fun _ => KT) (.node l (some w) r) (fun j _ => @Nat.rec (fun _ => KT) (.node (ih l (Nat.div j 2) w) v r) (fun _ _ => .node l v (ih r (Nat.div j 2) w)) (Nat.mod j 2)) i) t) k

theorem ktget_node {l r : KT} {v : Option KI} {i : Nat} : (KT.node l v r).get i = match i with | 0 => v | j + 1 => if j % 2 = 0 then l.get (j / 2) else r.get (j / 2) := by
  cases i with
  | zero => rfl
  | succ j =>
    show @Nat.rec (fun _ => Option KI) (l.get (j / 2)) (fun _ _ => r.get (j / 2)) (j % 2) = _
    rcases Nat.mod_two_eq_zero_or_one j with h | h <;> simp only [h] <;> rfl

theorem ins_succ {k i : Nat} {t : KT} {w : KI} : KT.ins (k + 1) t i w = match t, i with
    | .tip, 0 => .node .tip (some w) .tip
    | .tip, j + 1 => if j % 2 = 0 then .node (KT.ins k .tip (j / 2) w) none .tip else .node .tip none (KT.ins k .tip (j / 2) w)
    | .node l _ r, 0 => .node l (some w) r
    | .node l v r, j + 1 => if j % 2 = 0 then .node (KT.ins k l (j / 2) w) v r else .node l v (KT.ins k r (j / 2) w) := by
  cases t with
  | tip =>
    cases i with
    | zero => rfl
    | succ j =>
      show @Nat.rec (fun _ => KT) (.node (KT.ins k .tip (j / 2) w) none .tip) (fun _ _ => .node .tip none (KT.ins k .tip (j / 2) w)) (j % 2) = _
      rcases Nat.mod_two_eq_zero_or_one j with h | h <;> simp only [h] <;> rfl
  | node l v r =>
    cases i with
    | zero => rfl
    | succ j =>
      show @Nat.rec (fun _ => KT) (.node (KT.ins k l (j / 2) w) v r) (fun _ _ => .node l v (KT.ins k r (j / 2) w)) (j % 2) = _
      rcases Nat.mod_two_eq_zero_or_one j with h | h <;> simp only [h] <;> rfl

theorem get_ins : ∀ (k : Nat) (t : KT) (i j : Nat) (w v : KI), (KT.ins k t i w).get j = some v → (j = i ∧ v = w) ∨ t.get j = some v
  | 0, t, i, j, w, v, h => .inr h
  | k + 1, .tip, 0, j, w, v, h => by
    rw [ins_succ, ktget_node] at h
    cases j with
    | zero => simp at h; exact .inl ⟨rfl, h.symm⟩
    | succ j => simp only at h; split at h <;> cases h
  | k + 1, .node l u r, 0, j, w, v, h => by
    rw [ins_succ, ktget_node] at h
    rw [ktget_node]
    cases j with
    | zero => simp at h; exact .inl ⟨rfl, h.symm⟩
    | succ j => exact .inr h
  | k + 1, .tip, i + 1, j, w, v, h => by
    rw [ins_succ] at h
    simp only at h
    split at h
    · rename_i hp
      rw [ktget_node] at h
      cases j with
      | zero => cases h
      | succ j =>
        simp only at h
        split at h
        · rename_i hq
          rcases get_ins k _ _ _ w v h with ⟨h1, h2⟩ | h1
          · exact .inl ⟨by omega, h2⟩
          · cases h1
        · cases h
    · rename_i hp
      rw [ktget_node] at h
      cases j with
      | zero => cases h
      | succ j =>
        simp only at h
        split at h
        · cases h
        · rename_i hq
          rcases get_ins k _ _ _ w v h with ⟨h1, h2⟩ | h1
          · exact .inl ⟨by omega, h2⟩
          · cases h1
  | k + 1, .node l u r, i + 1, j, w, v, h => by
    rw [ins_succ] at h
    rw [ktget_node]
    simp only at h
    split at h
    · rename_i hp
      rw [ktget_node] at h
      cases j with
      | zero => exact .inr h
      | succ j =>
        simp only at h ⊢
        split at h
        · rename_i hq
          rcases get_ins k _ _ _ w v h with ⟨h1, h2⟩ | h1
          · exact .inl ⟨by omega, h2⟩
          · rw [if_pos hq]; exact .inr h1
        · rename_i hq
          rw [if_neg hq]; exact .inr h
    · rename_i hp
      rw [ktget_node] at h
      cases j with
      | zero => exact .inr h
      | succ j =>
        simp only at h ⊢
        split at h
        · rename_i hq
          rw [if_pos hq]; exact .inr h
        · rename_i hq
          rcases get_ins k _ _ _ w v h with ⟨h1, h2⟩ | h1
          · exact .inl ⟨by omega, h2⟩
          · rw [if_neg hq]; exact .inr h1

/-- A table of functions. -/
def ktab (l : List (Nat × KI)) : KT := @List.rec (Nat × KI) (fun _ => KT) .tip (fun p _ ih => KT.ins 12 ih p.1 p.2) l
theorem ktab_mem : ∀ (l : List (Nat × KI)) (i : Nat) (v : KI), (ktab l).get i = some v → (i, v) ∈ l
  | [], i, v, h => by cases h
  | p :: l, i, v, h => by
    rcases get_ins 12 (ktab l) p.1 i p.2 v h with ⟨h1, h2⟩ | h1
    · subst h1; subst h2; exact List.mem_cons_self ..
    · exact List.mem_cons_of_mem _ (ktab_mem l i v h1)

structure KInfo where
  id : Nat
  n : Nat
  t : RT
  params : List Nat
  assign : ICode
  body : ICode

inductive KRes where
  | same (v : AV)
  | ret (v : AV) (A : Heap)
  | panic (v : AV) (A : Heap)

inductive KOR where
  | next (t : RT) (A : Heap)
  | panic (v : AV) (t : RT) (A : Heap)

structure KX where
  e : AExit
  t : RT
  A : Heap

abbrev KCall := AV → List AV → Heap → Option KRes

def argK (E : Env) (t : RT) (a : Arg) : AV := @Arg.rec (fun _ => RT → AV) (fun i t => t.get i) (fun v _ => v) (fun g _ => (E.glob g).getD undefA) a t

def guardK (g : Option (Option Nat × Bool)) (t : RT) : Bool :=
  @Option.rec (Option Nat × Bool) (fun _ => Bool) true (fun p => @Option.rec Nat (fun _ => Bool) false (fun i => @Option.rec Bool (fun _ => Bool) false (fun b => b == p.2) (t.get i).asBool) p.1) g

def isPlainK (op : IOp) : Bool :=
  @IOp.rec (fun _ => Bool) (fun _ => true) (fun _ _ _ => true) (fun _ => true) (fun _ => true) (fun _ _ => true) (fun _ _ _ _ => true) (fun _ _ _ => true) (fun _ _ _ => true) (fun _ => true) (fun _ _ _ => true) (fun _ _ _ _ => true) (fun _ _ _ => true) (fun _ _ => true) (fun _ _ => true) (fun _ => true) (fun _ _ => true) (fun _ _ _ => true)
    true (fun _ _ _ _ _ => true) (fun _ _ _ _ _ => true) (fun _ _ _ => true) (fun _ _ => true) (fun _ _ _ _ => true) (fun _ _ _ => true) (fun _ _ _ _ => true) (fun _ _ _ _ _ => true) (fun _ _ => true) (fun _ _ _ _ _ => true) (fun _ _ _ _ => true) (fun _ => true) (fun _ => true) (fun _ _ _ _ => true) (fun _ _ => true) (fun _ _ _ _ => true) (fun _ _ _ _ _ => true)
    (fun _ _ => true) (fun _ => true) (fun _ => true) (fun _ _ => true) (fun _ _ => true) (fun _ _ _ => true) (fun _ _ _ => true) (fun _ => true) (fun _ _ => false) (fun _ _ _ => false) (fun _ => false) op
theorem isPlainK_eq (op : IOp) : isPlainK op = op.plain := by cases op <;> rfl

/-- What an operation calls. -/
def calleeK (E : Env) (rd : Arg → AV) (op : IOp) : Option (AV × List AV) :=
  match op with
  | .call f l => some (rd f, lmap rd l)
  | .invoke x m l => match rd x with
    | .iface t v => match E.mtab t m with
      | some (f, _) => some (.func (.func f) [v] [], lmap rd l)
      | none => none
    | _ => none
  | _ => none

def callRK (r : Option KRes) (d : Option Nat) (ih : RT → Heap → Option KOR) (t : RT) (A : Heap) : Option KOR :=
  @Option.rec KRes (fun _ => Option KOR) none (fun r => @KRes.rec (fun _ => Option KOR) (fun v => ih (t.put d v) A) (fun v A' => ih (t.put d v) A') (fun v A' => some (.panic v t A')) r) r

/-- A call, or a panic. -/
def otherK (E : Env) (call : KCall) (op : IOp) (d : Option Nat) (ih : RT → Heap → Option KOR) (t : RT) (A : Heap) : Option KOR :=
  match op with
  | .panic x => match argK E t x with | .iface u v => some (.panic (.iface u v) t A) | _ => none
  | op => match calleeK E (argK E t) op with
    | some (f, xs) => callRK (call f xs A) d ih t A
    | none => none

def opsK (E : Env) (call : KCall) (l : List IOper) : RT → Heap → Option KOR :=
  @List.rec IOper (fun _ => RT → Heap → Option KOR) (fun t A => some (.next t A))
    (fun o _ ih => @IOper.rec (fun _ => RT → Heap → Option KOR) (fun d g op t A =>
      @Bool.rec (fun _ => Option KOR) (ih (t.put d undefA) A)
        (@Bool.rec (fun _ => Option KOR) (otherK E call op d ih t A)
          (@Option.rec Out (fun _ => Option KOR) none (fun out => ih (t.put d out.v) (outK A out)) (opK op (argK E t) A (llen A))) (isPlainK op)) (guardK g t)) o) l

def quietRK (r : Option KRes) (d : Option Nat) (ih : RT → Option RT) (t : RT) (A : Heap) : Option RT :=
  @Option.rec KRes (fun _ => Option RT) none (fun r => @KRes.rec (fun _ => Option RT) (fun v => ih (t.put d v)) (fun v A' => @Bool.rec (fun _ => Option RT) none (ih (t.put d v)) (sameHeap A A')) (fun _ _ => none) r) r

def quietK (E : Env) (call : KCall) (A : Heap) (l : List (IOper × List Nat)) : RT → Option RT :=
  @List.rec (IOper × List Nat) (fun _ => RT → Option RT) (fun t => some t)
    (fun o _ ih => @IOper.rec (fun _ => RT → Option RT) (fun d g op t =>
      @Bool.rec (fun _ => Option RT) (ih (t.put d undefA))
        (@Bool.rec (fun _ => Option RT) (match calleeK E (argK E t) op with | some (f, xs) => quietRK (call f xs A) d ih t A | none => none)
          (@Option.rec Out (fun _ => Option RT) none (fun out => @Bool.rec (fun _ => Option RT) none (ih (t.put d out.v)) (out.wr.isEmpty && out.new.isNone)) (opK op (argK E t) A (llen A))) (isPlainK op)) (guardK g t)) o.1) l

/-- Operations of a region that draws its order, one after the other, each at its own part of the memory. -/
def drawK (E : Env) (call : KCall) (n : Nat) (A0 : Heap) (n0 : Nat) (l : List (IOper × List Nat)) : RT → List Done → Option (RT × List Done) :=
  @List.rec (IOper × List Nat) (fun _ => RT → List Done → Option (RT × List Done)) (fun t ds => some (t, ds))
    (fun o _ ih => @IOper.rec (fun _ => RT → List Done → Option (RT × List Done)) (fun d g op t ds =>
      @Bool.rec (fun _ => Option (RT × List Done)) (ih (t.put d undefA) (ds ++ [@Done.mk undefA [] ⟨[]⟩]))
        (@Bool.rec (fun _ => Option (RT × List Done))
          (match calleeK E (argK E t) op with
            | some (f, xs) => match call f xs (bitOf E A0 (t.regs n) ds o.2 op) with
              | some (.same v) => @Bool.rec (fun _ => Option (RT × List Done)) none (ih (t.put d v) (ds ++ [@Done.mk v [] ⟨bitOf E A0 (t.regs n) ds o.2 op⟩])) (v.named (fun id => decide (id < n0) || o.2.contains (id - n0)))
              | some (.ret v A') => if (bitOf E A0 (t.regs n) ds o.2 op).length = A'.length ∧ v.named (fun id => decide (id < n0) || o.2.contains (id - n0)) ∧ (diff 0 (bitOf E A0 (t.regs n) ds o.2 op) A').all (fun d => (fun id => decide (id < n0) || o.2.contains (id - n0)) d.1 && d.2.named (fun id => decide (id < n0) || o.2.contains (id - n0)))
                  then ih (t.put d v) (ds ++ [@Done.mk v (diff 0 (bitOf E A0 (t.regs n) ds o.2 op) A') ⟨bitOf E A0 (t.regs n) ds o.2 op⟩]) else none
              | _ => none
            | none => none)
          (match opK op (argK E t) (bitOf E A0 (t.regs n) ds o.2 op) (n0 + ds.length) with
            | some out => @Bool.rec (fun _ => Option (RT × List Done)) none (ih (t.put d out.v) (ds ++ [@Done.mk out.v (out.wr ++ (out.new.toList.map fun b => (n0 + ds.length, b))) ⟨bitOf E A0 (t.regs n) ds o.2 op⟩])) (out.wr.all (fun d => decide (d.1 < n0 + ds.length)))
            | none => none) (isPlainK op)) (guardK g t)) o.1) l

def segK (E : Env) (call : KCall) (n : Nat) (s : List (IOper × List Nat)) (t : RT) (A : Heap) : Option KOR :=
  match s with
  | [] => some (.next t A)
  | [q] => opsK E call [q.1] t A
  | s => if quietSeg E s then (quietK E call A s t).map (fun t' => .next t' A)
    else match drawK E call n (A ++ List.replicate s.length .dead) A.length s t [] with
      | some (t', ds) => if drawOk s ds then some (.next t' (putAll (A ++ List.replicate s.length .dead) (ds.map Done.eff).flatten)) else none
      | none => none

def segsK (E : Env) (call : KCall) (n : Nat) (l : List (List (IOper × List Nat))) : RT → Heap → Option KOR :=
  @List.rec (List (IOper × List Nat)) (fun _ => RT → Heap → Option KOR) (fun t A => some (.next t A))
    (fun s _ ih t A => @Option.rec KOR (fun _ => Option KOR) none (fun r => @KOR.rec (fun _ => Option KOR) (fun t' A' => ih t' A') (fun v t' A' => some (.panic v t' A')) r) (segK E call n s t A)) l

def toX (r : Option KOR) : Option KX := @Option.rec KOR (fun _ => Option KX) none (fun r => @KOR.rec (fun _ => Option KX) (fun t A => some ⟨.normal, t, A⟩) (fun v t A => some ⟨.panic v, t, A⟩) r) r
/-- What goes on behind code that ends of itself. -/
def thenK (r : Option KX) (f : RT → Heap → Option KX) : Option KX :=
  @Option.rec KX (fun _ => Option KX) none (fun q => @KX.rec (fun _ => Option KX) (fun e t A => @AExit.rec (fun _ => Option KX) (f t A) (fun _ => some q) (some q) (fun _ => some q) e) q) r
def blockK (id : Nat) (r : Option KX) : Option KX :=
  @Option.rec KX (fun _ => Option KX) none (fun q => @KX.rec (fun _ => Option KX) (fun e t A => @AExit.rec (fun _ => Option KX) (some q) (fun j => @Bool.rec (fun _ => Option KX) (some q) (some ⟨.normal, t, A⟩) (Nat.beq j id)) (some q) (fun _ => some q) e) q) r

abbrev KRec := List KInfo → Nat → ICode → RT → Heap → Option KX

def resK (t : RT) (A : Heap) (l : List IRes) : Option (List AV) :=
  @List.rec IRes (fun _ => Option (List AV)) (some []) (fun r _ ih => @Option.rec AV (fun _ => Option (List AV)) none (fun v => @Option.rec (List AV) (fun _ => Option (List AV)) none (fun vs => some (v :: vs)) ih)
    (@IRes.rec (fun _ => Option AV) (fun i => some (t.get i)) (fun a g n => ldK (t.get a) A g n) r)) l

/-- A function that is called with no memory. -/
def apartK (rec : KRec) (ki : KI) (xs : List AV) : Option KRes :=
  match rec [] ki.F.ntmps ki.F.body (RT.fill xs 0 (RT.mk 12 ki.F.ntmps)) [] with
  | some ⟨e, t, A⟩ => match e with
    | .normal | .ret => match resK t A ki.F.results with
      | some vs => match leave ki.keep [] A (tupled vs) with
        | (v, []) => if v.under 0 then some (.same v) else none
        | _ => none
      | none => none
    | _ => none
  | none => none

/-- Any other one. -/
def funK (rec : KRec) (Λ : List KInfo) (ki : KI) (xs : List AV) (A : Heap) : Option KRes :=
  match rec Λ ki.F.ntmps ki.F.body (RT.fill xs 0 (RT.mk 12 ki.F.ntmps)) A with
  | some ⟨e, t, A'⟩ => match e with
    | .normal | .ret => match resK t A' ki.F.results with
      | some vs => some (.ret (leave ki.keep A A' (tupled vs)).1 (leave ki.keep A A' (tupled vs)).2)
      | none => none
    | _ => none
  | none => none

def memoK (xs : List AV) (l : List (List AV × AV)) : Option AV := @List.rec (List AV × AV) (fun _ => Option AV) none (fun p _ ih => @Bool.rec (fun _ => Option AV) ih (some p.2) (AV.beqs xs p.1)) l

def yieldK (rec : KRec) (Λ : List KInfo) (l : Nat) (xs : List AV) (A : Heap) : Option KRes :=
  match Λ with
  | [] => none
  | i :: _ => if i.id = l ∧ xs.length = i.params.length then
      match rec Λ i.n i.assign ((i.params.zip xs).foldl (fun t p => t.set p.1 p.2) i.t) A with
      | some ⟨.normal, t1, A1⟩ => match hget A1 l with
        | .loop true none => match rec Λ i.n i.body t1 (A1.set l (.loop false none)) with
          | some ⟨e, _, A2⟩ => match hget A2 l with
            | .loop _ _ => match e with
              | .normal => some (.ret (.bool true) (A2.set l (.loop true none)))
              | .ret => some (.ret (.bool false) (A2.set l (.loop false (some .ret))))
              | .exit id => some (.ret (.bool false) (A2.set l (.loop false (some (.exit id)))))
              | .panic _ => none
            | _ => none
          | none => none
        | _ => none
      | _ => none
    else none

def callK (T : KT) (rec : KRec) (Λ : List KInfo) : KCall := fun f xs A => match f with
  | .func (.func g) p q => match T.get g with
    | some ki => if (lapp p (lapp xs q)).length ≤ ki.F.ntmps ∧ ki.F.ntmps < 4096 then
        if ki.apart && AV.unders 0 (lapp p (lapp xs q)) then match p, q, memoK xs ki.memo with
          | [], [], some v => some (.same v)
          | _, _, _ => apartK rec ki (lapp p (lapp xs q))
        else funK rec Λ ki (lapp p (lapp xs q)) A
      else none
    | none => none
  | .yld l => yieldK rec Λ l xs A
  | _ => none

/-- A loop over a function. -/
def rangeK (T : KT) (E : Env) (rec : KRec) (Λ : List KInfo) (n : Nat) (f : Arg) (ps : List Nat) (asg b : ICode) (t : RT) (A : Heap) : Option KX :=
  if plainFunc E (argK E t f) then
    match callK T rec (⟨A.length, n, t, ps, asg, b⟩ :: Λ) (argK E t f) [.yld A.length] (A ++ [.loop true none]) with
    | some (.ret _ A1) => match hget A1 A.length with
      | .loop true none => some ⟨.normal, t, A1.set A.length .dead⟩
      | .loop false (some .ret) => some ⟨.ret, t, A1.set A.length .dead⟩
      | .loop false (some (.exit id)) => some ⟨.exit id, t, A1.set A.length .dead⟩
      | _ => none
    | _ => none
  else none

/-- Code, by a bound on its depth. -/
def evK (T : KT) (E : Env) (k : Nat) : KRec :=
  @Nat.rec (fun _ => KRec) (fun _ _ _ _ _ => none)
    (fun _ rec Λ n c => @ICode.rec (fun _ => KRec → List KInfo → Nat → RT → Heap → Option KX)
      (fun _ _ _ t A => some ⟨.normal, t, A⟩)
      (fun l rec Λ _ t A => toX (opsK E (callK T rec Λ) l t A))
      (fun l rec Λ n t A => toX (segsK E (callK T rec Λ) n l t A))
      (fun a b _ _ rec Λ n t A => thenK (rec Λ n a t A) (fun t' A' => rec Λ n b t' A'))
      (fun c a b _ _ rec Λ n t A => @Option.rec Bool (fun _ => Option KX) none (fun b' => @Bool.rec (fun _ => Option KX) (rec Λ n b t A) (rec Λ n a t A) b') (argK E t c).asBool)
      (fun id b _ rec Λ n t A => blockK id (rec Λ n b t A))
      (fun b _ rec Λ n t A => thenK (rec Λ n b t A) (fun t' A' => rec Λ n (.loop b) t' A'))
      (fun f ps asg b _ _ rec Λ n t A => rangeK T E rec Λ n f ps asg b t A)
      (fun id _ _ _ t A => some ⟨.exit id, t, A⟩)
      (fun _ _ _ t A => some ⟨.ret, t, A⟩) c rec Λ n) k

end
end Go.Abs

/- The further functions that the known rows come to, as the program has them, the types resolved; a table of all. -/
namespace Go.Proofs.YtgbfbhahnoafoaaGreatDoor
open Go Go.Abs

/-- A function, out of the program's own code. -/
noncomputable def compD (g : Nat) : IFun := (compFun Tryz.prog [0] g).getD ⟨0, [], .skip⟩
theorem compD_of {g : Nat} {fn : Func} (h : Tryz.prog.funcs[g]? = some fn) (hn : (fn.name == "runtime.NumGoroutine") = false) (hc : (compFun Tryz.prog [0] g).isSome = true) : EL.fns g = some (compD g) :=
  fns_of h hn (by unfold compD; cases hx : compFun Tryz.prog [0] g with
    | none => rw [hx] at hc; cases hc
    | some F => rfl)

noncomputable abbrev F12 : IFun := compD 12
theorem c12 : EL.fns 12 = some F12 := compD_of Tryz.func12 (by kernel_rfl) (by kernel_rfl)

noncomputable abbrev F13 : IFun := compD 13
theorem c13 : EL.fns 13 = some F13 := compD_of Tryz.func13 (by kernel_rfl) (by kernel_rfl)

noncomputable abbrev F14 : IFun := compD 14
theorem c14 : EL.fns 14 = some F14 := compD_of Tryz.func14 (by kernel_rfl) (by kernel_rfl)

noncomputable abbrev F17 : IFun := compD 17
theorem c17 : EL.fns 17 = some F17 := compD_of Tryz.func17 (by kernel_rfl) (by kernel_rfl)

noncomputable abbrev F18 : IFun := compD 18
theorem c18 : EL.fns 18 = some F18 := compD_of Tryz.func18 (by kernel_rfl) (by kernel_rfl)

noncomputable abbrev F21 : IFun := compD 21
theorem c21 : EL.fns 21 = some F21 := compD_of Tryz.func21 (by kernel_rfl) (by kernel_rfl)

noncomputable abbrev F22 : IFun := compD 22
theorem c22 : EL.fns 22 = some F22 := compD_of Tryz.func22 (by kernel_rfl) (by kernel_rfl)

noncomputable abbrev F27 : IFun := compD 27
theorem c27 : EL.fns 27 = some F27 := compD_of Tryz.func27 (by kernel_rfl) (by kernel_rfl)

noncomputable abbrev F28 : IFun := compD 28
theorem c28 : EL.fns 28 = some F28 := compD_of Tryz.func28 (by kernel_rfl) (by kernel_rfl)

noncomputable abbrev F31 : IFun := compD 31
theorem c31 : EL.fns 31 = some F31 := compD_of Tryz.func31 (by kernel_rfl) (by kernel_rfl)

noncomputable abbrev F36 : IFun := compD 36
theorem c36 : EL.fns 36 = some F36 := compD_of Tryz.func36 (by kernel_rfl) (by kernel_rfl)

noncomputable abbrev F45 : IFun := compD 45
theorem c45 : EL.fns 45 = some F45 := compD_of Tryz.func45 (by kernel_rfl) (by kernel_rfl)

noncomputable abbrev F50 : IFun := compD 50
theorem c50 : EL.fns 50 = some F50 := compD_of Tryz.func50 (by kernel_rfl) (by kernel_rfl)

noncomputable abbrev F58 : IFun := compD 58
theorem c58 : EL.fns 58 = some F58 := compD_of Tryz.func58 (by kernel_rfl) (by kernel_rfl)

noncomputable abbrev F62 : IFun := compD 62
theorem c62 : EL.fns 62 = some F62 := compD_of Tryz.func62 (by kernel_rfl) (by kernel_rfl)

noncomputable abbrev F63 : IFun := compD 63
theorem c63 : EL.fns 63 = some F63 := compD_of Tryz.func63 (by kernel_rfl) (by kernel_rfl)

noncomputable abbrev F64 : IFun := compD 64
theorem c64 : EL.fns 64 = some F64 := compD_of Tryz.func64 (by kernel_rfl) (by kernel_rfl)

noncomputable abbrev F65 : IFun := compD 65
theorem c65 : EL.fns 65 = some F65 := compD_of Tryz.func65 (by kernel_rfl) (by kernel_rfl)

noncomputable abbrev F66 : IFun := compD 66
theorem c66 : EL.fns 66 = some F66 := compD_of Tryz.func66 (by kernel_rfl) (by kernel_rfl)

noncomputable abbrev F67 : IFun := compD 67
theorem c67 : EL.fns 67 = some F67 := compD_of Tryz.func67 (by kernel_rfl) (by kernel_rfl)

noncomputable abbrev F68 : IFun := compD 68
theorem c68 : EL.fns 68 = some F68 := compD_of Tryz.func68 (by kernel_rfl) (by kernel_rfl)

noncomputable abbrev F69 : IFun := compD 69
theorem c69 : EL.fns 69 = some F69 := compD_of Tryz.func69 (by kernel_rfl) (by kernel_rfl)

noncomputable abbrev F70 : IFun := compD 70
theorem c70 : EL.fns 70 = some F70 := compD_of Tryz.func70 (by kernel_rfl) (by kernel_rfl)

noncomputable abbrev F71 : IFun := compD 71
theorem c71 : EL.fns 71 = some F71 := compD_of Tryz.func71 (by kernel_rfl) (by kernel_rfl)

noncomputable abbrev F72 : IFun := compD 72
theorem c72 : EL.fns 72 = some F72 := compD_of Tryz.func72 (by kernel_rfl) (by kernel_rfl)

noncomputable abbrev F73 : IFun := compD 73
theorem c73 : EL.fns 73 = some F73 := compD_of Tryz.func73 (by kernel_rfl) (by kernel_rfl)

noncomputable abbrev F74 : IFun := compD 74
theorem c74 : EL.fns 74 = some F74 := compD_of Tryz.func74 (by kernel_rfl) (by kernel_rfl)

noncomputable abbrev F75 : IFun := compD 75
theorem c75 : EL.fns 75 = some F75 := compD_of Tryz.func75 (by kernel_rfl) (by kernel_rfl)

noncomputable abbrev F76 : IFun := compD 76
theorem c76 : EL.fns 76 = some F76 := compD_of Tryz.func76 (by kernel_rfl) (by kernel_rfl)

noncomputable abbrev F77 : IFun := compD 77
theorem c77 : EL.fns 77 = some F77 := compD_of Tryz.func77 (by kernel_rfl) (by kernel_rfl)

noncomputable abbrev F78 : IFun := compD 78
theorem c78 : EL.fns 78 = some F78 := compD_of Tryz.func78 (by kernel_rfl) (by kernel_rfl)

noncomputable abbrev F89 : IFun := compD 89
theorem c89 : EL.fns 89 = some F89 := compD_of Tryz.func89 (by kernel_rfl) (by kernel_rfl)

noncomputable abbrev F90 : IFun := compD 90
theorem c90 : EL.fns 90 = some F90 := compD_of Tryz.func90 (by kernel_rfl) (by kernel_rfl)

noncomputable abbrev F91 : IFun := compD 91
theorem c91 : EL.fns 91 = some F91 := compD_of Tryz.func91 (by kernel_rfl) (by kernel_rfl)

noncomputable abbrev F98 : IFun := compD 98
theorem c98 : EL.fns 98 = some F98 := compD_of Tryz.func98 (by kernel_rfl) (by kernel_rfl)

noncomputable abbrev F108 : IFun := compD 108
theorem c108 : EL.fns 108 = some F108 := compD_of Tryz.func108 (by kernel_rfl) (by kernel_rfl)

noncomputable abbrev F110 : IFun := compD 110
theorem c110 : EL.fns 110 = some F110 := compD_of Tryz.func110 (by kernel_rfl) (by kernel_rfl)

/-- cmp.Less[int] -/
def F111 : IFun := ⟨17, [.tmp 4], (.seq (.ops [⟨(some 4), none, .mov (.const (.bool false))⟩])
  (.seq (.ops [⟨(some 5), none, .mov (.reg 0)⟩, ⟨(some 6), none, .call (.const (.func (.func 122) [] [])) [(.reg 5)]⟩, ⟨(some 7), none, .mov (.reg 6)⟩, ⟨(some 8), (some ((some 7), true)), .mov (.reg 1)⟩, ⟨(some 9), (some ((some 7), true)), .call (.const (.func (.func 122) [] [])) [(.reg 8)]⟩, ⟨(some 10), (some ((some 7), true)), .un .not (.reg 9)⟩, ⟨(some 11), none, .pick (.reg 7) (.reg 10) (.const (.bool false))⟩, ⟨(some 12), none, .mov (.reg 11)⟩, ⟨(some 13), (some ((some 12), false)), .mov (.reg 0)⟩, ⟨(some 14), (some ((some 12), false)), .mov (.reg 1)⟩, ⟨(some 15), (some ((some 12), false)), .bin .lss (.reg 13) (.reg 14)⟩, ⟨(some 16), none, .pick (.reg 12) (.const (.bool true)) (.reg 15)⟩, ⟨(some 4), none, .mov (.reg 16)⟩])
  .ret))⟩
theorem c111 : EL.fns 111 = some F111 := fns_of Tryz.func111 (by kernel_rfl) (by kernel_rfl)

noncomputable abbrev F114 : IFun := compD 114
theorem c114 : EL.fns 114 = some F114 := compD_of Tryz.func114 (by kernel_rfl) (by kernel_rfl)

noncomputable abbrev F115 : IFun := compD 115
theorem c115 : EL.fns 115 = some F115 := compD_of Tryz.func115 (by kernel_rfl) (by kernel_rfl)

noncomputable abbrev F116 : IFun := compD 116
theorem c116 : EL.fns 116 = some F116 := compD_of Tryz.func116 (by kernel_rfl) (by kernel_rfl)

noncomputable abbrev F117 : IFun := compD 117
theorem c117 : EL.fns 117 = some F117 := compD_of Tryz.func117 (by kernel_rfl) (by kernel_rfl)

noncomputable abbrev F118 : IFun := compD 118
theorem c118 : EL.fns 118 = some F118 := compD_of Tryz.func118 (by kernel_rfl) (by kernel_rfl)

noncomputable abbrev F119 : IFun := compD 119
theorem c119 : EL.fns 119 = some F119 := compD_of Tryz.func119 (by kernel_rfl) (by kernel_rfl)

noncomputable abbrev F120 : IFun := compD 120
theorem c120 : EL.fns 120 = some F120 := compD_of Tryz.func120 (by kernel_rfl) (by kernel_rfl)

noncomputable abbrev F121 : IFun := compD 121
theorem c121 : EL.fns 121 = some F121 := compD_of Tryz.func121 (by kernel_rfl) (by kernel_rfl)

/-- cmp.isNaN[int] -/
def F122 : IFun := ⟨6, [.tmp 2], (.seq (.ops [⟨(some 2), none, .mov (.const (.bool false))⟩])
  (.seq (.ops [⟨(some 3), none, .mov (.reg 0)⟩, ⟨(some 4), none, .mov (.reg 0)⟩, ⟨(some 5), none, .eqv true (.one .int) (.reg 3) (.reg 4)⟩, ⟨(some 2), none, .mov (.reg 5)⟩])
  .ret))⟩
theorem c122 : EL.fns 122 = some F122 := fns_of Tryz.func122 (by kernel_rfl) (by kernel_rfl)

noncomputable abbrev F134 : IFun := compD 134
theorem c134 : EL.fns 134 = some F134 := compD_of Tryz.func134 (by kernel_rfl) (by kernel_rfl)

noncomputable abbrev F135 : IFun := compD 135
theorem c135 : EL.fns 135 = some F135 := compD_of Tryz.func135 (by kernel_rfl) (by kernel_rfl)

noncomputable abbrev F141 : IFun := compD 141
theorem c141 : EL.fns 141 = some F141 := compD_of Tryz.func141 (by kernel_rfl) (by kernel_rfl)

noncomputable abbrev F152 : IFun := compD 152
theorem c152 : EL.fns 152 = some F152 := compD_of Tryz.func152 (by kernel_rfl) (by kernel_rfl)

noncomputable abbrev F156 : IFun := compD 156
theorem c156 : EL.fns 156 = some F156 := compD_of Tryz.func156 (by kernel_rfl) (by kernel_rfl)

noncomputable def tabL : List (Nat × KI) := [(12, ⟨F12, false, true, []⟩), (13, ⟨F13, false, true, []⟩), (14, ⟨F14, false, true, []⟩), (17, ⟨F17, false, true, []⟩), (18, ⟨F18, false, true, []⟩), (21, ⟨F21, false, true, []⟩), (22, ⟨F22, false, true, []⟩), (27, ⟨F27, false, true, []⟩), (28, ⟨F28, false, true, []⟩), (31, ⟨F31, false, true, []⟩), (36, ⟨F36, false, true, []⟩), (38, ⟨F38, false, true, []⟩), (41, ⟨F41, false, true, []⟩), (45, ⟨F45, true, false, []⟩), (46, ⟨F46, true, false, []⟩), (47, ⟨F47, true, false, []⟩), (48, ⟨F48, true, false, []⟩), (50, ⟨F50, false, true, []⟩), (58, ⟨F58, false, true, []⟩), (62, ⟨F62, false, true, []⟩), (63, ⟨F63, false, true, []⟩), (64, ⟨F64, false, true, []⟩), (65, ⟨F65, false, true, []⟩), (66, ⟨F66, false, true, []⟩), (67, ⟨F67, false, true, []⟩), (68, ⟨F68, false, true, []⟩), (69, ⟨F69, false, true, []⟩), (70, ⟨F70, false, true, []⟩), (71, ⟨F71, false, true, []⟩), (72, ⟨F72, false, true, []⟩), (73, ⟨F73, false, true, []⟩), (74, ⟨F74, false, true, []⟩), (75, ⟨F75, false, true, []⟩), (76, ⟨F76, false, true, []⟩), (77, ⟨F77, false, true, []⟩), (78, ⟨F78, false, true, []⟩), (82, ⟨F82, false, true, []⟩), (89, ⟨F89, false, true, []⟩), (90, ⟨F90, false, true, []⟩), (91, ⟨F91, false, true, []⟩), (97, ⟨F97, false, true, []⟩), (98, ⟨F98, false, true, []⟩), (101, ⟨F101, true, false, []⟩), (102, ⟨F102, false, true, []⟩), (103, ⟨F103, false, true, []⟩), (104, ⟨F104, true, false, []⟩), (107, ⟨F107, true, false, []⟩), (108, ⟨F108, false, true, []⟩), (109, ⟨F109, true, false, []⟩), (110, ⟨F110, false, true, []⟩), (111, ⟨F111, false, true, []⟩), (114, ⟨F114, false, true, []⟩), (115, ⟨F115, false, true, []⟩), (116, ⟨F116, false, true, []⟩), (117, ⟨F117, false, true, []⟩), (118, ⟨F118, false, true, []⟩), (119, ⟨F119, false, true, []⟩), (120, ⟨F120, false, true, []⟩), (121, ⟨F121, false, true, []⟩), (122, ⟨F122, false, true, []⟩), (131, ⟨F131, false, true, []⟩), (134, ⟨F134, false, true, []⟩), (135, ⟨F135, true, false, []⟩), (138, ⟨F138, false, true, []⟩), (139, ⟨F139, false, false, []⟩), (140, ⟨F140, false, true, []⟩), (141, ⟨F141, false, true, []⟩), (142, ⟨F142, true, false, []⟩), (143, ⟨F143, true, false, []⟩), (152, ⟨F152, false, true, []⟩), (154, ⟨F154, false, true, []⟩), (155, ⟨F155, false, true, []⟩), (156, ⟨F156, false, true, []⟩), (162, ⟨F162, false, true, []⟩), (163, ⟨F163, true, false, []⟩), (164, ⟨F164, false, true, []⟩), (165, ⟨F165, true, false, []⟩), (166, ⟨F166, true, false, []⟩), (167, ⟨F167, false, true, []⟩), (168, ⟨F168, false, true, []⟩), (179, ⟨F179, false, true, []⟩), (180, ⟨F180, false, true, []⟩), (181, ⟨F181, false, true, []⟩), (182, ⟨F182, false, true, []⟩), (186, ⟨F186, false, true, []⟩), (187, ⟨F187, false, true, []⟩), (188, ⟨F188, false, true, []⟩), (189, ⟨F189, true, false, []⟩), (190, ⟨F190, true, false, []⟩), (191, ⟨F191, false, true, []⟩), (192, ⟨F192, false, true, []⟩), (197, ⟨F197, true, false, []⟩), (200, ⟨F200, false, true, []⟩), (203, ⟨F203, false, true, []⟩), (204, ⟨F204, false, true, []⟩), (206, ⟨F206, true, false, []⟩), (208, ⟨F208, false, true, []⟩), (209, ⟨F209, false, true, []⟩), (210, ⟨F210, true, false, []⟩), (226, ⟨F226, false, true, []⟩), (227, ⟨F227, false, true, []⟩), (228, ⟨F228, false, true, []⟩)]

end Go.Proofs.YtgbfbhahnoafoaaGreatDoor

/- The functions that LiveCuts comes to beside LiveBlocks', as the program has them, the types resolved. -/
namespace Go.Proofs.YtgbfbhahnoafoaaGreatDoor
open Go Go.Abs

/-- hearth/hearthlaw12.LiveCuts -/
def G8 : IFun := ⟨190, [.tmp 2], (.seq (.ops [⟨(some 1), none, .box (.reg 0)⟩, ⟨(some 2), none, .mov (.const (.bool false))⟩])
  (.seq (.ops [⟨(some 22), none, .load true 5 (.reg 1)⟩, ⟨(some 23), none, .call (.const (.func (.func 32) [] [])) [(.reg 22)]⟩, ⟨(some 21), none, .mov (.reg 23)⟩, ⟨(some 24), none, .extract (.reg 21) 0⟩, ⟨(some 25), none, .extract (.reg 21) 1⟩, ⟨(some 3), none, .mov (.reg 24)⟩, ⟨(some 4), none, .mov (.reg 25)⟩])
  (.seq (.seq (.ops [⟨(some 26), none, .mov (.reg 4)⟩, ⟨(some 27), none, .un .not (.reg 26)⟩])
  (.cond (.reg 27)
  (.seq (.ops [⟨(some 28), none, .call (.const (.func (.func 12) [] [])) []⟩, ⟨(some 2), none, .mov (.reg 28)⟩])
  .ret)
  .skip))
  (.seq (.ops [⟨(some 30), none, .load true 5 (.reg 1)⟩, ⟨(some 31), none, .call (.const (.func (.func 38) [] [])) [(.reg 30)]⟩, ⟨(some 29), none, .mov (.reg 31)⟩, ⟨(some 32), none, .extract (.reg 29) 0⟩, ⟨(some 33), none, .extract (.reg 29) 1⟩, ⟨(some 5), none, .mov (.reg 32)⟩, ⟨(some 6), none, .mov (.reg 33)⟩])
  (.seq (.ops [⟨(some 35), none, .load true 5 (.reg 1)⟩, ⟨(some 36), none, .call (.const (.func (.func 37) [] [])) [(.reg 35)]⟩, ⟨(some 34), none, .mov (.reg 36)⟩, ⟨(some 37), none, .extract (.reg 34) 0⟩, ⟨(some 38), none, .extract (.reg 34) 1⟩, ⟨(some 7), none, .mov (.reg 37)⟩, ⟨(some 8), none, .mov (.reg 38)⟩])
  (.seq (.seq (.ops [⟨(some 39), none, .mov (.reg 6)⟩, ⟨(some 40), none, .eqv true (.one .int) (.reg 39) (.const (.int .i64 0))⟩, ⟨(some 41), none, .mov (.reg 40)⟩, ⟨(some 42), (some ((some 41), false)), .mov (.reg 8)⟩, ⟨(some 43), (some ((some 41), false)), .eqv true (.one .int) (.reg 42) (.const (.int .i64 0))⟩, ⟨(some 44), none, .pick (.reg 41) (.const (.bool true)) (.reg 43)⟩, ⟨(some 45), none, .mov (.reg 44)⟩, ⟨(some 46), (some ((some 45), false)), .mov (.reg 5)⟩, ⟨(some 47), (some ((some 45), false)), .len .slice (.reg 46)⟩, ⟨(some 48), (some ((some 45), false)), .addOff (.reg 1) 0⟩, ⟨(some 49), (some ((some 45), false)), .load false 1 (.reg 48)⟩, ⟨(some 50), (some ((some 45), false)), .len .slice (.reg 49)⟩, ⟨(some 51), (some ((some 45), false)), .bin .gtr (.reg 47) (.reg 50)⟩, ⟨(some 52), none, .pick (.reg 45) (.const (.bool true)) (.reg 51)⟩])
  (.cond (.reg 52)
  (.seq (.ops [⟨(some 2), none, .mov (.const (.bool false))⟩])
  .ret)
  .skip))
  (.seq (.ops [⟨(some 53), none, .load true 5 (.reg 1)⟩, ⟨(some 54), none, .mov (.reg 3)⟩, ⟨(some 55), none, .call (.const (.func (.func 43) [] [])) [(.reg 53), (.reg 54)]⟩, ⟨(some 9), none, .mov (.reg 55)⟩])
  (.seq (.ops [⟨(some 56), none, .addOff (.reg 1) 0⟩, ⟨(some 57), none, .load false 1 (.reg 56)⟩, ⟨(some 58), none, .len .slice (.reg 57)⟩, ⟨(some 59), none, .mkSlice 1 8 (.int .i64 0) (.reg 58) (.reg 58)⟩, ⟨(some 10), none, .mov (.reg 59)⟩])
  (.seq (.ops [⟨(some 11), none, .alloc (.frz [] true)⟩])
  (.seq (.seq (.ops [⟨(some 60), none, .mov (.reg 5)⟩, ⟨(some 61), none, .len .slice (.reg 60)⟩, ⟨(some 62), none, .mov (.const (.int .i64 0))⟩])
  (.block 0 (.loop
  (.seq (.ops [⟨(some 63), none, .bin .lss (.reg 62) (.reg 61)⟩])
  (.seq (.cond (.reg 63)
  .skip
  (.exit 0))
  (.seq (.block 1 (.seq (.ops [⟨(some 64), none, .idxS 3 (.reg 60) (.reg 62)⟩, ⟨(some 65), none, .load true 3 (.reg 64)⟩, ⟨(some 13), none, .alloc (.agg [(.int .i64 0), (.int .i64 0), (.frz [] true)])⟩, ⟨none, none, .store 3 (.reg 13) (.reg 65)⟩])
  (.seq (.seq (.ops [⟨(some 66), none, .addOff (.reg 13) 0⟩, ⟨(some 67), none, .load false 1 (.reg 66)⟩, ⟨(some 68), none, .bin .lss (.reg 67) (.const (.int .i64 0))⟩, ⟨(some 69), none, .mov (.reg 68)⟩, ⟨(some 70), (some ((some 69), false)), .addOff (.reg 13) 1⟩, ⟨(some 71), (some ((some 69), false)), .load false 1 (.reg 70)⟩, ⟨(some 72), (some ((some 69), false)), .addOff (.reg 13) 0⟩, ⟨(some 73), (some ((some 69), false)), .load false 1 (.reg 72)⟩, ⟨(some 74), (some ((some 69), false)), .bin .leq (.reg 71) (.reg 73)⟩, ⟨(some 75), none, .pick (.reg 69) (.const (.bool true)) (.reg 74)⟩, ⟨(some 76), none, .mov (.reg 75)⟩, ⟨(some 77), (some ((some 76), false)), .addOff (.reg 13) 1⟩, ⟨(some 78), (some ((some 76), false)), .load false 1 (.reg 77)⟩, ⟨(some 79), (some ((some 76), false)), .addOff (.reg 1) 0⟩, ⟨(some 80), (some ((some 76), false)), .load false 1 (.reg 79)⟩, ⟨(some 81), (some ((some 76), false)), .len .slice (.reg 80)⟩, ⟨(some 82), (some ((some 76), false)), .bin .gtr (.reg 78) (.reg 81)⟩, ⟨(some 83), none, .pick (.reg 76) (.const (.bool true)) (.reg 82)⟩])
  (.cond (.reg 83)
  (.seq (.ops [⟨(some 2), none, .mov (.const (.bool false))⟩])
  .ret)
  .skip))
  (.seq (.ops [⟨(some 84), none, .load false 1 (.reg 11)⟩, ⟨(some 85), none, .addOff (.reg 13) 0⟩, ⟨(some 86), none, .load false 1 (.reg 85)⟩, ⟨(some 87), none, .buildSlice 1 (.int .i64 0) 1 [(0, (.reg 86))]⟩, ⟨(some 88), none, .append 1 8 (.reg 84) (.reg 87)⟩, ⟨none, none, .store 1 (.reg 11) (.reg 88)⟩])
  (.seq (.ops [⟨(some 89), none, .addOff (.reg 13) 0⟩, ⟨(some 90), none, .load false 1 (.reg 89)⟩, ⟨(some 14), none, .mov (.reg 90)⟩])
  (.block 2 (.loop
  (.seq (.seq (.ops [⟨(some 91), none, .mov (.reg 14)⟩, ⟨(some 92), none, .addOff (.reg 13) 1⟩, ⟨(some 93), none, .load false 1 (.reg 92)⟩, ⟨(some 94), none, .bin .lss (.reg 91) (.reg 93)⟩])
  (.cond (.reg 94)
  .skip
  (.exit 2)))
  (.seq (.block 3 (.seq (.ops [⟨(some 97), none, .mov (.reg 10)⟩, ⟨(some 98), none, .mov (.reg 14)⟩, ⟨(some 99), none, .idxS 1 (.reg 97) (.reg 98)⟩, ⟨(some 100), none, .load false 1 (.reg 99)⟩, ⟨(some 101), none, .bin .add (.reg 100) (.const (.int .i64 1))⟩, ⟨(some 102), none, .idxS 1 (.reg 97) (.reg 98)⟩, ⟨none, none, .store 1 (.reg 102) (.reg 101)⟩])
  (.seq (.ops [⟨(some 103), none, .mov (.reg 14)⟩, ⟨(some 104), none, .bin .add (.reg 103) (.const (.int .i64 1))⟩, ⟨(some 105), none, .addOff (.reg 13) 1⟩, ⟨(some 106), none, .load false 1 (.reg 105)⟩, ⟨(some 107), none, .bin .lss (.reg 104) (.reg 106)⟩, ⟨(some 108), none, .mov (.reg 107)⟩, ⟨(some 109), (some ((some 108), true)), .mov (.reg 9)⟩, ⟨(some 110), (some ((some 108), true)), .mov (.reg 14)⟩, ⟨(some 111), (some ((some 108), true)), .idxS 1 (.reg 109) (.reg 110)⟩, ⟨(some 112), (some ((some 108), true)), .load false 1 (.reg 111)⟩, ⟨(some 113), (some ((some 108), true)), .mov (.reg 14)⟩, ⟨(some 114), (some ((some 108), true)), .bin .add (.reg 113) (.const (.int .i64 1))⟩, ⟨(some 115), (some ((some 108), true)), .buildSlice 1 (.int .i64 0) 1 [(0, (.reg 114))]⟩, ⟨(some 116), (some ((some 108), true)), .call (.const (.func (.func 44) [] [])) [(.reg 112), (.reg 115)]⟩, ⟨(some 117), (some ((some 108), true)), .un .not (.reg 116)⟩, ⟨(some 118), none, .pick (.reg 108) (.reg 117) (.const (.bool false))⟩])
  (.cond (.reg 118)
  (.seq (.ops [⟨(some 2), none, .mov (.const (.bool false))⟩])
  .ret)
  .skip))))
  (.ops [⟨(some 95), none, .mov (.reg 14)⟩, ⟨(some 96), none, .bin .add (.reg 95) (.const (.int .i64 1))⟩, ⟨(some 14), none, .mov (.reg 96)⟩]))))))))))
  (.ops [⟨(some 119), none, .bin .add (.reg 62) (.const (.int .i64 1))⟩, ⟨(some 62), none, .mov (.reg 119)⟩])))))))
  (.seq (.seq (.ops [⟨(some 120), none, .mov (.reg 5)⟩, ⟨(some 121), none, .len .slice (.reg 120)⟩, ⟨(some 122), none, .mov (.const (.int .i64 0))⟩])
  (.block 4 (.loop
  (.seq (.ops [⟨(some 123), none, .bin .lss (.reg 122) (.reg 121)⟩])
  (.seq (.cond (.reg 123)
  .skip
  (.exit 4))
  (.seq (.block 5 (.seq (.ops [⟨(some 124), none, .idxS 3 (.reg 120) (.reg 122)⟩, ⟨(some 125), none, .load true 3 (.reg 124)⟩, ⟨(some 16), none, .alloc (.agg [(.int .i64 0), (.int .i64 0), (.frz [] true)])⟩, ⟨none, none, .store 3 (.reg 16) (.reg 125)⟩])
  (.seq (.ops [⟨(some 126), none, .mov (.reg 9)⟩, ⟨(some 127), none, .addOff (.reg 16) 1⟩, ⟨(some 128), none, .load false 1 (.reg 127)⟩, ⟨(some 129), none, .bin .sub (.reg 128) (.const (.int .i64 1))⟩, ⟨(some 130), none, .idxS 1 (.reg 126) (.reg 129)⟩, ⟨(some 131), none, .load false 1 (.reg 130)⟩, ⟨(some 132), none, .call (.const (.func (.func 45) [] [])) [(.reg 131)]⟩, ⟨(some 17), none, .mov (.reg 132)⟩])
  (.seq (.ops [⟨(some 133), none, .mov (.reg 17)⟩, ⟨(some 134), none, .call (.const (.func (.func 46) [] [])) [(.reg 133)]⟩])
  (.seq (.draw [[], [(⟨(some 135), none, .addOff (.reg 16) 2⟩, []), (⟨(some 136), none, .load false 1 (.reg 135)⟩, [0]), (⟨(some 137), none, .mov (.reg 17)⟩, []), (⟨(some 138), none, .call (.const (.func (.func 47) [] [])) [(.reg 137)]⟩, [2])], [(⟨(some 139), none, .call (.const (.func (.func 44) [] [])) [(.reg 136), (.reg 138)]⟩, [])], [(⟨(some 140), none, .un .not (.reg 139)⟩, [])], [(⟨(some 141), none, .mov (.reg 140)⟩, [])], [(⟨(some 142), (some ((some 141), false)), .addOff (.reg 16) 2⟩, []), (⟨(some 143), (some ((some 141), false)), .load false 1 (.reg 142)⟩, [0]), (⟨(some 144), (some ((some 141), false)), .mkFunc (.func 49) [] [(.reg 11)]⟩, [])], [(⟨(some 145), (some ((some 141), false)), .call (.const (.func (.func 48) [] [])) [(.reg 143), (.reg 144)]⟩, [])], [(⟨(some 146), none, .pick (.reg 141) (.const (.bool true)) (.reg 145)⟩, [])]])
  (.cond (.reg 146)
  (.seq (.ops [⟨(some 2), none, .mov (.const (.bool false))⟩])
  .ret)
  .skip))))))
  (.ops [⟨(some 147), none, .bin .add (.reg 122) (.const (.int .i64 1))⟩, ⟨(some 122), none, .mov (.reg 147)⟩])))))))
  (.seq (.seq (.ops [⟨(some 148), none, .addOff (.reg 1) 0⟩, ⟨(some 149), none, .load false 1 (.reg 148)⟩, ⟨(some 150), none, .len .slice (.reg 149)⟩, ⟨(some 151), none, .mov (.const (.int .i64 0))⟩])
  (.block 6 (.loop
  (.seq (.ops [⟨(some 152), none, .bin .lss (.reg 151) (.reg 150)⟩])
  (.seq (.cond (.reg 152)
  .skip
  (.exit 6))
  (.seq (.block 7 (.seq (.ops [⟨(some 153), none, .mov (.reg 151)⟩, ⟨(some 18), none, .mov (.reg 153)⟩])
  (.seq (.draw [[], [(⟨(some 154), none, .mov (.reg 3)⟩, []), (⟨(some 155), none, .mov (.reg 18)⟩, []), (⟨(some 156), none, .idxS 3 (.reg 154) (.reg 155)⟩, [0, 1]), (⟨(some 157), none, .addOff (.reg 156) 0⟩, [0, 1, 2]), (⟨(some 158), none, .load false 1 (.reg 157)⟩, [0, 1, 2, 3]), (⟨(some 159), none, .mov (.reg 10)⟩, []), (⟨(some 160), none, .mov (.reg 18)⟩, []), (⟨(some 161), none, .idxS 1 (.reg 159) (.reg 160)⟩, [5, 6]), (⟨(some 162), none, .load false 1 (.reg 161)⟩, [5, 6, 7]), (⟨(some 163), none, .eqv false (.one .int) (.reg 162) (.const (.int .i64 1))⟩, [5, 6, 7, 8])], [(⟨(some 164), none, .eqv true (.one .bool) (.reg 158) (.reg 163)⟩, [])], [(⟨(some 165), none, .mov (.reg 164)⟩, [])], [(⟨(some 166), (some ((some 165), false)), .mov (.reg 10)⟩, []), (⟨(some 167), (some ((some 165), false)), .mov (.reg 18)⟩, [])], [(⟨(some 168), (some ((some 165), false)), .idxS 1 (.reg 166) (.reg 167)⟩, [])], [(⟨(some 169), (some ((some 165), false)), .load false 1 (.reg 168)⟩, [])], [(⟨(some 170), (some ((some 165), false)), .bin .gtr (.reg 169) (.const (.int .i64 1))⟩, [])], [(⟨(some 171), none, .pick (.reg 165) (.const (.bool true)) (.reg 170)⟩, [])]])
  (.cond (.reg 171)
  (.seq (.ops [⟨(some 2), none, .mov (.const (.bool false))⟩])
  .ret)
  .skip))))
  (.ops [⟨(some 172), none, .bin .add (.reg 151) (.const (.int .i64 1))⟩, ⟨(some 151), none, .mov (.reg 172)⟩])))))))
  (.seq (.seq (.ops [⟨(some 173), none, .mov (.reg 7)⟩, ⟨(some 174), none, .len .slice (.reg 173)⟩, ⟨(some 175), none, .mov (.const (.int .i64 0))⟩])
  (.block 8 (.loop
  (.seq (.ops [⟨(some 176), none, .bin .lss (.reg 175) (.reg 174)⟩])
  (.seq (.cond (.reg 176)
  .skip
  (.exit 8))
  (.seq (.block 9 (.seq (.ops [⟨(some 177), none, .idxS 2 (.reg 173) (.reg 175)⟩, ⟨(some 178), none, .load true 2 (.reg 177)⟩, ⟨(some 20), none, .alloc (.agg [(.int .i64 0), (.int .i64 0)])⟩, ⟨none, none, .store 2 (.reg 20) (.reg 178)⟩])
  (.seq (.ops [⟨(some 179), none, .load false 1 (.reg 11)⟩, ⟨(some 180), none, .addOff (.reg 20) 0⟩, ⟨(some 181), none, .load false 1 (.reg 180)⟩, ⟨(some 182), none, .call (.const (.func (.func 50) [] [])) [(.reg 179), (.reg 181)]⟩, ⟨(some 183), none, .un .not (.reg 182)⟩])
  (.cond (.reg 183)
  (.seq (.ops [⟨(some 2), none, .mov (.const (.bool false))⟩])
  .ret)
  .skip))))
  (.ops [⟨(some 184), none, .bin .add (.reg 175) (.const (.int .i64 1))⟩, ⟨(some 175), none, .mov (.reg 184)⟩])))))))
  (.seq (.ops [⟨(some 185), none, .load false 1 (.reg 11)⟩, ⟨(some 186), none, .call (.const (.func (.func 51) [] [])) [(.reg 185)]⟩, ⟨(some 187), none, .mov (.reg 186)⟩, ⟨(some 188), (some ((some 187), true)), .call (.const (.func (.func 12) [] [])) []⟩, ⟨(some 189), none, .pick (.reg 187) (.reg 188) (.const (.bool false))⟩, ⟨(some 2), none, .mov (.reg 189)⟩])
  .ret))))))))))))))⟩
theorem d8 : EL.fns 8 = some G8 := fns_of Tryz.func8 (by kernel_rfl) (by kernel_rfl)

/-- hearth/hearthlaw12.deep -/
def G32 : IFun := ⟨22, [.tmp 2, .tmp 3], (.seq (.ops [⟨(some 1), none, .box (.reg 0)⟩, ⟨(some 2), none, .mov (.const (.frz [] true))⟩, ⟨(some 3), none, .mov (.const (.bool false))⟩])
  (.seq (.seq (.ops [⟨(some 6), none, .load true 5 (.reg 1)⟩, ⟨(some 7), none, .call (.const (.func (.func 11) [] [])) [(.reg 6)]⟩, ⟨(some 8), none, .mov (.reg 7)⟩, ⟨(some 9), (some ((some 8), false)), .addOff (.reg 1) 0⟩, ⟨(some 10), (some ((some 8), false)), .load false 1 (.reg 9)⟩, ⟨(some 11), (some ((some 8), false)), .len .slice (.reg 10)⟩, ⟨(some 12), (some ((some 8), false)), .bin .gtr (.reg 11) (.const (.int .i64 120))⟩, ⟨(some 13), none, .pick (.reg 8) (.const (.bool true)) (.reg 12)⟩])
  (.cond (.reg 13)
  (.seq (.ops [⟨(some 2), none, .mov (.const (.frz [] true))⟩, ⟨(some 3), none, .mov (.const (.bool false))⟩])
  .ret)
  .skip))
  (.seq (.ops [⟨(some 15), none, .load true 5 (.reg 1)⟩, ⟨(some 16), none, .call (.const (.func (.func 15) [] [])) [(.reg 15)]⟩, ⟨(some 14), none, .mov (.reg 16)⟩, ⟨(some 17), none, .extract (.reg 14) 0⟩, ⟨(some 18), none, .extract (.reg 14) 1⟩, ⟨(some 4), none, .mov (.reg 17)⟩, ⟨(some 5), none, .mov (.reg 18)⟩])
  (.seq (.ops [⟨(some 19), none, .mov (.reg 4)⟩, ⟨(some 20), none, .mov (.reg 5)⟩, ⟨(some 21), none, .eqv false (.one .int) (.reg 20) (.const (.int .i64 0))⟩, ⟨(some 2), none, .mov (.reg 19)⟩, ⟨(some 3), none, .mov (.reg 21)⟩])
  .ret))))⟩
theorem d32 : EL.fns 32 = some G32 := fns_of Tryz.func32 (by kernel_rfl) (by kernel_rfl)

/-- hearth/hearthlaw12.edges -/
def G43 : IFun := ⟨68, [.tmp 4], (.seq (.ops [⟨(some 2), none, .box (.reg 0)⟩, ⟨(some 4), none, .mov (.const (.frz [] true))⟩])
  (.seq (.ops [⟨(some 8), none, .addOff (.reg 2) 0⟩, ⟨(some 9), none, .load false 1 (.reg 8)⟩, ⟨(some 10), none, .len .slice (.reg 9)⟩, ⟨(some 11), none, .mkSlice 1 24 (.frz [] true) (.reg 10) (.reg 10)⟩, ⟨(some 5), none, .mov (.reg 11)⟩])
  (.seq (.seq (.ops [⟨(some 12), none, .addOff (.reg 2) 0⟩, ⟨(some 13), none, .load false 1 (.reg 12)⟩, ⟨(some 14), none, .len .slice (.reg 13)⟩, ⟨(some 15), none, .mov (.const (.int .i64 0))⟩])
  (.block 0 (.loop
  (.seq (.ops [⟨(some 16), none, .bin .lss (.reg 15) (.reg 14)⟩])
  (.seq (.cond (.reg 16)
  .skip
  (.exit 0))
  (.seq (.block 1 (.seq (.ops [⟨(some 17), none, .mov (.reg 15)⟩, ⟨(some 18), none, .idxS 3 (.reg 13) (.reg 15)⟩, ⟨(some 19), none, .load true 3 (.reg 18)⟩, ⟨(some 7), none, .alloc (.agg [(.int .i64 0), (.int .i64 0), (.int .i64 0)])⟩, ⟨(some 6), none, .mov (.reg 17)⟩, ⟨none, none, .store 3 (.reg 7) (.reg 19)⟩])
  (.seq (.seq (.ops [⟨(some 20), none, .mov (.reg 1)⟩, ⟨(some 21), none, .mov (.reg 6)⟩, ⟨(some 22), none, .idxS 3 (.reg 20) (.reg 21)⟩, ⟨(some 23), none, .addOff (.reg 22) 0⟩, ⟨(some 24), none, .load false 1 (.reg 23)⟩, ⟨(some 25), none, .un .not (.reg 24)⟩])
  (.cond (.reg 25)
  (.exit 1)
  .skip))
  (.seq (.ops [⟨(some 26), none, .addOff (.reg 7) 0⟩, ⟨(some 27), none, .load false 1 (.reg 26)⟩])
  (.block 2 (.seq (.seq (.ops [⟨(some 35), none, .eqv false (.one .int) (.reg 27) (.const (.int .i64 8))⟩, ⟨(some 34), none, .mov (.reg 35)⟩])
  (.cond (.reg 34)
  .skip
  (.seq (.ops [⟨(some 36), none, .eqv false (.one .int) (.reg 27) (.const (.int .i64 20))⟩, ⟨(some 34), none, .mov (.reg 36)⟩])
  (.cond (.reg 34)
  .skip
  (.ops [⟨(some 37), none, .eqv false (.one .int) (.reg 27) (.const (.int .i64 34))⟩, ⟨(some 34), none, .mov (.reg 37)⟩])))))
  (.cond (.reg 34)
  .skip
  (.seq (.ops [⟨(some 39), none, .eqv false (.one .int) (.reg 27) (.const (.int .i64 11))⟩, ⟨(some 38), none, .mov (.reg 39)⟩])
  (.cond (.reg 38)
  (.ops [⟨(some 40), none, .mov (.reg 5)⟩, ⟨(some 41), none, .mov (.reg 6)⟩, ⟨(some 42), none, .addOff (.reg 7) 1⟩, ⟨(some 43), none, .load false 1 (.reg 42)⟩, ⟨(some 44), none, .buildSlice 1 (.int .i64 0) 1 [(0, (.reg 43))]⟩, ⟨(some 45), none, .idxS 1 (.reg 40) (.reg 41)⟩, ⟨none, none, .store 1 (.reg 45) (.reg 44)⟩])
  (.seq (.ops [⟨(some 47), none, .eqv false (.one .int) (.reg 27) (.const (.int .i64 12))⟩, ⟨(some 46), none, .mov (.reg 47)⟩])
  (.cond (.reg 46)
  (.ops [⟨(some 48), none, .mov (.reg 5)⟩, ⟨(some 49), none, .mov (.reg 6)⟩, ⟨(some 50), none, .mov (.reg 6)⟩, ⟨(some 51), none, .bin .add (.reg 50) (.const (.int .i64 1))⟩, ⟨(some 52), none, .addOff (.reg 7) 1⟩, ⟨(some 53), none, .load false 1 (.reg 52)⟩, ⟨(some 54), none, .buildSlice 1 (.int .i64 0) 2 [(0, (.reg 51)), (1, (.reg 53))]⟩, ⟨(some 55), none, .idxS 1 (.reg 48) (.reg 49)⟩, ⟨none, none, .store 1 (.reg 55) (.reg 54)⟩])
  (.seq (.ops [⟨(some 57), none, .eqv false (.one .int) (.reg 27) (.const (.int .i64 19))⟩, ⟨(some 56), none, .mov (.reg 57)⟩])
  (.cond (.reg 56)
  (.ops [⟨(some 58), none, .mov (.reg 5)⟩, ⟨(some 59), none, .mov (.reg 6)⟩, ⟨(some 60), none, .mov (.reg 6)⟩, ⟨(some 61), none, .bin .add (.reg 60) (.const (.int .i64 1))⟩, ⟨(some 62), none, .addOff (.reg 7) 2⟩, ⟨(some 63), none, .load false 1 (.reg 62)⟩, ⟨(some 64), none, .buildSlice 1 (.int .i64 0) 2 [(0, (.reg 61)), (1, (.reg 63))]⟩, ⟨(some 65), none, .idxS 1 (.reg 58) (.reg 59)⟩, ⟨none, none, .store 1 (.reg 65) (.reg 64)⟩])
  (.ops [⟨(some 28), none, .mov (.reg 5)⟩, ⟨(some 29), none, .mov (.reg 6)⟩, ⟨(some 30), none, .mov (.reg 6)⟩, ⟨(some 31), none, .bin .add (.reg 30) (.const (.int .i64 1))⟩, ⟨(some 32), none, .buildSlice 1 (.int .i64 0) 1 [(0, (.reg 31))]⟩, ⟨(some 33), none, .idxS 1 (.reg 28) (.reg 29)⟩, ⟨none, none, .store 1 (.reg 33) (.reg 32)⟩]))))))))))))))
  (.ops [⟨(some 66), none, .bin .add (.reg 15) (.const (.int .i64 1))⟩, ⟨(some 15), none, .mov (.reg 66)⟩])))))))
  (.seq (.ops [⟨(some 67), none, .mov (.reg 5)⟩, ⟨(some 4), none, .mov (.reg 67)⟩])
  .ret))))⟩
theorem d43 : EL.fns 43 = some G43 := fns_of Tryz.func43 (by kernel_rfl) (by kernel_rfl)

/-- slices.Equal[[]int,int] -/
def G44 : IFun := ⟨26, [.tmp 4], (.seq (.ops [⟨(some 4), none, .mov (.const (.bool false))⟩])
  (.seq (.seq (.ops [⟨(some 6), none, .mov (.reg 0)⟩, ⟨(some 7), none, .len .slice (.reg 6)⟩, ⟨(some 8), none, .mov (.reg 1)⟩, ⟨(some 9), none, .len .slice (.reg 8)⟩, ⟨(some 10), none, .eqv true (.one .int) (.reg 7) (.reg 9)⟩])
  (.cond (.reg 10)
  (.seq (.ops [⟨(some 4), none, .mov (.const (.bool false))⟩])
  .ret)
  .skip))
  (.seq (.seq (.ops [⟨(some 11), none, .mov (.reg 0)⟩, ⟨(some 12), none, .len .slice (.reg 11)⟩, ⟨(some 13), none, .mov (.const (.int .i64 0))⟩])
  (.block 0 (.loop
  (.seq (.ops [⟨(some 14), none, .bin .lss (.reg 13) (.reg 12)⟩])
  (.seq (.cond (.reg 14)
  .skip
  (.exit 0))
  (.seq (.block 1 (.seq (.ops [⟨(some 15), none, .mov (.reg 13)⟩, ⟨(some 5), none, .mov (.reg 15)⟩])
  (.seq (.draw [[], [(⟨(some 16), none, .mov (.reg 0)⟩, []), (⟨(some 17), none, .mov (.reg 5)⟩, []), (⟨(some 18), none, .idxS 1 (.reg 16) (.reg 17)⟩, [0, 1]), (⟨(some 19), none, .load false 1 (.reg 18)⟩, [0, 1, 2]), (⟨(some 20), none, .mov (.reg 1)⟩, []), (⟨(some 21), none, .mov (.reg 5)⟩, []), (⟨(some 22), none, .idxS 1 (.reg 20) (.reg 21)⟩, [4, 5]), (⟨(some 23), none, .load false 1 (.reg 22)⟩, [4, 5, 6])], [(⟨(some 24), none, .eqv true (.one .int) (.reg 19) (.reg 23)⟩, [])]])
  (.cond (.reg 24)
  (.seq (.ops [⟨(some 4), none, .mov (.const (.bool false))⟩])
  .ret)
  .skip))))
  (.ops [⟨(some 25), none, .bin .add (.reg 13) (.const (.int .i64 1))⟩, ⟨(some 13), none, .mov (.reg 25)⟩])))))))
  (.seq (.ops [⟨(some 4), none, .mov (.const (.bool true))⟩])
  .ret))))⟩
theorem d44 : EL.fns 44 = some G44 := fns_of Tryz.func44 (by kernel_rfl) (by kernel_rfl)

/-- slices.Clone[[]int,int] -/
def G45 : IFun := ⟨8, [.tmp 2], (.seq (.ops [⟨(some 2), none, .mov (.const (.frz [] true))⟩])
  (.seq (.seq (.ops [⟨(some 3), none, .mov (.reg 0)⟩, ⟨(some 4), none, .isNil .slice false (.reg 3)⟩])
  (.cond (.reg 4)
  (.seq (.ops [⟨(some 2), none, .mov (.const (.frz [] true))⟩])
  .ret)
  .skip))
  (.seq (.ops [⟨(some 5), none, .buildSlice 1 (.int .i64 0) 0 []⟩, ⟨(some 6), none, .mov (.reg 0)⟩, ⟨(some 7), none, .append 1 8 (.reg 5) (.reg 6)⟩, ⟨(some 2), none, .mov (.reg 7)⟩])
  .ret)))⟩
theorem d45 : EL.fns 45 = some G45 := fns_of Tryz.func45 (by kernel_rfl) (by kernel_rfl)

/-- hearth/hearthlaw12.LiveCuts$1 -/
def G49 : IFun := ⟨8, [.tmp 3], (.seq (.ops [⟨(some 3), none, .mov (.const (.bool false))⟩])
  (.seq (.ops [⟨(some 4), none, .load false 1 (.reg 1)⟩, ⟨(some 5), none, .mov (.reg 0)⟩, ⟨(some 6), none, .call (.const (.func (.func 50) [] [])) [(.reg 4), (.reg 5)]⟩, ⟨(some 7), none, .un .not (.reg 6)⟩, ⟨(some 3), none, .mov (.reg 7)⟩])
  .ret))⟩
theorem d49 : EL.fns 49 = some G49 := fns_of Tryz.func49 (by kernel_rfl) (by kernel_rfl)

/-- slices.Contains[[]int,int] -/
def G50 : IFun := ⟨9, [.tmp 4], (.seq (.ops [⟨(some 4), none, .mov (.const (.bool false))⟩])
  (.seq (.ops [⟨(some 5), none, .mov (.reg 0)⟩, ⟨(some 6), none, .mov (.reg 1)⟩, ⟨(some 7), none, .call (.const (.func (.func 110) [] [])) [(.reg 5), (.reg 6)]⟩, ⟨(some 8), none, .bin .geq (.reg 7) (.const (.int .i64 0))⟩, ⟨(some 4), none, .mov (.reg 8)⟩])
  .ret))⟩
theorem d50 : EL.fns 50 = some G50 := fns_of Tryz.func50 (by kernel_rfl) (by kernel_rfl)

/-- slices.IsSorted[[]int,int] -/
def G51 : IFun := ⟨21, [.tmp 2], (.seq (.ops [⟨(some 2), none, .mov (.const (.bool false))⟩])
  (.seq (.seq (.ops [⟨(some 4), none, .mov (.reg 0)⟩, ⟨(some 5), none, .len .slice (.reg 4)⟩, ⟨(some 6), none, .bin .sub (.reg 5) (.const (.int .i64 1))⟩, ⟨(some 3), none, .mov (.reg 6)⟩])
  (.block 0 (.loop
  (.seq (.seq (.ops [⟨(some 7), none, .mov (.reg 3)⟩, ⟨(some 8), none, .bin .gtr (.reg 7) (.const (.int .i64 0))⟩])
  (.cond (.reg 8)
  .skip
  (.exit 0)))
  (.seq (.block 1 (.seq (.draw [[], [(⟨(some 11), none, .mov (.reg 0)⟩, []), (⟨(some 12), none, .mov (.reg 3)⟩, []), (⟨(some 13), none, .idxS 1 (.reg 11) (.reg 12)⟩, [0, 1]), (⟨(some 14), none, .load false 1 (.reg 13)⟩, [0, 1, 2]), (⟨(some 15), none, .mov (.reg 0)⟩, []), (⟨(some 16), none, .mov (.reg 3)⟩, []), (⟨(some 17), none, .bin .sub (.reg 16) (.const (.int .i64 1))⟩, [5]), (⟨(some 18), none, .idxS 1 (.reg 15) (.reg 17)⟩, [4, 5, 6]), (⟨(some 19), none, .load false 1 (.reg 18)⟩, [4, 5, 6, 7])], [(⟨(some 20), none, .call (.const (.func (.func 111) [] [])) [(.reg 14), (.reg 19)]⟩, [])]])
  (.cond (.reg 20)
  (.seq (.ops [⟨(some 2), none, .mov (.const (.bool false))⟩])
  .ret)
  .skip)))
  (.ops [⟨(some 9), none, .mov (.reg 3)⟩, ⟨(some 10), none, .bin .sub (.reg 9) (.const (.int .i64 1))⟩, ⟨(some 3), none, .mov (.reg 10)⟩]))))))
  (.seq (.ops [⟨(some 2), none, .mov (.const (.bool true))⟩])
  .ret)))⟩
theorem d51 : EL.fns 51 = some G51 := fns_of Tryz.func51 (by kernel_rfl) (by kernel_rfl)

/-- slices.Index[[]int,int] -/
def G110 : IFun := ⟨19, [.tmp 4], (.seq (.ops [⟨(some 4), none, .mov (.const (.int .i64 0))⟩])
  (.seq (.seq (.ops [⟨(some 6), none, .mov (.reg 0)⟩, ⟨(some 7), none, .len .slice (.reg 6)⟩, ⟨(some 8), none, .mov (.const (.int .i64 0))⟩])
  (.block 0 (.loop
  (.seq (.ops [⟨(some 9), none, .bin .lss (.reg 8) (.reg 7)⟩])
  (.seq (.cond (.reg 9)
  .skip
  (.exit 0))
  (.seq (.block 1 (.seq (.ops [⟨(some 10), none, .mov (.reg 8)⟩, ⟨(some 5), none, .mov (.reg 10)⟩])
  (.seq (.ops [⟨(some 11), none, .mov (.reg 1)⟩, ⟨(some 12), none, .mov (.reg 0)⟩, ⟨(some 13), none, .mov (.reg 5)⟩, ⟨(some 14), none, .idxS 1 (.reg 12) (.reg 13)⟩, ⟨(some 15), none, .load false 1 (.reg 14)⟩, ⟨(some 16), none, .eqv false (.one .int) (.reg 11) (.reg 15)⟩])
  (.cond (.reg 16)
  (.seq (.ops [⟨(some 17), none, .mov (.reg 5)⟩, ⟨(some 4), none, .mov (.reg 17)⟩])
  .ret)
  .skip))))
  (.ops [⟨(some 18), none, .bin .add (.reg 8) (.const (.int .i64 1))⟩, ⟨(some 8), none, .mov (.reg 18)⟩])))))))
  (.seq (.ops [⟨(some 4), none, .mov (.const (.int .i64 (-1)))⟩])
  .ret)))⟩
theorem d110 : EL.fns 110 = some G110 := fns_of Tryz.func110 (by kernel_rfl) (by kernel_rfl)

end Go.Proofs.YtgbfbhahnoafoaaGreatDoor

/- The evaluator made to be run by the kernel tells nothing that the evaluator does not. -/
namespace Go.Abs

variable {E : Env} {T : KT} {Λ : List KInfo} {n : Nat} {t : RT} {A : Heap}

noncomputable def infoR (i : KInfo) : LoopInfo := ⟨i.id, i.t.regs i.n, i.params, i.assign, i.body⟩

/-- What is told, no walk tells. -/
def Dull (E : Env) (g : FuncId) (F : IFun) : Prop := ∀ xs v, E.easy g xs = some v → ∀ n Λ A, ev E n Λ F.body (regs F.ntmps (ini xs)) A = none

theorem Dull.none {g : FuncId} {F : IFun} (h : Dull E g F) {xs : List AV} {Λ : List LoopInfo} {A : Heap} {Q : AExit → Regs → Heap → Prop} (hw : Wp E Λ F.body (regs F.ntmps (ini xs)) A Q) : E.easy g xs = Option.none := by
  obtain ⟨n, e, R', A', h1, _⟩ := hw
  cases he : E.easy g xs with
  | none => rfl
  | some v => rw [h xs v he] at h1; cases h1

/-- The table is the environment's. -/
def TabOk (E : Env) (T : KT) : Prop := ∀ g ki, T.get g = some ki → E.intr g = none ∧ E.fns g = some ki.F ∧ E.keep g = ki.keep ∧ E.apart g = ki.apart ∧ Dull E g ki.F ∧
  ∀ p ∈ ki.memo, ∀ (Λ : List LoopInfo) (A : Heap), WpC E Λ (.func (.func g) [] []) p.1 A (fun r B => r = .ret p.2 ∧ B = A)

def ResR (A : Heap) (r : KRes) (r' : CRes) (A' : Heap) : Prop := match r with
  | .same v => r' = .ret v ∧ A' = A
  | .ret v B => r' = .ret v ∧ A' = B
  | .panic v B => r' = .panic v ∧ A' = B

def CallOkK (E : Env) (Λ : List KInfo) (call : KCall) : Prop := ∀ f xs A r, call f xs A = some r → WpC E (Λ.map infoR) f xs A (ResR A r)

def OrR (n : Nat) (r : KOR) (r' : OR) : Prop := match r with
  | .next t A => Braun t n ∧ r' = .next (t.regs n) A
  | .panic v t A => Braun t n ∧ r' = .panic v (t.regs n) A

theorem argK_eq (h : Braun t n) (a : Arg) : argK E t a = arg E (t.regs n) a := by
  cases a with
  | reg i => exact (rget_tree h).symm
  | const v => rfl
  | glob g => rfl

theorem guardK_eq (h : Braun t n) (g : Option (Option Nat × Bool)) : guardK g t = guarded (t.regs n) g := by
  match g with
  | none => rfl
  | some (none, b) => rfl
  | some (some i, b) =>
    show @Option.rec Bool (fun _ => Bool) false (fun c => c == b) (t.get i).asBool = _
    simp only [guarded]
    rw [rget_tree h]
    cases t.get i <;> rfl

theorem calleeK_eq (h : Braun t n) (op : IOp) : calleeK E (argK E t) op = callee E (t.regs n) op := by
  have ha : ∀ l : List Arg, lmap (argK E t) l = args E (t.regs n) l := fun l => by
    rw [lmap_eq]
    exact List.map_congr_left fun a _ => argK_eq h a
  cases op <;> try rfl
  · simp only [calleeK, callee, argK_eq h, ha]
  · simp only [calleeK, callee, argK_eq h, ha]
    rfl

theorem wpo_panic {Λ : List LoopInfo} {R : Regs} {d : Option Nat} {g : Option (Option Nat × Bool)} {x : Arg} {l : List IOper} {Q : OR → Prop} {u : Nat} {v : AV} (hg : guarded R g = true) (hx : arg E R x = .iface u v) (hq : Q (.panic (.iface u v) R A)) :
    WpO E Λ (⟨d, g, .panic x⟩ :: l) R A Q := ⟨0, _, by rw [evOps_panic rfl, if_pos hg, hx], hq⟩

theorem opsK_sound {call : KCall} (hc : CallOkK E Λ call) : ∀ (l : List IOper) (t : RT) (A : Heap) (r : KOR), Braun t n → opsK E call l t A = some r → WpO E (Λ.map infoR) l (t.regs n) A (OrR n r)
  | [], t, A, r, hb, h => by
    cases h
    exact wpo_nil.2 ⟨hb, rfl⟩
  | ⟨d, g, op⟩ :: l, t, A, r, hb, h => by
    have h : @Bool.rec (fun _ => Option KOR) (opsK E call l (t.put d undefA) A)
        (@Bool.rec (fun _ => Option KOR) (otherK E call op d (opsK E call l) t A)
          (@Option.rec Out (fun _ => Option KOR) none (fun out => opsK E call l (t.put d out.v) (outK A out)) (opK op (argK E t) A (llen A))) (isPlainK op)) (guardK g t) = some r := h
    rw [brec_if, guardK_eq hb] at h
    by_cases hg : guarded (t.regs n) g = true
    · rw [if_pos hg, brec_if, isPlainK_eq] at h
      by_cases hp : op.plain = true
      · rw [if_pos hp, opK_eq (E := E) (R := t.regs n) (argK E t) (argK_eq hb), llen_eq] at h
        rw [wpo_plain hp]
        unfold gd
        rw [if_pos hg]
        cases ho : evOp E (t.regs n) A A.length op with
        | none => rw [ho] at h; cases h
        | some out =>
          rw [ho] at h
          have h : opsK E call l (t.put d out.v) (outK A out) = some r := h
          rw [outK_eq] at h
          show WpO E _ l (rput (t.regs n) d out.v) (applyOut A out) _
          rw [rput_tree hb]
          exact opsK_sound hc l _ _ r (hb.put d out.v) h
      · rw [if_neg hp] at h
        by_cases hpa : ∃ x, op = .panic x
        · obtain ⟨x, rfl⟩ := hpa
          simp only [otherK, argK_eq hb] at h
          split at h <;> (try (cases h; done))
          rename_i u v hx
          cases h
          exact wpo_panic hg hx ⟨hb, rfl⟩
        · have h : (match calleeK E (argK E t) op with
            | some (f, xs) => callRK (call f xs A) d (opsK E call l) t A
            | none => none) = some r := by
            unfold otherK at h
            split at h
            · exact absurd ⟨_, rfl⟩ hpa
            · exact h
          rw [calleeK_eq hb] at h
          cases hcl : callee E (t.regs n) op with
          | none => rw [hcl] at h; cases h
          | some q =>
            obtain ⟨f, xs⟩ := q
            rw [hcl] at h
            have h : callRK (call f xs A) d (opsK E call l) t A = some r := h
            rw [wpo_callee hcl]
            unfold gd
            rw [if_pos hg]
            cases hx : call f xs A with
            | none => rw [hx] at h; cases h
            | some s =>
              rw [hx] at h
              refine (hc f xs A s hx).mono fun r' A' hr => ?_
              cases s with
              | same v =>
                obtain ⟨rfl, rfl⟩ := hr
                show WpO E _ l (rput (t.regs n) d v) A' _
                rw [rput_tree hb]
                exact opsK_sound hc l _ _ r (hb.put d v) h
              | ret v B =>
                obtain ⟨rfl, rfl⟩ := hr
                show WpO E _ l (rput (t.regs n) d v) A' _
                rw [rput_tree hb]
                exact opsK_sound hc l _ _ r (hb.put d v) h
              | panic v B =>
                obtain ⟨rfl, rfl⟩ := hr
                cases h
                exact ⟨hb, rfl⟩
    · rw [if_neg hg] at h
      have key : WpO E (Λ.map infoR) l (rput (t.regs n) d undefA) A (OrR n r) := by
        rw [rput_tree hb]
        exact opsK_sound hc l _ _ r (hb.put d undefA) h
      obtain ⟨m, r', h1, h2⟩ := key
      refine ⟨m, r', ?_, h2⟩
      simp only [evOps]
      rw [if_neg hg]
      exact h1

theorem quietK_sound {call : KCall} (hc : CallOkK E Λ call) {A : Heap} : ∀ (l : List (IOper × List Nat)) (t : RT) (t' : RT), Braun t n → quietK E call A l t = some t' → WpQ E (Λ.map infoR) A l (t.regs n) (fun R => Braun t' n ∧ R = t'.regs n)
  | [], t, t', hb, h => by
    cases h
    exact wpq_nil.2 ⟨hb, rfl⟩
  | (⟨d, g, op⟩, pre) :: l, t, t', hb, h => by
    have h : @Bool.rec (fun _ => Option RT) (quietK E call A l (t.put d undefA))
        (@Bool.rec (fun _ => Option RT) (match calleeK E (argK E t) op with | some (f, xs) => quietRK (call f xs A) d (quietK E call A l) t A | none => none)
          (@Option.rec Out (fun _ => Option RT) none (fun out => @Bool.rec (fun _ => Option RT) none (quietK E call A l (t.put d out.v)) (out.wr.isEmpty && out.new.isNone)) (opK op (argK E t) A (llen A))) (isPlainK op)) (guardK g t) = some t' := h
    rw [brec_if, guardK_eq hb] at h
    by_cases hg : guarded (t.regs n) g = true
    · rw [if_pos hg, brec_if, isPlainK_eq] at h
      by_cases hp : op.plain = true
      · rw [if_pos hp, opK_eq (E := E) (R := t.regs n) (argK E t) (argK_eq hb), llen_eq] at h
        rw [wpq_plain hp]
        unfold gd
        rw [if_pos hg]
        cases ho : evOp E (t.regs n) A A.length op with
        | none => rw [ho] at h; cases h
        | some out =>
          rw [ho] at h
          have h : @Bool.rec (fun _ => Option RT) none (quietK E call A l (t.put d out.v)) (out.wr.isEmpty && out.new.isNone) = some t' := h
          rw [brec_if] at h
          split at h <;> (try (cases h; done))
          rename_i hw
          simp only [Bool.and_eq_true, List.isEmpty_iff, Option.isNone_iff_eq_none] at hw
          refine ⟨hw.1, hw.2, ?_⟩
          rw [rput_tree hb]
          exact quietK_sound hc l _ t' (hb.put d out.v) h
      · rw [if_neg hp, calleeK_eq hb] at h
        cases hcl : callee E (t.regs n) op with
        | none => rw [hcl] at h; cases h
        | some q =>
          obtain ⟨f, xs⟩ := q
          rw [hcl] at h
          have h : quietRK (call f xs A) d (quietK E call A l) t A = some t' := h
          rw [wpq_callee hcl]
          unfold gd
          rw [if_pos hg]
          cases hx : call f xs A with
          | none => rw [hx] at h; cases h
          | some s =>
            rw [hx] at h
            refine (hc f xs A s hx).mono fun r' A' hr => ?_
            cases s with
            | same v =>
              obtain ⟨rfl, rfl⟩ := hr
              refine ⟨sameHeap_self, ?_⟩
              rw [rput_tree hb]
              exact quietK_sound hc l _ t' (hb.put d v) h
            | ret v B =>
              obtain ⟨rfl, rfl⟩ := hr
              have h : @Bool.rec (fun _ => Option RT) none (quietK E call A l (t.put d v)) (sameHeap A A') = some t' := h
              rw [brec_if] at h
              split at h <;> (try (cases h; done))
              rename_i hs
              refine ⟨hs, ?_⟩
              rw [rput_tree hb]
              exact quietK_sound hc l _ t' (hb.put d v) h
            | panic v B => cases h
    · rw [if_neg hg] at h
      have key : WpQ E (Λ.map infoR) A l (rput (t.regs n) d undefA) (fun R => Braun t' n ∧ R = t'.regs n) := by
        rw [rput_tree hb]
        exact quietK_sound hc l _ t' (hb.put d undefA) h
      obtain ⟨m, r', h1, h2⟩ := key
      refine ⟨m, r', ?_, h2⟩
      simp only [evQuiet]
      rw [if_neg hg]
      exact h1

theorem drawK_sound {call : KCall} (hc : CallOkK E Λ call) {A0 : Heap} {n0 : Nat} : ∀ (l : List (IOper × List Nat)) (t : RT) (ds : List Done) (t' : RT) (ds' : List Done), Braun t n → drawK E call n A0 n0 l t ds = some (t', ds') →
    WpD E (Λ.map infoR) A0 n0 l (t.regs n) ds (fun R s => Braun t' n ∧ R = t'.regs n ∧ s = ds')
  | [], t, ds, t', ds', hb, h => by
    cases h
    exact wpd_nil.2 ⟨hb, rfl, rfl⟩
  | (⟨d, g, op⟩, pre) :: l, t, ds, t', ds', hb, h => by
    have h : @Bool.rec (fun _ => Option (RT × List Done)) (drawK E call n A0 n0 l (t.put d undefA) (ds ++ [@Done.mk undefA [] ⟨[]⟩]))
        (@Bool.rec (fun _ => Option (RT × List Done))
          (match calleeK E (argK E t) op with
            | some (f, xs) => match call f xs (bitOf E A0 (t.regs n) ds pre op) with
              | some (.same v) => @Bool.rec (fun _ => Option (RT × List Done)) none (drawK E call n A0 n0 l (t.put d v) (ds ++ [@Done.mk v [] ⟨bitOf E A0 (t.regs n) ds pre op⟩])) (v.named (fun id => decide (id < n0) || pre.contains (id - n0)))
              | some (.ret v A') => if (bitOf E A0 (t.regs n) ds pre op).length = A'.length ∧ v.named (fun id => decide (id < n0) || pre.contains (id - n0)) ∧ (diff 0 (bitOf E A0 (t.regs n) ds pre op) A').all (fun d => (fun id => decide (id < n0) || pre.contains (id - n0)) d.1 && d.2.named (fun id => decide (id < n0) || pre.contains (id - n0)))
                  then drawK E call n A0 n0 l (t.put d v) (ds ++ [@Done.mk v (diff 0 (bitOf E A0 (t.regs n) ds pre op) A') ⟨bitOf E A0 (t.regs n) ds pre op⟩]) else none
              | _ => none
            | none => none)
          (match opK op (argK E t) (bitOf E A0 (t.regs n) ds pre op) (n0 + ds.length) with
            | some out => @Bool.rec (fun _ => Option (RT × List Done)) none (drawK E call n A0 n0 l (t.put d out.v) (ds ++ [@Done.mk out.v (out.wr ++ (out.new.toList.map fun b => (n0 + ds.length, b))) ⟨bitOf E A0 (t.regs n) ds pre op⟩])) (out.wr.all (fun d => decide (d.1 < n0 + ds.length)))
            | none => none) (isPlainK op)) (guardK g t) = some (t', ds') := h
    rw [brec_if, guardK_eq hb] at h
    by_cases hg : guarded (t.regs n) g = true
    · rw [if_pos hg, brec_if, isPlainK_eq] at h
      by_cases hp : op.plain = true
      · rw [if_pos hp, opK_eq (E := E) (R := t.regs n) (argK E t) (argK_eq hb)] at h
        rw [wpd_plain hp]
        unfold gd
        rw [if_pos hg]
        cases ho : evOp E (t.regs n) (bitOf E A0 (t.regs n) ds pre op) (n0 + ds.length) op with
        | none => rw [ho] at h; cases h
        | some out =>
          rw [ho] at h
          simp only [brec_if] at h
          split at h <;> (try (cases h; done))
          rename_i hw
          refine ⟨hw, ?_⟩
          rw [rput_tree hb]
          exact drawK_sound hc l _ _ t' ds' (hb.put d out.v) h
      · rw [if_neg hp, calleeK_eq hb] at h
        cases hcl : callee E (t.regs n) op with
        | none => rw [hcl] at h; cases h
        | some q =>
          obtain ⟨f, xs⟩ := q
          rw [hcl] at h
          simp only [brec_if] at h
          split at h <;> (try (cases h; done))
          · rename_i v hx
            split at h <;> (try (cases h; done))
            rename_i hv
            have h1 := hc f xs _ _ hx
            have h2 := drawK_sound hc l _ _ t' ds' (hb.put d v) h
            rw [← rput_tree hb] at h2
            obtain ⟨m1, r', A', e1, e2, e3⟩ := h1
            subst e2; subst e3
            obtain ⟨m2, R2, s2, e4, e5⟩ := h2
            refine ⟨max m1 m2, R2, s2, ?_, e5⟩
            simp only [evDraw, drawOne, hg, if_true, hcl]
            have e6 := call_mono (Nat.le_max_left m1 m2) _ _ _ _ e1
            unfold bitOf at e6 e4 hx
            rw [e6]
            simp only [diff_self, List.all_nil, hv, and_true, if_true]
            exact evDraw_le (call_mono (Nat.le_max_right m1 m2)) e4
          · rename_i v B hx
            split at h <;> (try (cases h; done))
            rename_i hv
            have h1 := hc f xs _ _ hx
            have h2 := drawK_sound hc l _ _ t' ds' (hb.put d v) h
            rw [← rput_tree hb] at h2
            obtain ⟨m1, r', A', e1, e2, e3⟩ := h1
            subst e2; subst e3
            obtain ⟨m2, R2, s2, e4, e5⟩ := h2
            refine ⟨max m1 m2, R2, s2, ?_, e5⟩
            simp only [evDraw, drawOne, hg, if_true, hcl]
            have e6 := call_mono (Nat.le_max_left m1 m2) _ _ _ _ e1
            unfold bitOf at e6 e4 hv hx
            rw [e6]
            simp only
            rw [if_pos hv]
            exact evDraw_le (call_mono (Nat.le_max_right m1 m2)) e4
    · rw [if_neg hg] at h
      have key : WpD E (Λ.map infoR) A0 n0 l (rput (t.regs n) d undefA) (ds ++ [@Done.mk undefA [] ⟨[]⟩]) (fun R s => Braun t' n ∧ R = t'.regs n ∧ s = ds') := by
        rw [rput_tree hb]
        exact drawK_sound hc l _ _ t' ds' (hb.put d undefA) h
      obtain ⟨m, r', s', h1, h2⟩ := key
      refine ⟨m, r', s', ?_, h2⟩
      simp only [evDraw, drawOne]
      rw [if_neg hg]
      exact h1

theorem segK_sound {call : KCall} (hc : CallOkK E Λ call) (s : List (IOper × List Nat)) (t : RT) (A : Heap) (r : KOR) (hb : Braun t n) (h : segK E call n s t A = some r) : WpG E (Λ.map infoR) s (t.regs n) A (OrR n r) := by
  match s with
  | [] =>
    cases h
    exact wpg_nil.2 ⟨hb, rfl⟩
  | [q] => exact wpg_one.2 (opsK_sound hc [q.1] t A r hb h)
  | p :: q :: s =>
    unfold segK at h
    simp only at h
    by_cases hq : quietSeg E (p :: q :: s) = true
    · rw [if_pos hq, Option.map_eq_some_iff] at h
      obtain ⟨t', h1, rfl⟩ := h
      rw [wpg_quiet hq]
      obtain ⟨m, R', h2, h3, rfl⟩ := quietK_sound hc _ t t' hb h1
      exact ⟨m, _, h2, h3, rfl⟩
    · have hq : quietSeg E (p :: q :: s) = false := by simpa using hq
      rw [hq, if_neg (by simp)] at h
      split at h <;> (try (cases h; done))
      rename_i t' ds hd
      split at h <;> (try (cases h; done))
      rename_i hok
      cases h
      rw [wpg_region hq]
      obtain ⟨m, R', s', h2, h3, rfl, rfl⟩ := drawK_sound hc _ t [] t' ds hb hd
      exact ⟨m, _, _, h2, hok, h3, rfl⟩

theorem segsK_sound {call : KCall} (hc : CallOkK E Λ call) : ∀ (l : List (List (IOper × List Nat))) (t : RT) (A : Heap) (r : KOR), Braun t n → segsK E call n l t A = some r → WpS E (Λ.map infoR) l (t.regs n) A (OrR n r)
  | [], t, A, r, hb, h => by
    cases h
    exact wps_nil.2 ⟨hb, rfl⟩
  | s :: l, t, A, r, hb, h => by
    have h : @Option.rec KOR (fun _ => Option KOR) none (fun r => @KOR.rec (fun _ => Option KOR) (fun t' A' => segsK E call n l t' A') (fun v t' A' => some (.panic v t' A')) r) (segK E call n s t A) = some r := h
    rw [wps_cons]
    cases hs : segK E call n s t A with
    | none => rw [hs] at h; cases h
    | some q =>
      rw [hs] at h
      obtain ⟨m, r', h1, h2⟩ := segK_sound hc s t A q hb hs
      refine ⟨m, r', h1, ?_⟩
      cases q with
      | next t' A' =>
        obtain ⟨h3, rfl⟩ := h2
        exact segsK_sound hc l t' A' r h3 h
      | panic v t' A' =>
        obtain ⟨h3, rfl⟩ := h2
        cases h
        exact ⟨h3, rfl⟩

/-! ### Code -/

def XR (n : Nat) (x : KX) (e : AExit) (R : Regs) (A : Heap) : Prop := Braun x.t n ∧ e = x.e ∧ R = x.t.regs n ∧ A = x.A

def InfosOk (Λ : List KInfo) : Prop := ∀ i ∈ Λ, Braun i.t i.n

def RecOk (E : Env) (rec : KRec) : Prop := ∀ Λ n c t A x, InfosOk Λ → Braun t n → rec Λ n c t A = some x → Wp E (Λ.map infoR) c (t.regs n) A (XR n x)

theorem resK_eq {t : RT} {n : Nat} (h : Braun t n) (A : Heap) : ∀ l : List IRes, resK t A l = resOf (t.regs n) A l
  | [] => rfl
  | r :: l => by
    show @Option.rec AV (fun _ => Option (List AV)) none (fun v => @Option.rec (List AV) (fun _ => Option (List AV)) none (fun vs => some (v :: vs)) (resK t A l)) (@IRes.rec (fun _ => Option AV) (fun i => some (t.get i)) (fun a g n => ldK (t.get a) A g n) r) = _
    rw [resK_eq h A l]
    cases r with
    | tmp i =>
      simp only [resOf]
      rw [rget_tree h]
      cases resOf (t.regs n) A l <;> rfl
    | cell a g m =>
      simp only [resOf]
      rw [rget_tree h, ldK_eq]
      cases ld A g m (t.get a) <;> cases resOf (t.regs n) A l <;> rfl

theorem apartK_sound {rec : KRec} (hr : RecOk E rec) {ki : KI} {g : FuncId} {p q xs : List AV} {A : Heap} {r : KRes} {Λ : List LoopInfo} (hi : E.intr g = none) (hf : E.fns g = some ki.F) (hd : Dull E g ki.F) (hk : E.keep g = ki.keep) (ha : E.apart g = true) (hl : (p ++ xs ++ q).length ≤ ki.F.ntmps) (hn : ki.F.ntmps < 4096)
    (hu : AV.unders 0 (p ++ xs ++ q) = true) (h : apartK rec ki (p ++ xs ++ q) = some r) : WpC E Λ (.func (.func g) p q) xs A (ResR A r) := by
  unfold apartK at h
  have hb : Braun (RT.fill (p ++ xs ++ q) 0 (RT.mk 12 ki.F.ntmps)) ki.F.ntmps := fill_braun _ _ _ _ (Braun.mk 12 _ (by omega))
  split at h <;> (try (cases h; done))
  rename_i e t' A' hx
  have hw := hr [] _ _ _ _ _ (fun i hi => by cases hi) hb hx
  have hw' := hw
  rw [fill_regs (k := 12) (by omega) hl] at hw'
  rw [wpc_apart hi hf ha hl hu (hd.none hw'), ← fill_regs (k := 12) (by omega) hl]
  refine hw.mono fun e' R' B hq => ?_
  obtain ⟨h1, rfl, rfl, rfl⟩ := hq
  simp only at h1
  rw [resK_eq h1] at h
  have key : ∀ h : (match resOf (t'.regs ki.F.ntmps) B ki.F.results with
      | some vs => match leave ki.keep [] B (tupled vs) with
        | (v, []) => if v.under 0 then some (KRes.same v) else none
        | _ => none
      | none => none) = some r, giveOut (E.keep g) B A (resOf (t'.regs ki.F.ntmps) B ki.F.results) (ResR A r) := fun h => by
    split at h <;> (try (cases h; done))
    rename_i vs hvs
    split at h <;> (try (cases h; done))
    rename_i v hv
    split at h <;> (try (cases h; done))
    rename_i hu
    cases h
    simp only [giveOut, hk, hvs, hv, hu]
    exact ⟨trivial, trivial, rfl, rfl⟩
  cases e' with
  | normal => exact key h
  | ret => exact key h
  | exit id => cases h
  | panic v => cases h

theorem funK_sound {rec : KRec} (hr : RecOk E rec) (hΛ : InfosOk Λ) {ki : KI} {g : FuncId} {p q xs : List AV} {A : Heap} {r : KRes} (hi : E.intr g = none) (hf : E.fns g = some ki.F) (hd : Dull E g ki.F) (hk : E.keep g = ki.keep) (ha : (E.apart g && AV.unders 0 (p ++ xs ++ q)) = false) (hl : (p ++ xs ++ q).length ≤ ki.F.ntmps) (hn : ki.F.ntmps < 4096)
    (h : funK rec Λ ki (p ++ xs ++ q) A = some r) : WpC E (Λ.map infoR) (.func (.func g) p q) xs A (ResR A r) := by
  unfold funK at h
  have hb : Braun (RT.fill (p ++ xs ++ q) 0 (RT.mk 12 ki.F.ntmps)) ki.F.ntmps := fill_braun _ _ _ _ (Braun.mk 12 _ (by omega))
  split at h <;> (try (cases h; done))
  rename_i e t' A' hx
  have hw := hr Λ _ _ _ _ _ hΛ hb hx
  have hw' := hw
  rw [fill_regs (k := 12) (by omega) hl] at hw'
  rw [wpc_fun hi hf ha hl (hd.none hw'), ← fill_regs (k := 12) (by omega) hl]
  refine hw.mono fun e' R' B hq => ?_
  obtain ⟨h1, rfl, rfl, rfl⟩ := hq
  simp only at h1
  rw [resK_eq h1] at h
  have key : ∀ h : (match resOf (t'.regs ki.F.ntmps) B ki.F.results with
      | some vs => some (KRes.ret (leave ki.keep A B (tupled vs)).1 (leave ki.keep A B (tupled vs)).2)
      | none => none) = some r, (match resOf (t'.regs ki.F.ntmps) B ki.F.results with
    | some vs => (ResR A r) (.ret (leave (E.keep g) A B (tupled vs)).1) (leave (E.keep g) A B (tupled vs)).2
    | none => False) := fun h => by
    split at h <;> (try (cases h; done))
    cases h
    rw [hk]
    exact ⟨rfl, rfl⟩
  cases e' with
  | normal => exact key h
  | ret => exact key h
  | exit id => cases h
  | panic v => cases h

theorem memoK_mem {xs : List AV} {v : AV} : ∀ (l : List (List AV × AV)), memoK xs l = some v → (xs, v) ∈ l
  | [], h => by cases h
  | p :: l, h => by
    have h : @Bool.rec (fun _ => Option AV) (memoK xs l) (some p.2) (AV.beqs xs p.1) = some v := h
    rw [brec_if] at h
    split at h
    · rename_i hb
      cases h
      rw [AV.beqs_eq _ _ hb]
      exact List.mem_cons_self ..
    · exact List.mem_cons_of_mem _ (memoK_mem l h)

theorem foldl_tree {n : Nat} : ∀ (l : List (Nat × AV)) (t : RT), Braun t n → l.foldl (fun R p => rset R p.1 p.2) (t.regs n) = (l.foldl (fun t p => t.set p.1 p.2) t).regs n ∧ Braun (l.foldl (fun t p => t.set p.1 p.2) t) n
  | [], t, h => ⟨rfl, h⟩
  | p :: l, t, h => by
    simp only [List.foldl_cons]
    rw [rset_tree h]
    exact foldl_tree l _ (h.set p.2 p.1)

theorem yieldK_sound {rec : KRec} (hr : RecOk E rec) (hΛ : InfosOk Λ) {l : Nat} {xs : List AV} {A : Heap} {r : KRes} (h : yieldK rec Λ l xs A = some r) : WpC E (Λ.map infoR) (.yld l) xs A (ResR A r) := by
  match Λ, hΛ, h with
  | [], _, h => cases h
  | i :: Λ, hΛ, h =>
    unfold yieldK at h
    simp only at h
    split at h <;> (try (cases h; done))
    rename_i hc
    obtain ⟨rfl, hlen⟩ := hc
    split at h <;> (try (cases h; done))
    rename_i t1 A1 h1
    split at h <;> (try (cases h; done))
    rename_i hg
    split at h <;> (try (cases h; done))
    rename_i e t2 A2 h2
    split at h <;> (try (cases h; done))
    rename_i a b hg2
    obtain ⟨f1, f2⟩ := foldl_tree (i.params.zip xs) i.t (hΛ i (List.mem_cons_self ..))
    refine k_yld (k := ⟨ResR A r⟩) (i := infoR i) (by simp [infoR]) hlen ?_
    show Wp E _ _ _ _ _
    simp only [infoR]
    rw [f1]
    refine (hr (i :: Λ) _ _ _ _ _ hΛ f2 h1).mono fun e' R' B hq => ?_
    obtain ⟨q1, rfl, rfl, rfl⟩ := hq
    refine ⟨rfl, hg, ?_⟩
    refine (hr (i :: Λ) _ _ _ _ _ hΛ q1 h2).mono fun e' R' B hq => ?_
    obtain ⟨q1, rfl, rfl, rfl⟩ := hq
    refine ⟨⟨a, b, hg2⟩, ?_⟩
    cases e' <;> simp only at h ⊢ <;> cases h
    · exact ⟨rfl, rfl⟩
    · exact ⟨rfl, rfl⟩
    · exact ⟨rfl, rfl⟩

theorem callK_sound {rec : KRec} (hT : TabOk E T) (hr : RecOk E rec) (hΛ : InfosOk Λ) : CallOkK E Λ (callK T rec Λ) := by
  intro f xs A r h
  unfold callK at h
  split at h <;> (try (cases h; done))
  · rename_i g p q
    split at h <;> (try (cases h; done))
    rename_i ki hki
    obtain ⟨t1, t2, t3, t4, td, t5⟩ := hT g ki hki
    have e : lapp p (lapp xs q) = p ++ xs ++ q := by rw [lapp_eq, lapp_eq, List.append_assoc]
    rw [e] at h
    split at h <;> (try (cases h; done))
    rename_i hl
    split at h
    · rename_i ha
      simp only [Bool.and_eq_true] at ha
      have key : apartK rec ki (p ++ xs ++ q) = some r → WpC E (Λ.map infoR) (.func (.func g) p q) xs A (ResR A r) := fun h =>
        apartK_sound hr t1 t2 td t3 (by rw [t4]; exact ha.1) hl.1 hl.2 ha.2 h
      split at h
      · rename_i v hm
        cases h
        refine (t5 _ (memoK_mem _ hm) _ A).mono fun r' B hq => ?_
        exact hq
      · exact key h
    · rename_i ha
      exact funK_sound hr hΛ t1 t2 td t3 (by rw [t4]; simpa using ha) hl.1 hl.2 h
  · exact yieldK_sound hr hΛ h

theorem evK_sound (hT : TabOk E T) : ∀ k, RecOk E (evK T E k)
  | 0 => fun Λ n c t A x _ _ h => by cases h
  | k + 1 => fun Λ n c t A x hΛ hb h => by
    have ih := evK_sound hT k
    have hc := callK_sound hT ih hΛ
    cases c with
    | skip =>
      cases h
      exact aw_skip.2 ⟨hb, rfl, rfl, rfl⟩
    | ops l =>
      have h : toX (opsK E (callK T (evK T E k) Λ) l t A) = some x := h
      cases hx : opsK E (callK T (evK T E k) Λ) l t A with
      | none => rw [hx] at h; cases h
      | some r =>
        rw [hx] at h
        obtain ⟨m, r', h1, h2⟩ := opsK_sound hc l t A r hb hx
        refine aw_ops.2 ⟨m, r', h1, ?_⟩
        cases r with
        | next t' A' => obtain ⟨h3, rfl⟩ := h2; cases h; exact ⟨h3, rfl, rfl, rfl⟩
        | panic v t' A' => obtain ⟨h3, rfl⟩ := h2; cases h; exact ⟨h3, rfl, rfl, rfl⟩
    | draw l =>
      have h : toX (segsK E (callK T (evK T E k) Λ) n l t A) = some x := h
      cases hx : segsK E (callK T (evK T E k) Λ) n l t A with
      | none => rw [hx] at h; cases h
      | some r =>
        rw [hx] at h
        obtain ⟨m, r', h1, h2⟩ := segsK_sound hc l t A r hb hx
        refine aw_draw.2 ⟨m, r', h1, ?_⟩
        cases r with
        | next t' A' => obtain ⟨h3, rfl⟩ := h2; cases h; exact ⟨h3, rfl, rfl, rfl⟩
        | panic v t' A' => obtain ⟨h3, rfl⟩ := h2; cases h; exact ⟨h3, rfl, rfl, rfl⟩
    | seq a b =>
      have h : thenK (evK T E k Λ n a t A) (fun t' A' => evK T E k Λ n b t' A') = some x := h
      rw [aw_seq]
      cases hx : evK T E k Λ n a t A with
      | none => rw [hx] at h; cases h
      | some y =>
        rw [hx] at h
        refine (ih Λ n a t A y hΛ hb hx).mono fun e R' A' hq => ?_
        obtain ⟨y1, y2, y3⟩ := y
        obtain ⟨q1, rfl, rfl, rfl⟩ := hq
        cases e with
        | normal => exact ih Λ n b y2 A' x hΛ q1 h
        | exit id => cases h; exact ⟨q1, rfl, rfl, rfl⟩
        | ret => cases h; exact ⟨q1, rfl, rfl, rfl⟩
        | panic v => cases h; exact ⟨q1, rfl, rfl, rfl⟩
    | cond c a b =>
      have h : @Option.rec Bool (fun _ => Option KX) none (fun b' => @Bool.rec (fun _ => Option KX) (evK T E k Λ n b t A) (evK T E k Λ n a t A) b') (argK E t c).asBool = some x := h
      rw [argK_eq hb] at h
      rw [aw_cond, cnd_iff]
      cases hv : arg E (t.regs n) c <;> rw [hv] at h <;> (try (cases h; done))
      rename_i u
      refine ⟨u, rfl, fun e => ?_, fun e => ?_⟩
      · subst e; exact ih Λ n a t A x hΛ hb h
      · subst e; exact ih Λ n b t A x hΛ hb h
    | block id b =>
      have h : blockK id (evK T E k Λ n b t A) = some x := h
      rw [aw_block]
      cases hx : evK T E k Λ n b t A with
      | none => rw [hx] at h; cases h
      | some y =>
        rw [hx] at h
        refine (ih Λ n b t A y hΛ hb hx).mono fun e R' A' hq => ?_
        obtain ⟨y1, y2, y3⟩ := y
        obtain ⟨q1, rfl, rfl, rfl⟩ := hq
        cases e with
        | normal => cases h; exact ⟨q1, rfl, rfl, rfl⟩
        | exit j =>
          have h2 : @Bool.rec (fun _ => Option KX) (some ⟨.exit j, y2, A'⟩) (some ⟨.normal, y2, A'⟩) (Nat.beq j id) = some x := h
          clear h
          rw [brec_if] at h2
          split at h2
          · rename_i hj
            rw [Nat.beq_eq] at hj
            subst hj
            cases h2
            exact ⟨q1, by simp [AExit.blk], rfl, rfl⟩
          · rename_i hj
            rw [Nat.beq_eq] at hj
            cases h2
            exact ⟨q1, by simp [AExit.blk, hj], rfl, rfl⟩
        | ret => cases h; exact ⟨q1, rfl, rfl, rfl⟩
        | panic v => cases h; exact ⟨q1, rfl, rfl, rfl⟩
    | loop b =>
      have h : thenK (evK T E k Λ n b t A) (fun t' A' => evK T E k Λ n (.loop b) t' A') = some x := h
      rw [aw_loop]
      cases hx : evK T E k Λ n b t A with
      | none => rw [hx] at h; cases h
      | some y =>
        rw [hx] at h
        refine (ih Λ n b t A y hΛ hb hx).mono fun e R' A' hq => ?_
        obtain ⟨y1, y2, y3⟩ := y
        obtain ⟨q1, rfl, rfl, rfl⟩ := hq
        cases e with
        | normal => exact ih Λ n (.loop b) y2 A' x hΛ q1 h
        | exit id => cases h; exact ⟨q1, rfl, rfl, rfl⟩
        | ret => cases h; exact ⟨q1, rfl, rfl, rfl⟩
        | panic v => cases h; exact ⟨q1, rfl, rfl, rfl⟩
    | rangeF f ps asg b =>
      have h : rangeK T E (evK T E k) Λ n f ps asg b t A = some x := h
      unfold rangeK at h
      rw [argK_eq hb] at h
      split at h <;> (try (cases h; done))
      rename_i hp
      split at h <;> (try (cases h; done))
      rename_i v A1 hx
      have hΛ2 : InfosOk (⟨A.length, n, t, ps, asg, b⟩ :: Λ) := fun i hi => by
        rcases List.mem_cons.1 hi with rfl | hi
        · exact hb
        · exact hΛ i hi
      have hcall := callK_sound hT ih hΛ2 _ _ _ _ hx
      refine k_rangeF (k := ⟨XR n x⟩) hp ?_
      refine hcall.mono fun r' B hq => ?_
      obtain ⟨rfl, rfl⟩ := hq
      simp only [kRangeEnd]
      split at h <;> (try (cases h; done))
      all_goals
        rename_i hg
        cases h
        simp only [hg]
        exact ⟨hb, rfl, rfl, rfl⟩
    | exit id =>
      cases h
      exact aw_exit.2 ⟨hb, rfl, rfl, rfl⟩
    | ret =>
      cases h
      exact aw_ret.2 ⟨hb, rfl, rfl, rfl⟩

/-- What a call with no memory comes to, wherever it is made. -/
theorem callK_comes (hT : TabOk E T) {k : Nat} {g : FuncId} {xs : List AV} {v : AV} (h : callK T (evK T E k) [] (.func (.func g) [] []) xs [] = some (.same v)) (Λ : List LoopInfo) (A : Heap) : WpC E Λ (.func (.func g) [] []) xs A (fun r B => r = .ret v ∧ B = A) := by
  unfold callK at h
  simp only at h
  split at h <;> (try (cases h; done))
  rename_i ki hki
  obtain ⟨t1, t2, t3, t4, td, t5⟩ := hT g ki hki
  have e : lapp [] (lapp xs []) = [] ++ xs ++ [] := by rw [lapp_eq, lapp_eq, List.append_assoc]
  rw [e] at h
  split at h <;> (try (cases h; done))
  rename_i hl
  split at h
  · rename_i ha
    simp only [Bool.and_eq_true] at ha
    have key : apartK (evK T E k) ki ([] ++ xs ++ []) = some (.same v) → WpC E Λ (.func (.func g) [] []) xs A (fun r B => r = .ret v ∧ B = A) := fun h =>
      apartK_sound (evK_sound hT k) t1 t2 td t3 (by rw [t4]; exact ha.1) hl.1 hl.2 ha.2 h
    split at h
    · rename_i v hm
      cases h
      exact t5 _ (memoK_mem _ hm) Λ A
    · exact key h
  · unfold funK at h
    repeat' split at h
    all_goals cases h

end Go.Abs

/- Tables of functions, with what some calls come to. -/
namespace Go.Abs

/-- Functions, as the environment has them. -/
def BaseOk (E : Env) (B : List (Nat × KI)) : Prop := ∀ p ∈ B, E.intr p.1 = none ∧ E.fns p.1 = some p.2.F ∧ E.keep p.1 = p.2.keep ∧ E.apart p.1 = p.2.apart ∧ Dull E p.1 p.2.F

abbrev Memo := Nat × List AV × AV

/-- Calls, and what they come to. -/
def MemoOk (E : Env) (ms : List Memo) : Prop := ∀ m ∈ ms, ∀ (Λ : List LoopInfo) (A : Heap), WpC E Λ (.func (.func m.1) [] []) m.2.1 A (fun r C => r = .ret m.2.2 ∧ C = A)

noncomputable def memosOf (g : Nat) (ms : List Memo) : List (List AV × AV) := @List.rec Memo (fun _ => List (List AV × AV)) [] (fun m _ ih => @Bool.rec (fun _ => List (List AV × AV)) ih (m.2 :: ih) (Nat.beq m.1 g)) ms

theorem memosOf_mem {g : Nat} {p : List AV × AV} : ∀ ms : List Memo, p ∈ memosOf g ms → (g, p) ∈ ms
  | [], h => by cases h
  | m :: ms, h => by
    have h : p ∈ @Bool.rec (fun _ => List (List AV × AV)) (memosOf g ms) (m.2 :: memosOf g ms) (Nat.beq m.1 g) := h
    rw [brec_if] at h
    split at h
    · rename_i hg
      rw [Nat.beq_eq] at hg
      rcases List.mem_cons.1 h with rfl | h
      · rw [← hg]; exact List.mem_cons_self ..
      · exact List.mem_cons_of_mem _ (memosOf_mem ms h)
    · exact List.mem_cons_of_mem _ (memosOf_mem ms h)

noncomputable def withMemo (B : List (Nat × KI)) (ms : List Memo) : KT := ktab (lmap (fun p => (p.1, ⟨p.2.F, p.2.keep, p.2.apart, memosOf p.1 ms⟩)) B)

theorem withMemo_ok {E : Env} {B : List (Nat × KI)} {ms : List Memo} (hB : BaseOk E B) (hm : MemoOk E ms) : TabOk E (withMemo B ms) := by
  intro g ki h
  have := ktab_mem _ _ _ h
  rw [lmap_eq] at this
  obtain ⟨p, hp, he⟩ := List.mem_map.1 this
  cases he
  obtain ⟨h1, h2, h3, h4, h5⟩ := hB p hp
  exact ⟨h1, h2, h3, h4, h5, fun q hq Λ A => hm _ (memosOf_mem ms hq) Λ A⟩

theorem memo_nil {E : Env} : MemoOk E [] := fun m hm => by cases hm

/-- One more. -/
theorem memo_cons {E : Env} {B : List (Nat × KI)} {ms : List Memo} {m : Memo} {k : Nat} (hB : BaseOk E B) (hm : MemoOk E ms) (h : callK (withMemo B ms) (evK (withMemo B ms) E k) [] (.func (.func m.1) [] []) m.2.1 [] = some (.same m.2.2)) : MemoOk E (m :: ms) := by
  intro q hq
  rcases List.mem_cons.1 hq with rfl | hq
  · exact callK_comes (withMemo_ok hB hm) h
  · exact hm q hq

end Go.Abs

/- The known rows hold: run by the kernel, call by call. -/
namespace Go.Proofs.YtgbfbhahnoafoaaGreatDoor
open Go Go.Abs

theorem dull45 : Dull EL 45 F45 := by
  have e : F45 = G45 := Option.some.inj (c45.symm.trans d45)
  rw [e]
  intro xs v h n Λ A
  replace h : easy45 xs = some v := h
  unfold easy45 at h
  split at h <;> (try (cases h; done))
  rename_i c
  cases he : ev EL n Λ G45.body (regs G45.ntmps (ini [.frz [] c])) A with
  | none => rfl
  | some r =>
    exfalso
    have hw : @kWp EL Λ G45.body (regs G45.ntmps (ini [.frz [] c])) A ⟨fun _ _ _ => True⟩ := ⟨n, r.1, r.2.1, r.2.2, he, trivial⟩
    simp [G45] at hw
    exact hw

theorem base_cons {p : Nat × KI} {l : List (Nat × KI)} (h1 : EL.fns p.1 = some p.2.F) (h2 : EL.keep p.1 = p.2.keep) (h3 : EL.apart p.1 = p.2.apart) (h : BaseOk EL l) (hd : Dull EL p.1 p.2.F := by exact fun xs v (h : (none : Option AV) = some v) => nomatch h) : BaseOk EL (p :: l) :=
  List.forall_mem_cons.2 ⟨⟨rfl, h1, h2, h3, hd⟩, h⟩

theorem base : BaseOk EL tabL := by
  unfold tabL
  refine base_cons c12 rfl rfl ?_
  refine base_cons c13 rfl rfl ?_
  refine base_cons c14 rfl rfl ?_
  refine base_cons c17 rfl rfl ?_
  refine base_cons c18 rfl rfl ?_
  refine base_cons c21 rfl rfl ?_
  refine base_cons c22 rfl rfl ?_
  refine base_cons c27 rfl rfl ?_
  refine base_cons c28 rfl rfl ?_
  refine base_cons c31 rfl rfl ?_
  refine base_cons c36 rfl rfl ?_
  refine base_cons c38 rfl rfl ?_
  refine base_cons c41 rfl rfl ?_
  refine base_cons c45 rfl rfl ?_ dull45
  refine base_cons c46 rfl rfl ?_
  refine base_cons c47 rfl rfl ?_
  refine base_cons c48 rfl rfl ?_
  refine base_cons c50 rfl rfl ?_
  refine base_cons c58 rfl rfl ?_
  refine base_cons c62 rfl rfl ?_
  refine base_cons c63 rfl rfl ?_
  refine base_cons c64 rfl rfl ?_
  refine base_cons c65 rfl rfl ?_
  refine base_cons c66 rfl rfl ?_
  refine base_cons c67 rfl rfl ?_
  refine base_cons c68 rfl rfl ?_
  refine base_cons c69 rfl rfl ?_
  refine base_cons c70 rfl rfl ?_
  refine base_cons c71 rfl rfl ?_
  refine base_cons c72 rfl rfl ?_
  refine base_cons c73 rfl rfl ?_
  refine base_cons c74 rfl rfl ?_
  refine base_cons c75 rfl rfl ?_
  refine base_cons c76 rfl rfl ?_
  refine base_cons c77 rfl rfl ?_
  refine base_cons c78 rfl rfl ?_
  refine base_cons c82 rfl rfl ?_
  refine base_cons c89 rfl rfl ?_
  refine base_cons c90 rfl rfl ?_
  refine base_cons c91 rfl rfl ?_
  refine base_cons c97 rfl rfl ?_
  refine base_cons c98 rfl rfl ?_
  refine base_cons c101 rfl rfl ?_
  refine base_cons c102 rfl rfl ?_
  refine base_cons c103 rfl rfl ?_
  refine base_cons c104 rfl rfl ?_
  refine base_cons c107 rfl rfl ?_
  refine base_cons c108 rfl rfl ?_
  refine base_cons c109 rfl rfl ?_
  refine base_cons c110 rfl rfl ?_
  refine base_cons c111 rfl rfl ?_
  refine base_cons c114 rfl rfl ?_
  refine base_cons c115 rfl rfl ?_
  refine base_cons c116 rfl rfl ?_
  refine base_cons c117 rfl rfl ?_
  refine base_cons c118 rfl rfl ?_
  refine base_cons c119 rfl rfl ?_
  refine base_cons c120 rfl rfl ?_
  refine base_cons c121 rfl rfl ?_
  refine base_cons c122 rfl rfl ?_
  refine base_cons c131 rfl rfl ?_
  refine base_cons c134 rfl rfl ?_
  refine base_cons c135 rfl rfl ?_
  refine base_cons c138 rfl rfl ?_
  refine base_cons c139 rfl rfl ?_
  refine base_cons c140 rfl rfl ?_
  refine base_cons c141 rfl rfl ?_
  refine base_cons c142 rfl rfl ?_
  refine base_cons c143 rfl rfl ?_
  refine base_cons c152 rfl rfl ?_
  refine base_cons c154 rfl rfl ?_
  refine base_cons c155 rfl rfl ?_
  refine base_cons c156 rfl rfl ?_
  refine base_cons c162 rfl rfl ?_
  refine base_cons c163 rfl rfl ?_
  refine base_cons c164 rfl rfl ?_
  refine base_cons c165 rfl rfl ?_
  refine base_cons c166 rfl rfl ?_
  refine base_cons c167 rfl rfl ?_
  refine base_cons c168 rfl rfl ?_
  refine base_cons c179 rfl rfl ?_
  refine base_cons c180 rfl rfl ?_
  refine base_cons c181 rfl rfl ?_
  refine base_cons c182 rfl rfl ?_
  refine base_cons c186 rfl rfl ?_
  refine base_cons c187 rfl rfl ?_
  refine base_cons c188 rfl rfl ?_
  refine base_cons c189 rfl rfl ?_
  refine base_cons c190 rfl rfl ?_
  refine base_cons c191 rfl rfl ?_
  refine base_cons c192 rfl rfl ?_
  refine base_cons c197 rfl rfl ?_
  refine base_cons c200 rfl rfl ?_
  refine base_cons c203 rfl rfl ?_
  refine base_cons c204 rfl rfl ?_
  refine base_cons c206 rfl rfl ?_
  refine base_cons c208 rfl rfl ?_
  refine base_cons c209 rfl rfl ?_
  refine base_cons c210 rfl rfl ?_
  refine base_cons c226 rfl rfl ?_
  refine base_cons c227 rfl rfl ?_
  refine base_cons c228 rfl rfl ?_
  exact fun p hp => (by cases hp)

def memo0 : Memo := (97, [(.agg [(.frz [(.agg [(.int .i64 2), (.int .i64 1), (.int .i64 0)]), (.agg [(.int .i64 12), (.int .i64 5), (.int .i64 0)]), (.agg [(.int .i64 5), (.int .i64 0), (.int .i64 0)]), (.agg [(.int .i64 4), (.int .i64 0), (.int .i64 0)]), (.agg [(.int .i64 8), (.int .i64 0), (.int .i64 0)]), (.agg [(.int .i64 1), (.int .i64 5), (.int .i64 0)]), (.agg [(.int .i64 34), (.int .i64 0), (.int .i64 0)])] true), (.frz [] true), (.frz [(.int .i64 0)] true), (.int .i64 0), (.frz [] true)])], (.tuple [(.fp [(.agg [(.frz [(.agg [(.int .i64 2), (.int .i64 1), (.int .i64 0)]), (.agg [(.int .i64 12), (.int .i64 5), (.int .i64 0)]), (.agg [(.int .i64 5), (.int .i64 0), (.int .i64 0)]), (.agg [(.int .i64 4), (.int .i64 0), (.int .i64 0)]), (.agg [(.int .i64 8), (.int .i64 0), (.int .i64 0)]), (.agg [(.int .i64 1), (.int .i64 5), (.int .i64 0)]), (.agg [(.int .i64 34), (.int .i64 0), (.int .i64 0)])] true), (.frz [] true), (.frz [(.int .i64 0)] true), (.int .i64 0), (.frz [] true), (.frz [(.agg [(.bool true), (.int .i64 0), (.int .i64 1)]), (.agg [(.bool true), (.int .i64 1), (.int .i64 1)]), (.agg [(.bool true), (.int .i64 0), (.int .i64 1)]), (.agg [(.bool true), (.int .i64 1), (.int .i64 1)]), (.agg [(.bool true), (.int .i64 2), (.int .i64 1)]), (.agg [(.bool true), (.int .i64 0), (.int .i64 1)]), (.agg [(.bool true), (.int .i64 1), (.int .i64 1)])] true), (.frz [(.agg [(.frz [] true), (.frz [(.int .i64 0)] true), (.frz [(.agg [(.int .i64 1), (.frz [(.int .i64 0)] true)])] true)]), (.agg [(.frz [(.int .i64 0)] false), (.frz [] true), (.frz [(.agg [(.int .i64 2), (.frz [] true)]), (.agg [(.int .i64 5), (.frz [] true)])] true)]), (.agg [(.frz [] true), (.frz [(.int .i64 0)] true), (.frz [(.agg [(.int .i64 3), (.frz [(.int .i64 0)] true)])] true)]), (.agg [(.frz [(.int .i64 60)] true), (.frz [(.int .i64 1)] true), (.frz [(.agg [(.int .i64 4), (.frz [(.int .i64 1)] true)])] true)]), (.agg [(.frz [(.int .i64 0), (.int .i64 1)] false), (.frz [] true), (.frz [] true)]), (.agg [(.frz [] true), (.frz [(.int .i64 0)] true), (.frz [(.agg [(.int .i64 6), (.frz [(.int .i64 0)] true)])] true)]), (.agg [(.frz [(.int .i64 0)] false), (.frz [] true), (.frz [] true)])] true)])] 0 0), (.int .i64 0)]))
theorem memoOk0 : MemoOk EL [memo0] := memo_cons (k := 1000) base memo_nil (by kernel_rfl)

def memo1 : Memo := (38, [(.agg [(.frz [(.agg [(.int .i64 2), (.int .i64 1), (.int .i64 0)]), (.agg [(.int .i64 12), (.int .i64 5), (.int .i64 0)]), (.agg [(.int .i64 5), (.int .i64 0), (.int .i64 0)]), (.agg [(.int .i64 4), (.int .i64 0), (.int .i64 0)]), (.agg [(.int .i64 8), (.int .i64 0), (.int .i64 0)]), (.agg [(.int .i64 1), (.int .i64 5), (.int .i64 0)]), (.agg [(.int .i64 34), (.int .i64 0), (.int .i64 0)])] true), (.frz [] true), (.frz [(.int .i64 0)] true), (.int .i64 0), (.frz [] true)])], (.tuple [(.frz [(.agg [(.int .i64 0), (.int .i64 2), (.frz [(.int .i64 2), (.int .i64 5)] false)]), (.agg [(.int .i64 2), (.int .i64 5), (.frz [] true)]), (.agg [(.int .i64 5), (.int .i64 7), (.frz [] true)])] false), (.int .i64 0)]))
theorem memoOk1 : MemoOk EL [memo1, memo0] := memo_cons (k := 1000) base memoOk0 (by kernel_rfl)

def memo2 : Memo := (97, [(.agg [(.frz [(.agg [(.int .i64 1), (.int .i64 1), (.int .i64 0)]), (.agg [(.int .i64 1), (.int .i64 2), (.int .i64 0)]), (.agg [(.int .i64 9), (.int .i64 0), (.int .i64 0)]), (.agg [(.int .i64 4), (.int .i64 1), (.int .i64 0)]), (.agg [(.int .i64 10), (.int .i64 1), (.int .i64 0)]), (.agg [(.int .i64 13), (.int .i64 0), (.int .i64 0)]), (.agg [(.int .i64 34), (.int .i64 0), (.int .i64 0)])] true), (.frz [] true), (.frz [(.int .i64 0)] true), (.int .i64 0), (.frz [] true)])], (.tuple [(.fp [(.agg [(.frz [(.agg [(.int .i64 1), (.int .i64 1), (.int .i64 0)]), (.agg [(.int .i64 1), (.int .i64 2), (.int .i64 0)]), (.agg [(.int .i64 9), (.int .i64 0), (.int .i64 0)]), (.agg [(.int .i64 4), (.int .i64 1), (.int .i64 0)]), (.agg [(.int .i64 10), (.int .i64 1), (.int .i64 0)]), (.agg [(.int .i64 13), (.int .i64 0), (.int .i64 0)]), (.agg [(.int .i64 34), (.int .i64 0), (.int .i64 0)])] true), (.frz [] true), (.frz [(.int .i64 0)] true), (.int .i64 0), (.frz [] true), (.frz [(.agg [(.bool true), (.int .i64 0), (.int .i64 1)]), (.agg [(.bool true), (.int .i64 1), (.int .i64 1)]), (.agg [(.bool true), (.int .i64 2), (.int .i64 1)]), (.agg [(.bool true), (.int .i64 1), (.int .i64 2)]), (.agg [(.bool true), (.int .i64 2), (.int .i64 2)]), (.agg [(.bool true), (.int .i64 2), (.int .i64 1)]), (.agg [(.bool true), (.int .i64 1), (.int .i64 1)])] true), (.frz [(.agg [(.frz [] true), (.frz [(.int .i64 0)] true), (.frz [(.agg [(.int .i64 1), (.frz [(.int .i64 0)] true)])] true)]), (.agg [(.frz [] true), (.frz [(.int .i64 1)] true), (.frz [(.agg [(.int .i64 2), (.frz [(.int .i64 1)] true)])] true)]), (.agg [(.frz [(.int .i64 1)] false), (.frz [(.int .i64 61)] true), (.frz [(.agg [(.int .i64 3), (.frz [(.int .i64 61)] true)])] true)]), (.agg [(.frz [(.int .i64 61)] true), (.frz [(.int .i64 1)] true), (.frz [(.agg [(.int .i64 4), (.frz [(.int .i64 1)] true)])] true)]), (.agg [(.frz [] true), (.frz [] true), (.frz [(.agg [(.int .i64 5), (.frz [] true)])] true)]), (.agg [(.frz [(.int .i64 0), (.int .i64 1)] false), (.frz [(.int .i64 0)] true), (.frz [(.agg [(.int .i64 6), (.frz [(.int .i64 0)] true)])] true)]), (.agg [(.frz [(.int .i64 0)] false), (.frz [] true), (.frz [] true)])] true)])] 0 0), (.int .i64 0)]))
theorem memoOk2 : MemoOk EL [memo2, memo1, memo0] := memo_cons (k := 1000) base memoOk1 (by kernel_rfl)

def memo3 : Memo := (98, [(.fp [(.agg [(.frz [(.agg [(.int .i64 1), (.int .i64 1), (.int .i64 0)]), (.agg [(.int .i64 1), (.int .i64 2), (.int .i64 0)]), (.agg [(.int .i64 9), (.int .i64 0), (.int .i64 0)]), (.agg [(.int .i64 4), (.int .i64 1), (.int .i64 0)]), (.agg [(.int .i64 10), (.int .i64 1), (.int .i64 0)]), (.agg [(.int .i64 13), (.int .i64 0), (.int .i64 0)]), (.agg [(.int .i64 34), (.int .i64 0), (.int .i64 0)])] true), (.frz [] true), (.frz [(.int .i64 0)] true), (.int .i64 0), (.frz [] true), (.frz [(.agg [(.bool true), (.int .i64 0), (.int .i64 1)]), (.agg [(.bool true), (.int .i64 1), (.int .i64 1)]), (.agg [(.bool true), (.int .i64 2), (.int .i64 1)]), (.agg [(.bool true), (.int .i64 1), (.int .i64 2)]), (.agg [(.bool true), (.int .i64 2), (.int .i64 2)]), (.agg [(.bool true), (.int .i64 2), (.int .i64 1)]), (.agg [(.bool true), (.int .i64 1), (.int .i64 1)])] true), (.frz [(.agg [(.frz [] true), (.frz [(.int .i64 0)] true), (.frz [(.agg [(.int .i64 1), (.frz [(.int .i64 0)] true)])] true)]), (.agg [(.frz [] true), (.frz [(.int .i64 1)] true), (.frz [(.agg [(.int .i64 2), (.frz [(.int .i64 1)] true)])] true)]), (.agg [(.frz [(.int .i64 1)] false), (.frz [(.int .i64 61)] true), (.frz [(.agg [(.int .i64 3), (.frz [(.int .i64 61)] true)])] true)]), (.agg [(.frz [(.int .i64 61)] true), (.frz [(.int .i64 1)] true), (.frz [(.agg [(.int .i64 4), (.frz [(.int .i64 1)] true)])] true)]), (.agg [(.frz [] true), (.frz [] true), (.frz [(.agg [(.int .i64 5), (.frz [] true)])] true)]), (.agg [(.frz [(.int .i64 0), (.int .i64 1)] false), (.frz [(.int .i64 0)] true), (.frz [(.agg [(.int .i64 6), (.frz [(.int .i64 0)] true)])] true)]), (.agg [(.frz [(.int .i64 0)] false), (.frz [] true), (.frz [] true)])] true)])] 0 0)], (.frz [(.agg [(.int .u64 0), (.int .u64 0)]), (.agg [(.int .u64 1), (.int .u64 0)]), (.agg [(.int .u64 3), (.int .u64 0)]), (.agg [(.int .u64 2305843009213693953), (.int .u64 0)]), (.agg [(.int .u64 3), (.int .u64 0)]), (.agg [(.int .u64 3), (.int .u64 0)]), (.agg [(.int .u64 1), (.int .u64 0)])] true))
theorem memoOk3 : MemoOk EL [memo3, memo2, memo1, memo0] := memo_cons (k := 1000) base memoOk2 (by kernel_rfl)

def memo4 : Memo := (27, [(.agg [(.frz [(.agg [(.int .i64 1), (.int .i64 1), (.int .i64 0)]), (.agg [(.int .i64 1), (.int .i64 2), (.int .i64 0)]), (.agg [(.int .i64 9), (.int .i64 0), (.int .i64 0)]), (.agg [(.int .i64 4), (.int .i64 1), (.int .i64 0)]), (.agg [(.int .i64 10), (.int .i64 1), (.int .i64 0)]), (.agg [(.int .i64 13), (.int .i64 0), (.int .i64 0)]), (.agg [(.int .i64 34), (.int .i64 0), (.int .i64 0)])] true), (.frz [] true), (.frz [(.int .i64 0)] true), (.int .i64 0), (.frz [] true)])], (.tuple [(.frz [(.frz [] true), (.frz [(.agg [(.bool false), (.int .i64 0)])] false), (.frz [(.agg [(.bool false), (.int .i64 0)]), (.agg [(.bool false), (.int .i64 1)])] false), (.frz [(.agg [(.bool false), (.int .i64 0)]), (.agg [(.bool true), (.int .i64 1)])] false), (.frz [(.agg [(.bool false), (.int .i64 0)]), (.agg [(.bool false), (.int .i64 1)])] false), (.frz [(.agg [(.bool false), (.int .i64 0)]), (.agg [(.bool false), (.int .i64 1)])] false), (.frz [(.agg [(.bool false), (.int .i64 0)])] false)] false), (.int .i64 0)]))
theorem memoOk4 : MemoOk EL [memo4, memo3, memo2, memo1, memo0] := memo_cons (k := 1000) base memoOk3 (by kernel_rfl)

def memo5 : Memo := (66, [(.agg [(.frz [(.agg [(.int .i64 1), (.int .i64 1), (.int .i64 0)]), (.agg [(.int .i64 1), (.int .i64 2), (.int .i64 0)]), (.agg [(.int .i64 9), (.int .i64 0), (.int .i64 0)]), (.agg [(.int .i64 4), (.int .i64 1), (.int .i64 0)]), (.agg [(.int .i64 10), (.int .i64 1), (.int .i64 0)]), (.agg [(.int .i64 13), (.int .i64 0), (.int .i64 0)]), (.agg [(.int .i64 34), (.int .i64 0), (.int .i64 0)])] true), (.frz [] true), (.frz [(.int .i64 0)] true), (.int .i64 0), (.frz [] true)]), (.int .i64 0)], (.tuple [(.fp [(.agg [(.fp [(.agg [(.frz [(.agg [(.int .i64 1), (.int .i64 1), (.int .i64 0)]), (.agg [(.int .i64 1), (.int .i64 2), (.int .i64 0)]), (.agg [(.int .i64 9), (.int .i64 0), (.int .i64 0)]), (.agg [(.int .i64 4), (.int .i64 1), (.int .i64 0)]), (.agg [(.int .i64 10), (.int .i64 1), (.int .i64 0)]), (.agg [(.int .i64 13), (.int .i64 0), (.int .i64 0)]), (.agg [(.int .i64 34), (.int .i64 0), (.int .i64 0)])] true), (.frz [] true), (.frz [(.int .i64 0)] true), (.int .i64 0), (.frz [] true), (.frz [(.agg [(.bool true), (.int .i64 0), (.int .i64 1)]), (.agg [(.bool true), (.int .i64 1), (.int .i64 1)]), (.agg [(.bool true), (.int .i64 2), (.int .i64 1)]), (.agg [(.bool true), (.int .i64 1), (.int .i64 2)]), (.agg [(.bool true), (.int .i64 2), (.int .i64 2)]), (.agg [(.bool true), (.int .i64 2), (.int .i64 1)]), (.agg [(.bool true), (.int .i64 1), (.int .i64 1)])] true), (.frz [(.agg [(.frz [] true), (.frz [(.int .i64 0)] true), (.frz [(.agg [(.int .i64 1), (.frz [(.int .i64 0)] true)])] true)]), (.agg [(.frz [] true), (.frz [(.int .i64 1)] true), (.frz [(.agg [(.int .i64 2), (.frz [(.int .i64 1)] true)])] true)]), (.agg [(.frz [(.int .i64 1)] false), (.frz [(.int .i64 61)] true), (.frz [(.agg [(.int .i64 3), (.frz [(.int .i64 61)] true)])] true)]), (.agg [(.frz [(.int .i64 61)] true), (.frz [(.int .i64 1)] true), (.frz [(.agg [(.int .i64 4), (.frz [(.int .i64 1)] true)])] true)]), (.agg [(.frz [] true), (.frz [] true), (.frz [(.agg [(.int .i64 5), (.frz [] true)])] true)]), (.agg [(.frz [(.int .i64 0), (.int .i64 1)] false), (.frz [(.int .i64 0)] true), (.frz [(.agg [(.int .i64 6), (.frz [(.int .i64 0)] true)])] true)]), (.agg [(.frz [(.int .i64 0)] false), (.frz [] true), (.frz [] true)])] true)])] 0 0), (.int .i64 0), (.frz [(.bool true), (.bool true), (.bool true), (.bool true), (.bool true), (.bool true), (.bool true)] true)])] 0 0), (.int .i64 0)]))
theorem memoOk5 : MemoOk EL [memo5, memo4, memo3, memo2, memo1, memo0] := memo_cons (k := 1000) base memoOk4 (by kernel_rfl)

def memo6 : Memo := (13, [(.agg [(.frz [(.agg [(.int .i64 1), (.int .i64 1), (.int .i64 0)]), (.agg [(.int .i64 1), (.int .i64 2), (.int .i64 0)]), (.agg [(.int .i64 9), (.int .i64 0), (.int .i64 0)]), (.agg [(.int .i64 4), (.int .i64 1), (.int .i64 0)]), (.agg [(.int .i64 10), (.int .i64 1), (.int .i64 0)]), (.agg [(.int .i64 13), (.int .i64 0), (.int .i64 0)]), (.agg [(.int .i64 34), (.int .i64 0), (.int .i64 0)])] true), (.frz [] true), (.frz [(.int .i64 0)] true), (.int .i64 0), (.frz [] true)]), (.int .i64 0)], (.tuple [(.frz [(.agg [(.bool false), (.int .i64 0), (.bool false), (.int .i64 1)]), (.agg [(.bool false), (.int .i64 0), (.bool true), (.int .i64 1)])] false), (.int .i64 0)]))
theorem memoOk6 : MemoOk EL [memo6, memo5, memo4, memo3, memo2, memo1, memo0] := memo_cons (k := 1000) base memoOk5 (by kernel_rfl)

def memo7 : Memo := (14, [(.agg [(.frz [(.agg [(.int .i64 1), (.int .i64 1), (.int .i64 0)]), (.agg [(.int .i64 1), (.int .i64 2), (.int .i64 0)]), (.agg [(.int .i64 9), (.int .i64 0), (.int .i64 0)]), (.agg [(.int .i64 4), (.int .i64 1), (.int .i64 0)]), (.agg [(.int .i64 10), (.int .i64 1), (.int .i64 0)]), (.agg [(.int .i64 13), (.int .i64 0), (.int .i64 0)]), (.agg [(.int .i64 34), (.int .i64 0), (.int .i64 0)])] true), (.frz [] true), (.frz [(.int .i64 0)] true), (.int .i64 0), (.frz [] true)]), (.int .i64 0)], (.tuple [(.agg [(.frz [(.agg [(.bool false), (.int .i64 0)]), (.agg [(.bool false), (.int .i64 1)]), (.agg [(.bool true), (.int .i64 0)]), (.agg [(.bool true), (.int .i64 1)])] false), (.frz [(.int .i64 1), (.int .i64 0), (.int .i64 0), (.int .i64 0)] false)]), (.int .i64 0)]))
theorem memoOk7 : MemoOk EL [memo7, memo6, memo5, memo4, memo3, memo2, memo1, memo0] := memo_cons (k := 1000) base memoOk6 (by kernel_rfl)

def memo8 : Memo := (90, [(.fp [(.agg [(.fp [(.agg [(.frz [(.agg [(.int .i64 1), (.int .i64 1), (.int .i64 0)]), (.agg [(.int .i64 1), (.int .i64 2), (.int .i64 0)]), (.agg [(.int .i64 9), (.int .i64 0), (.int .i64 0)]), (.agg [(.int .i64 4), (.int .i64 1), (.int .i64 0)]), (.agg [(.int .i64 10), (.int .i64 1), (.int .i64 0)]), (.agg [(.int .i64 13), (.int .i64 0), (.int .i64 0)]), (.agg [(.int .i64 34), (.int .i64 0), (.int .i64 0)])] true), (.frz [] true), (.frz [(.int .i64 0)] true), (.int .i64 0), (.frz [] true), (.frz [(.agg [(.bool true), (.int .i64 0), (.int .i64 1)]), (.agg [(.bool true), (.int .i64 1), (.int .i64 1)]), (.agg [(.bool true), (.int .i64 2), (.int .i64 1)]), (.agg [(.bool true), (.int .i64 1), (.int .i64 2)]), (.agg [(.bool true), (.int .i64 2), (.int .i64 2)]), (.agg [(.bool true), (.int .i64 2), (.int .i64 1)]), (.agg [(.bool true), (.int .i64 1), (.int .i64 1)])] true), (.frz [(.agg [(.frz [] true), (.frz [(.int .i64 0)] true), (.frz [(.agg [(.int .i64 1), (.frz [(.int .i64 0)] true)])] true)]), (.agg [(.frz [] true), (.frz [(.int .i64 1)] true), (.frz [(.agg [(.int .i64 2), (.frz [(.int .i64 1)] true)])] true)]), (.agg [(.frz [(.int .i64 1)] false), (.frz [(.int .i64 61)] true), (.frz [(.agg [(.int .i64 3), (.frz [(.int .i64 61)] true)])] true)]), (.agg [(.frz [(.int .i64 61)] true), (.frz [(.int .i64 1)] true), (.frz [(.agg [(.int .i64 4), (.frz [(.int .i64 1)] true)])] true)]), (.agg [(.frz [] true), (.frz [] true), (.frz [(.agg [(.int .i64 5), (.frz [] true)])] true)]), (.agg [(.frz [(.int .i64 0), (.int .i64 1)] false), (.frz [(.int .i64 0)] true), (.frz [(.agg [(.int .i64 6), (.frz [(.int .i64 0)] true)])] true)]), (.agg [(.frz [(.int .i64 0)] false), (.frz [] true), (.frz [] true)])] true)])] 0 0), (.int .i64 0), (.frz [(.bool true), (.bool true), (.bool true), (.bool true), (.bool true), (.bool true), (.bool true)] true)])] 0 0), (.agg [(.int .i64 0), (.int .i64 0), (.int .i64 0), (.int .i64 0), (.int .i64 0), (.int .i64 0), (.int .i64 0), (.int .i64 0), (.int .i64 0), (.int .i64 0), (.int .i64 0), (.int .i64 0), (.int .i64 0), (.int .i64 0), (.int .i64 0), (.int .i64 0), (.int .i64 0), (.int .i64 0), (.int .i64 0), (.int .i64 0), (.int .i64 0), (.int .i64 0), (.int .i64 0), (.int .i64 0), (.int .i64 0), (.int .i64 0), (.int .i64 0), (.int .i64 0), (.int .i64 0), (.int .i64 0), (.int .i64 0), (.int .i64 0), (.int .i64 0), (.int .i64 0), (.int .i64 0), (.int .i64 0), (.int .i64 0), (.int .i64 0), (.int .i64 0), (.int .i64 0), (.int .i64 0), (.int .i64 0), (.int .i64 0), (.int .i64 0), (.int .i64 0), (.int .i64 0), (.int .i64 0), (.int .i64 0), (.int .i64 0), (.int .i64 0), (.int .i64 0), (.int .i64 0), (.int .i64 0), (.int .i64 0), (.int .i64 0), (.int .i64 0), (.int .i64 0), (.int .i64 0), (.int .i64 0), (.int .i64 0), (.int .i64 0), (.int .i64 0), (.int .i64 0), (.int .i64 0), (.int .i64 0), (.int .i64 0), (.int .i64 0), (.int .i64 0), (.int .i64 0), (.int .i64 0), (.int .i64 0), (.int .i64 0), (.int .i64 0), (.int .i64 0), (.int .i64 0), (.int .i64 0), (.int .i64 0), (.int .i64 0), (.int .i64 0), (.int .i64 0), (.int .i64 0), (.int .i64 0), (.int .i64 0), (.int .i64 0), (.int .i64 0), (.int .i64 0), (.int .i64 0), (.int .i64 0), (.int .i64 0), (.int .i64 0)])], (.tuple [(.int .i64 5), (.bool true)]))
theorem memoOk8 : MemoOk EL [memo8, memo7, memo6, memo5, memo4, memo3, memo2, memo1, memo0] := memo_cons (k := 1000) base memoOk7 (by kernel_rfl)

/-- The known rows hold. -/
theorem works_ok (Λ : List LoopInfo) (A : Heap) : WpC EL Λ (.func (.func 12) [] []) [] A (fun r B => r = .ret (.bool true) ∧ B = A) :=
  callK_comes (k := 1000) (withMemo_ok base memoOk8) (by kernel_rfl) Λ A

end Go.Proofs.YtgbfbhahnoafoaaGreatDoor

/- Sorting, and leaving out what stands twice, of two numbers at most. -/
namespace Go.Proofs.YtgbfbhahnoafoaaGreatDoor
open Go Go.Abs

variable {Λ : List LoopInfo} {A : Heap} {k : KL}

/-- What the kernel's evaluator tells, for rewriting. -/
theorem comes_of {g : Nat} {xs : List AV} {v : AV} {n : Nat} (h : callK (withMemo tabL []) (evK (withMemo tabL []) EL n) [] (.func (.func g) [] []) xs [] = some (.same v)) : Comes g xs v := fun Λ A k => call_iff fun k hk =>
  WpC.mono (callK_comes (withMemo_ok base memo_nil) h Λ A) fun r B hr => by obtain ⟨rfl, rfl⟩ := hr; exact hk

theorem s108_0 : Comes 108 [.int .u64 0] (.int .i64 0) := comes_of (n := 200) (by kernel_rfl)
theorem s108_1 : Comes 108 [.int .u64 1] (.int .i64 1) := comes_of (n := 200) (by kernel_rfl)
theorem s108_2 : Comes 108 [.int .u64 2] (.int .i64 2) := comes_of (n := 200) (by kernel_rfl)

@[simp] theorem s122 (x : Int) : @kCall EL Λ (.func (.func 122) [] []) [iA x] A k ↔ k.run (.ret (.bool false)) A := by
  rw [k_apart rfl c122 rfl (by simp [F122]) (by simp)]
  simp [F122]

@[simp] theorem s111 (x y : Int) : @kCall EL Λ (.func (.func 111) [] []) [iA x, iA y] A k ↔ k.run (.ret (.bool (decide (x < y)))) A := by
  rw [k_apart rfl c111 rfl (by simp [F111]) (by simp)]
  by_cases h : x < y <;> simp [F111, h]

theorem sort0 {B : Heap} : @kCall EL Λ (.func (.func 46) [] []) [.frz [] true] B k ↔ k.run (.ret (.tuple [])) B := by
  rw [k_fun rfl c46 (by simp [show EL.apart 46 = false from rfl]) (by simp [F46])]
  simp [F46, show IntKind.u64.wrap 0 = 0 from rfl, s108_0]
  rw [k_fun rfl c107 (by simp [show EL.apart 107 = false from rfl]) (by simp [F107])]
  simp [F107, k_loop, show IntKind.i64.wrap 0 = 0 from rfl]
  rw [k_fun rfl c143 (by simp [show EL.apart 143 = false from rfl]) (by simp [F143])]
  simp [F143, F107, F46, k_loop, show IntKind.i64.wrap 1 = 1 from rfl, show tupled [] = .tuple [] from rfl]

theorem sort1 {B : Heap} {id : Nat} {cl : Bool} : @kCall EL Λ (.func (.func 46) [] []) [.own id 0 1 cl] B k ↔ k.run (.ret (.tuple [])) B := by
  rw [k_fun rfl c46 (by simp [show EL.apart 46 = false from rfl]) (by simp [F46])]
  simp [F46, show IntKind.u64.wrap 1 = 1 from rfl, s108_1]
  rw [k_fun rfl c107 (by simp [show EL.apart 107 = false from rfl]) (by simp [F107])]
  simp [F107, k_loop, show IntKind.i64.wrap 1 = 1 from rfl]
  rw [k_fun rfl c143 (by simp [show EL.apart 143 = false from rfl]) (by simp [F143])]
  simp [F143, F107, F46, k_loop, show IntKind.i64.wrap 1 = 1 from rfl, show tupled [] = .tuple [] from rfl]

theorem sort2 {B : Heap} {id : Nat} {cl : Bool} {x y : Int} (hid : id < B.length) (hb : hget B id = .cells 1 [iA x, iA y]) : @kCall EL Λ (.func (.func 46) [] []) [.own id 0 2 cl] B k ↔ k.run (.ret (.tuple [])) (if y < x then (B ++ List.replicate 16 Blk.dead).set id (.cells 1 [iA y, iA x]) else B) := call_iff fun k hk => by
  have hb' : ∀ l, hget (B ++ l) id = .cells 1 [iA x, iA y] := fun l => by rw [hget_app_lt hid]; exact hb
  rw [k_fun rfl c46 (by simp [show EL.apart 46 = false from rfl]) (by simp [F46])]
  simp [F46, show IntKind.u64.wrap 2 = 2 from rfl, s108_2]
  rw [k_fun rfl c107 (by simp [show EL.apart 107 = false from rfl]) (by simp [F107])]
  simp [F107, k_loop, show IntKind.i64.wrap 2 = 2 from rfl]
  rw [k_fun rfl c143 (by simp [show EL.apart 143 = false from rfl]) (by simp [F143])]
  by_cases h : y < x
  · simp [F143, k_loop, show IntKind.i64.wrap 1 = 1 from rfl, show IntKind.i64.wrap 0 = 0 from rfl, hb, hb', h, bit_store, pick_cons, putAll]
    refine ⟨by omega, drawOk_few [15] (fun i x hx hi => ?_) (fun i hi j q p x y h1 h2 h3 h4 h5 h6 h7 e he => ?_), ?_⟩
    · have hl : i < 16 := by simpa using (List.getElem?_eq_some_iff.1 hx).1
      have hi2 : i ≠ 15 := by simpa using hi
      have hc : i = 0 ∨ i = 1 ∨ i = 2 ∨ i = 3 ∨ i = 4 ∨ i = 5 ∨ i = 6 ∨ i = 7 ∨ i = 8 ∨ i = 9 ∨ i = 10 ∨ i = 11 ∨ i = 12 ∨ i = 13 ∨ i = 14 := by omega
      rcases hc with rfl | rfl | rfl | rfl | rfl | rfl | rfl | rfl | rfl | rfl | rfl | rfl | rfl | rfl | rfl
      all_goals
        cases hx
        rfl
    · obtain rfl : i = 15 := by simpa using hi
      have hl : j < 16 := by simpa using (List.getElem?_eq_some_iff.1 h4).1
      cases h1
      have hj : ¬ (j = 0 ∨ j = 1 ∨ 5 ≤ j) := fun hj => by
        have hc : j = 0 ∨ j = 1 ∨ j = 5 ∨ j = 6 ∨ j = 7 ∨ j = 8 ∨ j = 9 ∨ j = 10 ∨ j = 11 ∨ j = 12 ∨ j = 13 ∨ j = 14 := by omega
        rcases hc with rfl | rfl | rfl | rfl | rfl | rfl | rfl | rfl | rfl | rfl | rfl | rfl <;> exact absurd h6 (by decide)
      have hc : j = 2 ∨ j = 3 ∨ j = 4 := by omega
      rcases hc with rfl | rfl | rfl
      all_goals
        cases h3; cases h4; simp only [List.mem_cons, List.not_mem_nil, or_false] at he; subst he
        exact ⟨bit_blind rfl, fun e' he' => by cases he'⟩
    · have hl1 : id < (B ++ [Blk.dead, Blk.dead, Blk.dead, Blk.dead, Blk.dead, Blk.dead, Blk.dead, Blk.dead, Blk.dead, Blk.dead, Blk.dead, Blk.dead, Blk.dead, Blk.dead, Blk.dead, Blk.dead]).length := by simp; omega
      rw [if_pos h] at hk
      simp at hk
      generalize B ++ [Blk.dead, Blk.dead, Blk.dead, Blk.dead, Blk.dead, Blk.dead, Blk.dead, Blk.dead, Blk.dead, Blk.dead, Blk.dead, Blk.dead, Blk.dead, Blk.dead, Blk.dead, Blk.dead] = H at hl1 hk ⊢
      have hs : ∀ b, hget (H.set id b) id = b := fun b => by rw [hget_set hl1, if_pos rfl]
      have hl2 : ∀ b, id < (H.set id b).length := fun b => by simpa using hl1
      simp [F143, F107, F46, k_loop, show IntKind.i64.wrap 0 = 0 from rfl, show IntKind.i64.wrap 2 = 2 from rfl, hset_lt hl1, hs, hset_lt (hl2 _)]
      exact hk
  · rw [if_neg h] at hk
    simp [F143, F107, F46, k_loop, show IntKind.i64.wrap 1 = 1 from rfl, show IntKind.i64.wrap 0 = 0 from rfl, show IntKind.i64.wrap 2 = 2 from rfl, hb, h]
    exact hk

theorem compact0 {B : Heap} : @kCall EL Λ (.func (.func 47) [] []) [.frz [] true] B k ↔ k.run (.ret (.frz [] true)) B := by
  rw [k_fun rfl c47 (by simp [show EL.apart 47 = false from rfl]) (by simp [F47])]
  simp [F47]

theorem compact1 {B : Heap} {id : Nat} {cl : Bool} : @kCall EL Λ (.func (.func 47) [] []) [.own id 0 1 cl] B k ↔ k.run (.ret (.own id 0 1 cl)) B := by
  rw [k_fun rfl c47 (by simp [show EL.apart 47 = false from rfl]) (by simp [F47])]
  simp [F47]

theorem compact2 {B : Heap} {id : Nat} {cl : Bool} {x y : Int} (_hid : id < B.length) (hb : hget B id = .cells 1 [iA x, iA y]) (hxy : x ≠ y) : @kCall EL Λ (.func (.func 47) [] []) [.own id 0 2 cl] B k ↔ k.run (.ret (.own id 0 2 cl)) B := by
  rw [k_fun rfl c47 (by simp [show EL.apart 47 = false from rfl]) (by simp [F47])]
  simp [F47, k_loop, show IntKind.i64.wrap 0 = 0 from rfl, show IntKind.i64.wrap 2 = 2 from rfl, hb, Ne.symm hxy]

theorem compact2e {B : Heap} {id : Nat} {cl : Bool} {x : Int} (hid : id < B.length) (hb : hget B id = .cells 1 [iA x, iA x]) : @kCall EL Λ (.func (.func 47) [] []) [.own id 0 2 cl] B k ↔ k.run (.ret (.own id 0 1 false)) (B.set id (.cells 1 [iA x, iA 0])) := by
  rw [k_fun rfl c47 (by simp [show EL.apart 47 = false from rfl]) (by simp [F47])]
  have hs : ∀ b, hget (B.set id b) id = b := fun b => by rw [hget_set hid, if_pos rfl]
  simp [F47, k_loop, show IntKind.i64.wrap 0 = 0 from rfl, hb, clearA, hset_lt hid, hs]

end Go.Proofs.YtgbfbhahnoafoaaGreatDoor

/- One block, gathered. -/
namespace Go.Proofs.YtgbfbhahnoafoaaGreatDoor
open Go Go.Abs

variable {Λ : List LoopInfo} {A : Heap} {k : KL}

def srt (l : List Int) : List Int := match l with | [x, y] => if y < x then [y, x] else [x, y] | l => l
def cpt (l : List Int) : List Int := match l with | [x, y] => if x = y then [x] else [x, y] | l => l

/-- A short list of its own. -/
def NextOk (H : Heap) (nv : AV) (l : List Int) : Prop := (nv = .frz [] true ∧ l = []) ∨ ∃ id rest, nv = .own id 0 l.length false ∧ id < H.length ∧ l ≠ [] ∧ hget H id = .cells 1 (l.map iA ++ rest)

theorem sortK {B : Heap} {nv : AV} {l : List Int} (h2 : l.length ≤ 2) (hG : Gathers B 1 nv (l.map iA)) (hcl : ∀ i o m cl, nv = .own i o m cl → cl = false)
    (hk : ∀ B', B.length ≤ B'.length → (∀ i, i < B.length → ¬ nv.blockIs i → hget B' i = hget B i) → Gathers B' 1 nv ((srt l).map iA) → k.run (.ret (.tuple [])) B') : @kCall EL Λ (.func (.func 46) [] []) [nv] B k := by
  match l, h2, hG, hk with
  | [], _, hG, hk =>
    rcases hG with ⟨rfl, _⟩ | ⟨id, c, rfl, _, _, hne⟩
    · rw [sort0]
      exact hk B (Nat.le_refl _) (fun i _ _ => rfl) (.inl ⟨rfl, rfl⟩)
    · exact absurd rfl hne
  | [x], _, hG, hk =>
    have hG' := hG
    rcases hG with ⟨rfl, h⟩ | ⟨id, c, rfl, _, _, hne⟩
    · cases h
    · simp only [List.length_map, List.length_singleton]
      simp only [List.length_map, List.length_singleton] at hk hG'
      rw [sort1]
      exact hk B (Nat.le_refl _) (fun i _ _ => rfl) hG'
  | [x, y], _, hG, hk =>
    have hG' := hG
    rcases hG with ⟨rfl, h⟩ | ⟨id, c, rfl, hid, hb, hne⟩
    · cases h
    · have e2 : (List.map iA [x, y]).length = 2 := rfl
      rw [e2] at hk hG' ⊢
      rw [sort2 hid hb]
      by_cases h : y < x
      · rw [if_pos h]
        have hid2 : id < (B ++ List.replicate 16 Blk.dead).length := by simp; omega
        refine hk _ (by simp) (fun i hi hn => ?_) (.inr ⟨id, c, by simp [srt, h], by simp; omega, ?_, by simp [srt, h]⟩)
        · rw [hget_set hid2, if_neg (fun e => hn ⟨0, 2, c, by rw [e]⟩), hget_app_lt hi]
        · rw [hget_set hid2, if_pos rfl]; simp [srt, h]
      · rw [if_neg h]
        exact hk B (Nat.le_refl _) (fun i _ _ => rfl) (by simpa [srt, h] using hG')

theorem compactK {B : Heap} {nv : AV} {l : List Int} (h2 : l.length ≤ 2) (hG : Gathers B 1 nv (l.map iA)) (hcl : ∀ i o m cl, nv = .own i o m cl → cl = false)
    (hk : ∀ B' nv', B.length ≤ B'.length → (∀ i, i < B.length → ¬ nv.blockIs i → hget B' i = hget B i) → NextOk B' nv' (cpt l) → k.run (.ret nv') B') : @kCall EL Λ (.func (.func 47) [] []) [nv] B k := by
  match l, h2, hG, hk with
  | [], _, hG, hk =>
    rcases hG with ⟨rfl, _⟩ | ⟨id, c, rfl, _, _, hne⟩
    · rw [compact0]
      exact hk B _ (Nat.le_refl _) (fun i _ _ => rfl) (.inl ⟨rfl, rfl⟩)
    · exact absurd rfl hne
  | [x], _, hG, hk =>
    rcases hG with ⟨rfl, h⟩ | ⟨id, c, rfl, hid, hb, hne⟩
    · cases h
    · obtain rfl := hcl _ _ _ _ rfl
      simp only [List.length_map, List.length_singleton]
      rw [compact1]
      exact hk B _ (Nat.le_refl _) (fun i _ _ => rfl) (.inr ⟨id, [], rfl, hid, by simp [cpt], by simpa [cpt] using hb⟩)
  | [x, y], _, hG, hk =>
    rcases hG with ⟨rfl, h⟩ | ⟨id, c, rfl, hid, hb, hne⟩
    · cases h
    · obtain rfl := hcl _ _ _ _ rfl
      have e2 : (List.map iA [x, y]).length = 2 := rfl
      rw [e2] at hk ⊢
      by_cases h : x = y
      · subst h
        rw [compact2e hid hb]
        refine hk _ _ (by simp) (fun i hi hn => ?_) (.inr ⟨id, [iA 0], by simp [cpt], by simpa using hid, by simp [cpt], ?_⟩)
        · rw [hget_set hid, if_neg (fun e => hn ⟨0, 2, false, by rw [e]⟩)]
        · rw [hget_set hid, if_pos rfl]; simp [cpt]
      · rw [compact2 hid hb h]
        exact hk B _ (Nat.le_refl _) (fun i _ _ => rfl) (.inr ⟨id, [], by simp [cpt, h], hid, by simp [cpt, h], by simpa [cpt, h] using hb⟩)

/-! ### Blocks -/

/-- An instruction that is followed by the next one alone. -/
def goOn (x : Ins) : Bool := decide (x.op ≠ 11 ∧ x.op ≠ 12 ∧ x.op ≠ 19 ∧ x.op ≠ 8 ∧ x.op ≠ 20 ∧ x.op ≠ 34)
/-- Where a block ends. -/
def toF (c : Prog) (is : List Bool) : Nat → Nat → Nat
  | 0, t => t
  | m + 1, t => if goOn (c.ins.getD (t - 1) ins0) && !(is.getD t false) then toF c is m (t + 1) else t
/-- The targets of an instruction. -/
def tgts (n : Int) (x : Ins) : List Int := (nextP n x ([], true)).map (·.1)
def followN (n : Int) (x : Ins) : List Int := cpt (srt (tgts n x))

theorem nextP_tgts {n : Int} {x : Ins} {w : LI} : (nextP n x w).map (·.1) = tgts n x := by
  unfold tgts nextP
  repeat' split
  all_goals rfl
theorem tgts_len {n : Int} {x : Ins} : (tgts n x).length ≤ 2 := by
  unfold tgts nextP
  repeat' split
  all_goals simp

abbrev Item := Int × Int × AV × List Int
abbrev itA (i : Item) : AV := .agg [iA i.1, iA i.2.1, i.2.2.1]

/-- What stands while blocks are gathered. -/
structure St38 (c : Prog) (out : List Dep) (is : List Bool) (L O : Nat) (its : List Item) (H : Heap) : Prop where
  pv : 1 < H.length ∧ hget H 1 = .cells 1 [progF c out]
  lv : L < H.length ∧ hget H L = .cells 1 [.own 3 0 c.ins.length true]
  bits : 3 < H.length ∧ hget H 3 = .cells 1 (is.map .bool)
  ov : O < H.length ∧ ∃ v, hget H O = .cells 1 [v] ∧ Gathers H 3 v (its.map itA) ∧ ∀ i o m cl, v = .own i o m cl → cl = false
  els : ∀ i ∈ its, NextOk H i.2.2.1 i.2.2.2

theorem NextOk.keep {H H' : Heap} {nv : AV} {l : List Int} (h : NextOk H nv l) (hl : H.length ≤ H'.length) (hk : ∀ i, i < H.length → nv.blockIs i → hget H' i = hget H i) : NextOk H' nv l := by
  rcases h with h | ⟨id, rest, rfl, h1, h2, h3⟩
  · exact .inl h
  · exact .inr ⟨id, rest, rfl, by omega, h2, by rw [hk id h1 ⟨_, _, _, rfl⟩]; exact h3⟩

theorem St38.app {c : Prog} {out : List Dep} {is : List Bool} {L O : Nat} {its : List Item} {H : Heap} (h : St38 c out is L O its H) {H' : Heap} (hl : H.length ≤ H'.length) (hk : ∀ i, i < H.length → hget H' i = hget H i) : St38 c out is L O its H' := by
  refine ⟨⟨by have := h.pv.1; omega, by rw [hk 1 h.pv.1]; exact h.pv.2⟩, ⟨by have := h.lv.1; omega, by rw [hk L h.lv.1]; exact h.lv.2⟩, ⟨by have := h.bits.1; omega, by rw [hk 3 h.bits.1]; exact h.bits.2⟩, ⟨by have := h.ov.1; omega, ?_⟩, fun i hi => (h.els i hi).keep hl (fun j hj _ => hk j hj)⟩
  obtain ⟨v, h1, h2, h3⟩ := h.ov.2
  exact ⟨v, by rw [hk O h.ov.1]; exact h1, h2.keep hl hk, h3⟩

end Go.Proofs.YtgbfbhahnoafoaaGreatDoor

/- What the closure of 'Blocks' gathers. -/
namespace Go.Proofs.YtgbfbhahnoafoaaGreatDoor
open Go Go.Abs

variable {Λ : List LoopInfo} {A : Heap} {k : KL}

abbrev isR (out : List Dep) (n : Nat) : Bool := (out.getD n dep0).1

theorem Sp.next {c : Prog} {out : List Dep} (h : Sp c out) {n : Nat} (hn : isR out n = true) : ∀ r ∈ (followR c n (c.ins.getD n ins0) (out.getD n dep0).2.1 (out.getD n dep0).2.2).1, 0 ≤ r.1 ∧ r.1 < c.ins.length ∧ isR out r.1.toNat = true := fun r hr => by
  obtain ⟨⟨c1, c2, _⟩, h2⟩ := h.all r (.step _ r (h.only n hn) hr)
  exact ⟨c1, c2, by unfold isR; rw [h2]⟩

theorem Sp.can {c : Prog} {out : List Dep} (h : Sp c out) {n : Nat} (hn : isR out n = true) : (followR c n (c.ins.getD n ins0) (out.getD n dep0).2.1 (out.getD n dep0).2.2).2 = true := (h.all _ (h.only n hn)).1.2.2.2.2.2.2

theorem tgts_follow {c : Prog} {n : Int} {x : Ins} {s e : Int} (ha : 0 ≤ c.argsOf x.a) (hc : (followR c n x s e).2 = true) : ∀ t ∈ tgts n x, ∃ d, (t, d) ∈ (followR c n x s e).1 := fun t ht => by
  unfold followR at hc ⊢
  by_cases h1 : asksR x.op (c.argsOf x.a) < 0
  · have hop : x.op = 8 ∨ x.op = 20 ∨ x.op = 34 := by
      unfold asksR at h1
      repeat' split at h1
      all_goals omega
    simp [tgts, nextP, hop] at ht
  rw [if_neg h1] at hc ⊢
  by_cases h2 : s < asksR x.op (c.argsOf x.a) ∨ (x.op = 4 ∧ e ≤ x.a) ∨ (x.op = 10 ∧ e < x.a)
  · rw [if_pos h2] at hc; cases hc
  rw [if_neg h2]
  clear hc h1 h2
  by_cases e1 : x.op = 8 ∨ x.op = 20 ∨ x.op = 34
  · simp [tgts, nextP, e1] at ht
  rw [if_neg e1]
  by_cases e11 : x.op = 11
  · simp [tgts, nextP, e11] at ht
    subst ht
    simp [e11]
  by_cases e12 : x.op = 12
  · simp [tgts, nextP, e12] at ht
    simp only [e12]
    rcases ht with rfl | rfl
    · exact ⟨_, List.mem_cons_self ..⟩
    · exact ⟨_, List.mem_cons_of_mem _ (List.mem_cons_self ..)⟩
  by_cases e19 : x.op = 19
  · simp [tgts, nextP, e19] at ht
    simp only [e19]
    rcases ht with rfl | rfl
    · exact ⟨_, List.mem_cons_self ..⟩
    · exact ⟨_, List.mem_cons_of_mem _ (List.mem_cons_self ..)⟩
  have : t = n + 1 := by simpa [tgts, nextP, e1, e11, e12, e19] using ht
  subst this
  rw [if_neg e11, if_neg e12, if_neg e19]
  repeat' split
  all_goals exact ⟨_, List.mem_cons_self ..⟩

/-- What follows an instruction that is reached is there, and reached. -/
theorem Sp.tgt {c : Prog} (hf : c.Fine) {out : List Dep} (h : Sp c out) {n : Nat} (hn : isR out n = true) : ∀ t ∈ tgts n (c.ins.getD n ins0), 0 ≤ t ∧ t < c.ins.length ∧ isR out t.toNat = true := fun t ht => by
  obtain ⟨d, hd⟩ := tgts_follow (argsOf_le hf).1 (h.can hn) t ht
  exact h.next hn _ hd

theorem goOn_tgts {n : Int} {x : Ins} : goOn x = true → tgts n x = [n + 1] := fun h => by
  simp only [goOn, decide_eq_true_eq] at h
  obtain ⟨h1, h2, h3, h4, h5, h6⟩ := h
  simp [tgts, nextP, h1, h2, h3, h4, h5, h6]

/-- What stands while one block grows. -/
theorem toF_go {c : Prog} {is : List Bool} {m t : Nat} (h : goOn (c.ins.getD (t - 1) ins0) = true) (h2 : is.getD t false = false) : toF c is (m + 1) t = toF c is m (t + 1) := by
  show (if _ then _ else _) = _
  rw [h, h2]; rfl
theorem toF_stop {c : Prog} {is : List Bool} {m t : Nat} (h : ¬ (goOn (c.ins.getD (t - 1) ins0) = true ∧ is.getD t false = false)) : toF c is m t = t := by
  cases m with
  | zero => rfl
  | succ m =>
    have e : (goOn (c.ins.getD (t - 1) ins0) && !(is.getD t false)) = false := by
      cases h1 : goOn (c.ins.getD (t - 1) ins0) <;> cases h2 : is.getD t false <;> first | rfl | exact absurd ⟨h1, h2⟩ h
    exact if_neg (by rw [e]; decide)

theorem stepsP_get {c : Prog} {out : List Dep} {n : Nat} (hn : n < c.ins.length) : (stepsP c out)[n]? = some (stepAt c out n) := by
  unfold stepsP; simp [hn]

theorem stepAt_next {c : Prog} {out : List Dep} {n : Nat} (hr : isR out n = true) : ((stepAt c out n).next).map (·.1) = tgts n (c.ins.getD n ins0) := by
  unfold stepAt
  rw [if_pos hr]
  exact nextP_tgts

theorem NextOk.cells {H : Heap} {nv : AV} {l : List Int} (h : NextOk H nv l) : nv.cells = [nv] ∧ nv.isCell = true := by
  rcases h with ⟨rfl, _⟩ | ⟨id, rest, rfl, _⟩ <;> exact ⟨rfl, rfl⟩

theorem srt_len {l : List Int} (h : l.length ≤ 2) : (srt l).length ≤ 2 := by
  unfold srt
  split
  · split <;> simp
  · exact h

/-- One item more. -/
theorem St38.more {c : Prog} {out : List Dep} {is : List Bool} {L O : Nat} {its : List Item} {H G2 H' : Heap} (h : St38 c out is L O its H) {v w : AV} {a b : Int} {nv : AV} {l : List Int} (hv : hget H O = .cells 1 [v]) (hG : Gathers H 3 v (its.map itA)) (hcl : ∀ i o m cl, v = .own i o m cl → cl = false)
    (hl : H.length < G2.length) (hold : ∀ i, i < H.length → hget G2 i = hget H i) (hb : ∃ es, hget G2 H.length = .cells 3 es) (hN : NextOk G2 nv l)
    (hl' : G2.length ≤ H'.length) (hkeep : ∀ i, i < G2.length → i ≠ H.length → i ≠ O → ¬ v.blockIs i → hget H' i = hget G2 i) (hO : hget H' O = .cells 1 [w]) (hw : Gathers H' 3 w ((its ++ [(a, b, nv, l)]).map itA)) (hwc : ∀ i o m cl, w = .own i o m cl → cl = false) :
    St38 c out is L O (its ++ [(a, b, nv, l)]) H' := by
  have nob : ∀ i l, hget H i = .cells 1 l → ¬ v.blockIs i := fun i l hi hh => by
    obtain ⟨o, n, cc, he⟩ := hh
    rcases hG with ⟨rfl, _⟩ | ⟨id, c, rfl, h1, h2, h3⟩
    · cases he
    · obtain rfl : id = i := by injection he
      rw [h2] at hi
      cases hi
  have noO : ∀ i l, hget H i = .cells 1 l → (∀ x, l = [x] → x ≠ v) → i ≠ O := fun i l hi hx he => by
    subst he
    rw [hv] at hi
    cases hi
    exact hx v rfl rfl
  have old : ∀ i l, i < H.length → hget H i = .cells 1 l → (∀ x, l = [x] → x ≠ v) → hget H' i = .cells 1 l := fun i l hi hl2 hx => by
    rw [hkeep i (by omega) (by omega) (noO i l hl2 hx) (nob i l hl2), hold i hi]; exact hl2
  have vk : v = .frz [] true ∨ ∃ i n, v = .own i 0 n false := by
    rcases hG with ⟨h1, _⟩ | ⟨id, cl, rfl, h1, h2, h3⟩
    · exact .inl h1
    · obtain rfl := hcl _ _ _ _ rfl
      exact .inr ⟨id, _, rfl⟩
  refine ⟨⟨by have := h.pv.1; omega, old 1 _ h.pv.1 h.pv.2 (fun x hx => ?_)⟩, ⟨by have := h.lv.1; omega, old L _ h.lv.1 h.lv.2 (fun x hx => ?_)⟩, ⟨by have := h.bits.1; omega, old 3 _ h.bits.1 h.bits.2 (fun x hx => ?_)⟩, ⟨by have := h.ov.1; omega, w, hO, hw, hwc⟩, fun i hi => ?_⟩
  · cases hx
    rcases vk with rfl | ⟨i, n, rfl⟩ <;> (intro h; cases h)
  · cases hx
    rcases vk with rfl | ⟨i, n, rfl⟩ <;> (intro h; cases h)
  · have : x ∈ is.map AV.bool := by rw [hx]; simp
    obtain ⟨y, _, rfl⟩ := List.mem_map.1 this
    rcases vk with rfl | ⟨i, n, rfl⟩ <;> (intro h; cases h)
  · have hx : ∀ (l : List Int) (rest : List AV), l ≠ [] → ∀ x, l.map iA ++ rest = [x] → x ≠ v := fun l rest hl x hx => by
      cases l with
      | nil => exact absurd rfl hl
      | cons y l =>
        simp at hx
        obtain ⟨rfl, _⟩ := hx
        rcases vk with rfl | ⟨i, n, rfl⟩ <;> (intro h; cases h)
    rcases List.mem_append.1 hi with hi | hi
    · rcases h.els i hi with h1 | ⟨id, rest, h1, h2, h3, h4⟩
      · exact .inl h1
      · exact .inr ⟨id, rest, h1, by omega, h3, old id _ h2 h4 (hx _ _ h3)⟩
    · simp only [List.mem_singleton] at hi
      subst hi
      rcases hN with h1 | ⟨id, rest, h1, h2, h3, h4⟩
      · exact .inl h1
      · refine .inr ⟨id, rest, h1, by omega, h3, ?_⟩
        have e1 : id ≠ H.length := fun e => by
          obtain ⟨es, he⟩ := hb
          rw [e, he] at h4
          cases h4
        have e2 : id ≠ O := fun e => by
          rw [e, hold O h.ov.1, hv] at h4
          simp only [Blk.cells.injEq, true_and] at h4
          exact hx _ _ h3 v h4.symm rfl
        have e3 : ¬ v.blockIs id := fun hh => by
          by_cases hi : id < H.length
          · rw [hold id hi] at h4
            exact nob id _ h4 hh
          · obtain ⟨o, n, cc, he⟩ := hh
            rcases hG with ⟨rfl, _⟩ | ⟨id2, c, rfl, k1, k2, k3⟩
            · cases he
            · obtain rfl : id2 = id := by injection he
              exact hi k1
        rw [hkeep id h2 e1 e2 e3]; exact h4

theorem w104 {c : Prog} (hf : c.Fine) {out : List Dep} (hsp : Sp c out) (hil : c.ins.length ≤ 1500) {is : List Bool} (hlen : is.length = c.ins.length) {L O : Nat} {its : List Item} (hits : its.length ≤ 1500) {H : Heap} (h : St38 c out is L O its H) (n : Nat) (hn : n < c.ins.length) (hr : isR out n = true)
    (hk : ∀ H' nv, H.length ≤ H'.length → St38 c out is L O (its ++ [((n : Int), (toF c is c.ins.length (n + 1) : Int), nv, followN ((toF c is c.ins.length (n + 1) : Int) - 1) (c.ins.getD (toF c is c.ins.length (n + 1) - 1) ins0))]) H' → k.run (.ret (.tuple [])) H') :
    @kCall EL Λ (.func (.func 104) [] [.ptr 1 0 0, .ptr L 0 0, .ptr O 0 0]) [iA n] H k := by
  rw [k_fun rfl c104 (by simp) (by simp [F104])]
  simp [F104, hset, wrap_succ (j := n) (by omega)]
  refine kWp_mono (k := ⟨fun e R' G => e = .exit 0 ∧ ∃ f, ∃ u : Nat, R' = regs 85 f ∧ n ≤ u ∧ u < c.ins.length ∧ isR out u = true ∧ toF c is c.ins.length (n + 1) = u + 1 ∧ G = H ++ [.cells 3 [.agg [iA n, iA (u + 1 : Nat), .frz [] true]]] ∧ f 1 = .ptr 1 0 0 ∧ f 3 = .ptr O 0 0 ∧ f 5 = .ptr H.length 0 0⟩)
    (k_while (fun m f G => ∃ u : Nat, m = c.ins.length - u ∧ n ≤ u ∧ u < c.ins.length ∧ isR out u = true ∧ (∃ fu, toF c is fu (u + 1) = toF c is c.ins.length (n + 1) ∧ c.ins.length ≤ fu + u) ∧ G = H ++ [.cells 3 [.agg [iA n, iA (u + 1 : Nat), .frz [] true]]] ∧ f 0 = iA n ∧ f 1 = .ptr 1 0 0 ∧ f 2 = .ptr L 0 0 ∧ f 3 = .ptr O 0 0 ∧ f 5 = .ptr H.length 0 0 ∧ f 6 = iA u) (m := c.ins.length - n)
    ⟨n, rfl, by omega, hn, hr, ⟨c.ins.length, rfl, by omega⟩, by simp, by simp, by simp, by simp, by simp, by simp, by simp⟩ ?_) (fun e R' G hq => ?_)
  rotate_left
  · obtain ⟨rfl, f, u, rfl, hu1, hu2, hu3, htf, rfl, f1, f3, f5⟩ := hq
    have p1 : ∀ l, hget (H ++ l) 1 = _ := fun l => (hget_app_lt h.pv.1).trans h.pv.2
    have hst : (stepsP c out)[u]? = some (stepAt c out u) := stepsP_get hu2
    have hnx := stepAt_next (c := c) hu3
    have hsl : u < (stepsP c out).length := by simp [stepsP, hu2]
    have hse : (stepsP c out)[u] = stepAt c out u := by
      rw [List.getElem?_eq_getElem hsl] at hst
      exact Option.some.inj hst
    have hgi : c.ins.getD u ins0 = c.ins[u] := by simp [List.getD, hu2]
    have hu0 : IntKind.i64.wrap (u : Int) = (u : Int) := by rw [wrap_i64] <;> omega
    have htl : (stepAt c out u).next.length ≤ 2 := by
      have := congrArg List.length hnx
      rw [List.length_map] at this
      rw [this]; exact tgts_len
    rw [htf] at hk
    generalize stepAt c out u = S at *
    simp [f1, f5, p1, hu0, hsl, hse]
    refine kWp_mono (k := ⟨fun e R' G => e = .exit 2 ∧ ∃ f nv, R' = regs 85 f ∧ f 3 = .ptr O 0 0 ∧ f 5 = .ptr H.length 0 0 ∧ H.length < G.length ∧ (∀ i, i < H.length → hget G i = hget H i) ∧ hget G H.length = .cells 3 [.agg [iA n, iA (u + 1 : Nat), nv]] ∧ Gathers G 1 nv ((S.next.map (·.1)).map iA) ∧ (∀ i o m cl, nv = .own i o m cl → cl = false) ∧ (∀ i, nv.blockIs i → H.length < i)⟩)
      (k_for (fun j f G => ∃ nv, f 3 = .ptr O 0 0 ∧ f 5 = .ptr H.length 0 0 ∧ f 60 = .frz (S.next.map edgeA) S.nc ∧ f 61 = iA S.next.length ∧ f 62 = iA j ∧ H.length < G.length ∧ (∀ i, i < H.length → hget G i = hget H i) ∧ hget G H.length = .cells 3 [.agg [iA n, iA (u + 1 : Nat), nv]] ∧ Gathers G 1 nv (((S.next.map (·.1)).take j).map iA) ∧ (∀ i o m cl, nv = .own i o m cl → cl = false) ∧ (∀ i, nv.blockIs i → H.length < i)) S.next.length
        ⟨.frz [] true, by simp [f3], by simp [f5], by simp, by simp, by simp, by simp, fun i hi => hget_app_lt hi, by simp [hget_app0], .inl ⟨rfl, by simp⟩, fun i o m cl h => by simp at h, fun i hi => by obtain ⟨o, n, cc, hv⟩ := hi; cases hv⟩ ?_) (fun e R' G hq => ?_)
    · rintro j f G hj ⟨nv, f3, f5, f60, f61, f62, hgl, hold, hblk, hG, hcl, hid⟩
      by_cases hlt : j < S.next.length
      · have e1 : (S.next.map (·.1)).take (j + 1) = (S.next.map (·.1)).take j ++ [(S.next[j]).1] := by
          rw [List.take_succ_eq_append_getElem (by simpa using hlt)]; simp
        have hGA := hG.append (l := [Blk.cells 2 [.agg [iA S.next[j].1, liA S.next[j].2]], Blk.cells 1 [iA (S.next[j]).1]])
        obtain ⟨o, ho', hG2, hl2, hk2, hv2⟩ := gather_append (bytes := 8) (y := .own (G.length + 1) 0 1 true) (new := [iA (S.next[j]).1]) hGA (by simp [hget_app]) (fun s h => by cases h) (by simp)
          (fun e he => by
            rcases List.mem_append.1 he with he | he
            · simp only [List.mem_map] at he; obtain ⟨x, _, rfl⟩ := he; rfl
            · simp only [List.mem_singleton] at he; subst he; rfl) (by simp [maxBytes]; omega) (by simp; omega)
        simp at ho' hl2
        have hb' : ∀ l, hget (G ++ l) H.length = _ := fun l => (hget_app_lt hgl).trans hblk
        have hq1 := (hk2 H.length (by simp; omega) (fun hh => by have := hid _ hh; omega)).trans (hb' _)
        have hq2 : ∀ i, i < H.length → hget (applyOut (G ++ [Blk.cells 2 [.agg [iA S.next[j].1, liA S.next[j].2]], Blk.cells 1 [iA (S.next[j]).1]]) o) i = hget H i := fun i hi =>
          (hk2 i (by simp; omega) (fun hh => by have := hid _ hh; omega)).trans ((hget_app_lt (by omega)).trans (hold i hi))
        simp at hq1 hq2 hv2
        simp [f5, f60, f61, f62, hlt, hb', hset, ho']
        generalize applyOut (G ++ [Blk.cells 2 [.agg [iA S.next[j].1, liA S.next[j].2]], Blk.cells 1 [iA (S.next[j]).1]]) o = G2 at hq1 hq2 hl2 hG2 ⊢
        generalize o.v = w at *
        subst hv2
        have hl3 : H.length < G2.length := by omega
        simp [hq1, hset_lt hl3, wrap_succ (j := j) (by omega), f62]
        refine ⟨by omega, _, rfl, .own (G.length + 2) 0 (min j S.next.length + 1) false, by simp [f3], by simp [f5], by simp [f60], by simp [f61], by simp, by simpa using hl3, fun i hi => ?_, ?_, ?_, fun i o m cl he => by cases he; rfl, fun i hi => by obtain ⟨o, m, cc, hv⟩ := hi; cases hv; omega⟩
        · rw [hget_set hl3, if_neg (by omega)]; exact hq2 i hi
        · rw [hget_set hl3, if_pos rfl]; simp
        · rw [e1, List.map_append]
          rcases hG2 with ⟨he, _⟩ | ⟨id, cl2, he, hi1, hi2, hi3⟩
          · cases he
          · obtain rfl : id = G.length + 2 := by injection he with h1 _ _ _; exact h1.symm
            refine .inr ⟨G.length + 2, false, by simp, by simpa using hi1, ?_, by simp⟩
            rw [hget_set hl3, if_neg (by omega)]
            simpa using hi2
      · obtain rfl : j = S.next.length := by omega
        rw [List.take_of_length_le (by simp)] at hG
        simp [f61, f62]
        exact ⟨_, rfl, by simp [f3], by simp [f5], hgl, hold, nv, by simpa using hblk, by simpa using hG, by simpa using hcl, hid⟩
    · obtain ⟨rfl, f, nv, rfl, f3, f5, hgl, hold, hblk, hG, hcl, hid⟩ := hq
      simp [f5, hblk]
      refine sortK (by simpa using htl) hG hcl (fun G1 gl1 gk1 hG1 => ?_)
      have hb1 := (gk1 H.length hgl (fun hh => by have := hid _ hh; omega)).trans hblk
      have ho1 : ∀ i, i < H.length → hget G1 i = hget H i := fun i hi => (gk1 i (by omega) (fun hh => by have := hid _ hh; omega)).trans (hold i hi)
      simp at hb1
      simp [f5, hb1]
      refine compactK (srt_len (by simpa using htl)) hG1 hcl (fun G2 nv2 gl2 gk2 hN => ?_)
      have hb2 := (gk2 H.length (by omega) (fun hh => by have := hid _ hh; omega)).trans hb1
      have ho2 : ∀ i, i < H.length → hget G2 i = hget H i := fun i hi => (gk2 i (by omega) (fun hh => by have := hid _ hh; omega)).trans (ho1 i hi)
      have hl2 : H.length < G2.length := by omega
      obtain ⟨v, hv1, hv2, hv3⟩ := h.ov.2
      have hOl := h.ov.1
      have hvc : v.cells = [v] := by rcases hv2 with ⟨rfl, _⟩ | ⟨_, _, rfl, _⟩ <;> rfl
      have hvr : ∀ ds, v.remake ds = ds.headD undefA := by rcases hv2 with ⟨rfl, _⟩ | ⟨_, _, rfl, _⟩ <;> exact fun ds => rfl
      obtain ⟨hc1, hc2⟩ := hN.cells
      have hO3 : hget (G2.set H.length (.cells 3 [.agg [iA n, iA ((u : Int) + 1), nv2]])) O = .cells 1 [v] := by
        rw [hget_set hl2, if_neg (by omega), ho2 O hOl]; exact hv1
      have hB3 : hget (G2.set H.length (.cells 3 [.agg [iA n, iA ((u : Int) + 1), nv2]])) H.length = .cells 3 [.agg [iA n, iA ((u : Int) + 1), nv2]] := by
        rw [hget_set hl2, if_pos rfl]
      have hvb : ∀ i, v.blockIs i → i < H.length := fun i hi => by
        obtain ⟨o, n, cc, he⟩ := hi
        rcases hv2 with ⟨rfl, _⟩ | ⟨id, c, rfl, h1, h2, h3⟩
        · cases he
        · obtain rfl : id = i := by injection he
          exact h1
      have hG3 : Gathers (G2.set H.length (.cells 3 [.agg [iA n, iA ((u : Int) + 1), nv2]])) 3 v (its.map itA) := hv2.keep (by simp; omega) (fun i hi => by rw [hget_set hl2, if_neg (by omega)]; exact ho2 i hi)
      have hGA := hG3.append (l := [Blk.cells 3 [.agg [iA n, iA ((u : Int) + 1), nv2]]])
      obtain ⟨o, ho', hG4, hl4, hk4, hv4⟩ := gather_append (bytes := 40) (y := .own (G2.set H.length (.cells 3 [.agg [iA n, iA ((u : Int) + 1), nv2]])).length 0 1 true) (new := [.agg [iA n, iA ((u : Int) + 1), nv2]]) hGA (by have := hget_app0 (A := G2.set H.length (.cells 3 [.agg [iA n, iA ((u : Int) + 1), nv2]])) (l := [Blk.cells 3 [.agg [iA n, iA ((u : Int) + 1), nv2]]]); rw [elems_own, this]; simp) (fun s h => by cases h) (by simp)
        (fun e he => by
          rcases List.mem_append.1 he with he | he
          · simp only [List.mem_map] at he; obtain ⟨x, _, rfl⟩ := he; rfl
          · simp only [List.mem_singleton] at he; subst he; rfl) (by simp [maxBytes]; omega) (by simp; omega)
      have hlO : O < (G2.set H.length (.cells 3 [.agg [iA n, iA ((u : Int) + 1), nv2]]) ++ [Blk.cells 3 [.agg [iA n, iA ((u : Int) + 1), nv2]]]).length := by simp; omega
      have hOb : ¬ v.blockIs O := fun hh => by
        obtain ⟨o, n, cc, he⟩ := hh
        rcases hv2 with ⟨rfl, _⟩ | ⟨id, c, rfl, k1, k2, k3⟩
        · cases he
        · obtain rfl : id = O := by injection he
          rw [hv1] at k2; cases k2
      have hq := (hk4 O hlO hOb).trans ((hget_app_lt (by simp; omega)).trans hO3)
      have hk5 : ∀ i, i < G2.length → i ≠ H.length → ¬ v.blockIs i → hget (applyOut (G2.set H.length (.cells 3 [.agg [iA n, iA ((u : Int) + 1), nv2]]) ++ [Blk.cells 3 [.agg [iA n, iA ((u : Int) + 1), nv2]]]) o) i = hget G2 i := fun i h1 h2 h3 => by
        rw [hk4 i (by simp; omega) h3, hget_app_lt (by simpa using h1), hget_set hl2, if_neg h2]
      simp at ho' hl4 hv4
      have hl5 : G2.length < (applyOut (G2.set H.length (.cells 3 [.agg [iA n, iA ((u : Int) + 1), nv2]]) ++ [Blk.cells 3 [.agg [iA n, iA ((u : Int) + 1), nv2]]]) o).length := by omega
      simp [f3, f5, hb2, hset_lt hl2, hc1, hc2, hO3, hB3, hvc, ho']
      generalize applyOut (G2.set H.length (.cells 3 [.agg [iA n, iA ((u : Int) + 1), nv2]]) ++ [Blk.cells 3 [.agg [iA n, iA ((u : Int) + 1), nv2]]]) o = G4 at *
      generalize o.v = w at *
      subst hv4
      have hl6 : O < G4.length := by omega
      simp [hq, hvc, hvr, hset_lt hl6, F104, show tupled [] = .tuple [] from rfl]
      refine hk (G4.set O (.cells 1 [.own (G2.length + 1) 0 (its.length + 1) false])) nv2 (by simp; omega) (h.more (v := v) (w := .own (G2.length + 1) 0 (its.length + 1) false) hv1 hv2 hv3 hl2 ho2 ⟨_, hb2⟩ ?_ (by simp; omega) (fun i h1 h2 h3 h4 => ?_) (by rw [hget_set hl6, if_pos rfl]) ?_ (fun i o m cl he => by cases he; rfl))
      · have : followN (((u + 1 : Nat) : Int) - 1) (c.ins.getD (u + 1 - 1) ins0) = cpt (srt (S.next.map (·.1))) := by
          rw [hnx, show (((u + 1 : Nat) : Int) - 1) = (u : Int) by omega, show u + 1 - 1 = u from rfl]; rfl
        rw [this]; exact hN
      · rw [hget_set hl6, if_neg h3]; exact hk5 i h1 h2 h4
      · rcases hG4 with ⟨he, _⟩ | ⟨id, cl2, he, hi1, hi2, hi3⟩
        · cases he
        · obtain rfl : id = G2.length + 1 := by injection he with h1 _ _ _; exact h1.symm
          refine .inr ⟨G2.length + 1, false, by simp, by simpa using hi1, ?_, by simp⟩
          rw [hget_set hl6, if_neg (by omega), hi2]
          simp
  rintro m f G ⟨u, rfl, hu1, hu2, hu3, ⟨fu, htf, hfu⟩, rfl, f0, f1, f2, f3, f5, f6⟩
  have p1 : ∀ l, hget (H ++ l) 1 = _ := fun l => (hget_app_lt h.pv.1).trans h.pv.2
  have pL : ∀ l, hget (H ++ l) L = _ := fun l => (hget_app_lt h.lv.1).trans h.lv.2
  have p3 : ∀ l, hget (H ++ l) 3 = _ := fun l => (hget_app_lt h.bits.1).trans h.bits.2
  have hgi : c.ins.getD u ins0 = c.ins[u] := by simp [List.getD, hu2]
  have hst : (stepsP c out)[u]? = some (stepAt c out u) := stepsP_get hu2
  have hnx := stepAt_next (c := c) hu3
  rw [hgi] at hnx
  have htg := hsp.tgt hf hu3
  rw [hgi] at htg
  have hnl : (stepAt c out u).next.length = (tgts u c.ins[u]).length := by rw [← hnx]; simp
  have hsl : u < (stepsP c out).length := by simp [stepsP, hu2]
  have hse : (stepsP c out)[u] = stepAt c out u := by
    rw [List.getElem?_eq_getElem hsl] at hst
    exact Option.some.inj hst
  obtain ⟨o, a, b, hx⟩ : ∃ o a b, c.ins[u] = (⟨o, a, b⟩ : Ins) := ⟨_, _, _, rfl⟩
  rw [hx] at hgi hnx htg hnl
  have hwr := wrap_succ (j := u) (by omega)
  by_cases hgo : goOn ⟨o, a, b⟩ = true ∧ is.getD (u + 1) false = false
  · have hgk := hgo.1
    have hgl := hgo.2
    obtain ⟨hg1, hg2⟩ := hgo
    have htt := goOn_tgts (n := u) hg1
    rw [htt] at hnl htg
    obtain ⟨hz1, hz2, hz3⟩ := htg (u + 1) (by simp)
    have hz4 : u + 1 < is.length := by omega
    have hg3 : is[u + 1] = false := by simpa [List.getD, hz4] using hg2
    simp only [goOn, decide_eq_true_eq] at hg1
    obtain ⟨g1, g2, g3, g4, g5, g6⟩ := hg1
    have hz5 : (u : Int) + 1 < c.ins.length := by omega
    have hz0 : (0 : Int) ≤ (u : Int) + 1 := by omega
    have hwr2 := wrap_i64 (n := (u : Int) + 1 + 1) (by omega) (by omega)
    simp [f1, f2, f5, f6, p1, pL, p3, hu2, hx, g1, g2, g3, hse, hsl, hnl, hz0, hz4, hz5, hg3, hwr, hwr2, hset]
    obtain ⟨fv, rfl⟩ : ∃ fv, fu = fv + 1 := ⟨fu - 1, by omega⟩
    refine ⟨c.ins.length - (u + 1), by omega, _, rfl, u + 1, rfl, by omega, by omega, by simpa using hz3, ⟨fv, ?_, by omega⟩, by simp, by simp [f0], by simp [f1], by simp [f2], by simp [f3], by simp [f5], by simp⟩
    rw [← htf]
    exact (toF_go (by rw [show u + 1 - 1 = u from rfl, hgi]; exact hgk) hgl).symm
  · have hstop : toF c is c.ins.length (n + 1) = u + 1 := by
      rw [← htf]
      exact toF_stop (by rw [show u + 1 - 1 = u from rfl, hgi]; exact hgo)
    by_cases hbr : o = 11 ∨ o = 12 ∨ o = 19
    · simp [f1, f6, p1, hu2, hx, hbr]
      exact ⟨_, rfl, u, hu1, hu2, hu3, hstop, by simp, by simp [f1], by simp [f3], by simp [f5]⟩
    · by_cases hen : o = 8 ∨ o = 20 ∨ o = 34
      · have h0 : tgts u ⟨o, a, b⟩ = [] := by simp [tgts, nextP, hen]
        rw [h0] at hnl
        simp [f1, f6, p1, hu2, hx, hbr, hse, hsl, hnl]
        exact ⟨_, rfl, u, hu1, hu2, hu3, hstop, by simp, by simp [f1], by simp [f3], by simp [f5]⟩
      · have hg1 : goOn ⟨o, a, b⟩ = true := by simp only [goOn, decide_eq_true_eq]; omega
        have htt := goOn_tgts (n := u) hg1
        rw [htt] at hnl htg
        obtain ⟨hz1, hz2, hz3⟩ := htg (u + 1) (by simp)
        have hz4 : u + 1 < is.length := by omega
        have hg3 : is[u + 1] = true := by
          have : ¬ is.getD (u + 1) false = false := fun h => hgo ⟨hg1, h⟩
          simpa [List.getD, hz4] using this
        have hz5 : (u : Int) + 1 < c.ins.length := by omega
        have hz0 : (0 : Int) ≤ (u : Int) + 1 := by omega
        simp [f1, f2, f5, f6, p1, pL, p3, hu2, hx, hbr, hse, hsl, hnl, hz0, hz4, hz5, hg3]
        exact ⟨_, rfl, u, hu1, hu2, hu3, hstop, by simp, by simp [f1], by simp [f3], by simp [f5]⟩

end Go.Proofs.YtgbfbhahnoafoaaGreatDoor

/- The blocks of a code, by the program. -/
namespace Go.Proofs.YtgbfbhahnoafoaaGreatDoor
open Go Go.Abs

variable {Λ : List LoopInfo} {A : Heap} {k : KL}

def branchy (o : Int) : Bool := decide (o = 11 ∨ o = 12 ∨ o = 19)
def setT (l : List Bool) (t : Int) : List Bool := l.set t.toNat true
def leadB (c : Prog) (out : List Dep) (l : List Bool) (n : Nat) : List Bool := if isR out n && branchy (c.ins.getD n ins0).op then (tgts n (c.ins.getD n ins0)).foldl setT l else l
def leadTo (c : Prog) (out : List Dep) (j : Nat) : List Bool := ((List.range c.ins.length).take j).foldl (leadB c out) (startsL c out)
def leadersL (c : Prog) (out : List Dep) : List Bool := (List.range c.ins.length).foldl (leadB c out) (startsL c out)

theorem setT_len {l : List Bool} {t : Int} : (setT l t).length = l.length := by simp [setT]
theorem setTs_len {l : List Bool} {ts : List Int} : (ts.foldl setT l).length = l.length := foldl_len (fun _ _ => setT_len) _ _
theorem leadB_len {c : Prog} {out : List Dep} {l : List Bool} {n : Nat} : (leadB c out l n).length = l.length := by
  unfold leadB; split
  · exact setTs_len
  · rfl
theorem leadTo_len {c : Prog} {out : List Dep} {j : Nat} : (leadTo c out j).length = c.ins.length := by
  unfold leadTo; rw [foldl_len (fun l x => leadB_len), startsL_len]
theorem leadersL_len {c : Prog} {out : List Dep} : (leadersL c out).length = c.ins.length := by
  unfold leadersL; rw [foldl_len (fun l x => leadB_len), startsL_len]
theorem leadTo_succ {c : Prog} {out : List Dep} {j : Nat} (hj : j < c.ins.length) : leadTo c out (j + 1) = leadB c out (leadTo c out j) j := by
  unfold leadTo
  rw [foldl_take (by simpa using hj)]
  simp
theorem leadTo_all {c : Prog} {out : List Dep} : leadTo c out c.ins.length = leadersL c out := by
  unfold leadTo leadersL
  rw [List.take_of_length_le (by simp)]

/-- What is marked is reached. -/
def AllR (out : List Dep) (l : List Bool) : Prop := ∀ i, l.getD i false = true → isR out i = true

theorem AllR.set {out : List Dep} {l : List Bool} (h : AllR out l) {n : Nat} (hn : isR out n = true) : AllR out (l.set n true) := fun i hi => by
  by_cases e : n = i
  · subst e; exact hn
  · refine h i ?_
    simpa [List.getD, List.getElem?_set, e] using hi

theorem AllR.foldl {X : Type} {out : List Dep} {g : List Bool → X → List Bool} : ∀ (xs : List X), (∀ x ∈ xs, ∀ l, AllR out l → AllR out (g l x)) → ∀ l, AllR out l → AllR out (xs.foldl g l)
  | [], _, l, h => h
  | x :: xs, hg, l, h => AllR.foldl xs (fun y hy => hg y (by simp [hy])) _ (hg x (by simp) l h)

theorem opens_follow {c : Prog} {n : Int} {x : Ins} {s e : Int} (ho : opens x.op = true) (hc : (followR c n x s e).2 = true) : ∃ d, (x.a, d) ∈ (followR c n x s e).1 := by
  have ho : x.op = 6 ∨ x.op = 31 ∨ x.op = 32 := by simpa [opens] using ho
  unfold followR at hc ⊢
  have e0 : asksR x.op (c.argsOf x.a) = 0 := by rcases ho with h | h | h <;> rw [h] <;> rfl
  rw [e0] at hc ⊢
  rw [if_neg (by omega)] at hc ⊢
  by_cases h2 : s < 0 ∨ (x.op = 4 ∧ e ≤ x.a) ∨ (x.op = 10 ∧ e < x.a)
  · rw [if_pos h2] at hc; cases hc
  rw [if_neg h2]
  rcases ho with h | h | h <;> simp [h]

theorem startsL_reached {c : Prog} {out : List Dep} (hsp : Sp c out) : AllR out (startsL c out) := by
  unfold startsL
  refine AllR.foldl _ (fun n _ l hl => ?_) _ ?_
  · unfold startB
    split
    · rename_i h
      simp only [Bool.and_eq_true] at h
      obtain ⟨d, hd⟩ := opens_follow h.2 (hsp.can h.1)
      exact hl.set (hsp.next h.1 _ hd).2.2
    · exact hl
  · unfold funsB
    refine AllR.foldl _ (fun f hf l hl => hl.set ?_) _ (fun i hi => ?_)
    · unfold isR; rw [(hsp.fun hf).2.2]
    · simp [List.getD, List.getElem?_replicate] at hi
      split at hi <;> simp at hi

theorem leadersL_reached {c : Prog} (hf : c.Fine) {out : List Dep} (hsp : Sp c out) : AllR out (leadersL c out) := by
  unfold leadersL
  refine AllR.foldl _ (fun n _ l hl => ?_) _ (startsL_reached hsp)
  unfold leadB
  split
  · rename_i h
    simp only [Bool.and_eq_true] at h
    exact AllR.foldl _ (fun t ht l hl => hl.set (hsp.tgt hf h.1 t ht).2.2) _ hl
  · exact hl

/-- The blocks. -/
abbrev Blk3 := Int × Int × List Int
def blockAt (c : Prog) (is : List Bool) (n : Nat) : Blk3 := ((n : Int), (toF c is c.ins.length (n + 1) : Int), followN ((toF c is c.ins.length (n + 1) : Int) - 1) (c.ins.getD (toF c is c.ins.length (n + 1) - 1) ins0))
def blocksL (c : Prog) (out : List Dep) : List Blk3 := (marked (leadersL c out) c.ins.length).map (blockAt c (leadersL c out))
abbrev blk3A (b : Blk3) : AV := .agg [iA b.1, iA b.2.1, .frz (b.2.2.map iA) b.2.2.isEmpty]

def blocksPA (c : Prog) : AV := if codeOk c then match depthsP c with
    | some out => .tuple [.frz ((blocksL c out).map blk3A) (blocksL c out).isEmpty, iA 0]
    | none => .tuple [.frz [] true, iA 7]
  else .tuple [.frz [] true, iA 2]

theorem items_freeze {H : Heap} {k : Nat} : ∀ (its : List Item), (∀ i ∈ its, NextOk H i.2.2.1 i.2.2.2) → freezeList (Abs.freeze 0 H (k + 5) false) (its.map itA) = some (its.map fun i => blk3A (i.1, i.2.1, i.2.2.2))
  | [], _ => rfl
  | i :: its, h => by
    have ih := items_freeze its (fun j hj => h j (by simp [hj])) (k := k)
    have e1 : Abs.freeze 0 H (k + 4) false i.2.2.1 = some (.frz (i.2.2.2.map iA) i.2.2.2.isEmpty) := by
      rcases h i (by simp) with ⟨h1, h2⟩ | ⟨id, rest, h1, h2, h3, h4⟩
      · rw [h1, h2]; rfl
      · rw [h1, show k + 4 = (k + 3) + 1 from rfl, fz_own, h4]
        have : i.2.2.2.isEmpty = false := by cases hl : i.2.2.2 <;> simp_all
        have e2 : List.take i.2.2.2.length (List.map iA i.2.2.2 ++ rest) = List.map iA i.2.2.2 := by rw [List.take_append_of_le_length (by simp), List.take_of_length_le (by simp)]
        have e3 : freezeList (Abs.freeze 0 H (k + 3) false) (List.map iA i.2.2.2) = some (List.map iA i.2.2.2) := fz_map (fun x => rfl) _
        simp [e2, e3, this]
    simp only [List.map_cons, fzl_cons, ih, fz_agg, fz_int, Option.bind_some, Option.map_some, e1, fzl_nil]

end Go.Proofs.YtgbfbhahnoafoaaGreatDoor

/- 'Blocks', walked. -/
namespace Go.Proofs.YtgbfbhahnoafoaaGreatDoor
open Go Go.Abs

variable {Λ : List LoopInfo} {A : Heap} {k : KL}

/-- What stands while leaders are looked for. -/
structure SL (c : Prog) (out : List Dep) (L : Nat) (r : Blk) (bs : List Bool) (H : Heap) : Prop where
  low : 4 ≤ L
  len : L + 2 ≤ H.length
  pv : hget H 1 = .cells 1 [progF c out]
  bits : hget H 3 = .cells 1 (bs.map .bool)
  lv : hget H L = .cells 1 [.own 3 0 c.ins.length true]
  lp : hget H (L + 1) = r

theorem SL.app {c : Prog} {out : List Dep} {L : Nat} {r : Blk} {bs : List Bool} {H : Heap} (h : SL c out L r bs H) (l : List Blk) : SL c out L r bs (H ++ l) := by
  have h1 := h.low
  have h2 := h.len
  refine ⟨h1, by simp; omega, ?_, ?_, ?_, ?_⟩
  · rw [hget_app_lt (by omega)]; exact h.pv
  · rw [hget_app_lt (by omega)]; exact h.bits
  · rw [hget_app_lt (by omega)]; exact h.lv
  · rw [hget_app_lt (by omega)]; exact h.lp

theorem SL.loop {c : Prog} {out : List Dep} {L : Nat} {r r' : Blk} {bs : List Bool} {H : Heap} (h : SL c out L r bs H) : SL c out L r' bs (H.set (L + 1) r') := by
  have h1 := h.low
  have h2 := h.len
  have hs : ∀ i, hget (H.set (L + 1) r') i = if i = L + 1 then r' else hget H i := fun i => hget_set (by omega)
  refine ⟨h1, by simpa using h2, ?_, ?_, ?_, ?_⟩ <;> rw [hs]
  · rw [if_neg (by omega)]; exact h.pv
  · rw [if_neg (by omega)]; exact h.bits
  · rw [if_neg (by omega)]; exact h.lv
  · rw [if_pos rfl]

theorem SL.put {c : Prog} {out : List Dep} {L : Nat} {r : Blk} {bs bs' : List Bool} {H : Heap} (h : SL c out L r bs H) : SL c out L r bs' (H.set 3 (.cells 1 (bs'.map .bool))) := by
  have h1 := h.low
  have h2 := h.len
  have hs : ∀ i, hget (H.set 3 (.cells 1 (bs'.map .bool))) i = if i = 3 then .cells 1 (bs'.map .bool) else hget H i := fun i => hget_set (by omega)
  refine ⟨h1, by simpa using h2, ?_, ?_, ?_, ?_⟩ <;> rw [hs]
  · rw [if_neg (by omega)]; exact h.pv
  · rw [if_pos rfl]
  · rw [if_neg (by omega)]; exact h.lv
  · rw [if_neg (by omega)]; exact h.lp

theorem frozen_own2 {B : Heap} {es es' : List AV} {v : AV} {b esz : Nat} (h : Gathers B esz v es) (hc : ∀ i o m cl, v = .own i o m cl → cl = false) (hes : ∀ k, freezeList (Abs.freeze 0 B (k + 10) false) es = some es') (hl : es.isEmpty = es'.isEmpty) : Abs.freeze 0 B (b + 11) true v = some (.frz es' es'.isEmpty) := by
  rcases h with ⟨rfl, rfl⟩ | ⟨id, c, rfl, h1, h2, h3⟩
  · have := hes 0
    simp only [fzl_nil, Option.some.injEq] at this
    subst this
    rfl
  · obtain rfl := hc _ _ _ _ rfl
    rw [show b + 11 = (b + 10) + 1 from rfl, fz_own, h2]
    have : es.isEmpty = false := by cases es <;> simp_all
    rw [← hl, this]
    simp [hes]

@[simp] theorem rmk_nilp {ds : List AV} : AV.nilp.remake ds = ds.headD undefA := rfl

theorem s38 (c : Prog) (hc : c.Ok) : Comes 38 [c.av] (blocksPA c) := fun Λ A k => call_iff fun k hk => by
  rw [k_apart rfl c38 rfl (by simp [F38]) (by simp)]
  have eo := s97 c hc
  unfold openedA at eo
  unfold blocksPA at hk
  cases hok : codeOk c with
  | false =>
    rw [hok] at eo hk
    simp at eo hk
    simp [F38, eo, hset]
    exact hk
  | true =>
  rw [hok] at eo hk
  simp only [if_true] at eo hk
  cases hd : depthsP c with
  | none =>
    rw [hd] at eo hk
    simp at eo hk
    simp [F38, eo, hset]
    exact hk
  | some out =>
  rw [hd] at eo hk
  simp at eo hk
  obtain ⟨hf, hfun, hfl, hil⟩ := codeOk_fine hc hok
  have hsp := depthsP_sp hc hok hd
  simp [F38, eo, hset]
  refine w101 c hf out hsp hil hfl (fun B' hl hb ho => ?_)
  have ho1 := ho 1 (by simp)
  simp at hl hb ho1
  have hp1 : ∀ l, hget (B' ++ l) 1 = .cells 1 [progF c out] := fun l => (hget_app_lt (by omega)).trans ho1
  simp [hset, s102, hp1]
  refine k_rangeF rfl ?_
  simp
  have h0 : SL c out B'.length (.loop true none) (leadTo c out 0) (B' ++ [.cells 1 [.own 3 0 c.ins.length true], .loop true none]) := by
    refine ⟨by omega, by simp, ?_, ?_, by simp [hget_app0], by simp [hget_app]⟩
    · rw [hget_app_lt (by omega)]; exact ho1
    · rw [hget_app_lt (by omega)]; exact hb
  generalize hL : B'.length = L at h0 ⊢
  refine w142 c out (by rw [hsp.len]; omega) (fun j H => SL c out L (.loop true none) (leadTo c out j) H) h0 (fun j B' l h => h.app l) (fun j H hj hr h => ?_) (fun j H hj hr h => ?_) (fun H h => ?_)
  · have hj' : j < c.ins.length := by rw [← hsp.len]; exact hj
    have e : leadTo c out (j + 1) = leadTo c out j := by
      rw [leadTo_succ hj']
      unfold leadB isR
      have : out.getD j dep0 = out[j] := by simp [List.getD, hj]
      rw [this, hr]; rfl
    rw [e]; exact h
  · intro k kT kF
    have hj' : j < c.ins.length := by rw [← hsp.len]; exact hj
    have hgd : out.getD j dep0 = out[j] := by simp [List.getD, hj]
    have hRj : isR out j = true := by unfold isR; rw [hgd]; exact hr
    have hgi : c.ins.getD j ins0 = c.ins[j] := by simp [List.getD, hj']
    have hst : leadTo c out (j + 1) = if branchy c.ins[j].op then (tgts j c.ins[j]).foldl setT (leadTo c out j) else leadTo c out j := by
      rw [leadTo_succ hj']
      unfold leadB
      rw [hRj, hgi]; simp
    have htg := hsp.tgt hf hRj
    rw [hgi] at htg
    have hnx := stepAt_next (c := c) hRj
    rw [hgi] at hnx
    have hsl : j < (stepsP c out).length := by simp [stepsP, hj']
    have hse : (stepsP c out)[j] = stepAt c out j := by
      have := stepsP_get (out := out) hj'
      rw [List.getElem?_eq_getElem hsl] at this
      exact Option.some.inj this
    refine k_yld0 rfl ?_
    simp
    refine ⟨h.lp, ?_⟩
    have h2 := h.loop (r' := .loop false none)
    generalize H.set (L + 1) (.loop false none) = H2 at h2 ⊢
    have p1 := h2.pv
    generalize stepAt c out j = S at *
    simp [p1, hsl, hse]
    have htl : S.next.length ≤ 2 := by
      have := congrArg List.length hnx
      rw [List.length_map] at this
      rw [this]; exact tgts_len
    obtain ⟨o, a, b, hx⟩ : ∃ o a b, c.ins[j] = (⟨o, a, b⟩ : Ins) := ⟨_, _, _, rfl⟩
    let part := fun i : Nat => if branchy c.ins[j].op then ((tgts j c.ins[j]).take i).foldl setT (leadTo c out j) else leadTo c out j
    have hpart : part S.next.length = leadTo c out (j + 1) := by
      have : S.next.length = (tgts j c.ins[j]).length := by rw [← hnx]; simp
      simp only [part, this, List.take_length, hst]
    have hplen : ∀ i, (part i).length = c.ins.length := fun i => by
      simp only [part]
      split
      · rw [setTs_len, leadTo_len]
      · exact leadTo_len
    refine kWp_mono (k := ⟨fun e R' G => e = .exit 2 ∧ ∃ f, R' = regs 69 f ∧ SL c out L (.loop false none) (leadTo c out (j + 1)) G⟩)
      (k_for (fun i f G => SL c out L (.loop false none) (part i) G ∧ f 4 = .ptr 1 0 0 ∧ f 6 = .ptr L 0 0 ∧ f 7 = iA j ∧ f 34 = .frz (S.next.map edgeA) S.nc ∧ f 35 = iA S.next.length ∧ f 36 = iA i) S.next.length
        ⟨by simp only [part, List.take_zero, List.foldl_nil, ite_self]; exact h2, by simp, by simp, by simp, by simp, by simp, by simp⟩ ?_) (fun e R' G hq => ?_)
    · clear p1 h2 H2
      rintro i f G hi ⟨h2, f4, f6, f7, f34, f35, f36⟩
      by_cases hlt : i < S.next.length
      · have hti : i < (tgts j c.ins[j]).length := by rw [← hnx]; simpa using hlt
        have hte : (tgts j c.ins[j])[i] = (S.next[i]).1 := by
          have : (tgts j c.ins[j])[i]? = some (S.next[i]).1 := by rw [← hnx]; simp [hlt]
          rw [List.getElem?_eq_getElem hti] at this
          exact Option.some.inj this
        obtain ⟨t0, t1, t2⟩ := htg _ (List.getElem_mem hti)
        rw [hte] at t0 t1 t2
        have pA := fun l => (h2.app l).pv
        have pB := fun l => (h2.app l).bits
        have pC := fun l => (h2.app l).lv
        have hlow := h2.low
        have hlen := h2.len
        have hpl := hplen i
        have t3 : (S.next[i]).1.toNat < c.ins.length := by omega
        have t4 : (S.next[i]).1.toNat < (part i).length := by omega
        by_cases hbr : branchy c.ins[j].op = true
        · have hp : part (i + 1) = (part i).set (S.next[i]).1.toNat true := by
            simp only [part, hbr, if_true]
            rw [foldl_take hti, hte]; rfl
          have hfin := (h2.app [Blk.cells 2 [.agg [iA S.next[i].1, liA S.next[i].2]]]).put (bs' := part (i + 1))
          rw [hp, List.map_set] at hfin
          have h3m : 3 < G.length + 1 := by omega
          have h3l : 3 < (G ++ [Blk.cells 2 [.agg [iA S.next[i].1, liA S.next[i].2]]]).length := by simp; omega
          rw [hx] at hbr
          simp only [branchy, decide_eq_true_eq] at hbr
          simp [f4, f6, f7, f34, f35, f36, hlt, hset, pA, pB, pC, hj', hx, hbr, t0, t1, t4, h3m, wrap_succ (j := i) (by omega)]
          refine ⟨by omega, _, rfl, ?_, by simp [f4], by simp [f6], by simp [f7], by simp [f34], by simp [f35], by simp⟩
          rw [hp]
          exact hfin
        · have hp : part (i + 1) = part i := by simp only [part, hbr, if_false, Bool.false_eq_true]
          have hfin := h2.app [Blk.cells 2 [.agg [iA S.next[i].1, liA S.next[i].2]]]
          rw [hx] at hbr
          simp only [branchy, decide_eq_true_eq] at hbr
          simp [f4, f7, f34, f35, f36, hlt, hset, pA, hj', hx, hbr, wrap_succ (j := i) (by omega)]
          refine ⟨by omega, _, rfl, ?_, by simp [f4], by simp [f6], by simp [f7], by simp [f34], by simp [f35], by simp⟩
          rw [hp]
          exact hfin
      · obtain rfl : i = S.next.length := by omega
        rw [hpart] at h2
        simp [f35, f36]
        exact ⟨⟨_, rfl⟩, h2⟩
    · obtain ⟨rfl, f, rfl, h3⟩ := hq
      have hlp := h3.lp
      simp [hlp]
      exact kT _ h3.loop
  · rw [hsp.len, leadTo_all] at h
    subst hL
    have hlow := h.low
    have hlen := h.len
    have h2 := h.loop (r' := .dead)
    refine (kre_ok (by simpa using h.lp)).2 ?_
    have pA := fun l => (h2.app l).pv
    have pB := fun l => (h2.app l).bits
    have pC := fun l => (h2.app l).lv
    simp [pC]
    have hst : St38 c out (leadersL c out) B'.length H.length [] (H.set (B'.length + 1) .dead ++ [.cells 1 [.frz [] true]]) :=
      ⟨⟨by simp; omega, pA _⟩, ⟨by simp; omega, pC _⟩, ⟨by simp; omega, pB _⟩, ⟨by simp, .frz [] true, by have := hget_app0 (A := H.set (B'.length + 1) .dead) (l := [.cells 1 [.frz [] true]]); simpa using this, .inl ⟨rfl, rfl⟩, fun i o m cl h => by cases h; try rfl⟩, fun i hi => by cases hi⟩
    generalize B'.length = L at hst ⊢
    generalize H.length = O at hst ⊢
    refine k_for (fun j f G => ∃ its, St38 c out (leadersL c out) L O its G ∧ its.map (fun i => ((i.1, i.2.1, i.2.2.2) : Blk3)) = (marked (leadersL c out) j).map (blockAt c (leadersL c out)) ∧ f 10 = .ptr O 0 0 ∧ f 11 = .func (.func 104) [] [.ptr 1 0 0, .ptr L 0 0, .ptr O 0 0] ∧ f 56 = .own 3 0 c.ins.length true ∧ f 57 = iA c.ins.length ∧ f 58 = iA j) c.ins.length
      ⟨[], hst, by simp [marked], by simp, by simp, by simp, by simp, by simp⟩ ?_
    clear hst pA pB pC h2 h
    rintro j f G hj ⟨its, hst, hit, f10, f11, f56, f57, f58⟩
    have hb3 := hst.bits.2
    have hitl : its.length ≤ 1500 := by
      have := congrArg List.length hit
      rw [List.length_map, List.length_map] at this
      have := marked_len (leadersL c out) j
      omega
    by_cases hlt : j < c.ins.length
    · have hjs : j < (leadersL c out).length := by rw [leadersL_len]; exact hlt
      have hgs : (leadersL c out).getD j false = (leadersL c out)[j] := by simp [List.getD, hjs]
      cases hq : (leadersL c out)[j] with
      | false =>
        simp [f56, f57, f58, hb3, hlt, hq, leadersL_len, wrap_succ (j := j) (by omega)]
        refine ⟨by omega, _, rfl, its, hst, ?_, by simp [f10], by simp [f11], by simp [f56], by simp [f57], by simp⟩
        rw [marked_succ, hgs, hq]
        simpa using hit
      | true =>
        have hRj := leadersL_reached hf hsp j (by rw [hgs, hq])
        simp [f11, f56, f57, f58, hb3, hlt, hq, leadersL_len]
        refine w104 hf hsp hil leadersL_len hitl hst j hlt hRj (fun G' nv hl' hst' => ?_)
        simp [f58, wrap_succ (j := j) (by omega)]
        refine ⟨by omega, _, rfl, _, hst', ?_, by simp [f10], by simp [f11], by simp [f56], by simp [f57], by simp⟩
        rw [marked_succ, hgs, hq, List.map_append, hit]
        simp [blockAt]
    · obtain rfl : j = c.ins.length := by omega
      obtain ⟨v, hv1, hv2, hv3⟩ := hst.ov.2
      have hvc : v.cells = [v] := by rcases hv2 with ⟨rfl, _⟩ | ⟨_, _, rfl, _⟩ <;> rfl
      have hes : its.map (fun i => blk3A (i.1, i.2.1, i.2.2.2)) = (blocksL c out).map blk3A := by
        unfold blocksL
        rw [← hit, List.map_map]; rfl
      have hie : (its.map itA).isEmpty = ((blocksL c out).map blk3A).isEmpty := by
        rw [← hes]; cases its <;> rfl
      have hfz := frozen_own2 (b := 52) (es' := (blocksL c out).map blk3A) hv2 hv3 (fun k => by rw [← hes]; exact items_freeze its hst.els) hie
      simp [f10, f57, f58, hv1, hvc, F38, hfz]
      simpa using hk

end Go.Proofs.YtgbfbhahnoafoaaGreatDoor

/- The reference's starts and leaders. -/
namespace Go.Proofs.YtgbfbhahnoafoaaGreatDoor
open Go Go.Abs

variable {Λ : List LoopInfo} {A : Heap} {k : KL}

theorem s15 (c : Prog) (hc : c.Ok) (hcons : c.cons.length ≤ 1000000) : Comes 15 [c.av] (depthsPA c) := fun Λ A k => call_iff fun k hk => by
  rw [k_apart rfl c15 rfl (by simp [F15]) (by simp)]
  have e79 := s79 c hc hcons
  unfold depthsPA at hk
  cases hok : codeOk c with
  | false =>
    rw [hok] at e79 hk
    simp at hk
    simp [F15, e79]
    exact hk
  | true =>
  rw [hok] at e79 hk
  simp only [if_true] at hk
  obtain ⟨hf, hfun, hfl, hil⟩ := codeOk_fine hc hok
  have e80 := s80 c hf hfun (by omega)
  rw [depths_eq hf hfun] at hk
  unfold depthsA at e80
  cases hd : depthsR c with
  | none =>
    rw [hd] at e80 hk
    simp at e80 hk
    simp [F15, e79, e80]
    exact hk
  | some out =>
    rw [hd] at e80 hk
    simp at e80 hk
    simp [F15, e79, e80]
    exact hk

abbrev depsA (out : List Dep) : AV := .frz (out.map depAV) true

theorem w81 {B : Heap} (c : Prog) (hf : c.Fine) (out : List Dep) (hsp : Sp c out) (hil : c.ins.length ≤ 1500) (hfl : c.funs.length ≤ 300) :
    @kCall EL Λ (.func (.func 81) [] []) [c.av, depsA out] B k ↔ k.run (.ret (.own (B.length + 1) 0 c.ins.length true)) (B ++ [.cells 5 [c.av], .cells 1 ((startsL c out).map .bool)]) := call_iff fun k hk => by
  have hol := hsp.len
  have hmx : (c.ins.length : Int) ≤ maxBytes := by simp [maxBytes]; omega
  have hmx2 : c.ins.length ≤ maxBytes := by simp [maxBytes]; omega
  have hmx3 : (c.ins.length : Int) ≤ 9223372036854775807 := by omega
  rw [k_fun rfl c81 (by simp [show EL.apart 81 = false from rfl]) (by simp [F81])]
  simp [F81, mkSliceA, hmx, hmx3, hol]
  refine k_for (fun j f H => H = B ++ [.cells 5 [c.av], .cells 1 (((c.funs.take j).foldl (fun l f => l.set f.toNat true) (List.replicate c.ins.length false)).map .bool)] ∧ f 1 = depsA out ∧ f 2 = .ptr B.length 0 0 ∧ f 5 = .own (B.length + 1) 0 c.ins.length true ∧ f 6 = iA j) c.funs.length
    ⟨by simp, by simp, by simp, by simp, by simp⟩ ?_
  rintro j f H hj ⟨rfl, f1, f2, f5, f6⟩
  by_cases hlt : j < c.funs.length
  · obtain ⟨g1, g2, g3⟩ := hsp.fun (List.getElem_mem hlt)
    have hln : ∀ (l : List Int) (b : List Bool), (l.foldl (fun l f => l.set f.toNat true) b).length = b.length := fun l b => foldl_len (by simp) l b
    have g9 : c.funs[j].toNat < c.ins.length := by omega
    have g7 : c.funs[j].toNat < ((c.funs.take j).foldl (fun l f => l.set f.toNat true) (List.replicate c.ins.length false)).length := by rw [hln]; simp; omega
    simp [f2, f5, f6, hlt, g1, g2, g9, hln, hset, wrap_succ (j := j) (by omega)]
    refine ⟨by omega, _, rfl, ?_, by simp [f1], by simp [f2], by simp [f5], by simp⟩
    rw [foldl_take hlt, List.map_set]
  · obtain rfl : j = c.funs.length := by omega
    rw [List.take_length]
    simp [f2, f6]
    refine k_for (fun j f H => H = B ++ [.cells 5 [c.av], .cells 1 ((startsTo c out j).map .bool)] ∧ f 1 = depsA out ∧ f 2 = .ptr B.length 0 0 ∧ f 5 = .own (B.length + 1) 0 c.ins.length true ∧ f 7 = iA j) c.ins.length
      ⟨by simp [startsTo, funsB], by simp [f1], by simp [f2], by simp [f5], by simp⟩ ?_
    clear f1 f2 f5 f6 f
    rintro j f H hj ⟨rfl, f1, f2, f5, f7⟩
    by_cases hlt : j < c.ins.length
    · have hjo : j < out.length := by omega
      have hgd : out.getD j dep0 = out[j] := by simp [List.getD, hjo]
      have hgi : c.ins.getD j ins0 = c.ins[j] := by simp [List.getD, hlt]
      have hst := startsTo_succ (out := out) hlt
      unfold startB at hst
      rw [hgd, hgi] at hst
      have hi := hf.ins _ (List.getElem_mem hlt)
      obtain ⟨o, a, b, hx⟩ : ∃ o a b, c.ins[j] = (⟨o, a, b⟩ : Ins) := ⟨_, _, _, rfl⟩
      obtain ⟨q, s, e, hq⟩ : ∃ q s e, out[j] = (q, s, e) := ⟨_, _, _, rfl⟩
      rw [hx] at hi hst
      rw [hq] at hst
      simp only at hst
      cases q with
      | false =>
        simp at hst
        simp [f1, f7, hol, hlt, hq, wrap_succ (j := j) (by omega)]
        exact ⟨by omega, _, rfl, by rw [hst], by simp [f1], by simp [f2], by simp [f5], by simp⟩
      | true =>
        by_cases hop : o = 6 ∨ o = 31 ∨ o = 32
        · have hr : 0 ≤ a ∧ a ≤ (c.ins.length : Int) - 1 := by
            rcases hop with rfl | rfl | rfl <;> (by_cases hb : b = 0 <;> simp [insOk, rng, hb] at hi; exact hi)
          have q2 : a < (c.ins.length : Int) := by omega
          have q3 : a.toNat < c.ins.length := by omega
          have hop2 : opens o = true := by simpa [opens] using hop
          simp [hop2] at hst
          simp [f1, f2, f5, f7, hol, hlt, hq, hx, hop, hr.1, q2, q3, startsTo_len, hset, wrap_succ (j := j) (by omega)]
          exact ⟨by omega, _, rfl, by rw [hst, List.map_set], by simp [f1], by simp [f2], by simp [f5], by simp⟩
        · have hop2 : opens o = false := by simpa [opens] using hop
          simp [hop2] at hst
          simp [f1, f2, f7, hol, hlt, hq, hx, hop, wrap_succ (j := j) (by omega)]
          exact ⟨by omega, _, rfl, by rw [hst], by simp [f1], by simp [f2], by simp [f5], by simp⟩
    · obtain rfl : j = c.ins.length := by omega
      rw [startsTo_all]
      simp [f1, f5, f7, hol, F81]
      exact hk

end Go.Proofs.YtgbfbhahnoafoaaGreatDoor

/- The reference's Starts, leaders, what follows. -/
namespace Go.Proofs.YtgbfbhahnoafoaaGreatDoor
open Go Go.Abs

variable {Λ : List LoopInfo} {A : Heap} {k : KL}

theorem s40 (c : Prog) (hf : c.Fine) (out : List Dep) (hsp : Sp c out) (hil : c.ins.length ≤ 1500) (hfl : c.funs.length ≤ 300) : Comes 40 [c.av, depsA out] (startsLA c out) := fun Λ A k => call_iff fun k hk => by
  rw [k_apart rfl c40 rfl (by simp [F40]) (by simp)]
  have e81 := fun {Λ : List LoopInfo} {B : Heap} {k : KL} => w81 (Λ := Λ) (B := B) (k := k) c hf out hsp hil hfl
  simp [F40, e81]
  refine k_for (fun j f H => 2 < H.length ∧ hget H 2 = .cells 1 ((startsL c out).map .bool) ∧ f 1 = depsA out ∧ f 6 = .own 2 0 c.ins.length true ∧ f 7 = iA j ∧ Gathers H 2 (f 5) ((marked (startsL c out) j).map (startA out)) ∧ (∀ i o m cl, f 5 = .own i o m cl → cl = false) ∧ (∀ i, (f 5).blockIs i → i ≠ 2)) c.ins.length
    ⟨by simp, by simp [hget], by simp, by simp, by simp, .inl ⟨by simp, by simp [marked]⟩, fun i o m cl h => by simp at h, fun i hi => by obtain ⟨o, n, cc, hv⟩ := hi; simp at hv⟩ ?_
  rintro j f H hj ⟨hl, hb, f1, f6, f7, hG, hcl, hid⟩
  by_cases hlt : j < c.ins.length
  · have hjs : j < (startsL c out).length := by rw [startsL_len]; exact hlt
    have hjo : j < out.length := by rw [hsp.len]; exact hlt
    have hgs : (startsL c out).getD j false = (startsL c out)[j] := by simp [List.getD, hjs]
    have hgo : out.getD j dep0 = out[j] := by simp [List.getD, hjo]
    cases hq : (startsL c out)[j] with
    | false =>
      simp [f6, f7, hb, hlt, hq, startsL_len, wrap_succ (j := j) (by omega)]
      exact ⟨by omega, _, rfl, hl, hb, by simp [f1], by simp [f6], by simp, by rw [marked_succ, hgs, hq]; simpa using hG, by simpa using hcl, by simpa using hid⟩
    | true =>
      have hml := marked_len (startsL c out) j
      have hGA := hG.append (l := [Blk.cells 2 [startA out j]])
      obtain ⟨o, ho', hG2, hl2, hk2, hv2⟩ := gather_append (bytes := 16) (y := .own H.length 0 1 true) (new := [startA out j]) hGA (by simp) (fun s h => by cases h) (by simp)
        (fun e he => by
          rcases List.mem_append.1 he with he | he
          · simp only [List.mem_map] at he; obtain ⟨x, _, rfl⟩ := he; rfl
          · simp only [List.mem_singleton] at he; subst he; rfl) (by simp [maxBytes]; omega) (by simp; omega)
      have hs2 : startA out j = .agg [.int .i64 j, .int .i64 (out[j]).2.2] := by rw [startA, hgo]
      rw [hs2] at ho' hl2 hk2 hG2
      simp at ho' hl2
      simp [f1, f6, f7, hb, hlt, hjo, hq, startsL_len, ho', wrap_succ (j := j) (by omega)]
      simp at hk2 hv2
      refine ⟨by omega, _, rfl, by omega, ?_, by simp [f1], by simp [f6], by simp, ?_, ?_, ?_⟩
      · rw [hk2 2 (by omega) (fun h => hid 2 h rfl), hget_app_lt hl]; exact hb
      · rw [marked_succ, hgs, hq]
        simp only [if_true, List.map_append, List.map_cons, List.map_nil, hs2]
        simpa using hG2
      · intro i o m cl h
        simp at h
        rw [hv2] at h
        cases h; rfl
      · intro i hi
        simp at hi
        rw [hv2] at hi
        obtain ⟨o, n, cc, hv⟩ := hi
        cases hv
        omega
  · obtain rfl : j = c.ins.length := by omega
    have hfz := frozen_own' (b := 53) hG hcl (fun k => fz_map (fun x => rfl) _)
    simp [f6, f7, F40, hfz]
    simpa [startsLA] using hk

theorem set_comm_true {l : List Bool} {a b : Nat} : (l.set a true).set b true = (l.set b true).set a true := by
  by_cases h : a = b
  · subst h; rfl
  · exact List.set_comm true true h

theorem set_bool_get {l : List Bool} {n m : Nat} (h : m < ((l.map AV.bool).set n (.bool true)).length) : ((l.map AV.bool).set n (.bool true))[m] = .bool ((l.set n true).getD m false) := by
  have e : (l.map AV.bool).set n (.bool true) = (l.set n true).map AV.bool := by rw [List.map_set]
  have h2 : m < (l.set n true).length := by simpa using h
  simp only [e, List.getElem_map, List.getD, List.getElem?_eq_getElem h2, Option.getD_some]

theorem s105 (c : Prog) (hf : c.Fine) (out : List Dep) (hsp : Sp c out) (hil : c.ins.length ≤ 1500) (hfl : c.funs.length ≤ 300) : Comes 105 [c.av, depsA out] (.frz ((leadersL c out).map .bool) true) := fun Λ A k => call_iff fun k hk => by
  rw [k_apart rfl c105 rfl (by simp [F105]) (by simp)]
  have e81 := fun {Λ : List LoopInfo} {B : Heap} {k : KL} => w81 (Λ := Λ) (B := B) (k := k) c hf out hsp hil hfl
  simp [F105, e81]
  have hol := hsp.len
  refine k_for (fun j f H => H = [.cells 5 [c.av], .cells 5 [c.av], .cells 1 ((leadTo c out j).map .bool)] ∧ f 1 = depsA out ∧ f 2 = .ptr 0 0 0 ∧ f 5 = .own 2 0 c.ins.length true ∧ f 6 = iA j) c.ins.length
    ⟨by simp [leadTo], by simp, by simp, by simp, by simp⟩ ?_
  rintro j f H hj ⟨rfl, f1, f2, f5, f6⟩
  by_cases hlt : j < c.ins.length
  · have hjo : j < out.length := by omega
    have hgd : out.getD j dep0 = out[j] := by simp [List.getD, hjo]
    have hgi : c.ins.getD j ins0 = c.ins[j] := by simp [List.getD, hlt]
    have hst := leadTo_succ (out := out) hlt
    unfold leadB isR at hst
    rw [hgd, hgi] at hst
    have hi := hf.ins _ (List.getElem_mem hlt)
    have htg : isR out j = true → _ := fun h => hsp.tgt hf (n := j) h
    rw [hgi] at htg
    unfold isR at htg
    rw [hgd] at htg
    obtain ⟨o, a, b, hx⟩ : ∃ o a b, c.ins[j] = (⟨o, a, b⟩ : Ins) := ⟨_, _, _, rfl⟩
    obtain ⟨q, s, e, hq⟩ : ∃ q s e, out[j] = (q, s, e) := ⟨_, _, _, rfl⟩
    have e106 := fun {Λ : List LoopInfo} {A : Heap} {k : KL} => s106 (Λ := Λ) (A := A) (k := k) o a b
    rw [hx] at hi hst htg
    rw [hq] at hst htg
    simp only at hst htg
    cases q with
    | false =>
      simp at hst
      simp [f1, f2, f6, hol, hlt, hq, hx, wrap_succ (j := j) (by omega)]
      exact ⟨by omega, _, rfl, by rw [hst], by simp [f1], by simp [f2], by simp [f5], by simp⟩
    | true =>
      have htg := htg rfl
      have wj := wrap_succ (j := j) (by omega)
      by_cases h11 : o = 11
      · subst h11
        obtain ⟨g1, g2, g3⟩ := htg a (by simp [tgts, nextP])
        have g4 : a.toNat < c.ins.length := by omega
        simp [branchy, tgts, nextP, setT] at hst
        simp [f1, f2, f5, f6, hol, hlt, hq, hx, g1, g2, g4, leadTo_len, hset, wj]
        exact ⟨by omega, _, rfl, by rw [hst, List.map_set], by simp [f1], by simp [f2], by simp [f5], by simp⟩
      by_cases h12 : o = 12
      · subst h12
        obtain ⟨g1, g2, g3⟩ := htg a (by simp [tgts, nextP])
        obtain ⟨g5, g6, g7⟩ := htg (j + 1) (by simp [tgts, nextP])
        have g4 : a.toNat < c.ins.length := by omega
        have g8 : ((j : Int) + 1).toNat = j + 1 := by omega
        have g9 : j + 1 < c.ins.length := by omega
        simp [branchy, tgts, nextP, setT] at hst
        rw [set_comm_true] at hst
        simp [f1, f2, f5, f6, hol, hlt, hq, hx, g1, g2, g4, g5, g6, g8, g9, leadTo_len, hset, set_bool_get, wj]
        exact ⟨by omega, _, rfl, by rw [hst, List.map_set, List.map_set], by simp [f1], by simp [f2], by simp [f5], by simp⟩
      by_cases h19 : o = 19
      · subst h19
        obtain ⟨g1, g2, g3⟩ := htg b (by simp [tgts, nextP])
        obtain ⟨g5, g6, g7⟩ := htg (j + 1) (by simp [tgts, nextP])
        have g4 : b.toNat < c.ins.length := by omega
        have g8 : ((j : Int) + 1).toNat = j + 1 := by omega
        have g9 : j + 1 < c.ins.length := by omega
        simp [branchy, tgts, nextP, setT] at hst
        rw [set_comm_true] at hst
        simp [f1, f2, f5, f6, hol, hlt, hq, hx, g1, g2, g4, g5, g6, g8, g9, leadTo_len, hset, set_bool_get, wj]
        exact ⟨by omega, _, rfl, by rw [hst, List.map_set, List.map_set], by simp [f1], by simp [f2], by simp [f5], by simp⟩
      simp [branchy, h11, h12, h19] at hst
      simp [f1, f2, f6, hol, hlt, hq, hx, h11, h12, h19, wj]
      exact ⟨by omega, _, rfl, by rw [hst], by simp [f1], by simp [f2], by simp [f5], by simp⟩
  · obtain rfl : j = c.ins.length := by omega
    rw [leadTo_all]
    have htk : List.take c.ins.length ((leadersL c out).map AV.bool) = (leadersL c out).map AV.bool := List.take_of_length_le (by simp [leadersL_len])
    have hfz : ∀ {B : Heap} {k : Nat}, freezeList (Abs.freeze 0 B (k + 1) false) ((leadersL c out).map AV.bool) = some ((leadersL c out).map AV.bool) := fun {B k} => fz_map (fun x => rfl) _
    simp [f1, f5, f6, hol, F105, fz_own, leadersL_len, htk, hfz]
    exact hk

theorem s95 (c : Prog) (u : Nat) (hu : u < c.ins.length) (hi : insOk c c.ins[u] = true) (hil : c.ins.length ≤ 1500) : Comes 95 [c.av, iA u] (.frz ((followN u c.ins[u]).map iA) true) := fun Λ A k => call_iff fun k hk => by
  rw [k_apart rfl c95 rfl (by simp [F95]) (by simp)]
  have wj := wrap_succ (j := u) (by omega)
  obtain ⟨o, a, b, hx⟩ : ∃ o a b, c.ins[u] = (⟨o, a, b⟩ : Ins) := ⟨_, _, _, rfl⟩
  rw [hx] at hi hk
  by_cases hen : o = 8 ∨ o = 20 ∨ o = 34
  · simp [followN, tgts, nextP, hen, srt, cpt] at hk
    simp [F95, hu, hx, hen, wj]
    exact hk
  by_cases h11 : o = 11
  · subst h11
    simp [followN, tgts, nextP, srt, cpt] at hk
    simp [F95, hu, hx, wj, fz_own]
    exact hk
  by_cases h12 : o = 12
  · subst h12
    have hr : 0 ≤ a ∧ a ≤ (c.ins.length : Int) - 1 := by by_cases hb : b = 0 <;> simp [insOk, rng, hb] at hi; exact hi
    have h4 : ¬ a < 0 := by omega
    rcases Int.lt_trichotomy a (u + 1) with h | h | h
    · have h3 : ¬ a = (u : Int) + 1 := by omega
      have h5 : ¬ (u : Int) + 1 < a := by omega
      have h6 : a ≤ (u : Int) + 1 := by omega
      simp [followN, tgts, nextP, srt, cpt, h, h3] at hk
      simp [F95, hu, hx, wj, h, h3, h4, h5, fz_own]
      exact hk
    · subst h
      simp [followN, tgts, nextP, srt, cpt] at hk
      simp [F95, hu, hx, wj, fz_own]
      exact hk
    · have h2 : ¬ (u : Int) + 1 = a := by omega
      have h3 : ¬ a = (u : Int) + 1 := by omega
      have h5 : ¬ a < (u : Int) + 1 := by omega
      simp [followN, tgts, nextP, srt, cpt, h5, h2] at hk
      simp [F95, hu, hx, wj, h, h3, h4, h5, fz_own]
      exact hk
  by_cases h19 : o = 19
  · subst h19
    have hr : 0 ≤ b ∧ b ≤ (c.ins.length : Int) - 1 := by simp [insOk, rng] at hi; exact hi.2
    have h4 : ¬ b < 0 := by omega
    rcases Int.lt_trichotomy b (u + 1) with h | h | h
    · have h3 : ¬ b = (u : Int) + 1 := by omega
      have h5 : ¬ (u : Int) + 1 < b := by omega
      simp [followN, tgts, nextP, srt, cpt, h, h3] at hk
      simp [F95, hu, hx, wj, h, h3, h4, h5, fz_own]
      exact hk
    · subst h
      simp [followN, tgts, nextP, srt, cpt] at hk
      simp [F95, hu, hx, wj, fz_own]
      exact hk
    · have h2 : ¬ (u : Int) + 1 = b := by omega
      have h3 : ¬ b = (u : Int) + 1 := by omega
      have h5 : ¬ b < (u : Int) + 1 := by omega
      simp [followN, tgts, nextP, srt, cpt, h5, h2] at hk
      simp [F95, hu, hx, wj, h, h3, h4, h5, fz_own]
      exact hk
  have hm1 : ¬ (-1 : Int) = (u : Int) + 1 := by omega
  simp [followN, tgts, nextP, srt, cpt, hen, h11, h12, h19] at hk
  simp [F95, hu, hx, wj, hen, h11, h12, h19, hm1, fz_own]
  exact hk

end Go.Proofs.YtgbfbhahnoafoaaGreatDoor
