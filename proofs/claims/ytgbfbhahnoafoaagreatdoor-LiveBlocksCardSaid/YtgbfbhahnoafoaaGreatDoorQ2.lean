/- A part of the proof: lemmas, no statement of the seat is proved in this file. -/
import Derived.Test.YtgbfbhahnoafoaaGreatDoorQ1
import Derived.Great.BuildSlice
import Derived.Laws.Tables
import Derived.OrdersIn
import Derived.RangeFuncCalls
import Derived.RangeFuncIn
import Derived.RangeFuncLeaves
import Derived.RangeFuncNested
import Derived.Scope
set_option autoImplicit false
set_option maxRecDepth 100000

/- Every operation but calls. -/
namespace Go.Abs

variable {H H' : Nat → Blk} {D D' : Nat → Prop} {σ σ' : Sig} {F F' : Nat → Prop} {w w' : World} {v x y z : AV} {u ux uy : Value} {P : Program} {A : Heap} {gl : List Nat} {E : Env}

theorem VR.widen (h : VR w σ F D v u) (hn : ∀ id, D id → D' id) : VR w σ F D' v u :=
  h.carry (fun _ h => h) (fun _ _ => rfl) (fun _ vs _ _ h => ⟨vs, h, rfl⟩) (fun _ _ => rfl) hn

theorem Made.quiet {nid : Nat} (hr : Rel H D w σ F) (hn : ∀ id, D id → D' id) (hv : VR w σ F D v u) : Made H D σ F w nid D' ⟨v, [], none⟩ u w :=
  ⟨σ, F, hv.widen hn, (Step.refl hr).more hn⟩

/-- What an operation comes to, in the model. -/
def Does (P : Program) (a : Act) (o : Oper) (H : Nat → Blk) (D : Nat → Prop) (σ : Sig) (F : Nat → Prop) (w : World) (nid : Nat) (D' : Nat → Prop) (out : Out) : Prop :=
  ∃ nx r w', (execOp a.eval o).run P w = .ok nx w' ∧ (nx = .value r ∨ (nx = .skip ∧ r = Go.undef)) ∧ Made H D σ F w nid D' out r w'

/-- An operation that hands back a value. -/
theorem Does.val {a : Act} {o : Oper} {s : Sem Value} {nid : Nat} {out : Out} (h : ∃ r w', s.run P w = .ok r w' ∧ Made H D σ F w nid D' out r w') (he : execOp a.eval o = (do pure (.value (← s)))) : Does P a o H D σ F w nid D' out := by
  obtain ⟨r, w', h1, h2⟩ := h
  exact ⟨.value r, r, w', by rw [he]; simp [h1], .inl rfl, h2⟩

theorem Does.val' {a : Act} {o : Oper} {s : Sem Value} {nid : Nat} {zo : Option AV} {out : Out} (hr : Rel H D w σ F) (hn : ∀ id, D id → D' id) (hout : Go.Abs.val zo = some out) (h : ∀ z, zo = some z → ∃ r, s.run P w = .ok r w ∧ VR w σ F D z r)
    (he : execOp a.eval o = (do pure (.value (← s)))) : Does P a o H D σ F w nid D' out := by
  unfold Go.Abs.val at hout
  split at hout <;> simp [just] at hout
  rename_i z
  subst hout
  obtain ⟨r, h1, h2⟩ := h z rfl
  exact Does.val ⟨r, w, h1, Made.quiet hr hn h2⟩ he

theorem Does.unit {a : Act} {o : Oper} {s : Sem Unit} {nid : Nat} {out : Out} (h : ∃ w', s.run P w = .ok () w' ∧ Made H D σ F w nid D' out Go.undef w') (he : execOp a.eval o = (do s; pure .skip)) : Does P a o H D σ F w nid D' out := by
  obtain ⟨w', h1, h2⟩ := h
  exact ⟨.skip, Go.undef, w', by rw [he]; simp [h1], .inr ⟨rfl, rfl⟩, h2⟩

theorem Does.pure {a : Act} {o : Oper} {r : Value} {nid : Nat} {out : Out} (h : Made H D σ F w nid D' out r w) (he : execOp a.eval o = Pure.pure (.value r)) : Does P a o H D σ F w nid D' out :=
  ⟨.value r, r, w, by rw [he]; rfl, .inl rfl, h⟩

theorem opt_sound {R : Regs} {a : Act} (hR : RR w σ F D R a.tmps) (hg : GlobOk E gl w F) {xo : Option Operand} {xa : Option Arg} (h : xo.mapM (argC gl) = some xa) : OptVR w σ F D (xa.map (arg E R)) (xo.map a.eval) := by
  cases xo with
  | none => simp at h; subst h; trivial
  | some x =>
    simp [Option.mapM] at h
    obtain ⟨y, hy, rfl⟩ := h
    exact arg_sound hR hg hy

theorem args_sound {R : Regs} {a : Act} (hR : RR w σ F D R a.tmps) (hg : GlobOk E gl w F) {l : List Operand} {r : List Arg} (h : l.mapM (argC gl) = some r) :
    (l.map a.eval).length = (args E R r).length ∧ ∀ (i : Nat) x u, (args E R r)[i]? = some x → (l.map a.eval)[i]? = some u → VR w σ F D x u := by
  obtain ⟨h1, h2⟩ := mapM_some h
  refine ⟨by simp [args, h1], fun i x u hx hu => ?_⟩
  simp only [args, List.getElem?_map, Option.map_eq_some_iff] at hx hu
  obtain ⟨y, hy, rfl⟩ := hx
  obtain ⟨q, hq, rfl⟩ := hu
  exact arg_sound hR hg (h2 i q y hq hy)

/-- A new block of the model that nobody names. -/
theorem Step.garbage (hr : Rel H D w σ F) (hn : ∀ id, D id → D' id) (o : Obj) : Step H D σ F w H D' σ F { w with heap := w.heap.push o } := by
  have hlow : ∀ (b : Nat), b < w.heap.size → (w.heap.push o)[b]? = w.heap[b]? := fun b hb => by
    rw [Array.getElem?_push]; simp [show b ≠ w.heap.size by omega]
  exact mkStep hr (fun _ => False) hn (fun _ _ => rfl) (by simp) (fun b hb _ => hlow b hb) (fun b vs T fr h => ⟨vs, by show (w.heap.push o)[b]? = _; rw [hlow b (getElem?_size h)]; exact h, rfl⟩)
    (fun b r h => ⟨r.state, r.pending, by show (w.heap.push o)[b]? = _; rw [hlow b (getElem?_size h)]; exact h⟩) rfl rfl rfl (fun _ _ => rfl) (fun _ h => h.elim) (fun _ _ h => h.elim)

theorem run_eqlv {t : TypeId} (hx : ∀ p q, ux ≠ .int p q) (hs : ∀ p, ux ≠ .string p) (hf : ∀ p q, ux ≠ .float p q) (hc : ∀ p q r, ux ≠ .complex p q r) :
    binOp .eql t ux uy = (do pure (.bool (← Op.equal t ux uy))) ∧ binOp .neq t ux uy = (do pure (.bool (!(← Op.equal t ux uy)))) := by
  cases ux <;> first
    | exact absurd rfl (hx _ _)
    | exact absurd rfl (hs _)
    | exact absurd rfl (hf _ _)
    | exact absurd rfl (hc _ _ _)
    | (constructor <;> rfl)
    | (cases uy <;> constructor <;> rfl)

theorem eqv_bin {t : TypeId} {ek : EqK} {b : Bool} (ht : eqT P t = some ek) (hx : VR w σ F D x ux) (hy : VR w σ F D y uy) (h : eqBy ek x y = some b) :
    (binOp .eql t ux uy).run P w = .ok (.bool b) w ∧ (binOp .neq t ux uy).run P w = .ok (.bool (!b)) w := by
  have he := eqBy_sound ht hx hy h
  have gen : (∀ p q, ux ≠ .int p q) → (∀ p, ux ≠ .string p) → (∀ p q, ux ≠ .float p q) → (∀ p q r, ux ≠ .complex p q r) →
      (binOp .eql t ux uy).run P w = .ok (.bool b) w ∧ (binOp .neq t ux uy).run P w = .ok (.bool (!b)) w := by
    intro h1 h2 h3 h4
    obtain ⟨e1, e2⟩ := run_eqlv (t := t) (uy := uy) h1 h2 h3 h4
    rw [e1, e2]
    simp [he]
  unfold eqBy at h
  split at h <;> (try (simp at h; done))
  · unfold basicEq at h
    split at h <;> (try (simp at h; done)) <;> cases hx <;> cases hy
    · simp at h; obtain ⟨rfl, rfl⟩ := h
      simp [binOp, Op.intCmp, bne]
    · exact gen (by simp) (by simp) (by simp) (by simp)
    · simp at h; subst h
      simp [binOp, Op.stringOp]
  · cases hx
    exact gen (by simp) (by simp) (by simp) (by simp)

theorem eqv_guard {t : TypeId} {ek : EqK} {b : Bool} {op : BinOp} {xo yo : Operand} (ht : eqT P t = some ek) (hx : VR w σ F D x ux) (hy : VR w σ F D y uy) (h : eqBy ek x y = some b) :
    (eqGuard op t xo yo ux uy).run P w = .ok () w := by
  unfold eqBy at h
  split at h <;> (try (simp at h; done))
  · unfold basicEq at h
    split at h <;> (try (simp at h; done)) <;> cases hx <;> cases hy <;> cases op <;> simp [eqGuard]
  · have hgt : P.eqGuardType P.depth t = false := by
      unfold eqT at ht
      split at ht
      · split at ht <;> (try (simp at ht; done)); rename_i q; simpa using q
      · split at ht <;> (try (simp at ht; done)); rename_i q; simpa using q
      · simp at ht
      · simp at ht
    cases hx
    cases hy
    cases op <;> simp [eqGuard, hgt]

theorem nil_bin {k : NK} {t : TypeId} {d : TypeDesc} {yo : Operand} {b : Bool} {a : Act} (hd : P.underlying t = some d) (hk : nilOf d yo = some k) (hx : VR w σ F D x ux) (h : isNilA k x = some b) :
    (binOp .eql t ux (a.eval yo)).run P w = .ok (.bool b) w ∧ (binOp .neq t ux (a.eval yo)).run P w = .ok (.bool (!b)) w := by
  have he : (Op.equal t ux (a.eval yo)).run P w = .ok b w := nil_sound hd hk hx h 9999
  have gen : (∀ p q, ux ≠ .int p q) → (∀ p, ux ≠ .string p) → (∀ p q, ux ≠ .float p q) → (∀ p q r, ux ≠ .complex p q r) →
      (binOp .eql t ux (a.eval yo)).run P w = .ok (.bool b) w ∧ (binOp .neq t ux (a.eval yo)).run P w = .ok (.bool (!b)) w := by
    intro h1 h2 h3 h4
    obtain ⟨e1, e2⟩ := run_eqlv (t := t) (uy := a.eval yo) h1 h2 h3 h4
    rw [e1, e2]
    simp [he]
  cases hx
  case int => cases k <;> simp [isNilA] at h
  case str => cases k <;> simp [isNilA] at h
  all_goals exact gen (by simp) (by simp) (by simp) (by simp)

section
variable {a : Act} {o : Oper} {io : IOp} {R : Regs} {nid : Nat} {out : Out}

theorem evOp_binOp {op : BinOp} {t yt : TypeId} {x1 x2 : Operand} (hr : Rel H D w σ F) (hn : ∀ id, D id → D' id) (hR : RR w σ F D R a.tmps) (hg : GlobOk E gl w F) (ho : o.op = .binOp op t x1 x2 yt)
    (hc : compOp P gl o = some io) (he : evOp E R A nid io = some out) : Does P a o H D σ F w nid D' out := by
  have A0 : ∀ {x : Operand} {y : Arg}, argC gl x = some y → VR w σ F D (arg E R y) (a.eval x) := fun h => arg_sound hR hg h
  have hex : execOp a.eval o = (do pure (.value (← (do eqGuard op t x1 x2 (a.eval x1) (a.eval x2); binOp op t (a.eval x1) (a.eval x2))))) := by simp [execOp, ho]
  have neither : (op ≠ .eql ∧ op ≠ .neq) → ((argC gl x1).bind fun y1 => (argC gl x2).bind fun y2 => some (IOp.bin op y1 y2)) = some io → Does P a o H D σ F w nid D' out := by
    intro hop hcc
    simp only [Option.bind_eq_some_iff, Option.some.injEq] at hcc
    obtain ⟨y1, h1, y2, h2, rfl⟩ := hcc
    simp only [evOp] at he
    refine Does.val' hr hn he (fun z hz => ?_) hex
    obtain ⟨r, g1, g2⟩ := bin_sound (P := P) (t := t) (A0 h1) (A0 h2) hz
    refine ⟨r, ?_, g2⟩
    have hg0 : (eqGuard op t x1 x2 (a.eval x1) (a.eval x2)).run P w = .ok () w := by
      cases op <;> simp [eqGuard] at hop ⊢
    simp [hg0, g1]
  have nils : ∀ (neg : Bool) (d : TypeDesc) (k : NK) (y : Arg), (op = .eql ∧ neg = false ∨ op = .neq ∧ neg = true) → P.underlying t = some d → nilOf d x2 = some k → argC gl x1 = some y → io = .isNil k neg y → Does P a o H D σ F w nid D' out := by
    intro neg d k y hop hd hk hy hio
    subst hio
    simp only [evOp] at he
    refine Does.val' hr hn he (fun z hz => ?_) hex
    simp only [Option.map_eq_some_iff] at hz
    obtain ⟨b, hb, rfl⟩ := hz
    obtain ⟨g1, g2⟩ := nil_bin (P := P) (a := a) hd hk (A0 hy) hb
    have hgd := nil_guard (P := P) (t := t) (xo := x1) (op := op) (a := a) hk (A0 hy) hb
    rcases hop with ⟨rfl, rfl⟩ | ⟨rfl, rfl⟩
    · exact ⟨.bool b, by simp [hgd, g1], by simpa using VR.bool b⟩
    · exact ⟨.bool (!b), by simp [hgd, g2], by simpa using VR.bool (!b)⟩
  have eqs : ∀ (neg : Bool) (k : EqK) (y1 y2 : Arg), (op = .eql ∧ neg = false ∨ op = .neq ∧ neg = true) → eqT P t = some k → argC gl x1 = some y1 → argC gl x2 = some y2 → io = .eqv neg k y1 y2 → Does P a o H D σ F w nid D' out := by
    intro neg k y1 y2 hop hk h1 h2 hio
    subst hio
    simp only [evOp] at he
    refine Does.val' hr hn he (fun z hz => ?_) hex
    simp only [Option.map_eq_some_iff] at hz
    obtain ⟨b, hb, rfl⟩ := hz
    obtain ⟨g1, g2⟩ := eqv_bin (P := P) hk (A0 h1) (A0 h2) hb
    have hgd := eqv_guard (P := P) (xo := x1) (yo := x2) (op := op) hk (A0 h1) (A0 h2) hb
    rcases hop with ⟨rfl, rfl⟩ | ⟨rfl, rfl⟩
    · exact ⟨.bool b, by simp [hgd, g1], by simpa using VR.bool b⟩
    · exact ⟨.bool (!b), by simp [hgd, g2], by simpa using VR.bool (!b)⟩
  unfold compOp at hc
  rw [ho] at hc
  have both : ∀ neg : Bool, (op = .eql ∧ neg = false ∨ op = .neq ∧ neg = true) → ((P.underlying t).bind fun d => match d with
      | .pointer e => (nilOf (.pointer e) x2).bind fun k => (argC gl x1).bind fun y => some (IOp.isNil k neg y)
      | .slice e => (nilOf (.slice e) x2).bind fun k => (argC gl x1).bind fun y => some (IOp.isNil k neg y)
      | .map q e => (nilOf (.map q e) x2).bind fun k => (argC gl x1).bind fun y => some (IOp.isNil k neg y)
      | .func q e c => (nilOf (.func q e c) x2).bind fun k => (argC gl x1).bind fun y => some (IOp.isNil k neg y)
      | .interface ms => (nilOf (.interface ms) x2).bind fun k => (argC gl x1).bind fun y => some (IOp.isNil k neg y)
      | _ => (eqT P t).bind fun k => (argC gl x1).bind fun y1 => (argC gl x2).bind fun y2 => some (IOp.eqv neg k y1 y2)) = some io → Does P a o H D σ F w nid D' out := by
    intro neg hop hcc
    simp only [Option.bind_eq_some_iff] at hcc
    obtain ⟨d, hd, hcc⟩ := hcc
    split at hcc <;> simp only [Option.bind_eq_some_iff, Option.some.injEq] at hcc
    · obtain ⟨k, hk, y, hy, rfl⟩ := hcc; exact nils neg _ k y hop hd hk hy rfl
    · obtain ⟨k, hk, y, hy, rfl⟩ := hcc; exact nils neg _ k y hop hd hk hy rfl
    · obtain ⟨k, hk, y, hy, rfl⟩ := hcc; exact nils neg _ k y hop hd hk hy rfl
    · obtain ⟨k, hk, y, hy, rfl⟩ := hcc; exact nils neg _ k y hop hd hk hy rfl
    · obtain ⟨k, hk, y, hy, rfl⟩ := hcc; exact nils neg _ k y hop hd hk hy rfl
    · obtain ⟨k, hk, y1, h1, y2, h2, rfl⟩ := hcc; exact eqs neg k y1 y2 hop hk h1 h2 rfl
  cases op
  case eql => exact both false (.inl ⟨rfl, rfl⟩) (by rw [← hc]; rfl)
  case neq => exact both true (.inr ⟨rfl, rfl⟩) (by rw [← hc]; rfl)
  all_goals exact neither (by simp) hc

theorem run_append {t e t1 : TypeId} {d1 : TypeDesc} {esz n len cap : Nat} {ad : Option Addr} {at1 : Array TypeId} {ty : TypeId} {ux : Value} {i : TypeInfo} (h0 : at1[0]? = some t) (ht : P.underlying t = some (.slice e)) (hs : szT P e = some esz)
    (h1 : at1[1]? = some t1) (ht1 : P.underlying t1 = some d1) (hd1 : ∀ k, d1 ≠ .int k) (hl : (Builtin.lenOf ux).run P w = .ok n w)
    (hi : (typeInfo e).run P w = .ok i w) (hm : ¬ len + n ≤ cap → len + n ≤ 9223372036854775807) (hb : ¬ len + n ≤ cap → Builtin.nextslicecap (len + n) cap * i.bytes ≤ 281474976710656) :
    (Builtin.append_ at1 ty #[.slice ad len cap, ux]).run P w = (appTail e esz n len cap ad false (.slice ad len cap) ux (Builtin.firstCells esz n ux)).run P w := by
  by_cases hcap : len + n ≤ cap
  · unfold Builtin.append_ appTail
    simp [h0, h1, run_underlying ht, szT_run hs w, run_underlying ht1, hl, hcap]
    cases ad <;> rfl
  · have hmm : ¬ (9223372036854775807 < (len : Int) + (n : Int)) := by have := hm hcap; omega
    have hbb : ¬ (281474976710656 < Builtin.nextslicecap (len + n) cap * i.bytes) := by have := hb hcap; omega
    unfold Builtin.append_ appTail
    simp [h0, h1, run_underlying ht, szT_run hs w, run_underlying ht1, hl, hcap, hi, hmm, hbb]

theorem run_appendZ {t e t1 : TypeId} {k1 k2 : IntKind} {esz len cap : Nat} {l : Int} {ad : Option Addr} {at1 : Array TypeId} {ty : TypeId} {i : TypeInfo} (h0 : at1[0]? = some t) (ht : P.underlying t = some (.slice e)) (hs : szT P e = some esz)
    (h1 : at1[1]? = some t1) (ht1 : P.underlying t1 = some (.int k1)) (hl0 : 0 ≤ l) (hl1 : l ≤ 9223372036854775807) (hlb : l * i.bytes ≤ 281474976710656)
    (hi : (typeInfo e).run P w = .ok i w) (hm : ¬ len + l.toNat ≤ cap → len + l.toNat ≤ 9223372036854775807) (hb : ¬ len + l.toNat ≤ cap → Builtin.nextslicecap (len + l.toNat) cap * i.bytes ≤ 281474976710656) :
    (Builtin.append_ at1 ty #[.slice ad len cap, .int k2 l]).run P w =
      (appTail e esz l.toNat len cap ad true (.slice ad len cap) (.int k2 l) (if l.toNat * esz = 0 then pure #[] else (do pure (Builtin.zeroCells (← zeroValue e).cells l.toNat)))).run P w := by
  have hw : IntKind.i64.wrap l = l := by simp [IntKind.wrap, IntKind.bits, IntKind.signed]; omega
  have hlb2 : ¬ (281474976710656 < l * i.bytes) := by omega
  have hl2 : ¬ l < 0 := by omega
  by_cases hcap : len + l.toNat ≤ cap
  · unfold Builtin.append_ appTail
    simp [h0, h1, run_underlying ht, szT_run hs w, run_underlying ht1, hcap, asInt, asIntOf, hw, hi, hlb2, hl2]
    cases ad <;> rfl
  · have hmm : ¬ (9223372036854775807 < (len : Int) + (l.toNat : Int)) := by have := hm hcap; omega
    have hbb : ¬ (281474976710656 < Builtin.nextslicecap (len + l.toNat) cap * i.bytes) := by have := hb hcap; omega
    unfold Builtin.append_ appTail
    simp [h0, h1, run_underlying ht, szT_run hs w, run_underlying ht1, hcap, hi, hbb, asInt, asIntOf, hw, hlb2, hl2]

theorem capBytes {old new bytes len n cap : Nat} (h : (old + new) * bytes ≤ maxBytes) (hn : len + n = old + new) (hc : ¬ len + n ≤ cap) : Builtin.nextslicecap (len + n) cap * bytes ≤ 281474976710656 := by
  have h1 := nextslicecap_le (need := len + n) (cap := cap) (by omega)
  have h2 : Builtin.nextslicecap (len + n) cap * bytes ≤ 2 * (len + n) * bytes := Nat.mul_le_mul_right _ h1
  rw [hn, Nat.mul_assoc] at h2
  have h3 : 2 * ((old + new) * bytes) ≤ 2 * maxBytes := Nat.mul_le_mul_left _ h
  unfold maxBytes at h3
  rw [hn]; omega

/-- 'append' of known elements: what evOp says, out of the tail's law. -/
theorem Rel.heap {w1 : World} (hr : Rel H D w σ F) (h : w1.heap = w.heap) : Rel H D w1 σ F :=
  ⟨hr.dom, fun id => (hr.br id).carry (by rw [h]) (hr.dom id) (fun _ h => h) (fun _ _ => by rw [h]) (fun _ vs _ _ hb => ⟨vs, by rw [h]; exact hb, rfl⟩) (fun _ _ => rfl) (fun _ h => h), hr.inj, fun b hb => by rw [h]; exact hr.size b hb, fun b hb => by rw [h]; exact hr.fsize b hb, hr.apart⟩

theorem VR.heap {w1 : World} (hv : VR w σ F D v u) (h : w1.heap = w.heap) : VR w1 σ F D v u :=
  hv.carry (fun _ h => h) (fun _ _ => by rw [h]) (fun _ vs _ _ hb => ⟨vs, by rw [h]; exact hb, rfl⟩) (fun _ _ => rfl) (fun _ h => h)

theorem VR.slice_le {a : Option Addr} {len cap : Nat} (hv : VR w σ F D v (.slice a len cap)) : len ≤ cap := by
  cases hv <;> first | assumption | omega

theorem appendL_sound {e : TypeId} {esz bytes : Nat} {zv : AV} {new : List AV} {s : Sem Value} (hr : Rel H D w σ F) (hn : ∀ id, D id → D' id) (hA : ∀ id, hget A id = H id)
    (hs : szT P e = some esz) (hb : byT P e = some bytes) (hz : zeT P e = some zv) (hzs : zv.cells.length = esz) (hzc : zv.cells.all AV.isCell = true) (hx : VR w σ F D x ux) (h : appendL A nid esz bytes x new = some out)
    (hfree : out.new.isSome = true → Free H D D' nid) (hcell : new ≠ [] → (∀ q ∈ new, q.cells.length = esz) → Elems new esz)
    (hrun : ∀ (a : Option Addr) (len cap : Nat), ux = .slice a len cap → (new = [] → s.run P w = .ok (.slice a len cap) w) ∧
      (new ≠ [] → (∀ old, elems A x = some old → len = old.length → (old.length + new.length) * bytes ≤ maxBytes → old.length + new.length ≤ 9223372036854775807 →
        ∃ zeros uy appended, s.run P w = (appTail e esz new.length len cap a zeros (.slice a len cap) uy appended).run P w ∧
          ((∀ q ∈ new, q.cells.length = esz) → ∀ w1 : World, w1.heap = w.heap → ∃ vs : Array Value, appended.run P w1 = .ok vs w1 ∧ vs.size = new.length * esz ∧ Holds w1 σ F D new vs 0 esz ∧ (∀ q ∈ vs.toList, q.oneCell' = true))))) :
    ∃ r w', s.run P w = .ok r w' ∧ Made H D σ F w nid D' out r w' := by
  have hsl : ∃ a len cap, ux = .slice a len cap := by
    unfold appendL at h
    split at h
    · split at h <;> (try (simp at h; done)) <;> cases hx <;> exact ⟨_, _, _, rfl⟩
    · split at h <;> (try (simp at h; done))
      rename_i old hold
      cases hx <;> first | exact ⟨_, _, _, rfl⟩ | (simp [elems] at hold)
  obtain ⟨a0, len, cap, rfl⟩ := hsl
  obtain ⟨hr1, hr2⟩ := hrun a0 len cap rfl
  unfold appendL at h
  split at h
  · rename_i hemp
    have hne : new = [] := by simpa using hemp
    have hout : out = ⟨x, [], none⟩ := by
      split at h <;> simp [just] at h <;> exact h.symm
    subst hout
    exact ⟨_, w, hr1 hne, Made.quiet hr hn hx⟩
  · rename_i hemp
    have hne : new ≠ [] := by simpa using hemp
    split at h <;> (try (simp at h; done))
    rename_i old hold
    split at h <;> (try (simp at h; done))
    rename_i hcond
    obtain ⟨q1, q2, q3, q4⟩ := hcond
    have hall : ∀ q ∈ old ++ new, q.cells.length = esz := fun q hq => by simpa using List.all_eq_true.1 q4 q hq
    obtain ⟨hlen, hElo, _⟩ := first_sound (P := P) (k := len) hr hA hx hold (fun q hq => hall q (List.mem_append_left _ hq)) (Nat.le_refl _)
    obtain ⟨zeros, uy, appended, e1, e2⟩ := hr2 hne old hold hlen q1 q2
    have hfr : Free H D D' nid := by
      unfold appOut at h
      split at h <;> (try (simp at h; done))
      · split at h <;> simp at h; subst h; exact hfree rfl
      · split at h <;> simp at h <;> subst h <;> exact hfree rfl
    rw [e1]
    exact appTail_sound hr hn hA hfr hx hold (e2 (fun q hq => hall q (List.mem_append_right _ hq))) rfl hs hb hz hzs hzc q1 q2 hall (hcell hne (fun q hq => hall q (List.mem_append_right _ hq))) hne q3 h

theorem evOp_call {c : Call} (hr : Rel H D w σ F) (hn : ∀ id, D id → D' id) (hA : ∀ id, hget A id = H id) (hR : RR w σ F D R a.tmps) (hg : GlobOk E gl w F) (ho : o.op = .call c)
    (hc : compOp P gl o = some io) (he : evOp E R A nid io = some out) (hfree : out.new.isSome = true → Free H D D' nid) : Does P a o H D σ F w nid D' out := by
  unfold compOp at hc
  rw [ho] at hc
  simp only at hc
  unfold compCall at hc
  simp only [Option.bind_eq_bind, Option.bind_eq_some_iff] at hc
  obtain ⟨as0, has, hc⟩ := hc
  obtain ⟨m1, m2⟩ := mapM_some has
  cases hcal : c.callee with
  | value f =>
    rw [hcal] at hc
    simp only [Option.bind_eq_some_iff, Option.some.injEq] at hc
    obtain ⟨y, _, rfl⟩ := hc
    simp [evOp] at he
  | invoke r m =>
    rw [hcal] at hc
    simp only [Option.bind_eq_some_iff, Option.some.injEq] at hc
    obtain ⟨y, _, rfl⟩ := hc
    simp [evOp] at he
  | builtin b =>
    rw [hcal] at hc
    simp only [Option.bind_eq_some_iff] at hc
    obtain ⟨t, ht0, d, hd, hc⟩ := hc
    have two : ∀ {x y : Arg}, as0 = [x, y] → ∃ ox oy, c.args.map a.eval = #[a.eval ox, a.eval oy] ∧ VR w σ F D (arg E R x) (a.eval ox) ∧ VR w σ F D (arg E R y) (a.eval oy) := by
      intro x y has2
      subst has2
      obtain ⟨ox, oy, hl⟩ : ∃ ox oy, c.args.toList = [ox, oy] := by
        have h2 : c.args.toList.length = 2 := m1.symm
        rcases hq : c.args.toList with _ | ⟨p, _ | ⟨q, _ | ⟨r, l⟩⟩⟩ <;> rw [hq] at h2 <;> simp at h2
        exact ⟨p, q, rfl⟩
      rw [hl] at m2
      refine ⟨ox, oy, ?_, arg_sound hR hg (m2 0 ox x rfl rfl), arg_sound hR hg (m2 1 oy y rfl rfl)⟩
      apply Array.ext'
      simp [hl]
    have one : ∀ {x : Arg}, as0 = [x] → ∃ ox, c.args.map a.eval = #[a.eval ox] ∧ VR w σ F D (arg E R x) (a.eval ox) := by
      intro x has2
      subst has2
      obtain ⟨ox, hl⟩ := List.length_eq_one_iff.1 (show c.args.toList.length = 1 from m1.symm)
      rw [hl] at m2
      refine ⟨ox, ?_, arg_sound hR hg (m2 0 ox x rfl rfl)⟩
      apply Array.ext'
      simp [hl]
    have hex : ∀ b', c.callee = .builtin b' → execOp a.eval o = builtin b' c.argTypes o.type (c.args.map fun | .const _ => true | _ => false) (c.args.map a.eval) := by
      intro b' hb'
      simp only [execOp, ho, resolve, hb']
      rfl
    split at hc
    · -- append
      rename_i x y
      obtain ⟨ox, oy, hargs, hvx, hvy⟩ := two rfl
      have hex2 : execOp a.eval o = (do pure (.value (← Builtin.append_ c.argTypes o.type #[a.eval ox, a.eval oy]))) := by
        rw [hex _ hcal, hargs]; rfl
      split at hc <;> (try (simp at hc; done))
      rename_i e
      simp only [Option.bind_eq_some_iff] at hc
      obtain ⟨t1, ht1, hc⟩ := hc
      have slice_case : ∀ {d1 : TypeDesc}, P.underlying t1 = some d1 → (∀ k, d1 ≠ .int k) → (if (zeT P e).map (·.cells.length) = szT P e ∧ (zeT P e).all (fun z => z.cells.all AV.isCell) = true then (szT P e).bind fun s => (byT P e).bind fun b => some (IOp.append s b x y) else none) = some io → Does P a o H D σ F w nid D' out := by
        intro d1 hd1 hni hcc
        split at hcc <;> (try (simp at hcc; done))
        rename_i hzz
        simp only [Option.bind_eq_some_iff, Option.some.injEq] at hcc
        obtain ⟨esz, hs, by1, hb, rfl⟩ := hcc
        obtain ⟨zv, hz⟩ : ∃ zv, zeT P e = some zv := by
          cases hq : zeT P e with
          | none => rw [hq, hs] at hzz; simp at hzz
          | some zv => exact ⟨zv, rfl⟩
        rw [hz, hs] at hzz
        obtain ⟨z1, z2⟩ := hzz
        simp only [Option.map_some, Option.some.injEq] at z1
        simp only [Option.all_some] at z2
        simp only [evOp] at he
        obtain ⟨i, hi, hib⟩ := byT_run hb w
        refine Does.val (s := Builtin.append_ c.argTypes o.type #[a.eval ox, a.eval oy]) ?_ hex2
        unfold appendA at he
        split at he
        · simp at he
        · split at he <;> (try (simp at he; done))
          rename_i y0 _ new hnew
          have hysl : ∃ ad ln cp, a.eval oy = .slice ad ln cp := by
            generalize arg E R y = yy at hvy hnew
            generalize a.eval oy = uu at hvy
            cases hvy <;> first | exact ⟨_, _, _, rfl⟩ | (simp [elems] at hnew)
          obtain ⟨ad, ln, cp, hyy⟩ := hysl
          rw [hyy] at hvy
          have hlen : ln = new.length ∧ (new ≠ [] → (∀ q ∈ new, q.cells.length = esz) → Elems new esz) := by
            refine ⟨?_, fun _ hq => (first_sound (P := P) (k := 0) hr hA hvy hnew hq (Nat.zero_le _)).2.1⟩
            generalize arg E R y = yy at hvy hnew
            cases hvy with
            | frz0 => simp [elems] at hnew; subst hnew; rfl
            | frz1 => simp [elems] at hnew; subst hnew; rfl
            | own id off _ _ _ _ _ _ _ _ _ =>
              simp only [elems] at hnew
              split at hnew <;> (try (simp at hnew; done))
              split at hnew <;> simp at hnew
              subst hnew; simp; omega
          obtain ⟨hl1, hl2⟩ := hlen
          have hlo : (Builtin.lenOf (a.eval oy)).run P w = .ok ln w := by rw [hyy]; rfl
          refine appendL_sound hr hn hA hs hb hz z1 z2 hvx he hfree hl2 (fun aa len cap hux => ⟨fun hne => ?_, fun hne old hold hlold hb1 hb2 => ?_⟩)
          · rw [hux]
            have hln0 : ln = 0 := by rw [hl1, hne]; rfl
            have hle : len + ln ≤ cap := by rw [hux] at hvx; have := hvx.slice_le; omega
            rw [run_append ht0 hd hs ht1 hd1 hni hlo hi (fun h => absurd hle h) (fun h => absurd hle h), hyy, hln0]
            unfold appTail
            have hle2 : len ≤ cap := by omega
            simp only [Nat.add_zero, if_pos hle2]
            cases ad <;> cases aa <;> simp [Builtin.firstCells, loadCells, loadCellsFrom, storeCells]
          · refine ⟨false, a.eval oy, Builtin.firstCells esz ln (a.eval oy), ?_, fun hq w1 hw1 => ?_⟩
            · rw [hux, ← hl1]
              exact run_append ht0 hd hs ht1 hd1 hni hlo hi (fun _ => by omega) (fun hcap => by rw [hib]; exact capBytes hb1 (by omega) hcap)
            · obtain ⟨_, _, vs, g1, g2, g3, g4⟩ := first_sound (P := P) (k := ln) (hr.heap hw1) hA (hvy.heap hw1) hnew hq (Nat.le_refl _)
              rw [hl1, List.take_length] at g3
              exact ⟨vs, by rw [hyy]; exact g1, by rw [g2, hl1], g3, g4⟩
      split at hc
      · rename_i hd1; exact slice_case hd1 (by simp) hc
      · rename_i hd1; exact slice_case hd1 (by simp) hc
      · -- append(x, make(..)...)
        rename_i k1 hd1
        split at hc <;> (try (simp at hc; done))
        rename_i hzz
        simp only [Option.bind_eq_some_iff, Option.some.injEq] at hc
        obtain ⟨esz, hs, by1, hb, zv, hz, rfl⟩ := hc
        rw [hz, hs] at hzz
        obtain ⟨z1, z2⟩ := hzz
        simp only [Option.map_some, Option.some.injEq] at z1
        simp only [Option.all_some] at z2
        simp only [evOp] at he
        obtain ⟨i, hi, hib⟩ := byT_run hb w
        obtain ⟨zc, hzr, hzc2⟩ := zeT_run hz w
        have hvr : VR w σ F D zv zc := constA_sound 8 zc zv hzc2
        refine Does.val (s := Builtin.append_ c.argTypes o.type #[a.eval ox, a.eval oy]) ?_ hex2
        unfold appendZA at he
        split at he <;> (try (simp at he; done))
        rename_i kk l hyl
        split at he <;> (try (simp at he; done))
        rename_i hcond
        obtain ⟨k1', k2', k3', k4', k5'⟩ := hcond
        have hyy : a.eval oy = .int kk l := by
          rw [hyl] at hvy
          generalize a.eval oy = uu at hvy
          cases hvy; rfl
        have hlb : l * (i.bytes : Int) ≤ 281474976710656 := by rw [hib]; unfold maxBytes at k2'; omega
        refine appendL_sound hr hn hA hs hb hz z1 z2 hvx he hfree (fun _ _ => by rw [← z1]; exact Elems.replicate z2 _) (fun aa len cap hux => ⟨fun hne => ?_, fun hne old hold hlold hb1 hb2 => ?_⟩)
        · rw [hux, hyy]
          have hl0 : l.toNat = 0 := by simpa using hne
          have hle : len + l.toNat ≤ cap := by rw [hux] at hvx; have := hvx.slice_le; omega
          rw [run_appendZ ht0 hd hs ht1 hd1 k1' k3' hlb hi (fun h => absurd hle h) (fun h => absurd hle h), hl0]
          unfold appTail
          have hle2 : len ≤ cap := by omega
          simp only [Nat.add_zero, if_pos hle2, Nat.zero_mul, if_true]
          cases aa <;> simp [storeCells]
        · rw [List.length_replicate] at hb1 hb2 ⊢
          refine ⟨true, .int kk l, (if l.toNat * esz = 0 then pure #[] else (do pure (Builtin.zeroCells (← zeroValue e).cells l.toNat))), ?_, fun hq w1 hw1 => ?_⟩
          · rw [hux, hyy]
            exact run_appendZ ht0 hd hs ht1 hd1 k1' k3' hlb hi (fun _ => by omega) (fun hcap => by rw [hib]; exact capBytes hb1 (by omega) hcap)
          · obtain ⟨zc1, hzr1, hzc21⟩ := zeT_run hz w1
            have hcs : zc1.cells.size = esz := by rw [const_cells_size hzc21 z2, z1]
            by_cases h0 : l.toNat * esz = 0
            · rw [if_pos h0]
              refine ⟨#[], rfl, by simp [h0], fun p e' q x hp hq' => ?_, fun q hq' => by simp at hq'⟩
              have hp' : p < l.toNat := by have := (List.getElem?_eq_some_iff.1 hp).1; simpa using this
              have he' : e' = zv := by rw [List.getElem?_replicate, if_pos hp'] at hp; simpa using hp.symm
              subst he'
              have hq2 : q < esz := by rw [← z1]; exact (List.getElem?_eq_some_iff.1 hq').1
              rcases Nat.mul_eq_zero.1 h0 with h | h <;> omega
            · rw [if_neg h0]
              have hh := Holds.replicate (w := w1) (σ := σ) (F := F) (D := D) (constA_sound 8 zc1 zv hzc21) z2 l.toNat (l.toNat * zc1.cells.size) (by rw [hcs, z1]; exact Nat.le_refl _)
              rw [z1] at hh
              refine ⟨Builtin.zeroCells zc1.cells l.toNat, by simp [hzr1], by simp [Builtin.zeroCells, hcs], hh, fun q hq' => ?_⟩
              simp only [Builtin.zeroCells, Array.toList_map, List.mem_map] at hq'
              obtain ⟨m, hm, rfl⟩ := hq'
              have hp : 0 < zc1.cells.size := by
                rw [hcs]
                exact Nat.pos_of_ne_zero (fun h => h0 (by rw [h]; simp))
              rw [getElem!_pos zc1.cells _ (Nat.mod_lt _ hp)]
              exact (cells_sound (w := w1) (σ := σ) (F := F) (D := D) (constA_sound 8 zc1 zv hzc21) z2).2.2 _ (by simp)
      · simp at hc
    · -- len
      rename_i x
      obtain ⟨ox, hargs, hvx⟩ := one rfl
      have hex2 : execOp a.eval o = (do pure (.value (← Builtin.len_ c.argTypes o.type #[a.eval ox]))) := by rw [hex _ hcal, hargs]; rfl
      split at hc <;> simp at hc <;> subst hc <;> simp only [evOp] at he
      · exact Does.val' hr hn he (fun z hz => len_sound hr hA hd trivial ht0 hvx hz) hex2
      · exact Does.val' hr hn he (fun z hz => len_sound hr hA hd trivial ht0 hvx hz) hex2
      · exact Does.val' hr hn he (fun z hz => len_sound hr hA hd trivial ht0 hvx hz) hex2
      · simp [just] at he; subst he
        refine Does.val ⟨_, w, ?_, Made.quiet hr hn (.int _ _)⟩ hex2
        simp [Builtin.len_, ht0, run_underlying hd, goInt]
    · -- cap
      rename_i x
      obtain ⟨ox, hargs, hvx⟩ := one rfl
      have hex2 : execOp a.eval o = (do pure (.value (← Builtin.cap_ c.argTypes o.type #[a.eval ox]))) := by rw [hex _ hcal, hargs]; rfl
      split at hc <;> simp at hc
      subst hc
      simp only [evOp] at he
      split at he <;> simp [just] at he <;> subst he
      · rename_i es h1
        rw [h1] at hvx
        refine Does.val ⟨_, w, ?_, Made.quiet hr hn (.int _ _)⟩ hex2
        generalize a.eval ox = uu at hvx
        cases hvx with
        | frz0 _ a1 cap hcl => simp [Builtin.cap_, ht0, run_underlying hd, goInt, hcl rfl]
        | frz1 _ _ _ _ cap _ _ hc1 hcl _ _ _ _ _ _ => simp [Builtin.cap_, ht0, run_underlying hd, goInt, hcl rfl]
      · rename_i id off len h1
        rw [h1] at hvx
        refine Does.val ⟨_, w, ?_, Made.quiet hr hn (.int _ _)⟩ hex2
        generalize a.eval ox = uu at hvx
        cases hvx with
        | own _ _ _ cap _ a1 _ _ hcl _ _ => simp [Builtin.cap_, ht0, run_underlying hd, goInt, hcl rfl]
    · -- min
      rename_i x y
      obtain ⟨ox, oy, hargs, hvx, hvy⟩ := two rfl
      have hex2 : execOp a.eval o = (do pure (.value (← Builtin.min_ c.argTypes o.type #[a.eval ox, a.eval oy]))) := by rw [hex _ hcal, hargs]; rfl
      simp at hc; subst hc
      simp only [evOp] at he
      refine Does.val' hr hn he (fun z hz => ?_) hex2
      unfold minA at hz
      split at hz <;> (try (simp at hz; done))
      rename_i h1 h2
      rw [h1] at hvx; rw [h2] at hvy
      split at hz <;> simp at hz
      rename_i hk; subst hk; subst hz
      generalize a.eval ox = uu at hvx ⊢
      generalize a.eval oy = vv at hvy ⊢
      cases hvx; cases hvy
      exact ⟨_, by simp [Builtin.min_, Builtin.min2], .int _ _⟩
    · -- max
      rename_i x y
      obtain ⟨ox, oy, hargs, hvx, hvy⟩ := two rfl
      have hex2 : execOp a.eval o = (do pure (.value (← Builtin.max_ c.argTypes o.type #[a.eval ox, a.eval oy]))) := by rw [hex _ hcal, hargs]; rfl
      simp at hc; subst hc
      simp only [evOp] at he
      refine Does.val' hr hn he (fun z hz => ?_) hex2
      unfold maxA at hz
      split at hz <;> (try (simp at hz; done))
      rename_i h1 h2
      rw [h1] at hvx; rw [h2] at hvy
      split at hz <;> simp at hz
      rename_i hk; subst hk; subst hz
      generalize a.eval ox = uu at hvx ⊢
      generalize a.eval oy = vv at hvy ⊢
      cases hvx; cases hvy
      exact ⟨_, by simp [Builtin.max_, Builtin.max2], .int _ _⟩
    · -- copy
      split at hc <;> (try (simp at hc; done))
      simp only [Option.bind_eq_some_iff] at hc
      obtain ⟨t1, ht1, hc⟩ := hc
      split at hc <;> (try (simp at hc; done))
      simp only [Option.bind_eq_some_iff, Option.some.injEq] at hc
      obtain ⟨_, _, rfl⟩ := hc
      simp [evOp] at he
    · -- clear
      rename_i x
      obtain ⟨ox, hargs, hvx⟩ := one rfl
      have hex2 : execOp a.eval o = (do pure (.value (← Builtin.clear_ c.argTypes o.type #[a.eval ox]))) := by rw [hex _ hcal, hargs]; rfl
      split at hc <;> (try (simp at hc; done))
      · rename_i e
        simp only [Option.bind_eq_some_iff, Option.some.injEq] at hc
        obtain ⟨esz, hs, zv, hz, rfl⟩ := hc
        simp only [evOp] at he
        obtain ⟨r, w', h1, h2⟩ := clearS_sound (ty := o.type) hr hn hA ht0 hd hz hvx he
        exact Does.val ⟨r, w', h1, h2⟩ hex2
      · simp only [Option.some.injEq] at hc
        subst hc
        simp only [evOp] at he
        obtain ⟨r, w', h1, h2⟩ := clearM_sound (ty := o.type) hr hn hA ht0 hd hvx he
        exact Does.val ⟨r, w', h1, h2⟩ hex2
    · simp at hc

theorem evOp_sound (hr : Rel H D w σ F) (hn : ∀ id, D id → D' id) (hA : ∀ id, hget A id = H id) (hR : RR w σ F D R a.tmps) (hg : GlobOk E gl w F)
    (hc : compOp P gl o = some io) (he : evOp E R A nid io = some out) (hfree : out.new.isSome = true → Free H D D' nid) : Does P a o H D σ F w nid D' out := by
  have A0 : ∀ {x : Operand} {y : Arg}, argC gl x = some y → VR w σ F D (arg E R y) (a.eval x) := fun h => arg_sound hR hg h
  have hc0 := hc
  unfold compOp at hc
  cases ho : o.op <;> rw [ho] at hc <;> simp only [Option.bind_eq_bind, Option.bind_eq_some_iff, Option.some.injEq, reduceCtorEq] at hc
  case move x =>
    obtain ⟨y, hy, rfl⟩ := hc
    simp [evOp, just] at he; subst he
    exact Does.pure (Made.quiet hr hn (A0 hy)) (by simp [execOp, ho])
  case assign x =>
    obtain ⟨y, hy, rfl⟩ := hc
    simp [evOp, just] at he; subst he
    exact Does.pure (Made.quiet hr hn (A0 hy)) (by simp [execOp, ho])
  case pick c x1 x2 =>
    obtain ⟨c', hc', y1, h1, y2, h2, rfl⟩ := hc
    simp only [evOp] at he
    have hb := A0 hc'
    split at he <;> simp [just] at he
    rename_i t hb2
    rw [hb2] at hb
    subst he
    refine ⟨.value (if t then a.eval x1 else a.eval x2), if t then a.eval x1 else a.eval x2, w, ?_, .inl rfl, Made.quiet hr hn ?_⟩
    · cases hcv : a.eval c with
      | bool q => rw [hcv] at hb; cases hb; simp [execOp, ho, hcv, asBool]
      | _ => rw [hcv] at hb; cases hb
    · cases t
      · exact A0 h2
      · exact A0 h1
  case binOp op t x1 x2 yt => exact evOp_binOp hr hn hR hg ho hc0 he
  case alloc t =>
    obtain ⟨zv, hz, rfl⟩ := hc
    simp only [evOp] at he
    split at he <;> simp at he
    rename_i hcell
    subst he
    obtain ⟨zc, hz1, hz2⟩ := zeT_run hz w
    refine Does.val ⟨_, _, ?_, box_made hr hn (hfree rfl) t (constA_sound 8 zc zv hz2) hcell⟩ (s := Instr.alloc t true (.tuple #[])) (by simp [execOp, ho])
    simp [Instr.alloc, hz1, newVar, newRow, newObj, Sem.run]
  case box t x =>
    obtain ⟨y, hy, rfl⟩ := hc
    simp only [evOp] at he
    split at he <;> simp at he
    rename_i hcell
    subst he
    refine Does.val ⟨_, _, ?_, box_made hr hn (hfree rfl) t (A0 hy) hcell⟩ (s := Instr.box t (a.eval x)) (by simp [execOp, ho])
    simp [Instr.box, newVar, newRow, newObj, Sem.run]
  case build t ps =>
    obtain ⟨d, hd, zv, hz, hc⟩ := hc
    have hz0 := hz
    unfold zeT at hz
    simp only [Option.bind_eq_some_iff] at hz
    obtain ⟨zc, ⟨it, hit, hzero⟩, hz2⟩ := hz
    have hvr : VR w σ F D zv zc := constA_sound 8 zc zv hz2
    have fin : ∀ (z : List AV) (place : Nat → Option (Nat × Nat)) (parts : List (Nat × Nat × Arg)), zv = .agg z → io = .build z parts → parts.length = ps.toList.length →
        (∀ (i : Nat) p q, parts[i]? = some p → ps.toList[i]? = some q → place q.1 = some (p.1, p.2.1) ∧ argC gl q.2 = some p.2.2) →
        (∀ cells, Instr.fill place zc.cells ((ps.map fun (i, x) => (i, a.eval x)).toList) = some cells → P.built t (ps.map fun (i, x) => (i, a.eval x)).toList = some cells) → Does P a o H D σ F w nid D' out := by
      intro z place parts hzv hio hlen hpl hrun
      subst hio
      subst hzv
      simp only [evOp] at he
      refine Does.val' hr hn he (s := Instr.build t (ps.map fun (i, x) => (i, a.eval x))) (fun q hq => ?_) (by simp [execOp, ho])
      simp only [Option.map_eq_some_iff] at hq
      obtain ⟨cs', hcs, rfl⟩ := hq
      cases hvr with
      | agg _ us hl hcell hv =>
      obtain ⟨us', g1, g2, g3⟩ := fillA_sound (place := place) (parts.map fun p => (p.1, p.2.1, arg E R p.2.2)) ((ps.map fun (i, x) => (i, a.eval x)).toList) z cs' us ⟨hl, hv⟩ hcell (by simp [hlen])
        (fun i p q hp hq => by
          simp only [List.getElem?_map, Option.map_eq_some_iff, Array.toList_map] at hp hq
          obtain ⟨p0, hp0, rfl⟩ := hp
          obtain ⟨q0, hq0, rfl⟩ := hq
          exact ⟨(hpl i p0 q0 hp0 hq0).1, A0 (hpl i p0 q0 hp0 hq0).2⟩) hcs
      exact ⟨.agg us', run_build w t _ us' (hrun us' g1), .agg cs' us' g2.1 g3 g2.2⟩
    split at hc
    · rename_i fs z
      simp only [Option.bind_eq_some_iff, Option.some.injEq] at hc
      obtain ⟨pl, hpl, parts, hp, rfl⟩ := hc
      unfold places at hp
      obtain ⟨l1, l2⟩ := mapM_some hp
      refine fin z (fun i => pl[i]?) parts rfl rfl l1 (fun i p q hp0 hq0 => ?_) (fun cells hf => ?_)
      · have := l2 i q p hq0 hp0
        simp only [Option.bind_eq_bind, Option.bind_eq_some_iff, Option.some.injEq] at this
        obtain ⟨y, hy, z2, hz3, rfl⟩ := this
        exact ⟨hy, hz3⟩
      · unfold placesOf at hpl
        simp only [Program.built, hit, hd, hzero, hpl]
        simpa using hf
    · rename_i n e z
      simp only [Option.bind_eq_some_iff, Option.some.injEq] at hc
      obtain ⟨sz, hsz, parts, hp, rfl⟩ := hc
      obtain ⟨l1, l2⟩ := mapM_some hp
      refine fin z (fun i => some (i * sz, sz)) parts rfl rfl l1 (fun i p q hp0 hq0 => ?_) (fun cells hf => ?_)
      · have := l2 i q p hq0 hp0
        simp only [Option.bind_eq_some_iff, Option.some.injEq] at this
        obtain ⟨y, hy, rfl⟩ := this
        exact ⟨rfl, hy⟩
      · obtain ⟨ie, hie⟩ := info_szT hsz
        have hies : ie.size = sz := by simp [szT, hie] at hsz; exact hsz
        simp only [Program.built, hit, hd, hzero, hie, hies]
        exact hf
    · simp at hc
  case buildSlice t n ps =>
    obtain ⟨d, hd, hc⟩ := hc
    split at hc <;> simp only [Option.bind_eq_some_iff, reduceCtorEq] at hc
    rename_i e
    obtain ⟨sz, hsz, hc⟩ := hc
    split at hc <;> simp only [Option.bind_eq_some_iff, Option.some.injEq, reduceCtorEq] at hc
    rename_i hcond
    obtain ⟨zv, hz, parts, hp, rfl⟩ := hc
    obtain ⟨l1, l2⟩ := mapM_some hp
    obtain ⟨c1, c2, c3⟩ : ¬ n * sz > 2 ^ 24 ∧ sz ≠ 0 ∧ ¬ (n = 0 ∧ ps.size ≠ 0) := by
      refine ⟨fun h => hcond (.inl h), fun h => hcond (.inr (.inl h)), fun h => hcond (.inr (.inr h))⟩
    have hz0 := hz
    unfold zeT at hz
    simp only [Option.bind_eq_some_iff] at hz
    obtain ⟨zc, ⟨it, hit, hzero⟩, hz2⟩ := hz
    have hies : it.size = sz := by simp [szT, hit] at hsz; exact hsz
    have hvr : VR w σ F D zv zc := constA_sound 8 zc zv hz2
    simp only [evOp] at he
    split at he
    · rename_i hn0
      subst hn0
      simp [just] at he
      subst he
      have hps : ps = #[] := by
        have : ps.size = 0 := by rcases Nat.eq_zero_or_pos ps.size with h | h; · exact h
                                 · exact absurd ⟨rfl, by omega⟩ c3
        exact Array.eq_empty_of_size_eq_zero this
      subst hps
      refine Does.val ⟨.slice (some ⟨w.heap.size, 0, none⟩) 0 0, { w with heap := w.heap.push (.cells #[] e) }, ?_, σ, F, .frz0 true _ 0 (fun _ => rfl), Step.garbage hr hn _⟩ (s := Instr.buildSlice t 0 (#[].map fun (i, x) => (i, a.eval x))) (by simp [execOp, ho])
      simp [Instr.buildSlice, run_underlying hd, szT_run hsz w, Instr.fill, newRow, newObj, Sem.run]
      rw [show (Array.range 0) = (#[] : Array Nat) from Array.eq_empty_of_size_eq_zero (by simp)]
      simp
    · rename_i hn0
      split at he <;> (try (simp at he; done))
      rename_i es hes
      split at he <;> simp at he
      rename_i hzz
      obtain ⟨hzl, hzc⟩ := hzz
      subst he
      have hcc : zc.cells.size = sz := by rw [const_cells_size hz2 hzc, hzl]
      have hh := Holds.replicate (w := w) (σ := σ) (F := F) (D := D) hvr hzc n (n * sz) (by rw [hzl]; exact Nat.le_refl _)
      rw [hzl] at hh
      have hel := Elems.replicate hzc n
      rw [hzl] at hel
      obtain ⟨us', g1, g2, g3, g4, g5⟩ := fillS_sound (parts.map fun p => (p.1, arg E R p.2)) ((ps.map fun (i, x) => (i, a.eval x)).toList) (List.replicate n zv) es ((Array.range (n * sz)).map (zc.cells[· % zc.cells.size]!)) hh hel (by simp) (by simp [l1])
        (fun i p q hp hq => by
          simp only [List.getElem?_map, Option.map_eq_some_iff, Array.toList_map] at hp hq
          obtain ⟨p0, hp0, rfl⟩ := hp
          obtain ⟨q0, hq0, rfl⟩ := hq
          have := l2 i q0 p0 hq0 hp0
          simp only [Option.bind_eq_some_iff, Option.some.injEq] at this
          obtain ⟨y, hy, rfl⟩ := this
          exact ⟨rfl, A0 hy⟩) hes
      have hfr := hfree rfl
      have hrun := run_buildSlice (P := P) w t e n (ps.map fun (i, x) => (i, a.eval x)) us' it zc hd hit hzero (by rw [hies]; exact c1) (by rw [hies]; intro h; rcases Nat.mul_eq_zero.1 h with h | h; exact hn0 h; exact c2 h) (by rw [hies]; exact g1)
      simp at g5
      refine Does.val ⟨_, _, hrun, σ.with nid w.heap.size 0 sz, F, VR.own_new (w := w) (σ := σ) hfr.2.1 (Nat.le_refl n) (fun _ => rfl) (by rw [g4, g5]; exact Nat.le_refl _), Step.row hr hn hfr.1 hfr.2.1 hfr.2.2 e g3 g2⟩ (by simp [execOp, ho])
  case load t x =>
    obtain ⟨g, hg1, sz, hs, y, hy, rfl⟩ := hc
    simp only [evOp] at he
    refine Does.val' hr hn he (s := Instr.loadAt t (a.eval x)) (fun z hz => ?_) (by simp [execOp, ho])
    obtain ⟨b, q, hux, r, g1, g2⟩ := ld_sound (P := P) hr hA (A0 hy) hg1 hs hz
    exact ⟨r, by rw [hux]; simp [Instr.loadAt, Instr.sureAddr, g1], g2⟩
  case store t x q =>
    obtain ⟨sz, hs, y, hy, y2, hy2, rfl⟩ := hc
    simp only [evOp] at he
    split at he <;> simp at he
    rename_i d hd
    subst he
    obtain ⟨id, B⟩ := d
    obtain ⟨ad, w', hux, g1, g2⟩ := st_sound (P := P) (t := t) (nid := nid) hr hn hA (A0 hy) (A0 hy2) hs hd
    exact Does.unit ⟨w', by rw [hux]; simpa [Instr.storeAt, Instr.sureAddr] using g1, g2⟩ (s := Instr.storeAt t (a.eval x) (a.eval q)) (by simp [execOp, ho])
  case nilCheck x =>
    obtain ⟨y, hy, rfl⟩ := hc
    simp only [evOp] at he
    have hv := A0 hy
    have fin : ∀ {z : AV}, arg E R y = z → out = ⟨z, [], none⟩ → execOp a.eval o = pure (.value (a.eval x)) → Does P a o H D σ F w nid D' out := by
      intro z hz hout hex
      rw [hz] at hv
      subst hout
      exact Does.pure (Made.quiet hr hn hv) hex
    split at he <;> (try (simp at he; done))
    · rename_i h1; simp [just] at he; refine fin h1 he.symm ?_; rw [h1] at hv; cases hux : a.eval x <;> rw [hux] at hv <;> cases hv; simp [execOp, ho, hux]
    · rename_i h1; simp [just] at he; refine fin h1 he.symm ?_; rw [h1] at hv; cases hux : a.eval x <;> rw [hux] at hv <;> cases hv; simp [execOp, ho, hux]
    · rename_i f0 a0 b0 h1
      split at he <;> simp [just] at he
      refine fin h1 he.symm ?_; rw [h1] at hv; cases hux : a.eval x <;> rw [hux] at hv <;> cases hv; simp [execOp, ho, hux]
    · rename_i h1; simp [just] at he; refine fin h1 he.symm ?_; rw [h1] at hv; cases hux : a.eval x <;> rw [hux] at hv <;> cases hv; simp [execOp, ho, hux]
    · rename_i h1; simp [just] at he; refine fin h1 he.symm ?_; rw [h1] at hv; cases hux : a.eval x <;> rw [hux] at hv <;> cases hv; simp [execOp, ho, hux]
    · rename_i h1; simp [just] at he; refine fin h1 he.symm ?_; rw [h1] at hv; cases hux : a.eval x <;> rw [hux] at hv <;> cases hv; simp [execOp, ho, hux]
  case unOp op t x =>
    obtain ⟨y, hy, rfl⟩ := hc
    simp only [evOp] at he
    exact Does.val' hr hn he (s := Op.unary op (a.eval x)) (fun z hz => un_sound (A0 hy) hz) (by simp [execOp, ho])
  case convert s d x =>
    obtain ⟨ds, hds, dd, hdd, hc⟩ := hc
    split at hc <;> simp only [Option.bind_eq_some_iff, Option.some.injEq, reduceCtorEq] at hc
    · obtain ⟨y, hy, rfl⟩ := hc
      simp only [evOp] at he
      have hv := A0 hy
      split at he <;> simp [just] at he
      rename_i h1
      subst he
      rw [h1] at hv
      refine Does.val ⟨_, w, ?_, Made.quiet hr hn (.int _ _)⟩ (s := convert s d (a.eval x)) (by simp [execOp, ho])
      cases hux : a.eval x <;> rw [hux] at hv <;> cases hv
      simp [convert, run_underlying hds, run_underlying hdd, Conv.intToInt]
    · obtain ⟨y, hy, rfl⟩ := hc
      simp only [evOp] at he
      have hv := A0 hy
      split at he <;> simp [just] at he
      rename_i h1
      subst he
      rw [h1] at hv
      refine Does.val ⟨_, w, ?_, Made.quiet hr hn (.str _)⟩ (s := convert s d (a.eval x)) (by simp [execOp, ho])
      cases hux : a.eval x <;> rw [hux] at hv <;> cases hv
      simp [convert, run_underlying hds, run_underlying hdd]
  case makeInterface t x =>
    obtain ⟨d, hd, hc⟩ := hc
    split at hc <;> simp only [Option.bind_eq_some_iff, Option.some.injEq, reduceCtorEq] at hc
    rename_i hni
    obtain ⟨y, hy, rfl⟩ := hc
    simp [evOp, just] at he
    subst he
    refine Does.val ⟨_, w, ?_, Made.quiet hr hn (.iface t _ _ (A0 hy))⟩ (s := Instr.makeInterface t (a.eval x)) (by simp [execOp, ho])
    simp only [Instr.makeInterface, Sem.run_bind, run_underlying hd, Result.andThen_ok]
    cases d <;> first | rfl | exact absurd rfl (hni _)
  case makeFunc fn f1 c1 =>
    split at hc <;> simp only [Option.bind_eq_some_iff, Option.some.injEq, reduceCtorEq] at hc
    rename_i f0
    obtain ⟨l1, h1, l2, h2, rfl⟩ := hc
    simp [evOp, just] at he
    subst he
    obtain ⟨p1, p2⟩ := args_sound (E := E) hR hg h1
    obtain ⟨q1, q2⟩ := args_sound (E := E) hR hg h2
    refine Does.val ⟨_, w, ?_, Made.quiet hr hn (.func _ _ _ (f1.map a.eval) (c1.map a.eval) (by simpa using p1) (by simpa using q1) (fun i x u hx hu => p2 i x u hx (by simpa using hu)) (fun i x u hx hu => q2 i x u hx (by simpa using hu)))⟩
      (s := Instr.makeFunc (.func f0) (f1.map a.eval) (c1.map a.eval)) (by simp [execOp, ho])
    simp [Instr.makeFunc]
  case makeSlice t x1 x2 =>
    obtain ⟨d, hd, hc⟩ := hc
    split at hc <;> simp only [Option.bind_eq_some_iff, Option.some.injEq, reduceCtorEq] at hc
    obtain ⟨sz, hs, by_, hb, zv, hz, y1, h1, y2, h2, rfl⟩ := hc
    simp only [evOp] at he
    have hfr : Free H D D' nid := by
      unfold mkSliceA at he
      split at he <;> (try (simp at he; done))
      split at he <;> simp at he
      subst he; exact hfree rfl
    exact Does.val (mkSlice_sound hr hn hfr hd hs hb hz (A0 h1) (A0 h2) he) (by simp [execOp, ho])
  case makeMap t r =>
    obtain ⟨d, hd, hc⟩ := hc
    have hio : io = .mkMap := by
      split at hc <;> (try (simp at hc; done))
      split at hc <;> simp at hc <;> exact hc.symm
    subst hio
    simp [evOp] at he
    subst he
    have hfr := hfree rfl
    refine Does.val ⟨.map (some w.heap.size), { w with heap := w.heap.push (.map #[] 0) }, ?_, σ.with nid w.heap.size 0 0, F, ?_, ?_⟩ (s := Instr.makeMap t (r.map a.eval)) (by simp [execOp, ho])
    · split at hc <;> (try (simp at hc; done))
      rename_i k1 e1
      split at hc <;> (try (simp at hc; done))
      · simp [Instr.makeMap, newObj, Sem.run]
      · simp [Instr.makeMap, newObj, Sem.run, run_underlying hd, Act.eval, asInt, asIntOf]
    · have := VR.map (w := { w with heap := w.heap.push (.map #[] 0) }) (σ := σ.with nid w.heap.size 0 0) (F := F) (D := D') nid hfr.2.1
      rw [Sig.with_blk] at this; exact this
    · refine Step.push (esz := 0) hr hn hfr.1 hfr.2.1 hfr.2.2 (.map #[] 0) _ rfl ?_
      refine ⟨#[], 0, ?_, rfl, fun i e m h => by simp at h⟩
      show (w.heap.push _)[(σ.with nid w.heap.size 0 0).blk nid]? = _
      rw [Sig.with_blk]; simp
  case slice t x lo hi mx =>
    obtain ⟨d, hd, hc⟩ := hc
    split at hc
    · split at hc <;> simp only [Option.bind_eq_some_iff, Option.some.injEq, reduceCtorEq] at hc
      obtain ⟨y, hy, l, hl, h, hh, rfl⟩ := hc
      simp only [evOp] at he
      refine Does.val' hr hn he (s := Instr.sliceAt t (a.eval x) (lo.map a.eval) (hi.map a.eval) none) (fun z hz => ?_) (by simp [execOp, ho])
      exact sliceStr_sound hd (A0 hy) (opt_sound hR hg hl) (opt_sound hR hg hh) hz
    · simp only [Option.bind_eq_some_iff, Option.some.injEq] at hc
      obtain ⟨sz, hs, y, hy, l, hl, h, hh, m, hm, rfl⟩ := hc
      simp only [evOp] at he
      split at he <;> (try (simp at he; done))
      rename_i hw
      refine Does.val' hr hn he (s := Instr.sliceAt t (a.eval x) (lo.map a.eval) (hi.map a.eval) (mx.map a.eval)) (fun z hz => ?_) (by simp [execOp, ho])
      exact slice_sound hr hA hd hs (A0 hy) (opt_sound hR hg hl) (opt_sound hR hg hh) (opt_sound hR hg hm) hw hz
    · simp at hc
  case fieldAddr t x f =>
    obtain ⟨d, hd, hc⟩ := hc
    split at hc <;> simp only [Option.bind_eq_some_iff, reduceCtorEq] at hc
    rename_i fs
    obtain ⟨fd, hfd, sz, hs, hc⟩ := hc
    split at hc <;> simp only [Option.bind_eq_some_iff, Option.some.injEq, reduceCtorEq] at hc
    rename_i hs0
    obtain ⟨y, hy, rfl⟩ := hc
    simp only [evOp] at he
    refine Does.val' hr hn he (s := Instr.fieldAt t (a.eval x) f) (fun z hz => ?_) (by simp [execOp, ho])
    obtain ⟨b, q, hux, hv⟩ := addOff_sound (A0 hy) hz
    refine ⟨_, ?_, hv⟩
    rw [hux]
    simp [Instr.fieldAt, run_underlying hd, hfd, Instr.sureAddr, fieldPlace, szT_run hs w, hs0, addr_add]
  case field t x f =>
    obtain ⟨d, hd, hc⟩ := hc
    split at hc <;> simp only [Option.bind_eq_some_iff, Option.some.injEq, reduceCtorEq] at hc
    rename_i fs
    obtain ⟨fd, hfd, g, hg1, sz, hs, y, hy, rfl⟩ := hc
    simp only [evOp] at he
    refine Does.val' hr hn he (s := Instr.field t (a.eval x) f) (fun z hz => ?_) (by simp [execOp, ho])
    have hv := A0 hy
    unfold partA at hz
    split at hz <;> (try (simp at hz; done))
    rename_i cs hcs
    rw [hcs] at hv
    cases hux : a.eval x <;> rw [hux] at hv <;> try (cases hv; done)
    rename_i us
    obtain ⟨r, g1, g2⟩ := part_sound (P := P) hv hg1 hs hz
    exact ⟨r, by simp [Instr.field, run_underlying hd, hfd, asAgg, g1], g2⟩
  case indexAddr t x i =>
    obtain ⟨d, hd, hc⟩ := hc
    split at hc <;> simp only [Option.bind_eq_some_iff, Option.some.injEq, reduceCtorEq] at hc
    · obtain ⟨sz, hs, y, hy, y2, hy2, rfl⟩ := hc
      simp only [evOp] at he
      exact Does.val' hr hn he (s := Instr.indexAt t (a.eval x) (a.eval i)) (fun z hz => idxA_sound hd hs (A0 hy) (A0 hy2) hz) (by simp [execOp, ho])
    · obtain ⟨sz, hs, y, hy, y2, hy2, rfl⟩ := hc
      simp only [evOp] at he
      exact Does.val' hr hn he (s := Instr.indexAt t (a.eval x) (a.eval i)) (fun z hz => idxS_sound hr hA hd hs (A0 hy) (A0 hy2) hz) (by simp [execOp, ho])
  case index t x i =>
    obtain ⟨d, hd, hc⟩ := hc
    split at hc <;> simp only [Option.bind_eq_some_iff, Option.some.injEq, reduceCtorEq] at hc
    · obtain ⟨g, hg1, sz, hs, y, hy, y2, hy2, rfl⟩ := hc
      simp only [evOp] at he
      exact Does.val' hr hn he (s := Instr.index t (a.eval x) (a.eval i)) (fun z hz => idxV_sound hd hg1 hs (A0 hy) (A0 hy2) hz) (by simp [execOp, ho])
    · obtain ⟨y, hy, y2, hy2, rfl⟩ := hc
      simp only [evOp] at he
      exact Does.val' hr hn he (s := Instr.index t (a.eval x) (a.eval i)) (fun z hz => idxStr_sound hd (A0 hy) (A0 hy2) hz) (by simp [execOp, ho])
  case lookup t x i ok =>
    obtain ⟨d, hd, hc⟩ := hc
    split at hc <;> simp only [Option.bind_eq_some_iff, Option.some.injEq, reduceCtorEq] at hc
    obtain ⟨ek, hek, zv, hz0, y, hy, y2, hy2, rfl⟩ := hc
    simp only [evOp] at he
    exact Does.val' hr hn he (s := Instr.lookup t (a.eval x) (a.eval i) ok) (fun z hz => lookup_sound hr hA hd hek hz0 (A0 hy) (A0 hy2) hz) (by simp [execOp, ho])
  case mapUpdate t m k v =>
    obtain ⟨d, hd, hc⟩ := hc
    split at hc <;> simp only [Option.bind_eq_some_iff, Option.some.injEq, reduceCtorEq] at hc
    obtain ⟨ek, hek, y, hy, y2, hy2, y3, hy3, rfl⟩ := hc
    simp only [evOp] at he
    split at he <;> simp at he
    rename_i dd hdd
    subst he
    obtain ⟨id, B⟩ := dd
    exact Does.unit (mapSet_sound hr hn hA hd hek (A0 hy) (A0 hy2) (A0 hy3) hdd) (by simp [execOp, ho])
  case insert t m k v =>
    obtain ⟨d, hd, hc⟩ := hc
    split at hc <;> simp only [Option.bind_eq_some_iff, Option.some.injEq, reduceCtorEq] at hc
    obtain ⟨ek, hek, y, hy, y2, hy2, y3, hy3, rfl⟩ := hc
    simp only [evOp] at he
    split at he <;> simp at he
    rename_i dd hdd
    subst he
    obtain ⟨id, B⟩ := dd
    exact Does.unit (mapSet_sound hr hn hA hd hek (A0 hy) (A0 hy2) (A0 hy3) hdd) (by simp [execOp, ho])
  case range t x =>
    obtain ⟨d, hd, hc⟩ := hc
    split at hc <;> simp only [Option.bind_eq_some_iff, Option.some.injEq, reduceCtorEq] at hc
    obtain ⟨y, hy, rfl⟩ := hc
    simp only [evOp] at he
    have hv := A0 hy
    split at he <;> simp at he
    rename_i s1 h1
    subst he
    rw [h1] at hv
    have hfr := hfree rfl
    cases hux : a.eval x <;> rw [hux] at hv <;> cases hv
    refine Does.val ⟨.pointer (some ⟨w.heap.size, 0, none⟩), { w with heap := w.heap.push (.stringIter s1 0) }, ?_, σ.with nid w.heap.size 0 0, F, ?_, ?_⟩ (s := Instr.range t (a.eval x)) (by simp [execOp, ho])
    · rw [hux]; simp [Instr.range, run_underlying hd, newObj, Sem.run]
    · have := VR.ptr (w := { w with heap := w.heap.push (.stringIter s1 0) }) (σ := σ.with nid w.heap.size 0 0) (F := F) (D := D') nid 0 0 hfr.2.1
      rw [Sig.with_blk, Sig.with_base] at this; simpa using this
    · refine Step.push (esz := 0) hr hn hfr.1 hfr.2.1 hfr.2.2 (.stringIter s1 0) _ rfl ?_
      refine ⟨Sig.with_base, ?_⟩
      show (w.heap.push _)[(σ.with nid w.heap.size 0 0).blk nid]? = _
      rw [Sig.with_blk]; simp
  case next it isS =>
    split at hc <;> simp only [Option.bind_eq_some_iff, Option.some.injEq, reduceCtorEq] at hc
    obtain ⟨y, hy, rfl⟩ := hc
    simp only [evOp] at he
    have hv := A0 hy
    split at he <;> (try (simp at he; done))
    rename_i id h1
    rw [h1] at hv
    rw [hA id] at he
    have hb := hr.br id
    cases hB : H id with
    | siter str pos =>
      rw [hB] at he hb
      simp only at he
      have hl : (H id).live = true := by rw [hB]; rfl
      have hux : a.eval it = .pointer (some ⟨σ.blk id, 0, none⟩) := by
        generalize a.eval it = q at hv
        cases hv
        simp [hb.1]
      have htup : ∀ (us : Array Value) (cs : List AV), us.size = cs.length → (∀ (i : Nat) p q, cs[i]? = some p → us[i]? = some q → (∃ b, p = .bool b ∧ q = .bool b) ∨ (∃ k n, p = .int k n ∧ q = .int k n)) → ∀ w2 : World, VR w2 σ F D' (.tuple cs) (.tuple us) := by
        intro us cs h1 h2 w2
        refine .tuple cs us h1 (fun i p q hp hq => ?_)
        rcases h2 i p q hp hq with ⟨b, rfl, rfl⟩ | ⟨k, n, rfl, rfl⟩
        · exact .bool b
        · exact .int k n
      split at he
      · rename_i hlt
        simp at he; subst he
        refine Does.val ⟨.tuple #[.bool true, goInt pos, .int .i32 (Utf8.decode str pos).1], { w with heap := w.heap.setIfInBounds (σ.blk id) (.stringIter str (pos + (Utf8.decode str pos).2)) }, ?_, σ, F, htup _ _ rfl (fun i p q hp hq => ?_) _, ?_⟩ (s := Instr.next (a.eval it) isS o.type) (by simp [execOp, ho])
        · rw [hux]
          rename_i hs _
          subst hs
          simp [Instr.next, getObj, setObj, Sem.run, hb.2, hlt]
        · match i with
          | 0 => simp at hp hq; subst hp hq; exact .inl ⟨true, rfl, rfl⟩
          | 1 => simp at hp hq; subst hp hq; exact .inr ⟨_, _, rfl, rfl⟩
          | 2 => simp at hp hq; subst hp hq; exact .inr ⟨_, _, rfl, rfl⟩
          | i + 3 => simp at hp
        · have hlt2 : σ.blk id < w.heap.size := getElem?_size hb.2
          refine (Step.setObj (o := .stringIter str pos) hr hl hb.2 (by intros; simp) (by intro r h; cases h) ?_).more hn
          exact ⟨hb.1, by simp [hlt2]⟩
      · rename_i hlt
        simp [just] at he; subst he
        refine Does.val ⟨.tuple #[.bool false], w, ?_, Made.quiet hr hn (.tuple _ _ rfl (fun i p q hp hq => ?_))⟩ (s := Instr.next (a.eval it) isS o.type) (by simp [execOp, ho])
        · rw [hux]
          rename_i hs _
          subst hs
          simp [Instr.next, getObj, Sem.run, hb.2, hlt]
        · match i with
          | 0 => simp at hp hq; subst hp hq; exact .bool _
          | i + 1 => simp at hp
    | _ => rw [hB] at he; simp at he
  case typeAssert x xt t ok =>
    obtain ⟨d, hd, hc⟩ := hc
    split at hc <;> simp only [Option.bind_eq_some_iff, Option.some.injEq, reduceCtorEq] at hc
    rename_i hni
    obtain ⟨zv, hz, y, hy, rfl⟩ := hc
    simp only [evOp] at he
    refine Does.val' hr hn he (s := Instr.typeAssert (a.eval x) xt t ok) (fun z hz' => ?_) (by simp [execOp, ho])
    obtain ⟨zc, hz1, hz2⟩ := zeT_run hz w
    have hv := A0 hy
    have tup : ∀ {p : AV} {q : Value} (c : Bool), VR w σ F D p q → VR w σ F D (.tuple [p, .bool c]) (.tuple #[q, .bool c]) := by
      intro p q c hpq
      refine .tuple _ _ rfl (fun i p' q' hp hq => ?_)
      match i with
      | 0 => simp at hp hq; subst hp hq; exact hpq
      | 1 => simp at hp hq; subst hp hq; exact .bool c
      | i + 2 => simp at hp
    unfold tassertA at hz'
    split at hz' <;> (try (simp at hz'; done))
    · rename_i h1
      rw [h1] at hv
      split at hz' <;> simp at hz'
      rename_i hok
      subst hz' hok
      cases hux : a.eval x <;> rw [hux] at hv <;> cases hv
      refine ⟨_, ?_, tup false (constA_sound 8 zc zv hz2)⟩
      simp only [Instr.typeAssert, Sem.run_bind, run_underlying hd, Result.andThen_ok]
      cases d <;> first | exact absurd rfl (hni _) | simp [hz1]
    · rename_i t2 v2 h1
      rw [h1] at hv
      cases hux : a.eval x <;> rw [hux] at hv <;> cases hv
      rename_i u2 hv2
      split at hz'
      · rename_i htt
        subst htt
        simp at hz'
        subst hz'
        cases ok
        · refine ⟨_, ?_, hv2⟩
          simp only [Instr.typeAssert, Sem.run_bind, run_underlying hd, Result.andThen_ok]
          cases d <;> first | exact absurd rfl (hni _) | simp
        · refine ⟨_, ?_, tup true hv2⟩
          simp only [Instr.typeAssert, Sem.run_bind, run_underlying hd, Result.andThen_ok]
          cases d <;> first | exact absurd rfl (hni _) | simp
      · rename_i htt
        split at hz' <;> simp at hz'
        rename_i hok
        subst hz' hok
        refine ⟨_, ?_, tup false (constA_sound 8 zc zv hz2)⟩
        simp only [Instr.typeAssert, Sem.run_bind, run_underlying hd, Result.andThen_ok]
        cases d <;> first | exact absurd rfl (hni _) | simp [hz1, htt]
  case extract x i =>
    obtain ⟨y, hy, rfl⟩ := hc
    simp only [evOp] at he
    have hv := A0 hy
    split at he <;> (try (simp at he; done))
    rename_i vs h1
    rw [h1] at hv
    refine Does.val' hr hn he (s := Instr.extract (a.eval x) i) (fun z hz => ?_) (by simp [execOp, ho])
    cases hux : a.eval x <;> rw [hux] at hv <;> cases hv
    rename_i us hl hv
    have hlt : i < us.size := by rw [hl]; exact (List.getElem?_eq_some_iff.1 hz).1
    exact ⟨us[i], by simp [Instr.extract, hlt], hv i z us[i] hz (by simp [hlt])⟩
  case panic x =>
    obtain ⟨y, hy, rfl⟩ := hc
    simp [evOp] at he
  case call c => exact evOp_call hr hn hA hR hg ho hc0 he hfree

end
end Go.Abs

/- The frame; contexts; what a call comes to; lists of operations. -/
namespace Go.Abs

variable {H H' : Nat → Blk} {D D' : Nat → Prop} {σ σ' : Sig} {F F' : Nat → Prop} {w w' : World} {v x y z : AV} {u ux uy : Value} {P : Program} {A : Heap} {gl : List Nat} {E : Env}

/-- What is done without some blocks is done beside them. -/
theorem Step.frame {H2 H2' K : Nat → Blk} (hr : Rel H D w σ F) (hd : ∀ id, H2 id = H id ∨ H2 id = .dead) (hs : Step H2 D σ F w H2' D' σ' F' w')
    (hK : ∀ id, K id = H2' id ∨ (K id = H id ∧ H2 id = .dead ∧ H2' id = .dead)) : Step H D σ F w K D' σ' F' w' := by
  have lv : ∀ id, (H2 id).live = true → H2 id = H id := fun id h => (hd id).resolve_right (fun e => by rw [e] at h; cases h)
  have own : ∀ b, Own H2 σ b → Own H σ b := by rintro b ⟨id, h1, h2⟩; exact ⟨id, by rw [← lv id h1]; exact h1, h2⟩
  -- what is dropped has no live namesake
  have drop : ∀ id, (H id).live = true → H2 id = .dead → ¬ Own H2 σ (σ.blk id) := by
    rintro id h1 h2 ⟨j, h3, h4⟩
    have : j = id := hr.inj j id (by rw [← lv j h3]; exact h3) h1 h4
    subst this; rw [h2] at h3; cases h3
  have sg : ∀ id, (H id).live = true → σ'.blk id = σ.blk id := fun id h => by unfold Sig.blk; rw [hs.sig id (hr.dom id h)]
  have kl : ∀ id, (K id).live = true → (H2' id).live = true ∨ ((H id).live = true ∧ H2 id = .dead) := by
    intro id h
    rcases hK id with e | ⟨e, e2, _⟩
    · exact .inl (by rw [← e]; exact h)
    · exact .inr ⟨by rw [← e]; exact h, e2⟩
  have cross : ∀ i j, (H2' i).live = true → (H j).live = true → H2 j = .dead → σ'.blk i = σ.blk j → False := by
    intro i j h1 h2 h3 h4
    rcases hs.owns (σ'.blk i) ⟨i, h1, rfl⟩ with h5 | h5
    · rw [h4] at h5; exact drop j h2 h3 h5
    · have := hr.size _ ⟨j, h2, rfl⟩
      omega
  refine ⟨⟨?_, ?_, ?_, ?_, ?_, ?_⟩, ⟨hs.ext.size, fun b hb hn => hs.ext.same b hb (fun h => hn (own b h)), hs.ext.cells, hs.ext.loops, hs.ext.mono, ?_, hs.ext.os, hs.ext.output, hs.ext.tape⟩, hs.sig, hs.le, ?_⟩
  · intro id h
    rcases kl id h with h1 | ⟨h1, _⟩
    · exact hs.rel.dom id h1
    · exact hs.le id (hr.dom id h1)
  · intro id
    rcases hK id with e | ⟨e, e2, _⟩
    · rw [e]; exact hs.rel.br id
    · rw [e]
      by_cases hl : (H id).live = true
      · exact (hr.br id).carry (hs.ext.same _ (hr.size _ ⟨id, hl, rfl⟩) (drop id hl e2)) (fun h => hr.dom id h) hs.ext.mono
          (fun b hb => hs.ext.same b (hr.fsize b hb) (fun h => hr.apart b hb (own b h))) hs.ext.cells hs.sig hs.le
      · cases hb : H id <;> rw [hb] at hl <;> first | trivial | exact absurd rfl hl
  · intro i j hi hj e
    rcases kl i hi with h1 | ⟨h1, h1'⟩ <;> rcases kl j hj with h2 | ⟨h2, h2'⟩
    · exact hs.rel.inj i j h1 h2 e
    · rw [sg j h2] at e; exact (cross i j h1 h2 h2' e).elim
    · rw [sg i h1] at e; exact (cross j i h2 h1 h1' e.symm).elim
    · rw [sg i h1, sg j h2] at e; exact hr.inj i j h1 h2 e
  · rintro b ⟨id, h, rfl⟩
    rcases kl id h with h1 | ⟨h1, _⟩
    · exact hs.rel.size _ ⟨id, h1, rfl⟩
    · rw [sg id h1]; exact Nat.lt_of_lt_of_le (hr.size _ ⟨id, h1, rfl⟩) hs.ext.size
  · exact hs.rel.fsize
  · rintro b hb ⟨id, h, rfl⟩
    rcases kl id h with h1 | ⟨h1, h1'⟩
    · exact hs.rel.apart _ hb ⟨id, h1, rfl⟩
    · rw [sg id h1] at hb
      rcases hs.ext.new _ hb with h2 | h2 | h2
      · exact hr.apart _ h2 ⟨id, h1, rfl⟩
      · have := hr.size _ ⟨id, h1, rfl⟩; omega
      · exact drop id h1 h1' h2
  · intro b hb
    rcases hs.ext.new b hb with h | h | h
    · exact .inl h
    · exact .inr (.inl h)
    · exact .inr (.inr (own b h))
  · rintro b ⟨id, h, rfl⟩
    rcases kl id h with h1 | ⟨h1, _⟩
    · rcases hs.owns _ ⟨id, h1, rfl⟩ with h2 | h2
      · exact .inl (own _ h2)
      · exact .inr h2
    · exact .inl ⟨id, h1, (sg id h1).symm⟩

/-- Every function may be called; 'rnd': the round that the code stands in. -/
def fen (rnd : Option Nat) : Fence := { Fence.wide with round := rnd }

/-- A loop over a function that is under way. -/
def LoopOk (P : Program) (gl : List Nat) (w : World) (σ : Sig) (F D : Nat → Prop) (i : LoopInfo) : Prop :=
  D i.id ∧ ∃ r, w.heap[σ.blk i.id]? = some (.loop r) ∧ RR w σ F D i.regs r.tmps ∧ r.params.toList = i.params ∧ compCode P gl r.assign = some i.assign ∧ compCode P gl r.body = some i.body

/-- What is known wherever code is walked. -/
structure Ctx (P : Program) (E : Env) (gl : List Nat) (Λ : List LoopInfo) (H : Nat → Blk) (D : Nat → Prop) (σ : Sig) (F : Nat → Prop) (w : World) : Prop where
  rel : Rel H D w σ F
  glob : GlobOk E gl w F
  loops : ∀ i ∈ Λ, LoopOk P gl w σ F D i

variable {Λ : List LoopInfo}

theorem LoopOk.step {i : LoopInfo} (h : LoopOk P gl w σ F D i) (hr : Rel H D w σ F) (hs : Step H D σ F w H' D' σ' F' w') : LoopOk P gl w' σ' F' D' i := by
  obtain ⟨h0, r, h1, h2, h3⟩ := h
  obtain ⟨st, p, h4⟩ := hs.ext.loops _ _ h1
  refine ⟨hs.le _ h0, { r with state := st, pending := p }, ?_, h2.carry hr hs, h3⟩
  unfold Sig.blk at *
  rw [hs.sig _ h0]; exact h4

theorem Ctx.step (h : Ctx P E gl Λ H D σ F w) (hs : Step H D σ F w H' D' σ' F' w') : Ctx P E gl Λ H' D' σ' F' w' :=
  ⟨hs.rel, h.glob.carry h.rel hs, fun i hi => (h.loops i hi).step h.rel hs⟩

/-- The deferred calls are the marks of loops over functions. 'lo': what is older than the frame. -/
def Marked (lo : Nat) (H : Nat → Blk) (σ : Sig) (F : Nat → Prop) (w : World) (ds : List Deferred) : Prop :=
  ∃ rs : List Nat, ds = rs.map (fun r => { target := .collected r, args := #[] }) ∧ rs.Nodup ∧ ∀ r ∈ rs, lo ≤ r ∧ r < w.heap.size ∧ w.heap[r]? = some (.deferred (some [])) ∧ ¬ F r ∧ ¬ Own H σ r

theorem Marked.step {lo : Nat} {ds : List Deferred} (h : Marked lo H σ F w ds) (hs : Step H D σ F w H' D' σ' F' w') : Marked lo H' σ' F' w' ds := by
  obtain ⟨rs, h0, h1, h⟩ := h
  refine ⟨rs, h0, h1, fun r hr => ?_⟩
  obtain ⟨hlo, h2, h3, h4, h5⟩ := h r hr
  refine ⟨hlo, Nat.lt_of_lt_of_le h2 hs.ext.size, by rw [hs.ext.same r h2 h5]; exact h3, fun h => ?_, fun h => ?_⟩
  · rcases hs.ext.new r h with h | h | h
    · exact h4 h
    · omega
    · exact h5 h
  · rcases hs.owns r h with h | h
    · exact h5 h
    · omega

/-- A call's end, read. -/
def CallEnd (H : Nat → Blk) (D : Nat → Prop) (σ : Sig) (F : Nat → Prop) (w : World) (A' : Heap) (D' : Nat → Prop) (r : CRes) (e : Ending) (w' : World) : Prop :=
  ∃ σ' F', Step H D σ F w (hget A') D' σ' F' w' ∧ match r with
    | .ret v => ∃ u, e = .returned u ∧ VR w' σ' F' D' v u
    | .panic v => ∃ u, e = .panicked [{ v := u, recovered := false }] ∧ VR w' σ' F' D' v u

/-- A call, whichever way the machine makes it. -/
def CallTo (P : Program) (R : Ending → World → Prop) : Result Next → Prop
  | .ok (.enter f args) w' => Calls P f args w' R
  | .ok (.round l f tmps assign body) w' => RoundIn Fence.wide 0 P l f tmps assign body w' R
  | _ => False

def below (A : Heap) : Nat → Prop := fun id => id < A.length

/-- What is asked of the calls of values. -/
def CallOk (P : Program) (E : Env) (gl : List Nat) (Λ : List LoopInfo) (call : CallF) : Prop :=
  ∀ (f : AV) (as0 : List AV) (A : Heap) (r : CRes) (A' : Heap), call f as0 A = some (r, A') →
    ∀ (σ : Sig) (F : Nat → Prop) (w : World) (fv : Value) (us : Array Value), Ctx P E gl Λ (hget A) (below A) σ F w → VR w σ F (below A) f fv → us.size = as0.length →
      (∀ (i : Nat) x u, as0[i]? = some x → us[i]? = some u → VR w σ F (below A) x u) →
      ∃ d, (Deferred.ofValue fv us).run P w = .ok d w ∧ CallTo P (CallEnd (hget A) (below A) σ F w A' (below A') r) ((invoke d.target d.args).run P w)

theorem uponIn_of_callTo {rnd : Option Nat} {R : Ending → World → Prop} {o : Oper} {a : Act} {next : Act → World → Prop} {Q : Exit → Act → World → Prop} {res : Result Next} (h : CallTo P R res)
    (hn : ∀ u w', R (.returned u) w' → next (a.put o.dst u) w') (hp : ∀ ch w', R (.panicked ch) w' → Q (.panic ch) a w') (ho : ∀ w', ¬ R .outgrown w') : o.uponIn (fen rnd) 0 P a next Q res := by
  cases res with
  | halt h w' => exact h.elim
  | ok nx w' =>
    cases nx <;> try exact h.elim
    · rename_i f args
      rw [Oper.uponIn_enter]
      refine ⟨by simp [fen, Fence.wide], ?_⟩
      have h2 : CallsIn Fence.wide (0 - 1) P f args w' R := callsIn_wide.2 h
      refine CallsIn.mono (F := fen rnd) (n := 0 - 1) h2 (fun e w2 hR => ?_)
      cases e with
      | returned u => exact hn u w2 hR
      | panicked ch => exact hp ch w2 hR
      | outgrown => exact (ho w2 hR).elim
    · rename_i l f tmps assign body
      rw [Oper.uponIn_round]
      refine ⟨by simp [fen, Fence.wide], ?_⟩
      refine RoundIn.mono (F := fen rnd) (n := 0 - 1) h (fun e w2 hR => ?_)
      cases e with
      | returned u => exact hn u w2 hR
      | panicked ch => exact hp ch w2 hR
      | outgrown => exact (ho w2 hR).elim

theorem CallEnd.not_outgrown {A' : Heap} {r : CRes} : ¬ CallEnd H D σ F w A' D' r .outgrown w' := by
  rintro ⟨σ', F', _, h⟩
  cases r <;> obtain ⟨u, h, _⟩ := h <;> cases h

/-- Guards mean the same. -/
theorem guarded_sound {R : Regs} {ops : Array Oper} {o : Oper} {tmps : Array Value} (h : RR w σ F D R tmps) :
    guarded R (o.guard.map fun (j, w) => ((ops[j]?).bind (·.dst), w)) = Region.wanted o (yielded ops tmps) := by
  unfold guarded Region.wanted
  cases hg : o.guard with
  | none => rfl
  | some p =>
    obtain ⟨j, want⟩ := p
    simp only [Option.map_some]
    unfold yielded
    cases hd : (ops[j]?).bind (·.dst) with
    | none => simp
    | some t =>
      simp only [Option.bind_some]
      by_cases ht : t < R.length
      · have h2 : t < tmps.size := by rw [h.size]; exact ht
        have hv := h.val t R[t] tmps[t] (by simp [ht]) (by simp [h2])
        have e1 : rget R t = R[t] := by simp [rget, ht]
        have e2 : tmps[t]? = some tmps[t] := by simp [h2]
        rw [e1, e2]
        generalize R[t] = q at hv
        generalize tmps[t] = uq at hv
        cases hv <;> simp
      · have h2 : ¬ t < tmps.size := by rw [h.size]; exact ht
        have e1 : rget R t = undefA := by simp [rget, List.getD, ht]
        have e2 : tmps[t]? = none := Array.getElem?_eq_none (Nat.le_of_not_lt h2)
        rw [e1, e2]
        simp [undefA]

end Go.Abs

/- Lists of operations. -/
namespace Go.Abs

variable {H H' : Nat → Blk} {D D' : Nat → Prop} {σ σ' : Sig} {F F' : Nat → Prop} {w w' : World} {v x y z : AV} {u ux uy : Value} {P : Program} {A A' : Heap} {gl : List Nat} {E : Env} {Λ : List LoopInfo} {R R' : Regs} {a a' : Act} {lo : Nat}

theorem hget_hset (A : Heap) (i : Nat) (b : Blk) (j : Nat) : hget (hset A i b) j = upd1 (hget A) i b j := by
  unfold hset hget upd1
  split
  · rename_i h
    by_cases e : j = i
    · subst e; simp [List.getD, h]
    · rw [if_neg e]; simp [List.getD, List.getElem?_set_ne (Ne.symm e)]
  · rename_i h
    by_cases e : j = i
    · subst e
      rw [if_pos rfl]
      simp only [List.getD]
      rw [List.append_assoc, List.getElem?_append_right (by omega), List.getElem?_append_right (by simp)]
      simp
    · rw [if_neg e]
      simp only [List.getD]
      by_cases h1 : j < A.length
      · rw [List.append_assoc, List.getElem?_append_left h1]
      · rw [List.append_assoc, List.getElem?_append_right (by omega), List.getElem?_eq_none (l := A) (by omega)]
        by_cases h2 : j - A.length < i - A.length
        · rw [List.getElem?_append_left (by simpa using h2), List.getElem?_replicate, if_pos h2]; rfl
        · rw [List.getElem?_append_right (by simp; omega), List.getElem?_eq_none (by simp; omega)]

theorem hset_length (A : Heap) (i : Nat) (b : Blk) : A.length ≤ (hset A i b).length ∧ i < (hset A i b).length := by
  unfold hset
  split
  · simp; assumption
  · simp; omega

theorem hget_putAll : ∀ (l : List (Nat × Blk)) (A : Heap) (j : Nat), hget (putAll A l) j = updAll (hget A) l j
  | [], _, _ => rfl
  | (i, b) :: l, A, j => by
    have e : hget (hset A i b) = upd1 (hget A) i b := funext fun j => hget_hset A i b j
    simp only [putAll, updAll]
    rw [hget_putAll l, e]

theorem putAll_length : ∀ (l : List (Nat × Blk)) (A : Heap), A.length ≤ (putAll A l).length ∧ ∀ p ∈ l, p.1 < (putAll A l).length
  | [], A => ⟨Nat.le_refl _, by simp⟩
  | (i, b) :: l, A => by
    obtain ⟨h1, h2⟩ := putAll_length l (hset A i b)
    obtain ⟨h3, h4⟩ := hset_length A i b
    refine ⟨Nat.le_trans h3 h1, fun p hp => ?_⟩
    rcases List.mem_cons.1 hp with rfl | hp
    · exact Nat.lt_of_lt_of_le h4 h1
    · exact h2 p hp

theorem hget_dead {i : Nat} (h : A.length ≤ i) : hget A i = .dead := by
  simp [hget, List.getD, List.getElem?_eq_none h]

/-- What is known of a frame where code is walked. -/
structure Here (P : Program) (E : Env) (gl : List Nat) (Λ : List LoopInfo) (lo : Nat) (H : Nat → Blk) (D : Nat → Prop) (σ : Sig) (F : Nat → Prop) (w : World) (R : Regs) (a : Act) : Prop where
  ctx : Ctx P E gl Λ H D σ F w
  regs : RR w σ F D R a.tmps
  marks : Marked lo H σ F w a.defers

theorem Here.step (h : Here P E gl Λ lo H D σ F w R a) (hs : Step H D σ F w H' D' σ' F' w') : Here P E gl Λ lo H' D' σ' F' w' R a :=
  ⟨h.ctx.step hs, h.regs.carry h.ctx.rel hs, h.marks.step hs⟩

theorem Here.put (h : Here P E gl Λ lo H D σ F w R a) (d : Option Nat) (hv : VR w σ F D v u) : Here P E gl Λ lo H D σ F w (rput R d v) (a.put d u) :=
  ⟨h.ctx, h.regs.put d hv, by cases d <;> exact h.marks⟩

/-- What the environment says is so. -/
structure EnvOk (P : Program) (E : Env) (gl : List Nat) : Prop where
  mixed : P.follows .mixedOrders = true
  fns : ∀ g F, E.fns g = some F → compFun P gl g = some F ∧ ∀ fn, P.funcs[g]? = some fn → (fn.name == "runtime.NumGoroutine") = false
  intr : ∀ g h, E.intr g = some h → ∀ (as0 : List AV) (A : Heap) (v : AV) (A' : Heap), h as0 A = some (v, A') → ∀ (σ : Sig) (F : Nat → Prop) (w : World) (us : Array Value), Rel (hget A) (below A) w σ F → GlobOk E gl w F → us.size = as0.length →
    (∀ (i : Nat) x u, as0[i]? = some x → us[i]? = some u → VR w σ F (below A) x u) → CallTo P (CallEnd (hget A) (below A) σ F w A' (below A') (.ret v)) ((callFunc g us).run P w)
  mtab : ∀ t m p, E.mtab t m = some p → mtabOf P t m = some p
  easy : ∀ g (as0 : List AV) (v : AV), E.easy g as0 = some v → ∀ (A : Heap) (σ : Sig) (F : Nat → Prop) (w : World) (us : Array Value), Rel (hget A) (below A) w σ F → us.size = as0.length →
    (∀ (i : Nat) x u, as0[i]? = some x → us[i]? = some u → VR w σ F (below A) x u) → CallTo P (CallEnd (hget A) (below A) σ F w A (below A) (.ret v)) ((callFunc g us).run P w)

theorem compOper_spec {ops : Array Oper} {o : Oper} {io : IOper} (h : compOper P gl ops o = some io) :
    io.dst = o.dst ∧ io.guard = (o.guard.map fun (j, w) => ((ops[j]?).bind (·.dst), w)) ∧ compOp P gl o = some io.op := by
  simp only [compOper, Option.bind_eq_bind, Option.bind_eq_some_iff, Option.some.injEq] at h
  obtain ⟨z, h1, rfl⟩ := h
  exact ⟨rfl, rfl, h1⟩

theorem compOp_defer {o : Oper} {io : IOp} (h : compOp P gl o = some io) (c : Call) : o.op ≠ .defer c := by
  intro e; simp [compOp, e] at h

theorem compCall_call {c : Call} {f : Arg} {l : List Arg} (h : compCall P gl c = some (.call f l)) : ∃ g, c.callee = .value g ∧ argC gl g = some f ∧ c.args.toList.mapM (argC gl) = some l := by
  simp only [compCall, Option.bind_eq_bind, Option.bind_eq_some_iff] at h
  obtain ⟨as0, h1, h⟩ := h
  split at h
  · rename_i g hc
    simp only [Option.bind_eq_some_iff, Option.some.injEq] at h
    obtain ⟨y, h2, h3⟩ := h
    cases h3
    exact ⟨g, hc, h2, h1⟩
  · simp only [Option.bind_eq_some_iff, Option.some.injEq] at h
    obtain ⟨_, _, h⟩ := h
    cases h
  · exfalso
    repeat' (first | (cases h; done) | (obtain ⟨_, _, h⟩ := h) | (split at h) | (simp only [Option.bind_eq_some_iff, Option.some.injEq, reduceCtorEq, and_false, exists_false] at h))

theorem compCall_invoke {c : Call} {f : Arg} {m : String} {l : List Arg} (h : compCall P gl c = some (.invoke f m l)) : ∃ g, c.callee = .invoke g m ∧ argC gl g = some f ∧ c.args.toList.mapM (argC gl) = some l := by
  simp only [compCall, Option.bind_eq_bind, Option.bind_eq_some_iff] at h
  obtain ⟨as0, h1, h⟩ := h
  split at h
  · simp only [Option.bind_eq_some_iff, Option.some.injEq] at h
    obtain ⟨_, _, h⟩ := h
    cases h
  · rename_i g m' hc
    simp only [Option.bind_eq_some_iff, Option.some.injEq] at h
    obtain ⟨y, h2, h3⟩ := h
    cases h3
    exact ⟨g, hc, h2, h1⟩
  · exfalso
    repeat' (first | (cases h; done) | (obtain ⟨_, _, h⟩ := h) | (split at h) | (simp only [Option.bind_eq_some_iff, Option.some.injEq, reduceCtorEq, and_false, exists_false] at h))

theorem compOp_call {o : Oper} {io : IOp} (h : compOp P gl o = some io) (hio : (∃ f l, io = .call f l) ∨ (∃ f m l, io = .invoke f m l)) : ∃ c, o.op = .call c ∧ compCall P gl c = some io := by
  unfold compOp at h
  cases ho : o.op <;> rw [ho] at h <;> simp only [Option.bind_eq_bind, Option.bind_eq_some_iff, Option.some.injEq, reduceCtorEq] at h
  case call c => exact ⟨c, rfl, h⟩
  all_goals
    exfalso
    repeat' (first | (cases h; done) | (subst h; rcases hio with ⟨_, _, h⟩ | ⟨_, _, _, h⟩ <;> cases h; done) | (obtain ⟨_, _, h⟩ := h) | (split at h) | (simp only [Option.bind_eq_some_iff, Option.some.injEq] at h))
    all_goals (rcases hio with ⟨_, _, h⟩ | ⟨_, _, _, h⟩ <;> cases h)

theorem compOp_panic {o : Oper} {x : Arg} (h : compOp P gl o = some (.panic x)) : ∃ q, o.op = .panic q ∧ argC gl q = some x := by
  unfold compOp at h
  cases ho : o.op <;> rw [ho] at h <;> simp only [Option.bind_eq_bind, Option.bind_eq_some_iff, Option.some.injEq, reduceCtorEq] at h
  case panic q => obtain ⟨y, h1, h2⟩ := h; cases h2; exact ⟨q, rfl, h1⟩
  all_goals
    exfalso
    repeat' (first | (cases h; done) | (obtain ⟨_, _, h⟩ := h) | (split at h) | (simp only [compCall, Option.bind_eq_bind, Option.bind_eq_some_iff, Option.some.injEq, reduceCtorEq, and_false, exists_false] at h))

/-- One operation that does not call. -/
theorem plain_op {o : Oper} {io : IOp} {out : Out} (h : Here P E gl Λ lo (hget A) (below A) σ F w R a) (hc : compOp P gl o = some io) (he : evOp E R A A.length io = some out) :
    ∃ nx r w', (execOp a.eval o).run P w = .ok nx w' ∧ (nx = .value r ∨ (nx = .skip ∧ r = Go.undef)) ∧
      ∃ σ' F', VR w' σ' F' (below (applyOut A out)) out.v r ∧ Step (hget A) (below A) σ F w (hget (applyOut A out)) (below (applyOut A out)) σ' F' w' := by
  have hl := putAll_length (out.wr ++ out.new.toList.map fun b => (A.length, b)) A
  have hd := evOp_sound (D' := below (applyOut A out)) h.ctx.rel (fun id hid => Nat.lt_of_lt_of_le hid hl.1) (fun _ => rfl) h.regs h.ctx.glob hc he (fun hnew => by
    refine ⟨hget_dead (Nat.le_refl _), ?_, Nat.lt_irrefl _⟩
    obtain ⟨b, hb⟩ := Option.isSome_iff_exists.1 hnew
    exact hl.2 (A.length, b) (by simp [hb]))
  obtain ⟨nx, r, w', h1, h2, σ', F', h3, h4⟩ := hd
  refine ⟨nx, r, w', h1, h2, σ', F', h3, ?_⟩
  have e : updAll (hget A) (out.wr ++ out.new.toList.map fun b => (A.length, b)) = hget (applyOut A out) := funext fun j => (hget_putAll _ _ j).symm
  rw [e] at h4
  exact h4

/-- What is asked behind operations, by the evaluator's answer. -/
def Meets (P : Program) (E : Env) (gl : List Nat) (Λ : List LoopInfo) (lo : Nat) (A : Heap) (σ : Sig) (F : Nat → Prop) (w : World) (K : Act → World → Prop) (Q : Exit → Act → World → Prop) : OR → Prop
  | .next R' A' => ∀ σ' F' a' w', Step (hget A) (below A) σ F w (hget A') (below A') σ' F' w' → Here P E gl Λ lo (hget A') (below A') σ' F' w' R' a' → K a' w'
  | .panic v R' A' => ∀ σ' F' a' w' u, Step (hget A) (below A) σ F w (hget A') (below A') σ' F' w' → Here P E gl Λ lo (hget A') (below A') σ' F' w' R' a' → VR w' σ' F' (below A') v u → Q (.panic [{ v := u, recovered := false }]) a' w'

theorem argsA_sound (h : Here P E gl Λ lo H D σ F w R a) {xs : List Operand} {ys : List Arg} (hm : xs.mapM (argC gl) = some ys) :
    (xs.toArray.map a.eval).size = (args E R ys).length ∧ ∀ (i : Nat) x u, (args E R ys)[i]? = some x → (xs.toArray.map a.eval)[i]? = some u → VR w σ F D x u := by
  obtain ⟨h1, h2⟩ := mapM_some hm
  refine ⟨by simp [args, h1], fun i x u hx hu => ?_⟩
  simp only [args, List.getElem?_map, Option.map_eq_some_iff] at hx
  obtain ⟨y, hy, rfl⟩ := hx
  simp only [Array.getElem?_map, List.getElem?_toArray, Option.map_eq_some_iff] at hu
  obtain ⟨q, hq, rfl⟩ := hu
  exact arg_sound h.regs h.ctx.glob (h2 i q y hq hy)

def orOf (R : Regs) (d : Option Nat) (A' : Heap) : CRes → OR
  | .ret v => .next (rput R d v) A'
  | .panic v => .panic v R A'

/-- A call's operation, from what is known of the call. -/
theorem call_op {K : Act → World → Prop} {Q : Exit → Act → World → Prop} {o : Oper} {rnd : Option Nat} {r : CRes} (h : Here P E gl Λ lo (hget A) (below A) σ F w R a)
    (hct : CallTo P (CallEnd (hget A) (below A) σ F w A' (below A') r) ((execOp a.eval o).run P w)) (hnd : ∀ c, o.op ≠ .defer c)
    (hm : Meets P E gl Λ lo A σ F w K Q (orOf R o.dst A' r)) : o.wpIn (fen rnd) 0 P a w K Q := by
  refine ⟨fun _ _ => trivial, ?_⟩
  rw [Oper.semAt_eq _ _ _ hnd]
  refine uponIn_of_callTo hct (fun u w' hR => ?_) (fun ch w' hR => ?_) (fun w' hR => hR.not_outgrown)
  · obtain ⟨σ', F', hs, hr⟩ := hR
    cases r with
    | ret v =>
      obtain ⟨u', he, hv⟩ := hr
      cases he
      exact hm σ' F' _ w' hs ((h.step hs).put o.dst hv)
    | panic v => obtain ⟨u', he, hv⟩ := hr; cases he
  · obtain ⟨σ', F', hs, hr⟩ := hR
    cases r with
    | ret v => obtain ⟨u', he, hv⟩ := hr; cases he
    | panic v =>
      obtain ⟨u', he, hv⟩ := hr
      cases he
      exact hm σ' F' _ w' u' hs (h.step hs) hv

theorem run_method {t : TypeId} {name : String} {f : FuncId} {b : Bool} {k : Nat} {v : Value} (hm : mtabOf P t name = some (f, b)) : (method (k + 1) t v name).run P w = .ok (f, v) w := by
  simp only [mtabOf, Option.bind_eq_bind, Option.bind_eq_some_iff] at hm
  obtain ⟨i, h1, m, h2, h3⟩ := hm
  split at h3
  · simp at h3
  rename_i hp
  simp only [Option.bind_eq_some_iff] at h3
  obtain ⟨⟨f', p⟩, h4, d, h5, h6⟩ := h3
  have hp2 : m.path = #[] := by simpa using hp
  unfold method
  have h7 : (typeInfo t).run P w = .ok i w := by simp [typeInfo, program, Sem.run, h1]
  simp only [Sem.run_bind, h7, Result.andThen_ok, h2, hp2, follow, Sem.run_pure, h4]
  cases p with
  | true =>
    cases d <;> simp at h6
    obtain ⟨rfl, rfl⟩ := h6
    simp [receiverAt, run_underlying h5, Place.get]
  | false =>
    cases d <;> simp at h6 <;> obtain ⟨rfl, rfl⟩ := h6 <;> simp [receiverAt, run_underlying h5, Place.get]

theorem run_callMethod {t : TypeId} {name : String} {f : FuncId} {b : Bool} {v : Value} {us : Array Value} (hm : mtabOf P t name = some (f, b)) :
    (callMethod (.iface t v) name us).run P w = (callFunc f (#[v] ++ us)).run P w := by
  obtain ⟨k, hk⟩ : ∃ k, P.types.size + Made.depth = k + 1 := ⟨P.types.size + Made.depth - 1, by unfold Made.depth; omega⟩
  simp only [callMethod, Sem.run_bind]
  have h1 : (program).run P w = .ok P w := rfl
  rw [h1]
  simp only [Result.andThen_ok, hk, run_method hm]

theorem oper_sound {call : CallF} (hE : EnvOk P E gl) (hcall : CallOk P E gl Λ call) {ops : Array Oper} {i : Nat} {o : Oper} {io : IOper} {rnd : Option Nat} {K : Act → World → Prop} {Q : Exit → Act → World → Prop} {r : OR}
    (ho : ops[i]? = some o) (hc : compOper P gl ops o = some io) (h : Here P E gl Λ lo (hget A) (below A) σ F w R a) (he : evOps E call [io] R A = some r) (hm : Meets P E gl Λ lo A σ F w K Q r) :
    wpOpIn (fen rnd) 0 P ops Q i K a w := by
  obtain ⟨hd, hg, hc⟩ := compOper_spec hc
  have hgu := guarded_sound (ops := ops) (o := o) h.regs
  rw [← hg] at hgu
  unfold wpOpIn
  rw [ho]
  simp only
  rw [← hgu]
  have hnd := compOp_defer hc
  by_cases hgd : guarded R io.guard = true
  · rw [if_pos hgd]
    have plain : ∀ (out : Out), evOp E R A A.length io.op = some out → r = .next (rput R io.dst out.v) (applyOut A out) → o.wpIn (fen rnd) 0 P a w K Q := by
      rintro out he2 rfl
      obtain ⟨nx, rv, w', h1, h2, σ', F', h3, h4⟩ := plain_op h hc he2
      refine ⟨fun _ _ => trivial, ?_⟩
      rw [Oper.semAt_eq _ _ _ hnd, h1]
      have hK := hm σ' F' _ w' h4 ((h.step h4).put io.dst h3)
      rw [hd] at hK
      rcases h2 with rfl | ⟨rfl, rfl⟩
      · exact hK
      · exact hK
    have callRes : ∀ (r' : CRes) (A' : Heap), CallTo P (CallEnd (hget A) (below A) σ F w A' (below A') r') ((execOp a.eval o).run P w) →
        r = orOf R io.dst A' r' → o.wpIn (fen rnd) 0 P a w K Q := by
      rintro r' A' h1 rfl
      rw [hd] at hm
      exact call_op h h1 hnd hm
    simp only [evOps, hgd, if_true] at he
    split at he
    · -- panic
      rename_i x hop
      split at he <;> (try (simp at he; done))
      rename_i t v hx
      simp at he; subst he
      have hop2 : ∃ q, o.op = .panic q ∧ argC gl q = some x := by
        rw [hop] at hc
        exact compOp_panic hc
      obtain ⟨q, hq, hqc⟩ := hop2
      have hv := arg_sound h.regs h.ctx.glob (E := E) hqc
      rw [hx] at hv
      refine ⟨fun _ _ => trivial, ?_⟩
      rw [Oper.semAt_eq _ _ _ hnd]
      have hvv := hv
      generalize hu : a.eval q = uq at hv
      cases hv with
      | iface _ _ u hv =>
      have : (execOp a.eval o).run P w = .halt (.panic (.iface t u)) w := by
        simp [execOp, hq, hu, Instr.panic, goPanic, Sem.run]
      rw [this]
      rw [hu] at hvv
      exact hm σ F a w _ (Step.refl h.ctx.rel) h hvv
    · -- a call
      rename_i f l hop
      obtain ⟨c, hoc, hcc⟩ := compOp_call hc (.inl ⟨f, l, hop⟩)
      rw [hop] at hcc
      obtain ⟨g, c1, c2, c3⟩ := compCall_call hcc
      have key : ∀ (r' : CRes) (A' : Heap), call (arg E R f) (args E R l) A = some (r', A') → CallTo P (CallEnd (hget A) (below A) σ F w A' (below A') r') ((execOp a.eval o).run P w) := by
        intro r' A' h1
        obtain ⟨s1, s2⟩ := argsA_sound h c3
        obtain ⟨d, d1, d2⟩ := hcall _ _ _ _ _ h1 σ F w (a.eval g) (c.args.map a.eval) h.ctx (arg_sound h.regs h.ctx.glob c2) (by simpa using s1) (by simpa using s2)
        have : (execOp a.eval o).run P w = (invoke d.target d.args).run P w := by
          simp [execOp, hoc, resolve, c1, d1]
        rw [this]; exact d2
      split at he <;> (try (simp at he; done))
      · rename_i v A' h1
        exact callRes _ _ (key _ _ h1) (by simpa [orOf] using he.symm)
      · rename_i v A' h1
        exact callRes _ _ (key _ _ h1) (by simpa [orOf] using he.symm)
    · -- a method behind an interface
      rename_i x m l hop
      obtain ⟨c, hoc, hcc⟩ := compOp_call hc (.inr ⟨x, m, l, hop⟩)
      rw [hop] at hcc
      obtain ⟨g, c1, c2, c3⟩ := compCall_invoke hcc
      have key : ∀ (f : AV) (as0 : List AV) (r' : CRes) (A' : Heap), callee E R (.invoke x m l) = some (f, as0) → call f as0 A = some (r', A') → CallTo P (CallEnd (hget A) (below A) σ F w A' (below A') r') ((execOp a.eval o).run P w) := by
        intro f as0 r' A' h0 h1
        simp only [callee] at h0
        split at h0 <;> (try (simp at h0; done))
        rename_i t v hx
        split at h0 <;> (try (simp at h0; done))
        rename_i f' b hmt
        simp at h0
        obtain ⟨rfl, rfl⟩ := h0
        obtain ⟨s1, s2⟩ := argsA_sound h c3
        have hv := arg_sound h.regs h.ctx.glob (E := E) c2
        rw [hx] at hv
        generalize hu : a.eval g = ug at hv
        cases hv with
        | iface _ _ u hv =>
        obtain ⟨d, d1, d2⟩ := hcall _ _ _ _ _ h1 σ F w (.func (.func f') #[u] #[]) (c.args.map a.eval) h.ctx
          (.func (.func f') [v] [] #[u] #[] rfl rfl (fun i p q hp hq => by cases i <;> simp at hp hq; subst hp; subst hq; exact hv) (fun i p q hp => by simp at hp)) (by simpa using s1) (by simpa using s2)
        simp [Deferred.ofValue] at d1
        subst d1
        have e1 : (execOp a.eval o).run P w = (callFunc f' (#[u] ++ c.args.map a.eval)).run P w := by
          rw [← run_callMethod (hE.mtab _ _ _ hmt)]
          have e4 : (#[Value.iface t u] ++ Array.map a.eval c.args)[0]? = some (Value.iface t u) := by rw [Array.getElem?_append_left (by simp)]; rfl
          have e5 : (Array.map a.eval c.args).extract 0 c.args.size = Array.map a.eval c.args := by
            have : c.args.size = (Array.map a.eval c.args).size := by simp
            rw [this, Array.extract_size]
          simp [execOp, hoc, resolve, c1, hu, invoke, e4, e5]
        rw [e1]
        have e3 : (invoke (.fn (.func f') #[]) (#[u] ++ c.args.map a.eval)).run P w = (callFunc f' (#[u] ++ c.args.map a.eval)).run P w := by simp [invoke]
        rw [← e3]; exact d2
      split at he <;> (try (simp at he; done))
      rename_i f as0 h0
      split at he <;> (try (simp at he; done))
      · rename_i v A' h1
        exact callRes _ _ (key _ _ _ _ h0 h1) (by simpa [orOf] using he.symm)
      · rename_i v A' h1
        exact callRes _ _ (key _ _ _ _ h0 h1) (by simpa [orOf] using he.symm)
    · -- any other
      split at he <;> (try (simp at he; done))
      rename_i out he2
      exact plain out he2 (by simpa using he.symm)
  · have hgd2 : guarded R io.guard = false := by simpa using hgd
    rw [if_neg hgd]
    simp only [evOps, hgd2, Bool.false_eq_true, if_false, Option.some.injEq] at he
    subst he
    refine ⟨fun _ _ => trivial, ?_⟩
    have := hm σ F _ w (Step.refl h.ctx.rel) (h.put io.dst VR.undef)
    rw [hd] at this
    exact this

end Go.Abs

/- Regions whose order is fixed. -/
namespace Go.Abs

variable {H H' : Nat → Blk} {D D' : Nat → Prop} {σ σ' : Sig} {F F' : Nat → Prop} {w w' : World} {v x y z : AV} {u ux uy : Value} {P : Program} {A A' : Heap} {gl : List Nat} {E : Env} {Λ : List LoopInfo} {R R' : Regs} {a a' : Act} {lo : Nat}

theorem evOps_cons (call : CallF) (io : IOper) (rest : List IOper) (R : Regs) (A : Heap) :
    evOps E call (io :: rest) R A = match evOps E call [io] R A with
      | some (.next R' A') => evOps E call rest R' A'
      | r => r := by
  simp only [evOps]
  split
  · split
    · split <;> rfl
    · split <;> rfl
    · split
      · split <;> rfl
      · rfl
    · split <;> rfl
  · rfl

theorem Meets.trans {K : Act → World → Prop} {Q : Exit → Act → World → Prop} {r : OR} {σ' : Sig} {F' : Nat → Prop} {w' : World} (hs : Step (hget A) (below A) σ F w (hget A') (below A') σ' F' w') (h : Meets P E gl Λ lo A σ F w K Q r) : Meets P E gl Λ lo A' σ' F' w' K Q r := by
  cases r with
  | next R2 A2 => exact fun σ2 F2 a2 w2 hs2 hh => h σ2 F2 a2 w2 (hs.trans hs2) hh
  | panic v R2 A2 => exact fun σ2 F2 a2 w2 u2 hs2 hh hv => h σ2 F2 a2 w2 u2 (hs.trans hs2) hh hv

theorem evOps_sound {call : CallF} (hE : EnvOk P E gl) (hcall : CallOk P E gl Λ call) {ops : Array Oper} {rnd : Option Nat} {Q : Exit → Act → World → Prop} {r : OR} :
    ∀ (ios : List IOper) (is : List Nat) (R : Regs) (A : Heap) (a : Act) (w : World) (σ : Sig) (F : Nat → Prop), is.length = ios.length →
      (∀ (k : Nat) (i : Nat) (io : IOper), is[k]? = some i → ios[k]? = some io → ∃ o, ops[i]? = some o ∧ compOper P gl ops o = some io) →
      Here P E gl Λ lo (hget A) (below A) σ F w R a → evOps E call ios R A = some r → Meets P E gl Λ lo A σ F w (Q .normal) Q r → wpOpsIn (fen rnd) 0 P ops Q is a w
  | [], is, R, A, a, w, σ, F, hl, _, h, he, hm => by
    obtain rfl : is = [] := List.eq_nil_of_length_eq_zero (by simpa using hl)
    simp only [evOps, Option.some.injEq] at he
    subst he
    exact hm σ F a w (Step.refl h.ctx.rel) h
  | io :: ios, is, R, A, a, w, σ, F, hl, hc, h, he, hm => by
    obtain ⟨i, is, rfl⟩ : ∃ i is', is = i :: is' := by cases is with
      | nil => simp at hl
      | cons i is => exact ⟨i, is, rfl⟩
    obtain ⟨o, ho, hco⟩ := hc 0 i io rfl rfl
    rw [wpOpsIn_cons]
    rw [evOps_cons] at he
    have hrest : ∀ (k : Nat) (i : Nat) (io : IOper), is[k]? = some i → ios[k]? = some io → ∃ o, ops[i]? = some o ∧ compOper P gl ops o = some io := fun k i io h1 h2 => hc (k + 1) i io (by simpa using h1) (by simpa using h2)
    cases hh : evOps E call [io] R A with
    | none => rw [hh] at he; simp at he
    | some r' =>
      rw [hh] at he
      cases r' with
      | next R' A' =>
        refine oper_sound hE hcall ho hco h hh (fun σ' F' a' w' hs hh' => ?_)
        exact evOps_sound hE hcall ios is R' A' a' w' σ' F' (by simpa using hl) hrest hh' he (hm.trans hs)
      | panic v R' A' =>
        simp only [Option.some.injEq] at he
        subst he
        exact oper_sound hE hcall ho hco h hh hm

theorem region_sound {call : CallF} (hE : EnvOk P E gl) (hcall : CallOk P E gl Λ call) {ops : Array Oper} {rnd : Option Nat} {id : Nat} {Q : Exit → Act → World → Prop} {r : OR} {ios : List IOper}
    (hc : ops.toList.mapM (compOper P gl ops) = some ios) (h : Here P E gl Λ lo (hget A) (below A) σ F w R a) (he : evOps E call ios R A = some r) (hm : Meets P E gl Λ lo A σ F w (Q .normal) Q r) :
    (Code.region id ops false).wpIn (fen rnd) 0 P Q a w := by
  obtain ⟨h1, h2⟩ := mapM_some hc
  refine wpIn_region (evOps_sound hE hcall ios _ R A a w σ F (by simp [h1]) (fun k i io hk hio => ?_) h he hm)
  rw [List.getElem?_range] at hk
  · simp only [Option.some.injEq] at hk; subst hk
    have hlt : k < ops.size := by have := (List.getElem?_eq_some_iff.1 hio).1; simpa [h1] using this
    refine ⟨ops[k], by simp [hlt], h2 k ops[k] io (by simp [hlt]) hio⟩
  · have := (List.getElem?_eq_some_iff.1 hk).1; simpa using this

end Go.Abs

/- Equality as it is computed; what is left behind a call. -/
namespace Go.Abs

variable {H H' : Nat → Blk} {D D' : Nat → Prop} {σ σ' : Sig} {F F' : Nat → Prop} {w w' : World} {v x y z : AV} {u ux uy : Value} {P : Program} {A A' : Heap} {gl : List Nat} {E : Env} {Λ : List LoopInfo} {R R' : Regs} {a a' : Act}

mutual
theorem AV.beq_eq : ∀ (a b : AV), AV.beq a b = true → a = b
  | .frz xs c, b, h => by
    cases b <;> simp [AV.beq] at h
    rename_i ys d
    rw [AV.beqs_eq xs ys (by simp_all)]; simp_all
  | .fp xs i o, b, h => by
    cases b <;> simp [AV.beq] at h
    rename_i ys i' o'
    rw [AV.beqs_eq xs ys (by simp_all)]; simp_all
  | .func f p q, b, h => by
    cases b <;> simp [AV.beq] at h
    rename_i f' p' q'
    rw [AV.beqs_eq p p' (by simp_all), AV.beqs_eq q q' (by simp_all)]; simp_all
  | .iface t x, b, h => by
    cases b <;> simp [AV.beq] at h
    rename_i t' x'
    rw [AV.beq_eq x x' (by simp_all)]; simp_all
  | .agg xs, b, h => by
    cases b <;> simp [AV.beq] at h
    rename_i ys
    rw [AV.beqs_eq xs ys (by simp_all)]
  | .tuple xs, b, h => by
    cases b <;> simp [AV.beq] at h
    rename_i ys
    rw [AV.beqs_eq xs ys (by simp_all)]
  | .bool _, b, h => by cases b <;> simp_all [AV.beq]
  | .int _ _, b, h => by cases b <;> simp_all [AV.beq]
  | .str _, b, h => by cases b <;> simp_all [AV.beq]
  | .own _ _ _ _, b, h => by cases b <;> simp_all [AV.beq]
  | .nilp, b, h => by cases b <;> simp_all [AV.beq]
  | .ptr _ _ _, b, h => by cases b <;> simp_all [AV.beq]
  | .map _, b, h => by cases b <;> simp_all [AV.beq]
  | .nilm, b, h => by cases b <;> simp_all [AV.beq]
  | .yld _, b, h => by cases b <;> simp_all [AV.beq]
  | .nilf, b, h => by cases b <;> simp_all [AV.beq]
  | .nili, b, h => by cases b <;> simp_all [AV.beq]
theorem AV.beqs_eq : ∀ (a b : List AV), AV.beqs a b = true → a = b
  | [], b, h => by cases b <;> simp_all [AV.beqs]
  | x :: xs, b, h => by
    cases b with
    | nil => simp [AV.beqs] at h
    | cons y ys =>
      simp only [AV.beqs, Bool.and_eq_true] at h
      rw [AV.beq_eq x y h.1, AV.beqs_eq xs ys h.2]
end

theorem pairsEq_eq : ∀ (a b : List (AV × AV)), pairsEq a b = true → a = b
  | [], b, h => by cases b <;> simp_all [pairsEq]
  | x :: xs, b, h => by
    cases b with
    | nil => simp [pairsEq] at h
    | cons y ys =>
      simp only [pairsEq, Bool.and_eq_true] at h
      obtain ⟨x1, x2⟩ := x
      obtain ⟨y1, y2⟩ := y
      rw [show x1 = y1 from AV.beq_eq _ _ h.1.1, show x2 = y2 from AV.beq_eq _ _ h.1.2, pairsEq_eq xs ys h.2]

theorem Blk.beq_eq (a b : Blk) (h : a.beq b = true) : a = b := by
  cases a <;> cases b <;> simp [Blk.beq] at h
  · rfl
  · rename_i n xs m ys
    rw [h.1, AV.beqs_eq xs ys h.2]
  · rename_i xs ys; rw [pairsEq_eq xs ys h]
  · rw [h.1, h.2]
  · rw [h.1, h.2]

theorem diff_none : ∀ (A A' : Heap) (k i : Nat), (∀ d ∈ diff k A A', d.1 ≠ k + i) → i < A'.length → hget A' i = hget A i
  | [], [], k, i, _, hi => by simp at hi
  | [], b :: B, k, i, h, hi => by
    cases i with
    | zero => exact absurd rfl (h (k, b) (by simp [diff]))
    | succ i =>
      have := diff_none [] B (k + 1) i (fun d hd => by have := h d (by simp [diff, hd]); omega) (by simpa using hi)
      simpa [hget, List.getD] using this
  | a :: A, [], k, i, _, hi => by simp at hi
  | a :: A, b :: B, k, i, h, hi => by
    have hin : ∀ d ∈ diff (k + 1) A B, d ∈ diff k (a :: A) (b :: B) := by
      intro d hd; simp only [diff]; split
      · exact hd
      · exact List.mem_cons_of_mem _ hd
    cases i with
    | zero =>
      by_cases e : a.beq b = true
      · simp [hget, List.getD, Blk.beq_eq a b e]
      · exact absurd rfl (h (k, b) (by simp [diff, e]))
    | succ i =>
      have := diff_none A B (k + 1) i (fun d hd => by have := h d (hin d hd); omega) (by simpa using hi)
      simpa [hget, List.getD] using this

theorem diff_mem : ∀ (A A' : Heap) (k : Nat), ∀ d ∈ diff k A A', k ≤ d.1 ∧ d.1 - k < A'.length ∧ hget A' (d.1 - k) = d.2
  | [], [], k, d, h => by simp [diff] at h
  | [], b :: B, k, d, h => by
    simp only [diff, List.mem_cons] at h
    rcases h with rfl | h
    · simp [hget]
    · obtain ⟨h1, h2, h3⟩ := diff_mem [] B (k + 1) d h
      refine ⟨by omega, by simp; omega, ?_⟩
      rw [show d.1 - k = (d.1 - (k + 1)) + 1 by omega]
      simpa [hget, List.getD] using h3
  | a :: A, [], k, d, h => by simp [diff] at h
  | a :: A, b :: B, k, d, h => by
    simp only [diff] at h
    have tail : d ∈ diff (k + 1) A B → k ≤ d.1 ∧ d.1 - k < (b :: B).length ∧ hget (b :: B) (d.1 - k) = d.2 := by
      intro h
      obtain ⟨h1, h2, h3⟩ := diff_mem A B (k + 1) d h
      refine ⟨by omega, by simp; omega, ?_⟩
      rw [show d.1 - k = (d.1 - (k + 1)) + 1 by omega]
      simpa [hget, List.getD] using h3
    split at h
    · exact tail h
    · rcases List.mem_cons.1 h with rfl | h
      · simp [hget]
      · exact tail h

end Go.Abs

/- What is left behind a call: frozen. -/
namespace Go.Abs

variable {H H' : Nat → Blk} {D D' : Nat → Prop} {σ σ' : Sig} {F F' F2 : Nat → Prop} {w w' : World} {v x y z : AV} {u ux uy : Value} {P : Program} {A A' : Heap} {gl : List Nat} {E : Env} {Λ : List LoopInfo} {R R' : Regs} {a a' : Act}

theorem freezeList_some {f : AV → Option AV} : ∀ {l r : List AV}, freezeList f l = some r → r.length = l.length ∧ ∀ (i : Nat) x y, l[i]? = some x → r[i]? = some y → f x = some y
  | [], r, h => by simp [freezeList] at h; subst h; exact ⟨rfl, fun i x y h => by simp at h⟩
  | q :: l, r, h => by
    simp only [freezeList] at h
    split at h <;> (try (simp at h; done))
    rename_i b s hb hs
    simp at h; subst h
    obtain ⟨h1, h2⟩ := freezeList_some hs
    refine ⟨by simp [h1], fun i x y hx hy => ?_⟩
    cases i with
    | zero => simp at hx hy; subst hx; subst hy; exact hb
    | succ i => exact h2 i x y (by simpa using hx) (by simpa using hy)

theorem freeze_shape {n k : Nat} {top : Bool} {v' : AV} (h : freeze n A k top v = some v') :
    v'.isCell = v.isCell ∧ v'.cells.length = v.cells.length ∧ ∀ (j : Nat) x x', v.cells[j]? = some x → v'.cells[j]? = some x' → ∃ m, m ≤ k ∧ freeze n A m top x = some x' := by
  have one : ∀ {v v' : AV}, freeze n A k top v = some v' → v.cells = [v] → v'.cells = [v'] → v'.isCell = v.isCell →
      v'.isCell = v.isCell ∧ v'.cells.length = v.cells.length ∧ ∀ (j : Nat) x x', v.cells[j]? = some x → v'.cells[j]? = some x' → ∃ m, m ≤ k ∧ freeze n A m top x = some x' := by
    intro v v' h h1 h2 h3
    refine ⟨h3, by rw [h1, h2]; rfl, fun j x x' hx hx' => ?_⟩
    rw [h1] at hx; rw [h2] at hx'
    cases j with
    | zero => simp at hx hx'; subst hx; subst hx'; exact ⟨k, Nat.le_refl _, h⟩
    | succ j => simp at hx
  cases k with
  | zero => simp [freeze] at h
  | succ k =>
    have h0 := h
    cases v with
    | agg cs =>
      simp only [freeze, Option.map_eq_some_iff] at h
      obtain ⟨l, hl, rfl⟩ := h
      obtain ⟨h1, h2⟩ := freezeList_some hl
      exact ⟨rfl, by simp [AV.cells, h1], fun j x x' hx hx' => ⟨k, by omega, h2 j x x' hx hx'⟩⟩
    | tuple cs =>
      simp only [freeze, Option.map_eq_some_iff] at h
      obtain ⟨l, hl, rfl⟩ := h
      exact one h0 rfl rfl rfl
    | own id off len clip =>
      simp only [freeze] at h
      split at h
      · split at h <;> simp at h; subst h; exact one h0 rfl rfl rfl
      · split at h
        · split at h <;> (try (simp at h; done))
          simp only [Option.map_eq_some_iff] at h
          obtain ⟨l, hl, rfl⟩ := h
          exact one h0 rfl rfl rfl
        · simp at h
    | ptr id i off =>
      simp only [freeze] at h
      split at h
      · split at h <;> simp at h; subst h; exact one h0 rfl rfl rfl
      · split at h
        · simp only [Option.map_eq_some_iff] at h
          obtain ⟨l, hl, rfl⟩ := h
          exact one h0 rfl rfl rfl
        · simp at h
    | func f p q =>
      simp only [freeze] at h
      split at h <;> simp at h
      subst h; exact one h0 rfl rfl rfl
    | iface t q =>
      simp only [freeze, Option.map_eq_some_iff] at h
      obtain ⟨l, hl, rfl⟩ := h
      exact one h0 rfl rfl rfl
    | map id => simp only [freeze] at h; split at h <;> simp at h; subst h; exact one h0 rfl rfl rfl
    | yld id => simp only [freeze] at h; split at h <;> simp at h; subst h; exact one h0 rfl rfl rfl
    | _ => simp [freeze] at h; subst h; exact one h0 rfl rfl rfl

/-- A value without names of its own reads whatever may be named. -/
theorem VR.free {D2 : Nat → Prop} (h : VR w σ F D v u) (hu : v.under 0 = true) (hF : ∀ b, F b → F2 b) : VR w σ F2 D2 v u :=
  ((h.lower (σ' := σ) (m := 0) hu (fun _ _ _ => rfl)).carry hF (fun _ _ => rfl) (fun _ vs _ _ h => ⟨vs, h, rfl⟩) (fun _ _ => rfl) (fun _ h => absurd h (Nat.not_lt_zero _)))

theorem freeze_sound {n : Nat} (hr : Rel (hget A) D w σ F) (hF : ∀ b, F b → F2 b) (hF2 : ∀ id, n ≤ id → (hget A id).live = true → F2 (σ.blk id)) :
    ∀ (k : Nat) (top : Bool) (v v' : AV) (u : Value), freeze n A k top v = some v' → VR w σ F D v u → VR w σ F2 (fun id => id < n) v' u ∧ (top = false → v'.under 0 = true) := by
  intro k
  induction k using Nat.strongRecOn with
  | _ k ih =>
  intro top v v' u h hv
  cases k with
  | zero => simp [freeze] at h
  | succ k =>
  -- lists of values
  have lists : ∀ (l r : List AV) (us : Array Value) (top : Bool), freezeList (freeze n A k top) l = some r → (∀ (i : Nat) x u, l[i]? = some x → us[i]? = some u → VR w σ F D x u) →
      r.length = l.length ∧ (∀ (i : Nat) x u, r[i]? = some x → us[i]? = some u → VR w σ F2 (fun id => id < n) x u) ∧ (us.size = l.length → top = false → AV.unders 0 r = true) := by
    intro l r us top hl hvs
    obtain ⟨h1, h2⟩ := freezeList_some hl
    refine ⟨h1, fun i x u hx hu => ?_, fun hs ht => ?_⟩
    · have hi : i < l.length := by rw [← h1]; exact (List.getElem?_eq_some_iff.1 hx).1
      exact (ih k (Nat.lt_succ_self _) top _ _ _ (h2 i l[i] x (by simp [hi]) hx) (hvs i l[i] u (by simp [hi]) hu)).1
    · rw [unders_iff]
      intro x hx
      obtain ⟨i, hi⟩ := List.getElem?_of_mem hx
      have hil : i < l.length := by rw [← h1]; exact (List.getElem?_eq_some_iff.1 hi).1
      exact (ih k (Nat.lt_succ_self _) top _ _ us[i] (h2 i l[i] x (by simp [hil]) hi) (hvs i l[i] us[i] (by simp [hil]) (by simp [hs, hil]))).2 ht
  -- a block's elements
  have block : ∀ (id esz : Nat) (es l : List AV) (off : Nat), hget A id = .cells esz es → (∀ (i : Nat) x', l[i]? = some x' → ∃ x, es[off + i]? = some x ∧ freeze n A k false x = some x') →
      ∃ f : Nat → Nat → Value, σ.esz id = esz ∧ (∀ e ∈ l, e.cells.length = esz) ∧ (∀ e ∈ l, e.under 0 = true) ∧ (∀ e ∈ l, ∀ x ∈ e.cells, x.isCell = true) ∧
        (∀ (i : Nat) e (j : Nat) x, l[i]? = some e → e.cells[j]? = some x → w.cell? ⟨σ.blk id, σ.base id + (off + i) * esz + j, none⟩ = some (f i j)) ∧
        (∀ (i : Nat) e (j : Nat) x, l[i]? = some e → e.cells[j]? = some x → VR w σ F2 (fun id => id < n) x (f i j)) := by
    intro id esz es l off hB hl
    have hb := hr.br id
    rw [hB] at hb
    obtain ⟨b1, b2, b3, vs, T, b4, b5⟩ := hb
    have cell : ∀ (i : Nat) e (j : Nat) x, l[i]? = some e → e.cells[j]? = some x → x.isCell = true ∧ ∃ u, vs[σ.base id + (off + i) * esz + j]? = some u ∧ VR w σ F2 (fun id => id < n) x u ∧ x.under 0 = true := by
      intro i e j x hi hj
      obtain ⟨e0, h1, h2⟩ := hl i e hi
      obtain ⟨s1, s2, s3⟩ := freeze_shape h2
      have hj0 : j < e0.cells.length := by rw [← s2]; exact (List.getElem?_eq_some_iff.1 hj).1
      obtain ⟨m, hm, h3⟩ := s3 j e0.cells[j] x (by simp [hj0]) hj
      obtain ⟨u, h4, h5⟩ := b5 (off + i) e0 j e0.cells[j] h1 (by simp [hj0])
      obtain ⟨h6, h7⟩ := ih m (by omega) false _ _ _ h3 h5
      refine ⟨?_, u, h4, h6, h7 rfl⟩
      rw [(freeze_shape h3).1]
      exact b3 e0 (List.mem_of_getElem? h1) _ (List.getElem_mem hj0)
    refine ⟨fun i j => (vs[σ.base id + (off + i) * esz + j]?).getD Go.undef, b1, fun e he => ?_, fun e he => ?_, fun e he x hx => ?_, fun i e j x hi hj => ?_, fun i e j x hi hj => ?_⟩
    · obtain ⟨i, hi⟩ := List.getElem?_of_mem he
      obtain ⟨e0, h1, h2⟩ := hl i e hi
      rw [(freeze_shape h2).2.1]; exact b2 e0 (List.mem_of_getElem? h1)
    · obtain ⟨i, hi⟩ := List.getElem?_of_mem he
      obtain ⟨e0, h1, h2⟩ := hl i e hi
      have : ∀ x ∈ e.cells, x.under 0 = true := by
        intro x hx
        obtain ⟨j, hj⟩ := List.getElem?_of_mem hx
        obtain ⟨_, u, _, _, h⟩ := cell i e j x hi hj
        exact h
      cases e with
      | agg cs => simp only [AV.under, unders_iff]; exact this
      | _ => exact this _ (by simp [AV.cells])
    · obtain ⟨i, hi⟩ := List.getElem?_of_mem he
      obtain ⟨j, hj⟩ := List.getElem?_of_mem hx
      exact (cell i e j x hi hj).1
    · obtain ⟨_, u, h1, _⟩ := cell i e j x hi hj
      rw [cell_of_heap b4]; simp only [h1, Option.getD_some]
    · obtain ⟨_, u, h1, h2, _⟩ := cell i e j x hi hj
      simp only [h1, Option.getD_some]; exact h2
  have keepv : v.under 0 = true → v' = v → VR w σ F2 (fun id => id < n) v' u ∧ (top = false → v'.under 0 = true) := by
    rintro h1 rfl; exact ⟨hv.free h1 hF, fun _ => h1⟩
  cases v with
  | own id off len clip =>
    simp only [freeze] at h
    split at h
    · rename_i hid
      split at h <;> simp at h
      rename_i ht
      subst h
      refine ⟨?_, fun h => by rw [h] at ht; cases ht⟩
      cases hv with
      | own _ _ _ cap _ a hn hc hcl ha hroom => exact .own _ _ _ cap _ a hid hc hcl ha hroom
    · rename_i hid
      split at h <;> (try (simp at h; done))
      rename_i esz es hB
      split at h <;> (try (simp at h; done))
      rename_i hle
      simp only [Option.map_eq_some_iff] at h
      obtain ⟨l, hl, rfl⟩ := h
      obtain ⟨h1, h2⟩ := freezeList_some hl
      have hll : l.length = len := by rw [h1]; simp; omega
      refine ⟨?_, fun _ => rfl⟩
      obtain ⟨f, f1, f2, f3, f4, f5, f6⟩ := block id esz es l off hB (fun i x' hx => by
        have hi : i < len := by rw [← hll]; exact (List.getElem?_eq_some_iff.1 hx).1
        refine ⟨es[off + i]'(by omega), by simp [show off + i < es.length by omega], h2 i _ x' ?_ hx⟩
        rw [List.getElem?_take_of_lt hi, List.getElem?_drop]; simp [show off + i < es.length by omega])
      cases hv with
      | own _ _ _ cap _ a hn hc hcl ha hroom =>
      by_cases hz : len = 0
      · subst hz
        obtain rfl : l = [] := List.eq_nil_of_length_eq_zero hll
        exact .frz0 clip a cap hcl
      · have ha' := ha.resolve_left (by omega)
        subst ha'
        subst hll
        rw [f1]
        refine .frz1 l clip (σ.blk id) (σ.base id + off * esz) cap esz f hc hcl (hF2 id (by omega) (by rw [hB]; rfl)) f2 f3 f4 (fun i e j x hi hj => ?_) f6
        rw [← f5 i e j x hi hj, show σ.base id + off * esz + i * esz + j = σ.base id + (off + i) * esz + j by rw [Nat.add_mul]; omega]
  | ptr id i off =>
    simp only [freeze] at h
    split at h
    · rename_i hid
      split at h <;> simp at h
      rename_i ht
      subst h
      refine ⟨?_, fun h => by rw [h] at ht; cases ht⟩
      cases hv with
      | ptr _ _ _ hn => exact .ptr _ _ _ hid
    · rename_i hid
      split at h <;> (try (simp at h; done))
      rename_i esz es hB
      simp only [Option.map_eq_some_iff] at h
      obtain ⟨l, hl, rfl⟩ := h
      obtain ⟨h1, h2⟩ := freezeList_some hl
      refine ⟨?_, fun _ => rfl⟩
      obtain ⟨f, f1, f2, f3, f4, f5, f6⟩ := block id esz es l 0 hB (fun i x' hx => by
        have hi : i < es.length := by rw [← h1]; exact (List.getElem?_eq_some_iff.1 hx).1
        exact ⟨es[i], by simp [hi], h2 i _ x' (by simp [hi]) hx⟩)
      cases hv with
      | ptr _ _ _ hn =>
      rw [f1]
      refine .fp l i off (σ.blk id) (σ.base id) esz f (hF2 id (by omega) (by rw [hB]; rfl)) f2 f3 f4 (fun i e j x hi hj => ?_) f6
      rw [← f5 i e j x hi hj, Nat.zero_add]
  | func fn p q =>
    simp only [freeze] at h
    split at h <;> simp at h
    rename_i p' q' hp hq
    subst h
    cases hv with
    | func _ _ _ us vs ha hb hav hbv =>
    obtain ⟨l1, l2, l3⟩ := lists p p' us top hp hav
    obtain ⟨m1, m2, m3⟩ := lists q q' vs top hq hbv
    exact ⟨.func _ _ _ us vs (by rw [l1, ha]) (by rw [m1, hb]) l2 m2, fun ht => by simp [AV.under, l3 ha ht, m3 hb ht]⟩
  | iface t q =>
    simp only [freeze, Option.map_eq_some_iff] at h
    obtain ⟨l, hl, rfl⟩ := h
    cases hv with
    | iface _ _ u hv =>
    obtain ⟨h1, h2⟩ := ih k (Nat.lt_succ_self _) top _ _ _ hl hv
    exact ⟨.iface _ _ _ h1, fun ht => by simpa [AV.under] using h2 ht⟩
  | agg cs =>
    simp only [freeze, Option.map_eq_some_iff] at h
    obtain ⟨l, hl, rfl⟩ := h
    cases hv with
    | agg _ us hs hcell hvs =>
    obtain ⟨l1, l2, l3⟩ := lists cs l us top hl hvs
    refine ⟨.agg _ us (by rw [l1, hs]) (fun x hx => ?_) l2, fun ht => by simpa [AV.under] using l3 hs ht⟩
    obtain ⟨i, hi⟩ := List.getElem?_of_mem hx
    have hic : i < cs.length := by rw [← l1]; exact (List.getElem?_eq_some_iff.1 hi).1
    rw [(freeze_shape ((freezeList_some hl).2 i cs[i] x (by simp [hic]) hi)).1]
    exact hcell _ (List.getElem_mem hic)
  | tuple cs =>
    simp only [freeze, Option.map_eq_some_iff] at h
    obtain ⟨l, hl, rfl⟩ := h
    cases hv with
    | tuple _ us hs hvs =>
    obtain ⟨l1, l2, l3⟩ := lists cs l us top hl hvs
    exact ⟨.tuple _ us (by rw [l1, hs]) l2, fun ht => by simpa [AV.under] using l3 hs ht⟩
  | map id =>
    simp only [freeze] at h
    split at h <;> simp at h
    rename_i hid
    subst h
    cases hv with
    | map _ hn => exact ⟨.map _ hid.1, fun ht => by rw [ht] at hid; exact absurd hid.2 (by simp)⟩
  | yld id =>
    simp only [freeze] at h
    split at h <;> simp at h
    rename_i hid
    subst h
    cases hv with
    | yld _ hn => exact ⟨.yld _ hid.1, fun ht => by rw [ht] at hid; exact absurd hid.2 (by simp)⟩
  | _ => simp [freeze] at h; exact keepv rfl h.symm

end Go.Abs

/- What is left behind a call: the memory. -/
namespace Go.Abs

variable {H H' : Nat → Blk} {D D' : Nat → Prop} {σ σ' : Sig} {F F' F2 : Nat → Prop} {w w' : World} {v x y z : AV} {u ux uy : Value} {P : Program} {A A' : Heap} {gl : List Nat} {E : Env} {Λ : List LoopInfo} {R R' : Regs} {a a' : Act}

theorem under_of_cells {m : Nat} {e : AV} (h : ∀ x ∈ e.cells, x.under m = true) : e.under m = true := by
  cases e with
  | agg cs => simp only [AV.under, unders_iff]; exact h
  | _ => exact h _ (by simp [AV.cells])

theorem BR.under {m id : Nat} {B : Blk} (h : BR w σ F D id B) (hD : ∀ id, D id → id < m) : B.under m = true := by
  cases B with
  | cells esz es =>
    obtain ⟨_, _, _, vs, T, _, h4⟩ := h
    simp only [Blk.under, unders_iff]
    intro e he
    obtain ⟨i, hi⟩ := List.getElem?_of_mem he
    refine under_of_cells fun x hx => ?_
    obtain ⟨j, hj⟩ := List.getElem?_of_mem hx
    obtain ⟨u, _, hv⟩ := h4 i e j x hi hj
    exact hv.under hD
  | map es =>
    obtain ⟨ms, clock, _, h2, h3⟩ := h
    simp only [Blk.under, List.all_eq_true, Bool.and_eq_true]
    intro e he
    obtain ⟨i, hi⟩ := List.getElem?_of_mem he
    have hlt : i < ms.size := by rw [h2]; exact (List.getElem?_eq_some_iff.1 hi).1
    obtain ⟨h4, h5⟩ := h3 i e ms[i] hi (by simp [hlt])
    exact ⟨h4.under hD, h5.under hD⟩
  | _ => rfl

theorem VR.cut {m : Nat} (h : VR w σ F D v u) (hu : v.under m = true) (hF : ∀ b, F b → F2 b) : VR w σ F2 (fun id => id < m) v u :=
  (h.lower (σ' := σ) hu (fun _ _ _ => rfl)).carry hF (fun _ _ => rfl) (fun _ vs _ _ h => ⟨vs, h, rfl⟩) (fun _ _ => rfl) (fun _ h => h)

theorem BR.cut {m id : Nat} {B : Blk} (h : BR w σ F D id B) (hu : B.under m = true) (hF : ∀ b, F b → F2 b) : BR w σ F2 (fun id => id < m) id B := by
  cases B with
  | cells esz es =>
    obtain ⟨h0, h1, h2, vs, T, h3, h4⟩ := h
    simp only [Blk.under, unders_iff] at hu
    refine ⟨h0, h1, h2, vs, T, h3, fun i e j x hi hj => ?_⟩
    obtain ⟨u, h5, hv⟩ := h4 i e j x hi hj
    exact ⟨u, h5, hv.cut (cells_under (hu e (List.mem_of_getElem? hi)) x (List.mem_of_getElem? hj)) hF⟩
  | map es =>
    obtain ⟨ms, clock, h1, h2, h3⟩ := h
    simp only [Blk.under, List.all_eq_true, Bool.and_eq_true] at hu
    refine ⟨ms, clock, h1, h2, fun i e q hi hj => ?_⟩
    obtain ⟨h4, h5⟩ := h3 i e q hi hj
    have := hu e (List.mem_of_getElem? hi)
    exact ⟨h4.cut this.1 hF, h5.cut this.2 hF⟩
  | dead => trivial
  | siter s p => exact h
  | loop r p => exact h

theorem hget_take (n : Nat) (A : Heap) (id : Nat) : hget (A.take n) id = if id < n then hget A id else .dead := by
  unfold hget
  split
  · rename_i h; simp [List.getD, List.getElem?_take_of_lt h]
  · rename_i h; simp [List.getD, List.getElem?_take, h]

/-- Behind a call. -/
theorem leave_sound {keep : Bool} (hr : Rel (hget A) (below A) w σ F) (hs : Step (hget A) (below A) σ F w (hget A') (below A') σ' F' w') (hv : VR w' σ' F' (below A') v u) :
    ∃ F2, Step (hget A) (below A) σ F w (hget (leave keep A A' v).2) (below (leave keep A A' v).2) σ' F2 w' ∧ VR w' σ' F2 (below (leave keep A A' v).2) (leave keep A A' v).1 u := by
  unfold leave
  split
  · exact ⟨F', hs, hv⟩
  split
  · rename_i v' A2 hf ht
    unfold trunc at ht
    split at ht <;> simp at ht
    rename_i hc
    subst ht
    simp only [Bool.and_eq_true, List.all_eq_true, decide_eq_true_eq] at hc
    obtain ⟨hc, hle⟩ := hc
    have hlen : (A'.take A.length).length = A.length := by simp; omega
    -- every block that stays names only what stays
    have hund : ∀ id, id < A.length → (hget A' id).under A.length = true := by
      intro id hid
      have e : hget (A'.take A.length) id = hget A' id := by rw [hget_take, if_pos hid]
      rw [← e]
      by_cases hd : ∃ d ∈ diff 0 A (A'.take A.length), d.1 = id
      · obtain ⟨d, hd, rfl⟩ := hd
        obtain ⟨_, _, h3⟩ := diff_mem _ _ _ d hd
        rw [Nat.sub_zero] at h3
        rw [h3]; exact hc d hd
      · rw [diff_none A _ 0 id (fun d hdm h => hd ⟨d, hdm, by omega⟩) (by omega)]
        exact (hr.br id).under (fun _ h => h)
    let F2 : Nat → Prop := fun b => F' b ∨ ∃ id, A.length ≤ id ∧ (hget A' id).live = true ∧ σ'.blk id = b
    have hF : ∀ b, F' b → F2 b := fun b h => .inl h
    have hF2 : ∀ id, A.length ≤ id → (hget A' id).live = true → F2 (σ'.blk id) := fun id h1 h2 => .inr ⟨id, h1, h2, rfl⟩
    have hlive : ∀ id, (hget (A'.take A.length) id).live = true → id < A.length ∧ (hget A' id).live = true := by
      intro id h
      rw [hget_take] at h
      split at h
      · exact ⟨by assumption, h⟩
      · cases h
    have hbel : below (A'.take A.length) = fun id => id < A.length := by unfold below; rw [hlen]
    refine ⟨F2, ⟨⟨fun id h => ?_, fun id => ?_, fun i j hi hj e => ?_, ?_, ?_, ?_⟩, ⟨hs.ext.size, hs.ext.same, hs.ext.cells, hs.ext.loops, fun b h => hF b (hs.ext.mono b h), ?_, hs.ext.os, hs.ext.output, hs.ext.tape⟩, hs.sig, fun id h => ?_, ?_⟩, ?_⟩
    · rw [hbel]; exact (hlive id h).1
    · rw [hbel]
      rw [hget_take]
      split
      · rename_i hid; exact (hs.rel.br id).cut (hund id hid) hF
      · trivial
    · exact hs.rel.inj i j (hlive i hi).2 (hlive j hj).2 e
    · rintro b ⟨id, h, rfl⟩; exact hs.rel.size _ ⟨id, (hlive id h).2, rfl⟩
    · rintro b (h | ⟨id, _, h, rfl⟩)
      · exact hs.rel.fsize b h
      · exact hs.rel.size _ ⟨id, h, rfl⟩
    · rintro b hb ⟨id, h, rfl⟩
      rcases hb with h1 | ⟨j, h1, h2, h3⟩
      · exact hs.rel.apart _ h1 ⟨id, (hlive id h).2, rfl⟩
      · have := hs.rel.inj j id h2 (hlive id h).2 h3
        subst this
        have := (hlive j h).1
        omega
    · rintro b (h | ⟨id, h1, h2, rfl⟩)
      · exact hs.ext.new b h
      · rcases hs.owns _ ⟨id, h2, rfl⟩ with h | h
        · exact .inr (.inr h)
        · exact .inr (.inl h)
    · rw [hbel]; exact h
    · rintro b ⟨id, h, rfl⟩
      exact hs.owns _ ⟨id, (hlive id h).2, rfl⟩
    · rw [hbel]
      exact (freeze_sound hs.rel hF hF2 64 true v v' u hf hv).1
  · exact ⟨F', hs, hv⟩

end Go.Abs

/- How a function is left. -/
namespace Go.Abs

variable {H H' H0 : Nat → Blk} {D D' D0 : Nat → Prop} {σ σ' σ0 : Sig} {F F' F0 F2 : Nat → Prop} {w w' w0 : World} {v x y z : AV} {u ux uy : Value} {P : Program} {A A' : Heap} {gl : List Nat} {E : Env} {Λ : List LoopInfo} {R R' : Regs} {a a' : Act} {lo : Nat}

/-- A mark may be taken. -/
structure Takable (lo : Nat) (H : Nat → Blk) (σ : Sig) (F : Nat → Prop) (w : World) (r : Nat) : Prop where
  old : lo ≤ r
  size : r < w.heap.size
  obj : w.heap[r]? = some (.deferred (some []))
  fr : ¬ F r
  own : ¬ Own H σ r

def taken (w : World) (r : Nat) : World := w.putObj r (.deferred none)

theorem taken_heap (w : World) (r b : Nat) (h : b ≠ r) : (taken w r).heap[b]? = w.heap[b]? := by
  simp [taken, World.putObj, Array.getElem?_setIfInBounds_ne (Ne.symm h)]

theorem Takable.cells {r : Nat} (ht : Takable lo H σ F w r) (b : Nat) (vs : Array Value) (T : TypeId) (fr : Nat × Nat) (h : w.heap[b]? = some (Obj.cells vs T fr)) : (taken w r).heap[b]? = some (Obj.cells vs T fr) := by
  rw [taken_heap]; · exact h
  intro e; subst e; rw [ht.obj] at h; cases h

theorem VR.take {r : Nat} (ht : Takable lo H σ F w r) (hv : VR w σ F D v u) : VR (taken w r) σ F D v u :=
  hv.carry (fun _ h => h) (fun b hb => taken_heap w r b (fun e => ht.fr (by rw [← e]; exact hb))) (fun b vs T fr h => ⟨vs, ht.cells b vs T fr h, rfl⟩) (fun _ _ => rfl) (fun _ h => h)

theorem Step.take {r : Nat} (hs : Step H0 D0 σ0 F0 w0 H D σ F w) (ht : Takable lo H σ F w r) (hlo : w0.heap.size ≤ lo) : Step H0 D0 σ0 F0 w0 H D σ F (taken w r) := by
  have hsz : (taken w r).heap.size = w.heap.size := by simp [taken, World.putObj]
  have hold := ht.old
  refine ⟨⟨hs.rel.dom, fun id => ?_, hs.rel.inj, fun b hb => by rw [hsz]; exact hs.rel.size b hb, fun b hb => by rw [hsz]; exact hs.rel.fsize b hb, hs.rel.apart⟩,
    ⟨by rw [hsz]; exact hs.ext.size, fun b hb hn => ?_, fun b vs T fr h => ?_, fun b q h => ?_, hs.ext.mono, hs.ext.new, hs.ext.os, hs.ext.output, hs.ext.tape⟩, hs.sig, hs.le, hs.owns⟩
  · by_cases hl : (H id).live = true
    · refine (hs.rel.br id).carry (taken_heap w r _ (fun e => ht.own ⟨id, hl, e⟩)) (fun h => hs.rel.dom id h) (fun _ h => h) (fun b hb => taken_heap w r b (fun e => ht.fr (by rw [← e]; exact hb)))
        (fun b vs T fr h => ⟨vs, ht.cells b vs T fr h, rfl⟩) (fun _ _ => rfl) (fun _ h => h)
    · cases hb : H id <;> rw [hb] at hl <;> first | trivial | exact absurd rfl hl
  · rw [taken_heap w r b (by omega)]; exact hs.ext.same b hb hn
  · obtain ⟨vs', h1, h2⟩ := hs.ext.cells b vs T fr h
    exact ⟨vs', ht.cells b vs' T fr h1, h2⟩
  · obtain ⟨st, p, h1⟩ := hs.ext.loops b q h
    refine ⟨st, p, ?_⟩
    rw [taken_heap]; · exact h1
    intro e; subst e; rw [ht.obj] at h1; cases h1

theorem leavesM {fn : Func} {tmps : Array Value} {Q : Ending → World → Prop} {u : FrameMode} {S : World → Prop} (hu : u ≠ .run) (hend : ∀ w, S w → LeavesIn Fence.wide 0 P fn tmps Q [] u w)
    (hS : ∀ w r, S w → Takable lo H σ F w r → S (taken w r)) :
    ∀ (rs : List Nat) (w : World), S w → rs.Nodup → (∀ r ∈ rs, Takable lo H σ F w r) → LeavesInM Fence.wide 0 P fn tmps Q (rs.map fun r => { target := .collected r, args := #[] }) u w
  | [], w, h, _, _ => hend w h
  | r :: rs, w, h, hn, ht => by
    obtain ⟨hn1, hn2⟩ := List.nodup_cons.1 hn
    have hr := ht r (by simp)
    refine ⟨hu, .inl ⟨r, taken w r, rfl, run_takeDeferred hr.obj, ?_⟩⟩
    refine leavesM hu hend hS rs _ (hS w r h hr) hn2 (fun q hq => ?_)
    have hne : q ≠ r := fun e => hn1 (by rw [← e]; exact hq)
    have := ht q (by simp [hq])
    exact ⟨this.old, by simpa [taken, World.putObj] using this.size, by rw [taken_heap w r q hne]; exact this.obj, this.fr, this.own⟩

/-- A frame's results. -/
theorem resOf_sound {tmps : Array Value} {rs : List IRes} {vrs : List ResultVar} {vs : List AV} (hr : Rel (hget A) D w σ F) (hR : RR w σ F D R tmps) (hc : vrs.mapM (compRes P) = some rs) (h : resOf R A rs = some vs) :
    ∃ us : List Value, (vrs.mapM (m := Sem) (fun | .tmp t => pure (tmps.getD t Go.undef) | .cell a t => do loadVar t (← asAddr (tmps.getD a Go.undef)))).run P w = .ok us w ∧ us.length = vs.length ∧
      ∀ (i : Nat) x u, vs[i]? = some x → us[i]? = some u → VR w σ F D x u := by
  induction vrs generalizing rs vs with
  | nil =>
    simp at hc; subst hc
    simp [resOf] at h; subst h
    exact ⟨[], rfl, rfl, fun i x u h => by simp at h⟩
  | cons q vrs ih =>
    simp only [List.mapM_cons, Option.bind_eq_bind, Option.bind_eq_some_iff, Option.pure_def, Option.some.injEq] at hc
    obtain ⟨b, hb, rs', hrs', rfl⟩ := hc
    simp only [resOf] at h
    split at h <;> (try (simp at h; done))
    rename_i z zs hz hzs
    simp at h; subst h
    obtain ⟨us, h1, h2, h3⟩ := ih hrs' hzs
    have one : ∃ uz, Sem.run P (match q with | .tmp t => pure (tmps.getD t Go.undef) | .cell a t => do loadVar t (← asAddr (tmps.getD a Go.undef))) w = .ok uz w ∧ VR w σ F D z uz := by
      cases q with
      | tmp t =>
        simp [compRes] at hb; subst hb
        simp at hz; subst hz
        exact ⟨_, rfl, hR.get t⟩
      | cell c t =>
        simp only [compRes, Option.bind_eq_bind, Option.bind_eq_some_iff, Option.some.injEq] at hb
        obtain ⟨g, hg, n, hn, rfl⟩ := hb
        obtain ⟨b', o, he, r, hr1, hr2⟩ := ld_sound (P := P) hr (fun _ => rfl) (hR.get c) hg hn hz
        refine ⟨r, ?_, hr2⟩
        simp only [Sem.run_bind]
        rw [he]
        simp [asAddr, hr1]
    obtain ⟨uz, hu1, hu2⟩ := one
    refine ⟨uz :: us, ?_, by simp [h2], fun i x u hx hu => ?_⟩
    · simp only [List.mapM_cons, Sem.run_bind, hu1, Result.andThen_ok, h1, Sem.run_pure]
    · cases i with
      | zero => simp at hx hu; subst hx; subst hu; exact hu2
      | succ i => exact h3 i x u (by simpa using hx) (by simpa using hu)

theorem results_sound {fn : Func} {tmps : Array Value} {rs : List IRes} {vs : List AV} (hr : Rel (hget A) D w σ F) (hR : RR w σ F D R tmps) (hc : fn.results.toList.mapM (compRes P) = some rs) (h : resOf R A rs = some vs) :
    ∃ u, (results fn tmps).run P w = .ok u w ∧ VR w σ F D (tupled vs) u := by
  obtain ⟨us, h1, h2, h3⟩ := resOf_sound hr hR hc h
  have h4 : (results fn tmps).run P w = .ok (if h : us.toArray.size = 1 then us.toArray[0] else .tuple us.toArray) w := by
    unfold results
    rw [Array.mapM_eq_mapM_toList]
    simp only [Sem.run_bind, map_eq_pure_bind, Sem.run_pure]
    generalize hm : Sem.run P (List.mapM _ fn.results.toList) w = res
    have he : res = .ok us w := by rw [← hm]; exact h1
    rw [he]; rfl
  refine ⟨_, h4, ?_⟩
  match vs, us, h2, h3 with
  | [], [], _, h3 => exact VR.undef
  | [v], [u], _, h3 => exact h3 0 v u rfl rfl
  | v1 :: v2 :: vs, u1 :: u2 :: us, h2, h3 =>
    simp only [tupled]
    rw [dif_neg (by simp)]
    exact .tuple _ _ (by simpa using h2) (fun i x u hx hu => h3 i x u hx (by simpa using hu))

end Go.Abs

/- Rules for scopes without jumps, and for loops turn by turn. -/
namespace Go.Abs

section
variable {F : Fence} {n : Nat} {P : Program} {Q : Exit → Act → World → Prop} {a : Act} {w : World}

theorem stepR_scope {b : Frame} {k : List Item} {cs : List Frame} {c : Code} : step P (lone (b.atR a (.code (.scope c) :: k)) cs w) = .next (lone (b.atR a (.code c :: .inScope c :: k)) cs w) :=
  step_lone_go (by simp [stepG, stepG.exec, Frame.atR])
theorem stepR_inScope {b : Frame} {k : List Item} {cs : List Frame} {c : Code} : step P (lone (b.atR a (.inScope c :: k)) cs w) = .next (lone (b.atR a k) cs w) :=
  step_lone_go (by simp [stepG, stepG.exec, Frame.atR])

theorem wpIn_scope {c : Code} (h : c.wpIn F n P Q a w) (hg : ∀ l a w, ¬ Q (.goto l) a w) : (Code.scope c).wpIn F n P Q a w := by
  intro b k cs hro hb hr
  have h0 : (lone (b.atR a (.code (.scope c) :: k)) cs w).fenced P F := fenced_calm hb hr rfl
  obtain ⟨e, a₁, w₁, hq, harr⟩ := h b (.inScope c :: k) cs hro hb hr
  cases e with
  | normal => exact ⟨.normal, a₁, w₁, hq, .head h0 stepR_scope (StepsIn.trans harr (.one (fenced_calm hb hr rfl) stepR_inScope))⟩
  | exit id =>
    have hx : exitTo id (.inScope c :: k) = exitTo id k := by simp [exitTo]
    exact ⟨.exit id, a₁, w₁, hq, fun k' hk => .head h0 stepR_scope (harr.1 k' (by rw [hx]; exact hk)),
      fun hr' hk => let ⟨k₁, h1, h2⟩ := harr.2 hr' (by rw [hx]; exact hk); ⟨k₁, h1, .head h0 stepR_scope h2⟩⟩
  | goto l => exact (hg _ _ _ hq).elim
  | ret => exact ⟨_, a₁, w₁, hq, .of_steps (.one h0 stepR_scope) harr⟩
  | panic ch => exact ⟨_, a₁, w₁, hq, .of_steps (.one h0 stepR_scope) harr⟩
  | outgrown => exact ⟨_, a₁, w₁, hq, .of_steps (.one h0 stepR_scope) harr⟩

/-- A loop whose turn begins. -/
def LoopIn (F : Fence) (n : Nat) (P : Program) (c : Code) (Q : Exit → Act → World → Prop) (a : Act) (w : World) : Prop :=
  ∀ (b : Frame) (k : List Item) (cs : List Frame), b.roundOf = F.round → F.fn b.fn → F.room (cs.length + 1 + n) →
    ∃ e a' w', Q e a' w' ∧ ArrivesIn (Machine.fenced P F) P (lone (b.atR a (.code c :: .inLoop c :: k)) cs w) b k cs e a' w'

theorem wpIn_loop_of {c : Code} (h : LoopIn F n P c Q a w) : (Code.loop c).wpIn F n P Q a w := by
  intro b k cs hro hb hr
  obtain ⟨e, a', w', hq, harr⟩ := h b k cs hro hb hr
  exact ⟨e, a', w', hq, .of_steps (.one (fenced_calm hb hr rfl) stepR_loop) harr⟩

theorem loopIn_turn {c : Code} (h : c.wpIn F n P (Exit.then (LoopIn F n P c Q) Q) a w) : LoopIn F n P c Q a w := by
  intro b k cs hro hb hr
  obtain ⟨e, a₁, w₁, hq, harr⟩ := h b (.inLoop c :: k) cs hro hb hr
  cases e with
  | normal =>
    obtain ⟨e₂, a₂, w₂, hq₂, harr₂⟩ := hq b k cs hro hb hr
    exact ⟨e₂, a₂, w₂, hq₂, .of_steps (StepsIn.trans harr (.one (fenced_calm hb hr rfl) stepR_inLoop)) harr₂⟩
  | exit id => exact ⟨_, a₁, w₁, hq, .pass (x := .inLoop c) rfl (fun _ _ => .inl (by simp)) harr⟩
  | goto l => exact ⟨_, a₁, w₁, hq, .pass (x := .inLoop c) rfl (fun _ _ => .inl (by simp)) harr⟩
  | ret => exact ⟨_, a₁, w₁, hq, .pass (x := .inLoop c) rfl (fun _ _ => .inl (by simp)) harr⟩
  | panic ch => exact ⟨_, a₁, w₁, hq, .pass (x := .inLoop c) rfl (fun _ _ => .inl (by simp)) harr⟩
  | outgrown => exact ⟨_, a₁, w₁, hq, .pass (x := .inLoop c) rfl (fun _ _ => .inl (by simp)) harr⟩

end

variable {H H' : Nat → Blk} {D D' : Nat → Prop} {σ σ' : Sig} {F F' F2 : Nat → Prop} {w w' : World} {v x y z : AV} {u ux uy : Value} {P : Program} {A A' : Heap} {gl : List Nat} {E : Env} {Λ : List LoopInfo} {R R' : Regs} {a a' : Act} {lo : Nat}

/-- The way in which code is left. -/
def ExitIs (w : World) (σ : Sig) (F D : Nat → Prop) : AExit → Exit → Prop
  | .normal, .normal => True
  | .exit i, .exit j => i = j
  | .ret, .ret => True
  | .panic v, .panic ch => ∃ u, ch = [{ v := u, recovered := false }] ∧ VR w σ F D v u
  | _, _ => False

/-- What is known behind code. -/
def Post (P : Program) (E : Env) (gl : List Nat) (Λ : List LoopInfo) (lo : Nat) (A : Heap) (σ : Sig) (F : Nat → Prop) (w : World) (e : AExit) (R' : Regs) (A' : Heap) (ex : Exit) (a' : Act) (w' : World) : Prop :=
  ∃ σ' F', Step (hget A) (below A) σ F w (hget A') (below A') σ' F' w' ∧ Here P E gl Λ lo (hget A') (below A') σ' F' w' R' a' ∧ ExitIs w' σ' F' (below A') e ex

theorem Post.trans {e : AExit} {R2 : Regs} {A2 : Heap} {ex : Exit} {a2 : Act} {w2 : World} (hs : Step (hget A) (below A) σ F w (hget A') (below A') σ' F' w') (h : Post P E gl Λ lo A' σ' F' w' e R2 A2 ex a2 w2) : Post P E gl Λ lo A σ F w e R2 A2 ex a2 w2 := by
  obtain ⟨σ2, F2, h1, h2, h3⟩ := h
  exact ⟨σ2, F2, hs.trans h1, h2, h3⟩

/-- The round that code stands in is one of a loop under way. -/
def RndOk (Λ : List LoopInfo) (σ : Sig) (rnd : Option Nat) : Prop := ∀ l, rnd = some l → ∃ i ∈ Λ, σ.blk i.id = l

theorem RndOk.step {rnd : Option Nat} (h : RndOk Λ σ rnd) (hc : Ctx P E gl Λ H D σ F w) (hs : Step H D σ F w H' D' σ' F' w') : RndOk Λ σ' rnd := by
  intro l hl
  obtain ⟨i, hi, h1⟩ := h l hl
  refine ⟨i, hi, ?_⟩
  unfold Sig.blk at *
  rw [hs.sig _ (hc.loops i hi).1]; exact h1

/-- The evaluator is right, as deep as 'n'. -/
structure EvOk (P : Program) (E : Env) (gl : List Nat) (n : Nat) : Prop where
  code : ∀ (Λ : List LoopInfo) (c : ICode) (R : Regs) (A : Heap) (e : AExit) (R' : Regs) (A' : Heap), ev E n Λ c R A = some (e, R', A') → ∀ (code : Code), compCode P gl code = some c →
    ∀ (rnd : Option Nat) (lo : Nat) (σ : Sig) (F : Nat → Prop) (w : World) (a : Act), Here P E gl Λ lo (hget A) (below A) σ F w R a → lo ≤ w.heap.size → RndOk Λ σ rnd →
      code.wpIn (fen rnd) 0 P (Post P E gl Λ lo A σ F w e R' A') a w
  loop : ∀ (Λ : List LoopInfo) (c : ICode) (R : Regs) (A : Heap) (e : AExit) (R' : Regs) (A' : Heap), ev E n Λ (.loop c) R A = some (e, R', A') → ∀ (code : Code), compCode P gl code = some c →
    ∀ (rnd : Option Nat) (lo : Nat) (σ : Sig) (F : Nat → Prop) (w : World) (a : Act), Here P E gl Λ lo (hget A) (below A) σ F w R a → lo ≤ w.heap.size → RndOk Λ σ rnd →
      LoopIn (fen rnd) 0 P code (Post P E gl Λ lo A σ F w e R' A') a w

end Go.Abs

/- Ranges over functions: the record laid. -/
namespace Go.Abs

variable {H H' : Nat → Blk} {D D' : Nat → Prop} {σ σ' : Sig} {F F' F2 : Nat → Prop} {w w' : World} {v x y z : AV} {u ux uy : Value} {P : Program} {A A' : Heap} {gl : List Nat} {E : Env} {Λ : List LoopInfo} {R R' : Regs} {a a' : Act} {lo : Nat}

/-- Something is laid that no abstract block is. -/
theorem Step.spare (hr : Rel H D w σ F) (o : Obj) : Step H D σ F w H D σ F { w with heap := w.heap.push o } := by
  have hlow : ∀ (b : Nat), b < w.heap.size → (w.heap.push o)[b]? = w.heap[b]? := fun b hb => by
    rw [Array.getElem?_push]; simp [show b ≠ w.heap.size by omega]
  exact mkStep hr (fun _ => False) (fun _ h => h) (fun _ _ => rfl) (by simp) (fun b hb _ => hlow b hb) (fun b vs T fr h => ⟨vs, by show (w.heap.push o)[b]? = _; rw [hlow b (getElem?_size h)]; exact h, rfl⟩)
    (fun b r h => ⟨r.state, r.pending, by show (w.heap.push o)[b]? = _; rw [hlow b (getElem?_size h)]; exact h⟩) rfl rfl rfl (fun _ _ => rfl) (fun _ h => h.elim) (fun _ _ h => h.elim)

theorem hget_append (A : Heap) (b : Blk) : hget (A ++ [b]) = upd1 (hget A) A.length b := by
  funext j
  have h := hget_hset A A.length b j
  unfold hset at h
  simpa using h

/-- A loop's record is laid. -/
theorem Step.record (hr : Rel (hget A) (below A) w σ F) (r : Loop) (h1 : r.state = .ready) (h2 : r.pending = none) :
    let σ' : Sig := fun id => if id = A.length then (w.heap.size, 0, 0) else σ id
    Step (hget A) (below A) σ F w (hget (A ++ [.loop true none])) (below (A ++ [.loop true none])) σ' F { w with heap := w.heap.push (.loop r) } := by
  intro σ'
  rw [hget_append]
  refine Step.push hr (fun id h => ?_) (hget_dead (Nat.le_refl _)) ?_ (Nat.lt_irrefl _) (.loop r) _ 0 rfl ?_
  · unfold below at *; simp; omega
  · unfold below; simp
  · exact ⟨r, by simp [Sig.blk], h1, h2⟩

/-- A block is given up. -/
theorem Rel.giveUp {id : Nat} (hr : Rel (hget A) (below A) w σ F) : Rel (hget (A.set id .dead)) (below A) w σ F := by
  refine hr.dead (fun j => ?_)
  unfold hget
  by_cases e : id = j
  · subst e
    by_cases hl : id < A.length
    · right; simp [List.getD, hl]
    · left; simp [List.getD, hl]
  · left; simp [List.getD, List.getElem?_set_ne e]

end Go.Abs

/- Ranges over functions. -/
namespace Go.Abs

variable {H H' : Nat → Blk} {D D' : Nat → Prop} {σ σ' : Sig} {F F' F2 : Nat → Prop} {w w' : World} {v x y z : AV} {u ux uy : Value} {P : Program} {A A' : Heap} {gl : List Nat} {E : Env} {Λ : List LoopInfo} {R R' : Regs} {a a' : Act} {lo : Nat}

/-- A walked function's value is entered. -/
theorem enter_of_plain {rec : List LoopInfo → ICode → Regs → Heap → Option (AExit × Regs × Heap)} (hE : EnvOk P E gl) {as0 : List AV} {r : CRes} (hp : plainFunc E v = true) (hc : callOf E rec Λ v as0 A = some (r, A'))
    (hv : VR w σ F D v u) (us : Array Value) : ∃ d g args, (Deferred.ofValue u us).run P w = .ok d w ∧ (invoke d.target d.args).run P w = .ok (.enter g args) w := by
  unfold plainFunc at hp
  split at hp
  · rename_i g p q
    cases hv with
    | func _ _ _ ps qs _ _ _ _ =>
    have hi : E.intr g = none := by simpa using hp
    simp only [callOf, hi] at hc
    split at hc
    · simp at hc
    rename_i F0 hF0
    obtain ⟨hcf, hname⟩ := hE.fns g F0 hF0
    simp only [compFun, Option.bind_eq_bind, Option.bind_eq_some_iff, Option.some.injEq] at hcf
    obtain ⟨fn, hfn, c, hbody, _⟩ := hcf
    refine ⟨{ target := .fn (.func g) qs, args := ps ++ us }, g, ps ++ us ++ qs, rfl, ?_⟩
    have hn := hname fn hfn
    simp only [invoke, callFunc, Sem.run_bind]
    have h1 : (program).run P w = .ok P w := rfl
    rw [h1]
    simp [hfn, hbody]
    simpa using hn
  · cases hp

end Go.Abs

/- Ranges over functions: the statement. -/
namespace Go.Abs

variable {H H' : Nat → Blk} {D D' : Nat → Prop} {σ σ' : Sig} {F F' F2 : Nat → Prop} {w w' : World} {v x y z : AV} {u ux uy : Value} {P : Program} {A A' : Heap} {gl : List Nat} {E : Env} {Λ : List LoopInfo} {R R' : Regs} {a a' : Act} {lo : Nat}

/-- A record that is exhausted: its block is given up. -/
theorem Step.exhaust {l : Nat} {ready : Bool} {p : Option Pend} {r : Loop} (hr : Rel (hget A) (below A) w σ F) (hB : hget A l = .loop ready p) (hw : w.heap[σ.blk l]? = some (.loop r)) :
    Step (hget A) (below A) σ F w (hget (A.set l .dead)) (below (A.set l .dead)) σ F (w.putObj (σ.blk l) (.loop { r with state := .exhausted })) := by
  have hl : l < A.length := hr.dom l (by rw [hB]; rfl)
  have e1 : hget (A.set l .dead) = upd1 (hget A) l .dead := by
    funext j
    have := hget_hset A l .dead j
    unfold hset at this
    rw [if_pos hl] at this
    exact this
  have e2 : below (A.set l .dead) = below A := by unfold below; simp
  rw [e1, e2]
  refine Step.setObj hr (by rw [hB]; rfl) hw (by intros; simp) (fun q hq => ?_) trivial
  cases hq; exact ⟨.exhausted, r.pending, rfl⟩

theorem range_core {rec : List LoopInfo → ICode → Regs → Heap → Option (AExit × Regs × Heap)} (hE : EnvOk P E gl) (hcall : ∀ Λ, CallOk P E gl Λ (callOf E rec Λ)) {f : Operand} {ps : Array Tmp} {asg body : Code} {cf : Arg} {ca cb : ICode}
    (hf : argC gl f = some cf) (ha : compCode P gl asg = some ca) (hb : compCode P gl body = some cb) {v0 : AV} {A1 : Heap} {r : Loop} {mark : List Deferred}
    (hp : plainFunc E (arg E R cf) = true) (he : callOf E rec (⟨A.length, R, ps.toList, ca, cb⟩ :: Λ) (arg E R cf) [.yld A.length] (A ++ [.loop true none]) = some (.ret v0, A1))
    (h : Here P E gl Λ lo (hget A) (below A) σ F w R { a with defers := mark ++ a.defers }) (h1 : r.state = .ready) (h2 : r.pending = none) (h3 : r.tmps = a.tmps) (h4 : r.params = ps) (h5 : r.assign = asg) (h6 : r.body = body) :
    ∃ (d : Deferred) (g : FuncId) (args : Array Value), (resolve a.eval (rangeCall f w.heap.size) 0).run P { w with heap := w.heap.push (.loop r) } = .ok d { w with heap := w.heap.push (.loop r) } ∧
      (invoke d.target d.args).run P { w with heap := w.heap.push (.loop r) } = .ok (.enter g args) { w with heap := w.heap.push (.loop r) } ∧
      Calls P g args { w with heap := w.heap.push (.loop r) } (fun e w' => ∃ u σ' F', e = .returned u ∧ Step (hget A) (below A) σ F w (hget A1) (below A1) σ' F' w' ∧
        Here P E gl Λ lo (hget A1) (below A1) σ' F' w' R { a with defers := mark ++ a.defers } ∧ σ'.blk A.length = w.heap.size) := by
  have sR := Step.record h.ctx.rel r h1 h2
  let σ1 : Sig := fun id => if id = A.length then (w.heap.size, 0, 0) else σ id
  have hh := h.step sR
  have hbl : below (A ++ [.loop true none]) A.length := by unfold below; simp
  have hσ1 : σ1.blk A.length = w.heap.size := by simp [σ1, Sig.blk]
  have hctx : Ctx P E gl (⟨A.length, R, ps.toList, ca, cb⟩ :: Λ) (hget (A ++ [.loop true none])) (below (A ++ [.loop true none])) σ1 F { w with heap := w.heap.push (.loop r) } := by
    refine ⟨hh.ctx.rel, hh.ctx.glob, fun i hi => ?_⟩
    rcases List.mem_cons.1 hi with rfl | hi
    · refine ⟨hbl, r, ?_, ?_, by rw [h4], by rw [h5]; exact ha, by rw [h6]; exact hb⟩
      · simp [hσ1]
      · rw [h3]; exact hh.regs
    · exact hh.ctx.loops i hi
  have hv := arg_sound hh.regs hh.ctx.glob (E := E) hf
  have hy : VR { w with heap := w.heap.push (.loop r) } σ1 F (below (A ++ [.loop true none])) (.yld A.length) (.func (.yield w.heap.size) #[] #[]) := by
    rw [← hσ1]; exact .yld _ hbl
  obtain ⟨d, d1, d2⟩ := hcall _ _ _ _ _ _ he σ1 F { w with heap := w.heap.push (.loop r) } _ #[.func (.yield w.heap.size) #[] #[]] hctx hv rfl (fun i x u hx hu => by
    cases i with
    | zero => simp at hx hu; subst hx; subst hu; exact hy
    | succ i => simp at hx)
  obtain ⟨d', g, args, e1, e2⟩ := enter_of_plain (P := P) hE hp he hv #[.func (.yield w.heap.size) #[] #[]]
  have e1' := d1.symm.trans e1
  cases e1'
  rw [e2] at d2
  refine ⟨d, g, args, ?_, e2, ?_⟩
  · have e0 : ({ a with defers := mark ++ a.defers } : Act).eval f = a.eval f := by cases f <;> rfl
    rw [e0] at d1
    have e3 : resolve a.eval (rangeCall f w.heap.size) 0 = Deferred.ofValue (a.eval f) #[.func (.yield w.heap.size) #[] #[]] := by
      simp only [resolve]
      congr 1
      simp [Act.eval]
    rw [e3]; exact d1
  · intro cs
    obtain ⟨e, w', fr, hR, hs, hl⟩ := d2 cs
    refine ⟨e, w', fr, ?_, hs, hl⟩
    obtain ⟨σ', F', s1, u, rfl, _⟩ := hR
    refine ⟨u, σ', F', rfl, sR.trans s1, hh.step s1, ?_⟩
    have := s1.sig _ hbl
    unfold Sig.blk at *
    rw [this]; exact hσ1

end Go.Abs

/- Ranges over functions: whole. -/
namespace Go.Abs

variable {H H' : Nat → Blk} {D D' : Nat → Prop} {σ σ' : Sig} {F F' F2 : Nat → Prop} {w w' : World} {v x y z : AV} {u ux uy : Value} {P : Program} {A A' : Heap} {gl : List Nat} {E : Env} {Λ : List LoopInfo} {R R' : Regs} {a a' : Act} {lo : Nat}

theorem range_sound {rec : List LoopInfo → ICode → Regs → Heap → Option (AExit × Regs × Heap)} (hE : EnvOk P E gl) (hcall : ∀ Λ, CallOk P E gl Λ (callOf E rec Λ)) {f : Operand} {ps : Array Tmp} {asg body : Code} {cf : Arg} {ca cb : ICode} {rnd : Option Nat} {e : AExit}
    (hf : argC gl f = some cf) (ha : compCode P gl asg = some ca) (hb : compCode P gl body = some cb) {v0 : AV} {A1 : Heap}
    (hp : plainFunc E (arg E R cf) = true) (he : callOf E rec (⟨A.length, R, ps.toList, ca, cb⟩ :: Λ) (arg E R cf) [.yld A.length] (A ++ [.loop true none]) = some (.ret v0, A1))
    (hend : (hget A1 A.length = .loop true none ∧ e = .normal) ∨ (hget A1 A.length = .loop false (some .ret) ∧ e = .ret) ∨ (∃ id, hget A1 A.length = .loop false (some (.exit id)) ∧ e = .exit id))
    (h : Here P E gl Λ lo (hget A) (below A) σ F w R a) (hlo : lo ≤ w.heap.size) (hr : RndOk Λ σ rnd) :
    (Code.rangeFunc f ps asg body).wpIn (fen rnd) 0 P (Post P E gl Λ lo A σ F w e R (A1.set A.length .dead)) a w := by
  refine wpIn_rangeFunc (fun fn _ => ?_)
  have core : ∀ (w2 : World) (mark : List Deferred) (defs : Nat), Step (hget A) (below A) σ F w (hget A) (below A) σ F w2 → Here P E gl Λ lo (hget A) (below A) σ F w2 R { a with defers := mark ++ a.defers } →
      (Instr.enterLoop fn a.tmps ps asg body (fen rnd).round).run P w = .ok (w2.heap.size, mark) { w2 with heap := w2.heap.push (.loop { state := .ready, pending := none, fn, tmps := a.tmps, params := ps, assign := asg, body, defers := defs }) } →
      ∃ (l : Nat) (mark : List Deferred) (w₁ : World) (d : Deferred) (w₁' : World) (f' : FuncId) (args : Array Value) (w₂ : World),
      (Instr.enterLoop fn a.tmps ps asg body (fen rnd).round).run P w = .ok (l, mark) w₁ ∧
      (resolve a.eval (rangeCall f l) 0).run P w₁ = .ok d w₁' ∧
      (∀ f', Target.leads P w₁' d.target d.args = some f' → (fen rnd).fn f') ∧
      (invoke d.target d.args).run P w₁' = .ok (.enter f' args) w₂ ∧
      ((fen rnd).depth.isSome = true → 1 ≤ 0) ∧
      CallsIn (fen rnd) (0 - 1) P f' args w₂ (rangePost (fen rnd) 0 P l (Post P E gl Λ lo A σ F w e R (A1.set A.length .dead)) { a with defers := mark ++ a.defers }) := by
    intro w2 mark defs hs2 hh2 hent
    obtain ⟨d, g, args, e1, e2, e3⟩ := range_core hE hcall hf ha hb (r := { state := .ready, pending := none, fn, tmps := a.tmps, params := ps, assign := asg, body, defers := defs }) hp he hh2 rfl rfl rfl rfl rfl rfl
    refine ⟨_, _, _, d, _, g, args, _, hent, e1, fun _ _ => trivial, e2, by simp [fen, Fence.wide], ?_⟩
    have e4 : CallsIn Fence.wide (0 - 1) P g args _ _ := callsIn_wide.2 e3
    refine CallsIn.mono (F := fen rnd) (n := 0 - 1) e4 (fun en w' hR => ?_)
    obtain ⟨u, σ', F', rfl, s1, hh, hblk⟩ := hR
    have fin : ∀ ready p, hget A1 A.length = .loop ready p → loopState ready p ≠ .busy → ∀ (ex : Exit), ExitIs w' σ' F' (below A1) e ex → ∃ w4, (Instr.endLoop w2.heap.size).run P w' = .ok (pendCode p) w4 ∧ Post P E gl Λ lo A σ F w e R (A1.set A.length .dead) ex { a with defers := mark ++ a.defers } w4 := by
      intro ready p hB hnb ex hx
      have hbr := hh.ctx.rel.br A.length
      rw [hB] at hbr
      obtain ⟨r1, k1, k2, k3⟩ := hbr
      have st := Step.exhaust hh.ctx.rel hB k1
      rw [hblk] at k1 st
      refine ⟨_, by rw [← k3]; exact run_endLoop k1 (by rw [k2]; exact hnb), σ', F', (hs2.trans s1).trans st, hh.step st, ?_⟩
      cases e <;> cases ex <;> try exact hx
      rcases hend with ⟨_, h⟩ | ⟨_, h⟩ | ⟨_, _, h⟩ <;> cases h
    rcases hend with ⟨hB, rfl⟩ | ⟨hB, rfl⟩ | ⟨id, hB, rfl⟩
    · obtain ⟨w4, h1, h2⟩ := fin _ _ hB (by simp [loopState]) .normal trivial
      exact ⟨none, w4, h1, h2⟩
    · obtain ⟨w4, h1, h2⟩ := fin _ _ hB (by simp [loopState]) .ret trivial
      exact ⟨some .ret, w4, h1, wpIn_ret h2⟩
    · obtain ⟨w4, h1, h2⟩ := fin _ _ hB (by simp [loopState]) (.exit id) rfl
      exact ⟨some (.exit id), w4, h1, wpIn_exit h2⟩
  cases rnd with
  | none =>
    have s2 := Step.spare h.ctx.rel (.deferred (some []))
    have hh := h.step s2
    refine core { w with heap := w.heap.push (.deferred (some [])) } [{ target := .collected w.heap.size, args := #[] }] w.heap.size s2 ⟨hh.ctx, hh.regs, ?_⟩ ?_
    · obtain ⟨ms, m0, m1, m2⟩ := h.marks
      obtain ⟨ms', m0', m1', m2'⟩ := hh.marks
      refine ⟨w.heap.size :: ms, by simp [m0], List.nodup_cons.2 ⟨fun hm => ?_, m1⟩, fun q hq => ?_⟩
      · exact Nat.lt_irrefl _ (m2 _ hm).2.1
      · rcases List.mem_cons.1 hq with rfl | hq
        · refine ⟨hlo, by simp, by simp, fun hF => ?_, fun hO => ?_⟩
          · exact Nat.lt_irrefl _ (h.ctx.rel.fsize _ hF)
          · exact Nat.lt_irrefl _ (h.ctx.rel.size _ hO)
        · obtain ⟨q1, q2, q3, q4, q5⟩ := m2 q hq
          refine ⟨q1, by simp; omega, ?_, q4, q5⟩
          show (w.heap.push _)[q]? = _
          rw [Array.getElem?_push, if_neg (by omega)]; exact q3
    · have := run_enterLoop_outer (P := P) (w := w) fn a.tmps ps asg body
      have hsz : (w.heap.push (.deferred (some []))).size = w.heap.size + 1 := by simp
      show (Instr.enterLoop fn a.tmps ps asg body none).run P w = .ok ((w.heap.push (.deferred (some []))).size, _) _
      rw [hsz]; exact this
  | some l =>
    obtain ⟨i, hi, rfl⟩ := hr l rfl
    obtain ⟨_, r0, hr0, _⟩ := h.ctx.loops i hi
    refine core w [] r0.defers (Step.refl h.ctx.rel) h ?_
    have := run_enterLoop_inner (P := P) (w := w) hr0 fn a.tmps ps asg body
    exact this

end Go.Abs

/- What an operation reads. -/
namespace Go.Abs

theorem evOp_congr {E : Env} {R R' : Regs} {A : Heap} {nid : Nat} (io : IOp) (h : ∀ x ∈ io.argsOf, arg E R x = arg E R' x) : evOp E R A nid io = evOp E R' A nid io := by
  cases io <;> simp only [IOp.argsOf, List.mem_cons, List.not_mem_nil, or_false, forall_eq_or_imp, forall_eq, List.mem_append, Option.mem_toList, List.mem_map] at h <;> simp only [evOp] <;> first | (simp only [h]; done) | skip
  · rename_i z ps
    rw [List.map_congr_left (fun p hp => by rw [h _ ⟨p, hp, rfl⟩])]
  · rename_i esz z n ps
    rw [show ps.map (fun p => (p.1, arg E R p.2)) = ps.map (fun p => (p.1, arg E R' p.2)) from List.map_congr_left (fun p hp => by rw [h _ ⟨p, hp, rfl⟩])]
  · rename_i fn a b
    rw [show args E R a = args E R' a from List.map_congr_left (fun p hp => h p (.inl hp)), show args E R b = args E R' b from List.map_congr_left (fun p hp => h p (.inr hp))]
  · rename_i esz x a b c
    obtain ⟨h0, h⟩ := h
    have o : ∀ (q : Option Arg), (∀ x, q = some x → arg E R x = arg E R' x) → q.map (arg E R) = q.map (arg E R') := fun q hq => by cases q with
      | none => rfl
      | some q => simp [hq q rfl]
    rw [h0, o a (fun x hx => h x (by simp [hx])), o b (fun x hx => h x (by simp [hx])), o c (fun x hx => h x (by simp [hx]))]
  · rename_i x a b
    obtain ⟨h0, h⟩ := h
    have o : ∀ (q : Option Arg), (∀ x, q = some x → arg E R x = arg E R' x) → q.map (arg E R) = q.map (arg E R') := fun q hq => by cases q with
      | none => rfl
      | some q => simp [hq q rfl]
    rw [h0, o a (fun x hx => h x (by simp [hx])), o b (fun x hx => h x (by simp [hx]))]

end Go.Abs

/- Lists of writes, and what values name: for regions that draw their order. -/
namespace Go.Abs

variable {H H' : Nat → Blk} {D D' D1 : Nat → Prop} {σ σ' : Sig} {F F' : Nat → Prop} {w w' : World} {v x y z : AV} {u ux uy : Value} {P : Program} {A A' : Heap} {gl : List Nat} {E : Env} {Λ : List LoopInfo} {R R' : Regs} {a a' : Act} {lo : Nat}

/-! ### Lists of writes -/

section
variable {X : Type}

def lookL : List (Nat × X) → Nat → Option X
  | [], _ => none
  | (i, x) :: r, k => (lookL r k).or (if i = k then some x else none)

theorem lookL_append : ∀ (a b : List (Nat × X)) (k : Nat), lookL (a ++ b) k = (lookL b k).or (lookL a k)
  | [], b, k => by simp [lookL]
  | (i, x) :: a, b, k => by simp only [List.cons_append, lookL, lookL_append a b k, Option.or_assoc]

theorem lookL_mem : ∀ (l : List (Nat × X)) (k : Nat) (x : X), lookL l k = some x → (k, x) ∈ l
  | [], k, x, h => by simp [lookL] at h
  | (i, y) :: r, k, x, h => by
    simp only [lookL] at h
    cases hr : lookL r k with
    | some z =>
      rw [hr] at h
      simp at h; subst h
      exact List.mem_cons_of_mem _ (lookL_mem r k _ hr)
    | none =>
      rw [hr] at h
      simp at h
      obtain ⟨rfl, rfl⟩ := h
      exact List.mem_cons_self

theorem lookL_isSome : ∀ (l : List (Nat × X)) (p : Nat × X), p ∈ l → (lookL l p.1).isSome = true
  | [], _, h => by simp at h
  | (i, y) :: r, p, h => by
    simp only [lookL]
    rcases List.mem_cons.1 h with rfl | h
    · cases lookL r i <;> simp
    · have := lookL_isSome r p h
      rw [Option.isSome_iff_exists] at this
      obtain ⟨z, hz⟩ := this
      rw [hz]; rfl

theorem pick_agree : ∀ (Ws : List (List (Nat × X))) (S T : Nat → Bool) (i k : Nat), (∀ j W, Ws[j]? = some W → S (i + j) ≠ T (i + j) → lookL W k = none) → lookL (pick S i Ws) k = lookL (pick T i Ws) k
  | [], _, _, _, _, _ => rfl
  | W :: Ws, S, T, i, k, h => by
    have ih := pick_agree Ws S T (i + 1) k (fun j W' hj hne => h (j + 1) W' (by simpa using hj) (by rwa [show i + (j + 1) = i + 1 + j by omega]))
    have h0 := h 0 W rfl
    simp only [Nat.add_zero] at h0
    simp only [pick]
    cases hS : S i <;> cases hT : T i <;> simp only [Bool.false_eq_true, if_true, if_false, lookL_append, ih]
    · simp [h0 (by rw [hS, hT]; simp)]
    · simp [h0 (by rw [hS, hT]; simp)]

theorem pick_none (Ws : List (List (Nat × X))) (S : Nat → Bool) (i k : Nat) (h : ∀ j W, Ws[j]? = some W → S (i + j) = true → lookL W k = none) : lookL (pick S i Ws) k = none := by
  rw [pick_agree Ws S (fun _ => false) i k (fun j W hj hne => h j W hj (by simpa using hne))]
  have : ∀ (Ws : List (List (Nat × X))) (i : Nat), pick (fun _ => false) i Ws = [] := by
    intro Ws; induction Ws with
    | nil => intro i; rfl
    | cons W Ws ih => intro i; simp [pick, ih]
  rw [this]; rfl

/-- One more is done. -/
theorem pick_insert : ∀ (Ws : List (List (Nat × X))) (S T : Nat → Bool) (i j k : Nat) (W : List (Nat × X)), Ws[j]? = some W → S (i + j) = false → (∀ m, T m = (S m || m == i + j)) →
    (∀ j' W', j < j' → Ws[j']? = some W' → S (i + j') = true → lookL W k ≠ none → lookL W' k = none) → lookL (pick T i Ws) k = (lookL W k).or (lookL (pick S i Ws) k)
  | [], _, _, _, _, _, _, h, _, _, _ => by simp at h
  | W0 :: Ws, S, T, i, 0, k, W, h, hS, hT, hd => by
    simp at h; subst h
    simp only [Nat.add_zero] at hS hT
    have e1 : T i = true := by rw [hT]; simp
    simp only [pick, e1, hS, Bool.false_eq_true, if_true, if_false, lookL_append]
    have e2 : lookL (pick T (i + 1) Ws) k = lookL (pick S (i + 1) Ws) k := pick_agree Ws T S (i + 1) k (fun j W' _ hne => by
      exfalso; apply hne; rw [hT]
      have : (i + 1 + j == i) = false := by simp; omega
      rw [this, Bool.or_false])
    rw [e2]
    by_cases hW : lookL W0 k = none
    · rw [hW]; simp
    · rw [pick_none Ws S (i + 1) k (fun j W' hj hs => hd (j + 1) W' (by omega) (by simpa using hj) (by rwa [show i + (j + 1) = i + 1 + j by omega]) hW)]
      cases lookL W0 k <;> simp
  | W0 :: Ws, S, T, i, j + 1, k, W, h, hS, hT, hd => by
    have ih := pick_insert Ws S T (i + 1) j k W (by simpa using h) (by rwa [show i + 1 + j = i + (j + 1) by omega]) (fun m => by rw [hT]; rw [show i + (j + 1) = i + 1 + j by omega])
      (fun j' W' hj' hw hs hn => hd (j' + 1) W' (by omega) (by simpa using hw) (by rwa [show i + (j' + 1) = i + 1 + j' by omega]) hn)
    have e : T i = S i := by
      rw [hT]
      have : (i == i + (j + 1)) = false := by simp
      rw [this, Bool.or_false]
    simp only [pick, e]
    split
    · rw [lookL_append, lookL_append, ih, Option.or_assoc]
    · exact ih

theorem pick_take : ∀ (Ws : List (List (Nat × X))) (S : Nat → Bool) (i n : Nat), (∀ m, S m = true → m < i + n) → pick S i (Ws.take n) = pick S i Ws
  | [], S, i, n, _ => by simp
  | W :: Ws, S, i, 0, h => by
    have : ∀ (Ws : List (List (Nat × X))) (j : Nat), i ≤ j → pick S j Ws = [] := by
      intro Ws; induction Ws with
      | nil => intro j _; rfl
      | cons W Ws ih =>
        intro j hj
        have : S j = false := by
          cases hs : S j with
          | false => rfl
          | true => have := h j hs; omega
        simp [pick, this, ih (j + 1) (by omega)]
    rw [this (W :: Ws) i (Nat.le_refl _)]; rfl
  | W :: Ws, S, i, n + 1, h => by
    simp only [List.take_succ_cons, pick]
    rw [pick_take Ws S (i + 1) n (fun m hm => by have := h m hm; omega)]

theorem pick_all : ∀ (Ws : List (List (Nat × X))) (S : Nat → Bool) (i : Nat), (∀ m, i ≤ m → m < i + Ws.length → S m = true) → pick S i Ws = Ws.flatten
  | [], _, _, _ => rfl
  | W :: Ws, S, i, h => by
    simp only [pick, h i (Nat.le_refl _) (by simp), if_true, List.flatten_cons]
    rw [pick_all Ws S (i + 1) (fun m h1 h2 => h m (by omega) (by simp; omega))]

theorem pick_mem : ∀ (Ws : List (List (Nat × X))) (S : Nat → Bool) (i : Nat) (p : Nat × X), p ∈ pick S i Ws → ∃ (j : Nat) (W : List (Nat × X)), Ws[j]? = some W ∧ S (i + j) = true ∧ p ∈ W
  | [], _, _, _, h => by simp [pick] at h
  | W :: Ws, S, i, p, h => by
    simp only [pick] at h
    have tail : p ∈ pick S (i + 1) Ws → ∃ (j : Nat) (W' : List (Nat × X)), (W :: Ws)[j]? = some W' ∧ S (i + j) = true ∧ p ∈ W' := fun h => by
      obtain ⟨j, W', h1, h2, h3⟩ := pick_mem Ws S (i + 1) p h
      exact ⟨j + 1, W', by simpa using h1, by rwa [show i + (j + 1) = i + 1 + j by omega], h3⟩
    split at h
    · rename_i hs
      rcases List.mem_append.1 h with h | h
      · exact ⟨0, W, rfl, hs, h⟩
      · exact tail h
    · exact tail h
end

theorem updAll_look : ∀ (l : List (Nat × Blk)) (H : Nat → Blk) (j : Nat), updAll H l j = (lookL l j).getD (H j)
  | [], _, _ => rfl
  | (i, b) :: l, H, j => by
    simp only [updAll, lookL, updAll_look l]
    cases lookL l j with
    | some y => rfl
    | none =>
      simp only [Option.none_or, Option.getD_none, upd1]
      by_cases e : j = i
      · subst e; simp
      · rw [if_neg e, if_neg (Ne.symm e)]; rfl

/-! ### What values name -/

theorem nameds_iff {p : Nat → Bool} {l : List AV} : AV.nameds p l = true ↔ ∀ x ∈ l, x.named p = true := by
  induction l with
  | nil => simp [AV.nameds]
  | cons a l ih => simp [AV.nameds, ih]

mutual
theorem named_under {p : Nat → Bool} : {e : AV} → e.under 0 = true → e.named p = true
  | .bool _, _ | .int _ _, _ | .str _, _ | .nilp, _ | .nilm, _ | .nilf, _ | .nili, _ | .frz _ _, _ | .fp _ _ _, _ => rfl
  | .own _ _ _ _, h | .ptr _ _ _, h | .map _, h | .yld _, h => by simp [AV.under] at h
  | .func _ _ _, h => by simp only [AV.under, AV.named, Bool.and_eq_true] at *; exact ⟨nameds_unders h.1, nameds_unders h.2⟩
  | .iface _ _, h => by simp only [AV.under, AV.named] at *; exact named_under h
  | .agg _, h | .tuple _, h => by simp only [AV.under, AV.named] at *; exact nameds_unders h
theorem nameds_unders {p : Nat → Bool} : {l : List AV} → AV.unders 0 l = true → AV.nameds p l = true
  | [], _ => rfl
  | _ :: _, h => by simp only [AV.unders, AV.nameds, Bool.and_eq_true] at *; exact ⟨named_under h.1, nameds_unders h.2⟩
end

theorem cells_named {p : Nat → Bool} {e : AV} (h : e.named p = true) : ∀ x ∈ e.cells, x.named p = true := by
  cases e <;> simp_all [AV.cells, AV.named, nameds_iff]

theorem named_of_cells {p : Nat → Bool} {e : AV} (h : ∀ x ∈ e.cells, x.named p = true) : e.named p = true := by
  cases e <;> simp_all [AV.cells, AV.named, nameds_iff]

/-- What reads with few blocks names few blocks. -/
theorem VR.named {p : Nat → Bool} (h : VR w σ F D v u) (hD : ∀ id, D id → p id = true) : v.named p = true := by
  induction h with
  | bool b => rfl
  | int k i => rfl
  | str s => rfl
  | frz0 clip a cap h => rfl
  | frz1 => rfl
  | own id off len cap clip a hn => simp [AV.named, hD _ hn]
  | nilp => rfl
  | ptr id i off hn => simp [AV.named, hD _ hn]
  | fp => rfl
  | map id hn => simp [AV.named, hD _ hn]
  | nilm => rfl
  | func fn as0 bs us vs ha hb hav hbv iha ihb =>
    simp only [AV.named, Bool.and_eq_true, nameds_iff]
    refine ⟨fun x hx => ?_, fun x hx => ?_⟩
    · obtain ⟨i, hi⟩ := List.getElem?_of_mem hx
      have : i < us.size := by rw [ha]; exact (List.getElem?_eq_some_iff.1 hi).1
      exact iha i x us[i] hi (by simp [this])
    · obtain ⟨i, hi⟩ := List.getElem?_of_mem hx
      have : i < vs.size := by rw [hb]; exact (List.getElem?_eq_some_iff.1 hi).1
      exact ihb i x vs[i] hi (by simp [this])
  | yld l hn => simp [AV.named, hD _ hn]
  | nilf => rfl
  | iface t v u h ih => simpa [AV.named] using ih
  | nili => rfl
  | agg cs us hl hcell hv ih =>
    simp only [AV.named, nameds_iff]
    intro x hx
    obtain ⟨i, hi⟩ := List.getElem?_of_mem hx
    have : i < us.size := by rw [hl]; exact (List.getElem?_eq_some_iff.1 hi).1
    exact ih i x us[i] hi (by simp [this])
  | tuple cs us hl hv ih =>
    simp only [AV.named, nameds_iff]
    intro x hx
    obtain ⟨i, hi⟩ := List.getElem?_of_mem hx
    have : i < us.size := by rw [hl]; exact (List.getElem?_eq_some_iff.1 hi).1
    exact ih i x us[i] hi (by simp [this])

/-- A value that names few blocks reads with few blocks. -/
theorem VR.narrow {p : Nat → Bool} (h : VR w σ F D v u) (hu : v.named p = true) (hD : ∀ id, p id = true → D' id) : VR w σ F D' v u := by
  induction h with
  | bool b => exact .bool b
  | int k i => exact .int k i
  | str s => exact .str s
  | frz0 clip a cap h => exact .frz0 clip a cap h
  | frz1 es clip b off cap esz f hc' hcl hFb hs' hp hcell hm hv ih =>
    refine .frz1 es clip b off cap esz f hc' hcl hFb hs' hp hcell hm (fun i e j x h1 h2 => ih i e j x h1 h2 ?_)
    exact cells_named (named_under (hp e (List.mem_of_getElem? h1))) x (List.mem_of_getElem? h2)
  | own id off len cap clip a hn' hc' hcl ha hroom => exact .own id off len cap clip a (hD _ (by simpa [AV.named] using hu)) hc' hcl ha hroom
  | nilp => exact .nilp
  | ptr id i off hn' => exact .ptr id i off (hD _ (by simpa [AV.named] using hu))
  | fp es i off b base esz f hFb hs' hp hcell hm hv ih =>
    refine .fp es i off b base esz f hFb hs' hp hcell hm (fun i e j x h1 h2 => ih i e j x h1 h2 ?_)
    exact cells_named (named_under (hp e (List.mem_of_getElem? h1))) x (List.mem_of_getElem? h2)
  | map id hn' => exact .map id (hD _ (by simpa [AV.named] using hu))
  | nilm => exact .nilm
  | func fn as0 bs us vs ha hb hav hbv iha ihb =>
    simp only [AV.named, Bool.and_eq_true, nameds_iff] at hu
    exact .func fn as0 bs us vs ha hb (fun i x u h1 h2 => iha i x u h1 h2 (hu.1 x (List.mem_of_getElem? h1))) (fun i x u h1 h2 => ihb i x u h1 h2 (hu.2 x (List.mem_of_getElem? h1)))
  | yld l hn' => exact .yld l (hD _ (by simpa [AV.named] using hu))
  | nilf => exact .nilf
  | iface t v u h ih => exact .iface t v u (ih (by simpa [AV.named] using hu))
  | nili => exact .nili
  | agg cs us hl hcell hv ih =>
    simp only [AV.named, nameds_iff] at hu
    exact .agg cs us hl hcell (fun i x u h1 h2 => ih i x u h1 h2 (hu x (List.mem_of_getElem? h1)))
  | tuple cs us hl hv ih =>
    simp only [AV.named, nameds_iff] at hu
    exact .tuple cs us hl (fun i x u h1 h2 => ih i x u h1 h2 (hu x (List.mem_of_getElem? h1)))

theorem BR.named {p : Nat → Bool} {id : Nat} {B : Blk} (h : BR w σ F D id B) (hD : ∀ id, D id → p id = true) : B.named p = true := by
  cases B with
  | dead => rfl
  | siter s pos => rfl
  | loop r p => rfl
  | cells esz es =>
    obtain ⟨_, _, _, vs, T, _, h5⟩ := h
    simp only [Blk.named, nameds_iff]
    intro e he
    obtain ⟨i, hi⟩ := List.getElem?_of_mem he
    refine named_of_cells fun x hx => ?_
    obtain ⟨j, hj⟩ := List.getElem?_of_mem hx
    obtain ⟨u, _, hu⟩ := h5 i e j x hi hj
    exact hu.named hD
  | map es =>
    obtain ⟨ms, clock, _, h2, h3⟩ := h
    simp only [Blk.named, List.all_eq_true, Bool.and_eq_true]
    intro e he
    obtain ⟨i, hi⟩ := List.getElem?_of_mem he
    have : i < ms.size := by rw [h2]; exact (List.getElem?_eq_some_iff.1 hi).1
    obtain ⟨h4, h5⟩ := h3 i e ms[i] hi (by simp [this])
    exact ⟨h4.named hD, h5.named hD⟩

theorem BR.narrow {p : Nat → Bool} {id : Nat} {B : Blk} (h : BR w σ F D id B) (hu : B.named p = true) (hD : ∀ id, p id = true → D' id) : BR w σ F D' id B := by
  cases B with
  | dead => trivial
  | siter s pos => exact h
  | loop r p => exact h
  | cells esz es =>
    obtain ⟨h1, h2, h3, vs, T, h4, h5⟩ := h
    simp only [Blk.named, nameds_iff] at hu
    refine ⟨h1, h2, h3, vs, T, h4, fun i e j x hi hj => ?_⟩
    obtain ⟨u, h6, h7⟩ := h5 i e j x hi hj
    exact ⟨u, h6, h7.narrow (cells_named (hu e (List.mem_of_getElem? hi)) x (List.mem_of_getElem? hj)) hD⟩
  | map es =>
    obtain ⟨ms, clock, h1, h2, h3⟩ := h
    simp only [Blk.named, List.all_eq_true, Bool.and_eq_true] at hu
    refine ⟨ms, clock, h1, h2, fun i e m hi hm => ?_⟩
    obtain ⟨h4, h5⟩ := h3 i e m hi hm
    obtain ⟨h6, h7⟩ := hu e (List.mem_of_getElem? hi)
    exact ⟨h4.narrow h6 hD, h5.narrow h7 hD⟩

/-- A step that was made with more names does with fewer, where nothing new names the others. -/
theorem Step.narrow (hr : Rel H D w σ F) (hD : ∀ id, D id → D1 id) (hs : Step H D1 σ F w H' D1 σ' F' w')
    (hH : ∀ id, H' id = H id ∨ (D id ∧ ∃ p : Nat → Bool, (H' id).named p = true ∧ ∀ i, p i = true → D i)) : Step H D σ F w H' D σ' F' w' := by
  refine ⟨⟨fun id h => ?_, fun id => ?_, hs.rel.inj, hs.rel.size, hs.rel.fsize, hs.rel.apart⟩, hs.ext, fun id h => hs.sig id (hD id h), fun _ h => h, hs.owns⟩
  · rcases hH id with e | ⟨h1, _⟩
    · rw [e] at h; exact hr.dom id h
    · exact h1
  · rcases hH id with e | ⟨_, p, h1, h2⟩
    · have hb := hs.rel.br id
      rw [e] at hb ⊢
      haveI : DecidablePred D := fun _ => Classical.propDecidable _
      exact hb.narrow ((hr.br id).named (p := fun i => decide (D i)) (fun i hi => by simpa using hi)) (fun i hi => by simpa using hi)
    · exact (hs.rel.br id).narrow h1 h2

end Go.Abs

/- One operation of a region that draws its order. -/
namespace Go.Abs

variable {H H' HT : Nat → Blk} {D D' D1 DT DT' : Nat → Prop} {σ σ' : Sig} {F F' : Nat → Prop} {w w' : World} {v x y z : AV} {u ux uy : Value} {P : Program} {A A' A0 B : Heap} {gl : List Nat} {E : Env} {Λ : List LoopInfo} {R R' RT : Regs} {a a' : Act} {lo : Nat}

theorem args_congr {l : List Arg} (h : ∀ x ∈ l, arg E R x = arg E R' x) : args E R l = args E R' l := List.map_congr_left h

theorem callee_congr {io : IOp} (h : ∀ x ∈ io.argsOf, arg E R x = arg E R' x) : callee E R io = callee E R' io := by
  cases io <;> simp only [callee]
  · rename_i f l
    simp only [IOp.argsOf, List.mem_cons, forall_eq_or_imp] at h
    rw [h.1, args_congr h.2]
  · rename_i x m l
    simp only [IOp.argsOf, List.mem_cons, forall_eq_or_imp] at h
    rw [h.1, args_congr h.2]

/-- What is called, called. -/
theorem callee_sound {call : CallF} (hE : EnvOk P E gl) (hcall : CallOk P E gl Λ call) {o : Oper} {io : IOp} {f : AV} {as0 : List AV} {r : CRes} (h : Here P E gl Λ lo (hget A) (below A) σ F w R a)
    (hc : compOp P gl o = some io) (hcl : callee E R io = some (f, as0)) (h1 : call f as0 A = some (r, A')) : CallTo P (CallEnd (hget A) (below A) σ F w A' (below A') r) ((execOp a.eval o).run P w) := by
  cases io <;> simp only [callee, reduceCtorEq] at hcl
  · rename_i g l
    simp only [Option.some.injEq, Prod.mk.injEq] at hcl
    obtain ⟨rfl, rfl⟩ := hcl
    obtain ⟨c, hoc, hcc⟩ := compOp_call hc (.inl ⟨g, l, rfl⟩)
    obtain ⟨q, c1, c2, c3⟩ := compCall_call hcc
    obtain ⟨s1, s2⟩ := argsA_sound h c3
    obtain ⟨d, d1, d2⟩ := hcall _ _ _ _ _ h1 σ F w (a.eval q) (c.args.map a.eval) h.ctx (arg_sound h.regs h.ctx.glob c2) (by simpa using s1) (by simpa using s2)
    have : (execOp a.eval o).run P w = (invoke d.target d.args).run P w := by
      simp [execOp, hoc, resolve, c1, d1]
    rw [this]; exact d2
  · rename_i x m l
    obtain ⟨c, hoc, hcc⟩ := compOp_call hc (.inr ⟨x, m, l, rfl⟩)
    obtain ⟨g, c1, c2, c3⟩ := compCall_invoke hcc
    split at hcl <;> (try (simp at hcl; done))
    rename_i t v hx
    split at hcl <;> (try (simp at hcl; done))
    rename_i f' b hmt
    simp at hcl
    obtain ⟨rfl, rfl⟩ := hcl
    obtain ⟨s1, s2⟩ := argsA_sound h c3
    have hv := arg_sound h.regs h.ctx.glob (E := E) c2
    rw [hx] at hv
    generalize hu : a.eval g = ug at hv
    cases hv with
    | iface _ _ u hv =>
    obtain ⟨d, d1, d2⟩ := hcall _ _ _ _ _ h1 σ F w (.func (.func f') #[u] #[]) (c.args.map a.eval) h.ctx
      (.func (.func f') [v] [] #[u] #[] rfl rfl (fun i p q hp hq => by cases i <;> simp at hp hq; subst hp; subst hq; exact hv) (fun i p q hp => by simp at hp)) (by simpa using s1) (by simpa using s2)
    simp [Deferred.ofValue] at d1
    subst d1
    have e1 : (execOp a.eval o).run P w = (callFunc f' (#[u] ++ c.args.map a.eval)).run P w := by
      rw [← run_callMethod (hE.mtab _ _ _ hmt)]
      have e4 : (#[Value.iface t u] ++ Array.map a.eval c.args)[0]? = some (Value.iface t u) := by rw [Array.getElem?_append_left (by simp)]; rfl
      have e5 : (Array.map a.eval c.args).extract 0 c.args.size = Array.map a.eval c.args := by
        have : c.args.size = (Array.map a.eval c.args).size := by simp
        rw [this, Array.extract_size]
      simp [execOp, hoc, resolve, c1, hu, invoke, e4, e5]
    rw [e1]
    have e3 : (invoke (.fn (.func f') #[]) (#[u] ++ c.args.map a.eval)).run P w = (callFunc f' (#[u] ++ c.args.map a.eval)).run P w := by simp [invoke]
    rw [← e3]; exact d2

theorem diff_same {id : Nat} (hl : B.length = A'.length) (h : lookL (diff 0 B A') id = none) : hget A' id = hget B id := by
  by_cases hlt : id < A'.length
  · have := diff_none B A' 0 id (fun d hd e => by
      have := lookL_isSome _ d hd
      rw [e, Nat.zero_add, h] at this; cases this) hlt
    exact this
  · rw [hget_dead (by omega), hget_dead (by omega)]

theorem diff_look {id : Nat} {b : Blk} (h : lookL (diff 0 B A') id = some b) : hget A' id = b := by
  have := diff_mem B A' 0 _ (lookL_mem _ _ _ h)
  simpa using this.2.2

/-- One operation, done at its own part of the memory. -/
theorem draw_op {call : CallF} (hE : EnvOk P E gl) (hcall : CallOk P E gl Λ call) {ops : Array Oper} {i n0 : Nat} {o : Oper} {io : IOper} {pre : List Nat} {d : Done} {ds0 : List Done} {rnd : Option Nat} {Rj : Regs}
    {K : Act → World → Prop} {Q : Exit → Act → World → Prop} (ho : ops[i]? = some o) (hc : compOper P gl ops o = some io) (h : Here P E gl Λ lo HT DT σ F w RT a)
    (hd : drawOne E call A0 n0 Rj ds0 io pre = some d) (hargs : ∀ x ∈ io.op.argsOf, arg E RT x = arg E Rj x) (hgu : guarded RT io.guard = guarded Rj io.guard)
    (hlook : ∀ id, (hget d.look.run id).live = true → HT id = hget d.look.run id) (hlen : ∀ id, DT id → id < A0.length) (h0 : ∀ id, id < n0 → DT id) (hpre : ∀ j ∈ pre, DT (n0 + j))
    (hslot : ¬ DT (n0 + ds0.length)) (hDT : ∀ id, DT id → DT' id) (hslot' : DT' (n0 + ds0.length)) (_hfit : n0 + ds0.length < A0.length) (_hn : n0 ≤ A0.length)
    (hK : ∀ σ' F' a' w', Step HT DT σ F w (updAll HT d.eff) DT' σ' F' w' → Here P E gl Λ lo (updAll HT d.eff) DT' σ' F' w' (rput RT io.dst d.v) a' → K a' w') :
    wpOpIn (fen rnd) 0 P ops Q i K a w := by
  obtain ⟨hdst, hg, hc⟩ := compOper_spec hc
  have hgu2 := guarded_sound (ops := ops) (o := o) h.regs
  rw [← hg] at hgu2
  unfold wpOpIn
  rw [ho]
  simp only
  rw [← hgu2]
  have hnd := compOp_defer hc
  unfold drawOne at hd
  rw [← hgu] at hd
  by_cases hgd : guarded RT io.guard = true
  · rw [if_pos hgd]
    simp only [hgd, if_true] at hd
    generalize hB : only (putAll A0 (pick pre.contains 0 (ds0.map Done.eff))) (foot E Rj io.op) = B at hd
    have lenB : (putAll A0 (pick pre.contains 0 (ds0.map Done.eff))).length = B.length := by
      rw [← hB]; unfold only; split <;> simp
    have lenB2 : A0.length ≤ B.length := by rw [← lenB]; exact (putAll_length _ _).1
    split at hd
    · -- a call
      rename_i f as0 hcl
      split at hd <;> (try (simp at hd; done))
      rename_i v A' h1
      split at hd <;> (try (simp at hd; done))
      rename_i hch
      obtain ⟨hl, hvn, hdn⟩ := hch
      simp at hd; subst hd
      simp only at hlook hK
      have hdB : ∀ id, hget B id = HT id ∨ hget B id = .dead := fun id => by
        by_cases hlv : (hget B id).live = true
        · exact .inl (hlook id hlv).symm
        · right; cases hb : hget B id <;> rw [hb] at hlv <;> first | rfl | exact absurd rfl hlv
      have hrB : Rel (hget B) DT w σ F := h.ctx.rel.dead hdB
      have hsB : Step HT DT σ F w (hget B) (below B) σ F w := ((Step.refl h.ctx.rel).dead hdB).more (fun id hid => Nat.lt_of_lt_of_le (hlen id hid) lenB2)
      rw [← callee_congr hargs] at hcl
      have hct := callee_sound hE hcall (h.step hsB) hc hcl h1
      refine ⟨fun _ _ => trivial, ?_⟩
      rw [Oper.semAt_eq _ _ _ hnd]
      simp only [List.all_eq_true, Bool.and_eq_true] at hdn
      have hpD : ∀ id, (decide (id < n0) || pre.contains (id - n0)) = true → DT id := fun id hp => by
        by_cases hlt : id < n0
        · exact h0 id hlt
        · simp only [hlt, decide_false, Bool.false_or, List.contains_iff_mem] at hp
          have := hpre _ hp
          rwa [show n0 + (id - n0) = id by omega] at this
      refine uponIn_of_callTo hct (fun u w' hR => ?_) (fun ch w' hR => ?_) (fun w' hR => hR.not_outgrown)
      · obtain ⟨σ', F', hs, u', he, hv⟩ := hR
        cases he
        have eb : below A' = below B := by unfold below; rw [hl]
        rw [eb] at hs hv
        have hs2 : Step (hget B) DT σ F w (hget A') DT σ' F' w' := Step.narrow hrB (fun id hid => Nat.lt_of_lt_of_le (hlen id hid) lenB2) hs (fun id => by
          cases hk : lookL (diff 0 B A') id with
          | none => exact .inl (diff_same hl hk)
          | some b =>
            obtain ⟨h2, h3⟩ := hdn _ (lookL_mem _ _ _ hk)
            refine .inr ⟨hpD _ h2, _, ?_, hpD⟩
            rw [diff_look hk]; exact h3)
        have hs3 : Step HT DT σ F w (updAll HT (diff 0 B A')) DT' σ' F' w' := Step.frame h.ctx.rel hdB (hs2.more hDT) (fun id => by
          rw [updAll_look]
          cases hk : lookL (diff 0 B A') id with
          | some b => left; rw [diff_look hk]; rfl
          | none =>
            rw [diff_same hl hk]
            simp only [Option.getD_none]
            rcases hdB id with e | e
            · exact .inl e.symm
            · exact .inr ⟨by trivial, e, e⟩)
        have := hK σ' F' (a.put io.dst u) w' hs3 ((h.step hs3).put io.dst ((hv.narrow hvn hpD).carry (fun _ h => h) (fun _ _ => rfl) (fun _ vs _ _ h => ⟨vs, h, rfl⟩) (fun _ _ => rfl) hDT))
        rw [hdst] at this
        exact this
      · obtain ⟨σ', F', hs, u', he, hv⟩ := hR
        cases he
    · -- no call
      rename_i hcl
      split at hd <;> (try (simp at hd; done))
      rename_i out h1
      split at hd <;> (try (simp at hd; done))
      rename_i hwr
      simp at hd; subst hd
      simp only at hlook hK
      have hdB : ∀ id, hget B id = HT id ∨ hget B id = .dead := fun id => by
        by_cases hlv : (hget B id).live = true
        · exact .inl (hlook id hlv).symm
        · right; cases hb : hget B id <;> rw [hb] at hlv <;> first | rfl | exact absurd rfl hlv
      have hrB : Rel (hget B) DT w σ F := h.ctx.rel.dead hdB
      rw [← evOp_congr _ hargs] at h1
      obtain ⟨nx, r, w', h2, h3, σ', F', h4, h5⟩ := evOp_sound (D' := DT') hrB hDT (fun _ => rfl) h.regs h.ctx.glob hc h1 (fun _ => by
        refine ⟨?_, hslot', hslot⟩
        by_cases hlv : (hget B (n0 + ds0.length)).live = true
        · exact absurd (hrB.dom _ hlv) hslot
        · cases hb : hget B (n0 + ds0.length) <;> rw [hb] at hlv <;> first | rfl | exact absurd rfl hlv)
      have hs3 : Step HT DT σ F w (updAll HT (out.wr ++ out.new.toList.map fun b => (n0 + ds0.length, b))) DT' σ' F' w' := Step.frame h.ctx.rel hdB h5 (fun id => by
        rw [updAll_look, updAll_look]
        cases hk : lookL (out.wr ++ out.new.toList.map fun b => (n0 + ds0.length, b)) id with
        | some b => left; rfl
        | none =>
          simp only [Option.getD_none]
          rcases hdB id with e | e
          · exact .inl e.symm
          · exact .inr ⟨by trivial, e, e⟩)
      refine ⟨fun _ _ => trivial, ?_⟩
      rw [Oper.semAt_eq _ _ _ hnd, h2]
      have hK2 := hK σ' F' _ w' hs3 ((h.step hs3).put io.dst h4)
      rw [hdst] at hK2
      rcases h3 with rfl | ⟨rfl, rfl⟩
      · exact hK2
      · exact hK2
  · have hgd2 : guarded RT io.guard = false := by simpa using hgd
    rw [if_neg hgd]
    simp only [hgd2, Bool.false_eq_true, if_false, Option.some.injEq] at hd
    subst hd
    simp only [updAll] at hK
    refine ⟨fun _ _ => trivial, ?_⟩
    have hs : Step HT DT σ F w HT DT' σ F w := (Step.refl h.ctx.rel).more hDT
    have := hK σ F _ w hs ((h.step hs).put io.dst VR.undef)
    rw [hdst] at this
    exact this

end Go.Abs

/- The orders of a region that draws its order, walked. -/
namespace Go.Abs

variable {P : Program} {gl : List Nat} {E : Env}

/-! ### What goes before what -/

theorem preOf_spec {acc : List (List Nat)} : ∀ {es : List Edge} {l : List Nat}, preOf acc es = some l →
    (∀ e ∈ es, Region.binds .any e = true → e.on < acc.length ∧ e.on ∈ l) ∧ (∀ p ∈ l, ∃ e ∈ es, Region.binds .any e = true ∧ (p = e.on ∨ p ∈ acc.getD e.on []))
  | [], l, h => by
    simp [preOf] at h; subst h
    exact ⟨fun _ h => by simp at h, fun _ h => by simp at h⟩
  | e :: es, l, h => by
    simp only [preOf] at h
    cases hr : preOf acc es with
    | none => rw [hr] at h; simp at h
    | some r =>
      rw [hr] at h
      obtain ⟨ih1, ih2⟩ := preOf_spec hr
      simp only at h
      split at h
      · rename_i hb
        split at h <;> simp at h
        rename_i hlt
        subst h
        refine ⟨fun e' he' hb' => ?_, fun p hp => ?_⟩
        · rcases List.mem_cons.1 he' with rfl | he'
          · exact ⟨hlt, by simp⟩
          · exact ⟨(ih1 e' he' hb').1, by simp [(ih1 e' he' hb').2]⟩
        · simp only [List.mem_cons, List.mem_append] at hp
          rcases hp with rfl | hp | hp
          · exact ⟨e, by simp, hb, .inl rfl⟩
          · exact ⟨e, by simp, hb, .inr (by simpa [List.getD] using hp)⟩
          · obtain ⟨e', h1, h2⟩ := ih2 p hp
            exact ⟨e', List.mem_cons_of_mem _ h1, h2⟩
      · rename_i hb
        simp at h; subst h
        refine ⟨fun e' he' hb' => ?_, fun p hp => ?_⟩
        · rcases List.mem_cons.1 he' with rfl | he'
          · exact absurd hb' hb
          · exact ih1 e' he' hb'
        · obtain ⟨e', h1, h2⟩ := ih2 p hp
          exact ⟨e', List.mem_cons_of_mem _ h1, h2⟩

structure PresOk (ops : Array Oper) (pres : List (List Nat)) : Prop where
  edge : ∀ i o e, ops[i]? = some o → e ∈ o.after → Region.binds .any e = true → e.on < i ∧ e.on ∈ pres.getD i []
  src : ∀ i o p, ops[i]? = some o → p ∈ pres.getD i [] → ∃ e ∈ o.after, Region.binds .any e = true ∧ (p = e.on ∨ p ∈ pres.getD e.on [])

theorem presOf_go : ∀ (os : List Oper) (acc pres : List (List Nat)), presOf os acc = some pres →
    (∃ new, pres = acc ++ new ∧ new.length = os.length) ∧ ∀ k o, os[k]? = some o → ∃ p, preOf (pres.take (acc.length + k)) o.after.toList = some p ∧ pres[acc.length + k]? = some ((List.range (acc.length + k)).filter p.contains)
  | [], acc, pres, h => by
    simp [presOf] at h; subst h
    exact ⟨⟨[], by simp, rfl⟩, fun k o h => by simp at h⟩
  | o :: os, acc, pres, h => by
    simp only [presOf] at h
    cases hp : preOf acc o.after.toList with
    | none => rw [hp] at h; simp at h
    | some p =>
      rw [hp] at h
      obtain ⟨⟨new, h1, h2⟩, h3⟩ := presOf_go os _ pres h
      refine ⟨⟨(List.range acc.length).filter p.contains :: new, by simp [h1], by simp [h2]⟩, fun k q hk => ?_⟩
      cases k with
      | zero =>
        simp only [List.getElem?_cons_zero, Option.some.injEq] at hk; subst hk
        refine ⟨p, ?_, ?_⟩
        · rw [h1]; simpa using hp
        · rw [h1]; simp
      | succ k =>
        obtain ⟨p', h4, h5⟩ := h3 k q (by simpa using hk)
        simp only [List.length_append, List.length_cons, List.length_nil] at h4 h5
        refine ⟨p', by rwa [show acc.length + (k + 1) = acc.length + (0 + 1) + k by omega], by rwa [show acc.length + (k + 1) = acc.length + (0 + 1) + k by omega]⟩

theorem presOf_ok {ops : Array Oper} {pres : List (List Nat)} (h : presOf ops.toList [] = some pres) : PresOk ops pres ∧ pres.length = ops.size := by
  obtain ⟨⟨new, h1, h2⟩, h3⟩ := presOf_go _ _ _ h
  have hlen : pres.length = ops.size := by rw [h1]; simpa using h2
  have key : ∀ i o, ops[i]? = some o → i < pres.length ∧ ∃ p, preOf (pres.take i) o.after.toList = some p ∧ pres.getD i [] = (List.range i).filter p.contains := fun i o ho => by
    obtain ⟨p, h4, h5⟩ := h3 i o (by simpa using ho)
    simp only [List.length_nil, Nat.zero_add] at h4 h5
    exact ⟨(List.getElem?_eq_some_iff.1 h5).1, p, h4, by simp [List.getD, h5]⟩
  refine ⟨⟨fun i o e ho he hb => ?_, fun i o p ho hp => ?_⟩, hlen⟩
  · obtain ⟨hi, p, h4, h5⟩ := key i o ho
    obtain ⟨h6, h7⟩ := (preOf_spec h4).1 e (by simpa using he) hb
    rw [List.length_take] at h6
    exact ⟨by omega, by rw [h5]; simp only [List.mem_filter, List.mem_range, List.contains_iff_mem]; exact ⟨by omega, h7⟩⟩
  · obtain ⟨hi, q, h4, h5⟩ := key i o ho
    rw [h5] at hp
    simp only [List.mem_filter, List.mem_range, List.contains_iff_mem] at hp
    obtain ⟨e, h6, h7, h8⟩ := (preOf_spec h4).2 p hp.2
    refine ⟨e, by simpa using h6, h7, ?_⟩
    rcases h8 with h8 | h8
    · exact .inl h8
    · right
      have h9 := ((preOf_spec h4).1 e h6 h7).1
      rw [List.length_take] at h9
      have : e.on < i := by omega
      simpa [List.getD, List.getElem?_take, this] using h8

theorem PresOk.lt {ops : Array Oper} {pres : List (List Nat)} (h : PresOk ops pres) (hl : pres.length = ops.size) : ∀ (i p : Nat), p ∈ pres.getD i [] → p < i := by
  intro i
  induction i using Nat.strongRecOn with
  | _ i ih =>
    intro p hp
    by_cases hi : i < ops.size
    · obtain ⟨e, h1, h2, h3⟩ := h.src i ops[i] p (by simp [hi]) hp
      obtain ⟨h4, _⟩ := h.edge i ops[i] e (by simp [hi]) h1 h2
      rcases h3 with rfl | h3
      · exact h4
      · exact Nat.lt_trans (ih e.on h4 p h3) h4
    · simp [List.getD, List.getElem?_eq_none (show pres.length ≤ i by omega)] at hp

/-! ### What is listed -/

/-- How many are not listed yet. -/
def unl (S : Nat → Bool) : Nat → Nat
  | 0 => 0
  | n + 1 => unl S n + (if S n then 0 else 1)

theorem unl_congr {S T : Nat → Bool} : ∀ {n : Nat}, (∀ i, i < n → S i = T i) → unl S n = unl T n
  | 0, _ => rfl
  | n + 1, h => by simp only [unl]; rw [unl_congr (fun i hi => h i (by omega)), h n (by omega)]

theorem unl_insert {S T : Nat → Bool} {j : Nat} : ∀ {n : Nat}, j < n → S j = false → T j = true → (∀ i, i ≠ j → T i = S i) → unl S n = unl T n + 1
  | 0, h, _, _, _ => by omega
  | n + 1, h, hS, hT, ho => by
    simp only [unl]
    by_cases e : n = j
    · subst e
      rw [unl_congr (fun i hi => (ho i (by omega)).symm), hS, hT]; simp
    · rw [unl_insert (by omega) hS hT ho, ho n e]; omega

theorem unl_zero {S : Nat → Bool} : ∀ {n : Nat}, unl S n = 0 → ∀ i, i < n → S i = true
  | 0, _, _, h => by omega
  | n + 1, h, i, hi => by
    simp only [unl] at h
    by_cases e : i = n
    · subst e; cases hs : S i with
      | true => rfl
      | false => rw [hs] at h; simp at h
    · exact unl_zero (n := n) (by omega) i (by omega)

def Reads (N : Nat) (listed : Array Bool) (S : Nat → Bool) : Prop := listed.size = N ∧ ∀ i, i < N → listed[i]? = some (S i)

theorem Reads.congr {N : Nat} {listed : Array Bool} {S T : Nat → Bool} (h : Reads N listed S) (hh : ∀ i, i < N → S i = T i) : Reads N listed T :=
  ⟨h.1, fun i hi => by rw [h.2 i hi, hh i hi]⟩

theorem Reads.insert {N : Nat} {listed : Array Bool} {S T : Nat → Bool} {j : Nat} (h : Reads N listed S) (hj : j < N) (hT : T j = true) (ho : ∀ i, i ≠ j → T i = S i) : Reads N (listed.setIfInBounds j true) T := by
  refine ⟨by simp [h.1], fun i hi => ?_⟩
  rw [Array.getElem?_setIfInBounds]
  by_cases e : j = i
  · subst e; simp [h.1, hj, hT]
  · rw [if_neg e, h.2 i hi, ho i (Ne.symm e)]

/-- What is ready: not listed, and all that its edges name is. -/
theorem ready_iff {ops : Array Oper} {listed : Array Bool} {S : Nat → Bool} (h : Reads ops.size listed S) {i : Nat} :
    i ∈ Region.ready .any ops listed ↔ ∃ o, ops[i]? = some o ∧ S i = false ∧ ∀ e ∈ o.after, Region.binds .any e = true → (e.on < ops.size ∧ S e.on = true) := by
  rw [mem_ready]
  have e1 : ∀ k, listed.getD k true = if k < ops.size then S k else true := fun k => by
    by_cases hk : k < ops.size
    · simp [Array.getD_eq_getD_getElem?, h.2 k hk, hk]
    · rw [if_neg hk, Array.getD_eq_getD_getElem?, Array.getElem?_eq_none (by rw [h.1]; omega)]; rfl
  have e2 : ∀ k, listed.getD k false = if k < ops.size then S k else false := fun k => by
    by_cases hk : k < ops.size
    · simp [Array.getD_eq_getD_getElem?, h.2 k hk, hk]
    · rw [if_neg hk, Array.getD_eq_getD_getElem?, Array.getElem?_eq_none (by rw [h.1]; omega)]; rfl
  constructor
  · rintro ⟨h1, o, ho, h2⟩
    have hi : i < ops.size := (Array.getElem?_eq_some_iff.1 ho).1
    rw [e1, if_pos hi] at h1
    refine ⟨o, ho, h1, fun e he hb => ?_⟩
    have := h2 e he hb
    rw [e2] at this
    split at this
    · exact ⟨by assumption, this⟩
    · cases this
  · rintro ⟨o, ho, h1, h2⟩
    have hi : i < ops.size := (Array.getElem?_eq_some_iff.1 ho).1
    refine ⟨by rw [e1, if_pos hi]; exact h1, o, ho, fun e he hb => ?_⟩
    obtain ⟨h3, h4⟩ := h2 e he hb
    rw [e2, if_pos h3]; exact h4

/-- What is listed within a part: what is before it, and some of its own. -/
def listedAt (s m : Nat) (T : Nat → Bool) (i : Nat) : Bool := decide (i < s) || (decide (i < s + m) && T (i - s))

theorem isCut_spec {pres : List (List Nat)} {e : Nat} (h : isCut pres e = true) {i p : Nat} (h1 : e ≤ i) (h2 : i < pres.length) (h3 : p < e) : p ∈ pres.getD i [] := by
  simp only [isCut, List.all_eq_true, Bool.or_eq_true, decide_eq_true_eq, List.mem_range, List.contains_iff_mem] at h
  have := h (pres[i], i) (by rw [List.mem_zipIdx_iff_getElem?]; simp [h2])
  rcases this with h4 | h4
  · simp at h4; omega
  · have := h4 p h3
    simpa [List.getD, h2] using this

/-- All orders of a part are walked, one operation after the other. -/
theorem walk {F : Fence} {n : Nat} {ops : Array Oper} {Q : Exit → Act → World → Prop} {pres : List (List Nat)} (hp : PresOk ops pres) (hl : pres.length = ops.size) {s m : Nat} (hm : s + m ≤ ops.size)
    (hcut : s + m = ops.size ∨ isCut pres (s + m) = true) {Inv : (Nat → Bool) → Act → World → Prop}
    (hstep : ∀ (T : Nat → Bool) (j : Nat) (a : Act) (w : World) (K : Act → World → Prop), Inv T a w → j < m → T j = false → (∀ p, s + p ∈ pres.getD (s + j) [] → T p = true) →
      (∀ i p, i < m → T i = true → s + p ∈ pres.getD (s + i) [] → T p = true) → (∀ a' w', Inv (fun i => T i || i == j) a' w' → K a' w') → wpOpIn F n P ops Q (s + j) K a w)
    (hend : ∀ (T : Nat → Bool) (listed : Array Bool) (a : Act) (w : World), (∀ i, i < m → T i = true) → Inv T a w → Reads ops.size listed (fun i => decide (i < s + m)) → wpAnyIn F n P .any ops Q (unl (fun i => decide (i < s + m)) ops.size) listed a w) :
    ∀ (k : Nat) (T : Nat → Bool) (listed : Array Bool) (a : Act) (w : World), unl T m = k → Reads ops.size listed (listedAt s m T) → (∀ i p, i < m → T i = true → s + p ∈ pres.getD (s + i) [] → T p = true) → Inv T a w →
      wpAnyIn F n P .any ops Q (unl (listedAt s m T) ops.size) listed a w := by
  intro k
  induction k with
  | zero =>
    intro T listed a w hk hr _ hi
    have hall := unl_zero hk
    have e : ∀ i, listedAt s m T i = decide (i < s + m) := fun i => by
      unfold listedAt
      by_cases h1 : i < s
      · simp [h1, show i < s + m by omega]
      · by_cases h2 : i < s + m
        · simp [h1, h2, hall (i - s) (by omega)]
        · simp [h1, h2]
    rw [unl_congr (fun i _ => e i)]
    exact hend T listed a w hall hi (hr.congr (fun i _ => e i))
  | succ k ih =>
    intro T listed a w hk hr hcl hi
    -- the first one that is not done
    have hex : ∃ j, j < m ∧ T j = false ∧ ∀ i, i < j → T i = true := by
      have : ∀ (m : Nat), unl T m ≠ 0 → ∃ j, j < m ∧ T j = false ∧ ∀ i, i < j → T i = true := by
        intro m
        induction m with
        | zero => intro h; exact absurd rfl h
        | succ m ihm =>
          intro h
          by_cases h0 : unl T m = 0
          · refine ⟨m, by omega, ?_, fun i hi => unl_zero h0 i hi⟩
            simp only [unl, h0] at h
            cases hT : T m with
            | false => rfl
            | true => rw [hT] at h; simp at h
          · obtain ⟨j, h1, h2⟩ := ihm h0
            exact ⟨j, by omega, h2⟩
      exact this m (by omega)
    obtain ⟨j0, hj0, hTj0, hmin⟩ := hex
    have hS : ∀ i, listedAt s m T i = true ↔ i < s ∨ (i < s + m ∧ T (i - s) = true) := fun i => by simp [listedAt]
    have hSf : ∀ i, listedAt s m T i = false ↔ s ≤ i ∧ (i < s + m → T (i - s) = false) := fun i => by simp [listedAt]
    have closed : ∀ i p, listedAt s m T i = true → p ∈ pres.getD i [] → listedAt s m T p = true := by
      intro i p h1 h2
      have hlt := hp.lt hl i p h2
      rcases (hS i).1 h1 with h3 | ⟨h3, h4⟩
      · exact (hS p).2 (.inl (by omega))
      · by_cases hps : p < s
        · exact (hS p).2 (.inl hps)
        · by_cases his : i < s
          · omega
          · refine (hS p).2 (.inr ⟨by omega, hcl (i - s) (p - s) (by omega) h4 ?_⟩)
            rwa [show s + (p - s) = p by omega, show s + (i - s) = i by omega]
    have hun : ∃ k', unl (listedAt s m T) ops.size = k' + 1 := by
      refine ⟨unl (listedAt s m (fun i => T i || i == j0)) ops.size, unl_insert (j := s + j0) (by omega) ((hSf _).2 ⟨by omega, fun _ => by rwa [show s + j0 - s = j0 by omega]⟩) (by simp [listedAt, hj0]) (fun i hne => ?_)⟩
      unfold listedAt
      by_cases h1 : i < s
      · simp [h1]
      · have : (i - s == j0) = false := by simp; omega
        simp only [this, Bool.or_false]
    obtain ⟨k', hk'⟩ := hun
    rw [hk']
    refine ⟨fun hnil => ?_, fun i hir => ?_⟩
    · exfalso
      have : s + j0 ∈ Region.ready .any ops listed := by
        have hlt : s + j0 < ops.size := by omega
        refine (ready_iff hr).2 ⟨ops[s + j0], by simp [hlt], (hSf _).2 ⟨by omega, fun _ => by rwa [show s + j0 - s = j0 by omega]⟩, fun e he hb => ?_⟩
        obtain ⟨h1, h2⟩ := hp.edge (s + j0) _ e (by simp [hlt]) he hb
        refine ⟨by omega, (hS _).2 ?_⟩
        by_cases hs : e.on < s
        · exact .inl hs
        · exact .inr ⟨by omega, hmin _ (by omega)⟩
      rw [hnil] at this; cases this
    · obtain ⟨o, ho, h1, h2⟩ := (ready_iff hr).1 hir
      have hi' : i < ops.size := (Array.getElem?_eq_some_iff.1 ho).1
      have hpre : ∀ p ∈ pres.getD i [], listedAt s m T p = true := fun p hpp => by
        obtain ⟨e, he, hb, h3⟩ := hp.src i o p ho hpp
        obtain ⟨_, h4⟩ := h2 e he hb
        rcases h3 with rfl | h3
        · exact h4
        · exact closed _ _ h4 h3
      obtain ⟨h3, h4⟩ := (hSf i).1 h1
      have him : i < s + m := by
        rcases Nat.lt_or_ge i (s + m) with h5 | h5
        · exact h5
        · exfalso
          rcases hcut with h6 | h6
          · omega
          · have := hpre (s + j0) (isCut_spec h6 h5 (by omega) (by omega))
            rw [(hSf (s + j0)).2 ⟨by omega, fun _ => by rwa [show s + j0 - s = j0 by omega]⟩] at this
            cases this
      have hT := h4 him
      have hloc : ∀ p, s + p ∈ pres.getD (s + (i - s)) [] → T p = true := fun p hpp => by
        rw [show s + (i - s) = i by omega] at hpp
        have := hpre _ hpp
        rcases (hS _).1 this with h5 | ⟨_, h5⟩
        · omega
        · rwa [show s + p - s = p by omega] at h5
      have := hstep T (i - s) a w (wpAnyIn F n P .any ops Q k' (listed.setIfInBounds i true)) hi (by omega) hT hloc hcl (fun a' w' hi2 => by
        have eT : ∀ q, q ≠ i → listedAt s m (fun k => T k || k == i - s) q = listedAt s m T q := fun q hne => by
          unfold listedAt
          by_cases hq : q < s
          · simp [hq]
          · have : (q - s == i - s) = false := by simp; omega
            simp only [this, Bool.or_false]
        have e1 : listedAt s m (fun k => T k || k == i - s) i = true := by simp [listedAt, him]
        have e2 := unl_insert (n := ops.size) hi' h1 e1 eT
        have e3 : k' = unl (listedAt s m (fun k => T k || k == i - s)) ops.size := by omega
        rw [e3]
        refine ih _ _ a' w' ?_ (hr.insert hi' e1 eT) (fun q p hq h5 h6 => ?_) hi2
        · have := unl_insert (S := T) (T := fun k => T k || k == i - s) (j := i - s) (n := m) (by omega) hT (by simp) (fun q hne => by
            have : (q == i - s) = false := by simpa using hne
            rw [this, Bool.or_false])
          omega
        · simp only [Bool.or_eq_true, beq_iff_eq] at h5 ⊢
          rcases h5 with h5 | rfl
          · exact .inl (hcl q p hq h5 h6)
          · exact .inl (hloc p h6))
      rwa [show s + (i - s) = i by omega] at this

end Go.Abs

/- Regions that draw their order: what the evaluator says holds in every order. -/
namespace Go.Abs

variable {H H' : Nat → Blk} {D D' : Nat → Prop} {σ σ' : Sig} {F F' : Nat → Prop} {w w' : World} {v x y z : AV} {u ux uy : Value} {P : Program} {A A' A0 : Heap} {gl : List Nat} {E : Env} {Λ : List LoopInfo} {R R' : Regs} {a a' : Act} {lo : Nat}

theorem evDraw_spec {call : CallF} {n0 : Nat} : ∀ {l : List (IOper × List Nat)} {R R' : Regs} {ds0 ds : List Done}, evDraw E call A0 n0 l R ds0 = some (R', ds) →
    ∃ (es : List Done) (Rs : Nat → Regs), ds = ds0 ++ es ∧ es.length = l.length ∧ Rs 0 = R ∧ Rs l.length = R' ∧
      ∀ j q, l[j]? = some q → ∃ d, es[j]? = some d ∧ drawOne E call A0 n0 (Rs j) (ds0 ++ es.take j) q.1 q.2 = some d ∧ Rs (j + 1) = rput (Rs j) q.1.dst d.v
  | [], R, R', ds0, ds, h => by
    simp only [evDraw, Option.some.injEq, Prod.mk.injEq] at h
    obtain ⟨rfl, rfl⟩ := h
    exact ⟨[], fun _ => R, by simp, rfl, rfl, rfl, fun j q h => by simp at h⟩
  | (o, pre) :: l, R, R', ds0, ds, h => by
    simp only [evDraw] at h
    split at h <;> (try (simp at h; done))
    rename_i d hd
    obtain ⟨es, Rs, h1, h2, h3, h4, h5⟩ := evDraw_spec h
    refine ⟨d :: es, fun j => match j with | 0 => R | j + 1 => Rs j, by simp [h1], by simp [h2], rfl, h4, fun j q hj => ?_⟩
    cases j with
    | zero =>
      simp at hj; subst hj
      exact ⟨d, rfl, by simpa using hd, h3⟩
    | succ j =>
      obtain ⟨d', h6, h7, h8⟩ := h5 j q (by simpa using hj)
      exact ⟨d', by simpa using h6, by simpa using h7, h8⟩

/-- What the operations of a part write into registers. -/
def wrs (l : List (IOper × List Nat)) (ds : List Done) : List (List (Nat × AV)) := (l.zip ds).map fun q => q.1.1.dst.toList.map fun t => (t, q.2.v)

theorem wrs_get {l : List (IOper × List Nat)} {ds : List Done} {j : Nat} {q : IOper × List Nat} {d : Done} (h1 : l[j]? = some q) (h2 : ds[j]? = some d) : (wrs l ds)[j]? = some (q.1.dst.toList.map fun t => (t, d.v)) := by
  have e : (l.zip ds)[j]? = some (q, d) := List.getElem?_zip_eq_some.2 ⟨h1, h2⟩
  simp only [wrs, List.getElem?_map, e, Option.map_some]

theorem wrs_inv {l : List (IOper × List Nat)} {ds : List Done} {j : Nat} {W : List (Nat × AV)} (h : (wrs l ds)[j]? = some W) : ∃ q d, l[j]? = some q ∧ ds[j]? = some d ∧ W = q.1.dst.toList.map fun t => (t, d.v) := by
  simp only [wrs, List.getElem?_map, Option.map_eq_some_iff] at h
  obtain ⟨⟨q, d⟩, h1, rfl⟩ := h
  obtain ⟨h2, h3⟩ := List.getElem?_zip_eq_some.1 h1
  exact ⟨q, d, h2, h3, rfl⟩

theorem lookL_dst {o : Option Nat} {v : AV} {t : Nat} : lookL (o.toList.map fun t => (t, v)) t = if o = some t then some v else none := by
  cases o <;> simp [lookL]

def regsAt (R : Regs) (W : List (List (Nat × AV))) (T : Nat → Bool) : Regs := (List.range R.length).map fun t => (lookL (pick T 0 W) t).getD (rget R t)

theorem regsAt_congr {R : Regs} {W : List (List (Nat × AV))} {T T' : Nat → Bool} (h : ∀ i, i < W.length → T i = T' i) : regsAt R W T = regsAt R W T' := by
  unfold regsAt
  congr 1; funext t
  rw [pick_agree W T T' 0 t (fun j W' hj hne => by
    have := (List.getElem?_eq_some_iff.1 hj).1
    rw [Nat.zero_add] at hne
    exact absurd (h j this) hne)]

theorem regsAt_none {R : Regs} {W : List (List (Nat × AV))} : regsAt R W (fun _ => false) = R := by
  unfold regsAt
  apply List.ext_getElem?
  intro t
  rw [List.getElem?_map]
  have e : ∀ t, lookL (pick (fun _ => false) 0 W) t = none := fun t => pick_none W _ 0 t (fun _ _ _ h => by cases h)
  simp only [e]
  by_cases ht : t < R.length
  · simp [ht, rget, List.getD]
  · simp [ht]

theorem rget_regsAt {R : Regs} {W : List (List (Nat × AV))} {T : Nat → Bool} {t : Nat} : rget (regsAt R W T) t = if t < R.length then (lookL (pick T 0 W) t).getD (rget R t) else undefA := by
  unfold regsAt rget List.getD
  by_cases ht : t < R.length
  · simp [ht]
  · simp [ht]

theorem rput_regsAt {R : Regs} {W : List (List (Nat × AV))} {T T' : Nat → Bool} {d : Option Nat} {v : AV}
    (h : ∀ t, lookL (pick T' 0 W) t = (lookL (d.toList.map fun t => (t, v)) t).or (lookL (pick T 0 W) t)) : rput (regsAt R W T) d v = regsAt R W T' := by
  unfold regsAt
  apply List.ext_getElem?
  intro t
  cases d with
  | none =>
    simp only [rput, List.getElem?_map]
    congr 1
    funext t'
    rw [h t']; simp [lookL]
  | some d =>
    simp only [rput, rset, List.getElem?_set, List.getElem?_map, List.length_map, List.length_range]
    by_cases e : d = t
    · subst e
      rw [if_pos rfl]
      by_cases ht : d < R.length
      · simp [ht, h d, lookL]
      · simp [ht]
    · rw [if_neg e]
      by_cases ht : t < R.length
      · have := h t
        simp only [Option.toList_some, List.map_cons, List.map_nil, lookL, Option.none_or, if_neg e] at this
        simp [ht, this]
      · simp [ht]

/-- What a part has listed, as the evaluator has it: memory, and what may be named. -/
def heapAt (A : Heap) (W : List (List (Nat × Blk))) (T : Nat → Bool) : Nat → Blk := updAll (hget A) (pick T 0 W)

def domAt (n0 m : Nat) (T : Nat → Bool) : Nat → Prop := fun id => id < n0 ∨ ∃ i, i < m ∧ T i = true ∧ id = n0 + i

/-- A part of a region, counted from its start. -/
def PartOf (Z : List (IOper × List Nat)) (s : Nat) (l : List (IOper × List Nat)) : Prop :=
  ∀ k q, l[k]? = some q → ∃ q0, Z[s + k]? = some q0 ∧ q = (q0.1, (q0.2.filter (s ≤ ·)).map (· - s))

theorem part_mem {pre : List Nat} {s p : Nat} : p ∈ (pre.filter (s ≤ ·)).map (· - s) ↔ s + p ∈ pre := by
  simp only [List.mem_map, List.mem_filter, decide_eq_true_eq]
  constructor
  · rintro ⟨q, ⟨h1, h2⟩, rfl⟩; rwa [show s + (q - s) = q by omega]
  · intro h; exact ⟨s + p, ⟨h, by omega⟩, by omega⟩

theorem apart_spec {l : List (IOper × List Nat)} (h : apartOk l = true) {i j : Nat} {q p : IOper × List Nat} (hq : l[i]? = some q) (hp : l[j]? = some p) (hne : i ≠ j) (h1 : j ∉ q.2) (h2 : i ∉ p.2) {d : Nat} (hd : q.1.dst = some d) :
    p.1.reads d = false ∧ p.1.dst ≠ some d := by
  simp only [apartOk, List.all_eq_true] at h
  have := h (q, i) (by rw [List.mem_zipIdx_iff_getElem?]; simpa using hq) (p, j) (by rw [List.mem_zipIdx_iff_getElem?]; simpa using hp)
  simp only [hd, Bool.or_eq_true, beq_iff_eq, List.contains_iff_mem, Bool.and_eq_true, Bool.not_eq_true', bne_iff_ne, ne_eq] at this
  rcases this with ((h3 | h3) | h3) | h3
  · exact absurd h3 hne
  · exact absurd h3 h1
  · exact absurd h3 h2
  · exact h3

theorem drawOk_spec {l : List (IOper × List Nat)} {ds : List Done} (h : drawOk l ds = true) {i j : Nat} {q p : IOper × List Nat} {dq dp : Done} (hq : l[i]? = some q) (hp : l[j]? = some p) (hdq : ds[i]? = some dq) (hdp : ds[j]? = some dp) (hne : i ≠ j) (h1 : j ∉ q.2) (h2 : i ∉ p.2) :
    ∀ e ∈ dq.eff, (hget dp.look.run e.1).live = false ∧ ∀ e' ∈ dp.eff, e'.1 ≠ e.1 := by
  simp only [drawOk, List.all_eq_true] at h
  have := h ((q, dq), i) (by rw [List.mem_zipIdx_iff_getElem?]; exact List.getElem?_zip_eq_some.2 ⟨hq, hdq⟩) ((p, dp), j) (by rw [List.mem_zipIdx_iff_getElem?]; exact List.getElem?_zip_eq_some.2 ⟨hp, hdp⟩)
  simp only [Bool.or_eq_true, beq_iff_eq, List.contains_iff_mem, List.all_eq_true, Bool.and_eq_true, Bool.not_eq_true', bne_iff_ne, ne_eq] at this
  rcases this with ((h3 | h3) | h3) | h3
  · exact absurd h3 hne
  · exact absurd h3 h1
  · exact absurd h3 h2
  · exact h3

theorem reads_arg {o : IOper} (h : ∀ t, o.reads t = true → rget R t = rget R' t) : (∀ x ∈ o.op.argsOf, arg E R x = arg E R' x) ∧ guarded R o.guard = guarded R' o.guard := by
  refine ⟨fun x hx => ?_, ?_⟩
  · cases x with
    | reg t =>
      refine h t ?_
      simp only [IOper.reads, Bool.or_eq_true, List.any_eq_true]
      exact .inl ⟨_, hx, by simp⟩
    | const v => rfl
    | glob g => rfl
  · cases hg : o.guard with
    | none => rfl
    | some p =>
      obtain ⟨t, want⟩ := p
      cases t with
      | none => rfl
      | some t =>
        have := h t (by simp [IOper.reads, hg])
        simp only [guarded, this]

end Go.Abs

/- Regions that draw their order, walked whole. -/
namespace Go.Abs

variable {H H' : Nat → Blk} {D D' : Nat → Prop} {σ σ' : Sig} {F F' : Nat → Prop} {w w' : World} {v x y z : AV} {u ux uy : Value} {P : Program} {A A' A0 : Heap} {gl : List Nat} {E : Env} {Λ : List LoopInfo} {R R' : Regs} {a a' : Act} {lo : Nat}

theorem hget_only {f : Option (List Nat)} {id : Nat} (h : (hget (only A f) id).live = true) : hget (only A f) id = hget A id := by
  cases f with
  | none => rfl
  | some l =>
    simp only [only, hget, List.getD, List.getElem?_map, List.getElem?_zipIdx] at h ⊢
    cases hA : A[id]? with
    | none => simp
    | some b =>
      rw [hA] at h
      simp only [Option.map_some, Option.getD_some, Nat.zero_add] at h ⊢
      split at h
      · rename_i hc; rw [if_pos hc]
      · cases h

theorem drawOne_look {call : CallF} {n0 : Nat} {ds : List Done} {o : IOper} {pre : List Nat} {d : Done} {id : Nat} (h : drawOne E call A0 n0 R ds o pre = some d) (hl : (hget d.look.run id).live = true) :
    hget d.look.run id = hget (putAll A0 (pick pre.contains 0 (ds.map Done.eff))) id := by
  unfold drawOne at h
  split at h
  · simp only at h
    split at h
    · split at h <;> (try (simp at h; done))
      split at h <;> simp at h
      subst h
      exact hget_only hl
    · split at h <;> (try (simp at h; done))
      split at h <;> simp at h
      subst h
      exact hget_only hl
  · simp at h; subst h
    simp [hget] at hl; cases hl

/-- What is asked of a region's operations, as they were compiled. -/
structure ZOk (P : Program) (gl : List Nat) (ops : Array Oper) (pres : List (List Nat)) (Z : List (IOper × List Nat)) : Prop where
  pre : PresOk ops pres
  len : pres.length = ops.size
  get : ∀ i q, Z[i]? = some q → ∃ o, ops[i]? = some o ∧ compOper P gl ops o = some q.1 ∧ q.2 = pres.getD i []

theorem region_part {call : CallF} (hE : EnvOk P E gl) (hcall : CallOk P E gl Λ call) {ops : Array Oper} {pres : List (List Nat)} {Z l : List (IOper × List Nat)} (hZ : ZOk P gl ops pres Z) {s : Nat} (hpart : PartOf Z s l)
    (hm : s + l.length ≤ ops.size) (hcut : s + l.length = ops.size ∨ isCut pres (s + l.length) = true) (hok : apartOk l = true) {rnd : Option Nat} {Q : Exit → Act → World → Prop} {r : OR}
    (h : Here P E gl Λ lo (hget A) (below A) σ F w R a) (he : evRegion E call l R A = some r) {listed : Array Bool} (hr : Reads ops.size listed (fun i => decide (i < s)))
    (hM : Meets P E gl Λ lo A σ F w (fun a' w' => ∀ listed, Reads ops.size listed (fun i => decide (i < s + l.length)) → wpAnyIn (fen rnd) 0 P .any ops Q (unl (fun i => decide (i < s + l.length)) ops.size) listed a' w') Q r) :
    wpAnyIn (fen rnd) 0 P .any ops Q (unl (fun i => decide (i < s)) ops.size) listed a w := by
  unfold evRegion at he
  simp only at he
  generalize hA0 : A ++ List.replicate l.length Blk.dead = A0 at he
  have lenA0 : A0.length = A.length + l.length := by rw [← hA0]; simp
  have hgA0 : ∀ id, hget A0 id = hget A id := fun id => by
    rw [← hA0]
    simp only [hget, List.getD]
    by_cases h1 : id < A.length
    · rw [List.getElem?_append_left h1]
    · rw [List.getElem?_append_right (by omega), List.getElem?_eq_none (l := A) (by omega), List.getElem?_replicate]
      split <;> rfl
  split at he <;> (try (simp at he; done))
  rename_i R' ds hd
  split at he <;> simp at he
  rename_i hdok
  subst he
  obtain ⟨es, Rs, h1, h2, h3, h4, h5⟩ := evDraw_spec hd
  rw [List.nil_append] at h1
  subst h1
  -- every operation
  have each : ∀ j, j < l.length → ∃ q d o, l[j]? = some q ∧ ds[j]? = some d ∧ ops[s + j]? = some o ∧ compOper P gl ops o = some q.1 ∧ (∀ p, p ∈ q.2 ↔ s + p ∈ pres.getD (s + j) []) ∧ (∀ p ∈ q.2, p < j) ∧
      drawOne E call A0 A.length (Rs j) (ds.take j) q.1 q.2 = some d ∧ Rs (j + 1) = rput (Rs j) q.1.dst d.v := by
    intro j hj
    obtain ⟨q0, hq0, hq⟩ := hpart j l[j] (by simp [hj])
    obtain ⟨d, h6, h7, h8⟩ := h5 j l[j] (by simp [hj])
    obtain ⟨o, h9, h10, h11⟩ := hZ.get _ _ hq0
    have hmem : ∀ p, p ∈ (l[j]).2 ↔ s + p ∈ pres.getD (s + j) [] := fun p => by rw [hq, ← h11]; exact part_mem
    refine ⟨l[j], d, o, by simp [hj], h6, h9, by rw [hq]; exact h10, hmem, fun p hp => ?_, by simpa using h7, h8⟩
    have := hZ.pre.lt hZ.len _ _ ((hmem p).1 hp)
    omega
  have getds : ∀ {i : Nat} {W : List (Nat × Blk)}, (ds.map Done.eff)[i]? = some W → ∃ d, ds[i]? = some d ∧ W = d.eff ∧ i < l.length := fun {i W} hW => by
    rw [List.getElem?_map, Option.map_eq_some_iff] at hW
    obtain ⟨d, h6, h7⟩ := hW
    exact ⟨d, h6, h7.symm, by rw [← h2]; exact (List.getElem?_eq_some_iff.1 h6).1⟩
  have regs : ∀ j, j ≤ l.length → Rs j = regsAt R (wrs l ds) (fun i => decide (i < j)) := by
    intro j
    induction j with
    | zero =>
      intro _
      rw [h3, regsAt_congr (T' := fun _ => false) (fun i _ => by simp), regsAt_none]
    | succ j ih =>
      intro hj
      obtain ⟨q, d, o, h6, h7, _, _, _, _, _, h8⟩ := each j (by omega)
      rw [h8, ih (by omega)]
      refine rput_regsAt (fun t => ?_)
      refine pick_insert (wrs l ds) _ _ 0 j t _ (wrs_get h6 h7) (by simp) (fun k => ?_) (fun j' W' hlt _ hT => ?_)
      · by_cases e : k = j
        · subst e; simp
        · have e1 : decide (k < j + 1) = decide (k < j) := by simp; omega
          have e2 : (k == 0 + j) = false := by simpa using e
          simp only [e1, e2, Bool.or_false]
      · simp at hT; omega
  have start : wpAnyIn (fen rnd) 0 P .any ops Q (unl (listedAt s l.length (fun _ => false)) ops.size) listed a w := by
    refine walk hZ.pre hZ.len hm hcut (Inv := fun T a' w' => ∃ σ' F', Step (hget A) (below A) σ F w (heapAt A (ds.map Done.eff) T) (domAt A.length l.length T) σ' F' w' ∧
        Here P E gl Λ lo (heapAt A (ds.map Done.eff) T) (domAt A.length l.length T) σ' F' w' (regsAt R (wrs l ds) T) a') ?_ ?_ _ _ _ _ _ rfl (hr.congr fun i _ => by simp [listedAt]) (fun i p _ h => by cases h) ?_
    · -- one operation more
      rintro T j a' w' K ⟨σ', F', hst, hh⟩ hj hTj hpre hclosed hK
      obtain ⟨q, d, o, hq, hd', ho, hc, hmem, hlt, hdr, _⟩ := each j hj
      have hpre2 : ∀ p ∈ q.2, T p = true := fun p hp => hpre p ((hmem p).1 hp)
      -- those that are done and not before it
      have free : ∀ i q', l[i]? = some q' → T i = true → j ∉ q'.2 ∧ i ≠ j := fun i q' hq' hT => by
        have hi : i < l.length := (List.getElem?_eq_some_iff.1 hq').1
        refine ⟨fun hin => ?_, fun e => by subst e; rw [hTj] at hT; cases hT⟩
        obtain ⟨q'', _, _, h6, _, _, _, h7, _⟩ := each i hi
        rw [hq'] at h6; cases h6
        have := hclosed i j hi hT ((h7 j).1 hin)
        rw [hTj] at this; cases this
      have len0 : (ds.take j).length = j := by rw [List.length_take]; omega
      have hreads : ∀ t, q.1.reads t = true → rget (regsAt R (wrs l ds) T) t = rget (Rs j) t := fun t ht => by
        rw [regs j (by omega), rget_regsAt, rget_regsAt]
        rw [pick_agree (wrs l ds) T (fun i => decide (i < j)) 0 t (fun i W hW hne => ?_)]
        rw [Nat.zero_add] at hne
        obtain ⟨q', d', h6, h7, rfl⟩ := wrs_inv hW
        rw [lookL_dst]
        split
        · rename_i hdst
          exfalso
          have hi : i < l.length := (List.getElem?_eq_some_iff.1 h6).1
          obtain ⟨q'', _, _, h8, _, _, _, _, h9, _⟩ := each i hi
          rw [h6] at h8; cases h8
          have hij : i ≠ j := fun e => by subst e; rw [hTj] at hne; simp at hne
          have := apart_spec hok h6 hq hij (fun hin => ?_) (fun hin => ?_) hdst
          · rw [ht] at this; cases this.1
          · cases hT : T i with
            | true => exact (free i q' h6 hT).1 hin
            | false =>
              rw [hT] at hne
              have := h9 j hin
              simp at hne; omega
          · have h10 := hlt i hin
            have h11 := hpre2 i hin
            rw [h11] at hne; simp at hne; omega
        · rfl
      obtain ⟨hargs, hgu⟩ := reads_arg (E := E) hreads
      refine draw_op hE hcall ho hc hh hdr hargs hgu (DT' := domAt A.length l.length (fun i => T i || i == j)) (fun id hl => ?_) (fun id hid => ?_) (fun id hid => .inl hid) (fun p hp => ?_) ?_ (fun id hid => ?_) ?_ (by rw [len0]; omega) (by omega) (fun σ2 F2 a2 w2 hs2 hh2 => ?_)
      · rw [drawOne_look hdr hl, hget_putAll, updAll_look, hgA0]
        unfold heapAt
        rw [updAll_look, List.map_take, pick_take _ _ 0 j (fun p hp => by have := hlt p (by simpa using hp); omega)]
        rw [pick_agree (ds.map Done.eff) T q.2.contains 0 id (fun i W hW hne => ?_)]
        rw [Nat.zero_add] at hne
        obtain ⟨d', h6, rfl, hi⟩ := getds hW
        obtain ⟨q', _, _, h8, _, _, _, _, h9, _⟩ := each i hi
        cases hk : lookL d'.eff id with
        | none => rfl
        | some b =>
          exfalso
          cases hT : T i with
          | true =>
            rw [hT] at hne
            have hn : i ∉ q.2 := fun hin => hne (by simpa using hin)
            obtain ⟨f1, f2⟩ := free i q' h8 hT
            have := (drawOk_spec hdok h8 hq h6 hd' f2 f1 hn _ (lookL_mem _ _ _ hk)).1
            rw [hl] at this; cases this
          | false =>
            rw [hT] at hne
            have : i ∈ q.2 := by simpa using hne
            rw [hpre2 i this] at hT; cases hT
      · rcases hid with h6 | ⟨i, h6, _, rfl⟩ <;> omega
      · have := hlt p hp
        exact .inr ⟨p, by omega, hpre2 p hp, rfl⟩
      · rw [len0]
        rintro (h6 | ⟨i, _, h6, h7⟩)
        · omega
        · have : i = j := by omega
          subst this; rw [hTj] at h6; cases h6
      · rcases hid with h6 | ⟨i, h6, h7, h8⟩
        · exact .inl h6
        · exact .inr ⟨i, h6, by simp [h7], h8⟩
      · rw [len0]; exact .inr ⟨j, hj, by simp, rfl⟩
      · have eh : updAll (heapAt A (ds.map Done.eff) T) d.eff = heapAt A (ds.map Done.eff) (fun i => T i || i == j) := by
          funext id
          unfold heapAt
          rw [updAll_look, updAll_look, updAll_look]
          rw [pick_insert (ds.map Done.eff) T (fun i => T i || i == j) 0 j id d.eff (by simp [hd']) (by simpa using hTj) (fun k => by simp) (fun j' W' hlt' hW' hT' hne => ?_)]
          · cases lookL d.eff id <;> simp
          · rw [Nat.zero_add] at hT'
            obtain ⟨d', h6, rfl, hi⟩ := getds hW'
            obtain ⟨q', _, _, h8, _⟩ := each j' hi
            obtain ⟨f1, f2⟩ := free j' q' h8 hT'
            have hn : j' ∉ q.2 := fun hin => by have := hlt j' hin; omega
            cases hk : lookL d'.eff id with
            | none => rfl
            | some b =>
              exfalso
              obtain ⟨b', hb'⟩ := Option.ne_none_iff_exists'.1 hne
              exact (drawOk_spec hdok h8 hq h6 hd' f2 f1 hn _ (lookL_mem _ _ _ hk)).2 _ (lookL_mem _ _ _ hb') rfl
        have er : rput (regsAt R (wrs l ds) T) q.1.dst d.v = regsAt R (wrs l ds) (fun i => T i || i == j) := by
          refine rput_regsAt (fun t => ?_)
          refine pick_insert (wrs l ds) T (fun i => T i || i == j) 0 j t _ (wrs_get hq hd') (by simpa using hTj) (fun k => by simp) (fun j' W' hlt' hW' hT' hne => ?_)
          rw [Nat.zero_add] at hT'
          obtain ⟨q', d', h6, h7, rfl⟩ := wrs_inv hW'
          rw [lookL_dst] at hne ⊢
          split at hne
          · rename_i hdst
            split
            · rename_i hdst'
              exfalso
              obtain ⟨f1, f2⟩ := free j' q' h6 hT'
              have hn : j' ∉ q.2 := fun hin => by have := hlt j' hin; omega
              exact (apart_spec hok h6 hq f2 f1 hn hdst').2 hdst
            · rfl
          · exact absurd rfl hne
        rw [eh] at hs2 hh2
        rw [er] at hh2
        exact hK a2 w2 ⟨σ2, F2, hst.trans hs2, hh2⟩
    · -- all are done
      rintro T listed' a' w' hall ⟨σ', F', hst, hh⟩ hr'
      have hfin : ∀ id, domAt A.length l.length T id → below (putAll A0 (ds.map Done.eff).flatten) id := fun id hid => by
        have := (putAll_length (ds.map Done.eff).flatten A0).1
        unfold below
        rcases hid with h6 | ⟨i, h6, _, rfl⟩ <;> omega
      have eh : heapAt A (ds.map Done.eff) T = hget (putAll A0 (ds.map Done.eff).flatten) := by
        funext id
        rw [hget_putAll, updAll_look, hgA0]
        unfold heapAt
        rw [updAll_look, pick_all _ T 0 (fun k _ hk => hall k (by simp at hk; omega))]
      have er : regsAt R (wrs l ds) T = R' := by
        rw [← h4, regs l.length (Nat.le_refl _)]
        refine regsAt_congr (fun i hi => ?_)
        have : i < l.length := by simp [wrs] at hi; omega
        rw [hall i this]; simp [this]
      rw [eh] at hst hh
      rw [er] at hh
      exact hM σ' F' a' w' (hst.more hfin) (hh.step ((Step.refl hh.ctx.rel).more hfin)) listed' hr'
    · have eh : heapAt A (ds.map Done.eff) (fun _ => false) = hget A := by
        funext id
        unfold heapAt
        rw [updAll_look, pick_none _ _ 0 id (fun _ _ _ h => by cases h)]; rfl
      rw [eh, regsAt_none]
      have hs : Step (hget A) (below A) σ F w (hget A) (domAt A.length l.length (fun _ => false)) σ F w := (Step.refl h.ctx.rel).more (fun id hid => .inl hid)
      exact ⟨σ, F, hs, h.step hs⟩
  rw [unl_congr (T := fun i => decide (i < s)) (fun i _ => by simp [listedAt])] at start
  exact start

end Go.Abs

/- Regions that draw their order: their parts, one after the other. -/
namespace Go.Abs

variable {H H' : Nat → Blk} {D D' : Nat → Prop} {σ σ' : Sig} {F F' : Nat → Prop} {w w' : World} {v x y z : AV} {u ux uy : Value} {P : Program} {A A' A0 : Heap} {gl : List Nat} {E : Env} {Λ : List LoopInfo} {R R' : Regs} {a a' : Act} {lo : Nat}

theorem putAll_nil_eq (A : Heap) : putAll A [] = A := rfl

theorem sameHeap_hget {A A' : Heap} (h : sameHeap A A' = true) : A.length = A'.length ∧ hget A' = hget A := by
  simp only [sameHeap, Bool.and_eq_true, decide_eq_true_eq, List.isEmpty_iff] at h
  refine ⟨h.1, funext fun id => ?_⟩
  exact diff_same h.1 (by rw [h.2]; rfl)

/-- What one quiet operation does, alone. -/
theorem quiet_one {call : CallF} {o : IOper} {R' : Regs} {v : AV} {A : Heap} (hq : (if guarded R o.guard then
      match callee E R o.op with
      | some (f, l) => match call f l A with
        | some (.ret v, A') => if sameHeap A A' then some v else none
        | _ => none
      | none => match evOp E R A A.length o.op with
        | some out => if out.wr.isEmpty && out.new.isNone then some out.v else none
        | none => none
    else some undefA) = some v) (hargs : ∀ x ∈ o.op.argsOf, arg E R' x = arg E R x) (hgu : guarded R' o.guard = guarded R o.guard) :
    ∃ A', evOps E call [o] R' A = some (.next (rput R' o.dst v) A') ∧ A.length = A'.length ∧ hget A' = hget A := by
  rw [← hgu, ← callee_congr hargs, ← evOp_congr _ hargs] at hq
  simp only [evOps]
  by_cases hg : guarded R' o.guard = true
  · simp only [hg, if_true] at hq ⊢
    cases hcl : callee E R' o.op with
    | some fl =>
      obtain ⟨f, l⟩ := fl
      rw [hcl] at hq
      simp only at hq
      split at hq <;> (try (simp at hq; done))
      rename_i v' A' hcall
      split at hq <;> simp at hq
      rename_i hs
      subst hq
      obtain ⟨h1, h2⟩ := sameHeap_hget hs
      refine ⟨A', ?_, h1, h2⟩
      cases hop : o.op <;> rw [hop] at hcl <;> simp only [callee, reduceCtorEq] at hcl ⊢
      · simp only [Option.some.injEq, Prod.mk.injEq] at hcl
        obtain ⟨rfl, rfl⟩ := hcl
        rw [hcall]
      · rw [hcl]
        simp only [hcall]
    | none =>
      rw [hcl] at hq
      simp only at hq
      split at hq <;> (try (simp at hq; done))
      rename_i out hout
      split at hq <;> simp at hq
      rename_i hwn
      subst hq
      simp only [Bool.and_eq_true, List.isEmpty_iff, Option.isNone_iff_eq_none] at hwn
      have ea : applyOut A out = A := by unfold applyOut; rw [hwn.1, hwn.2]; rfl
      refine ⟨A, ?_, rfl, rfl⟩
      cases hop : o.op <;> rw [hop] at hcl hout <;> simp only [callee, evOp, reduceCtorEq] at hcl hout <;> simp only [evOp, hout, ea]
  · have hg2 : guarded R' o.guard = false := by simpa using hg
    simp only [hg2, Bool.false_eq_true, if_false] at hq ⊢
    simp at hq; subst hq
    exact ⟨A, rfl, rfl, rfl⟩

theorem evQuiet_spec {call : CallF} {A : Heap} : ∀ {l : List (IOper × List Nat)} {R R' : Regs}, evQuiet E call A l R = some R' →
    ∃ (ds : List Done) (Rs : Nat → Regs), ds.length = l.length ∧ Rs 0 = R ∧ Rs l.length = R' ∧
      ∀ j q, l[j]? = some q → ∃ d, ds[j]? = some d ∧ Rs (j + 1) = rput (Rs j) q.1.dst d.v ∧ (if guarded (Rs j) q.1.guard then
      match callee E (Rs j) q.1.op with
      | some (f, l) => match call f l A with
        | some (.ret v, A') => if sameHeap A A' then some v else none
        | _ => none
      | none => match evOp E (Rs j) A A.length q.1.op with
        | some out => if out.wr.isEmpty && out.new.isNone then some out.v else none
        | none => none
    else some undefA) = some d.v
  | [], R, R', h => by
    simp only [evQuiet, Option.some.injEq] at h
    subst h
    exact ⟨[], fun _ => R, rfl, rfl, rfl, fun j q h => by simp at h⟩
  | (o, pre) :: l, R, R', h => by
    have key : ∃ v, evQuiet E call A l (rput R o.dst v) = some R' ∧ (if guarded R o.guard then
      match callee E R o.op with
      | some (f, l) => match call f l A with
        | some (.ret v, A') => if sameHeap A A' then some v else none
        | _ => none
      | none => match evOp E R A A.length o.op with
        | some out => if out.wr.isEmpty && out.new.isNone then some out.v else none
        | none => none
    else some undefA) = some v := by
      simp only [evQuiet] at h
      split at h
      · rename_i hg
        split at h
        · rename_i hcl
          split at h <;> (try (simp at h; done))
          rename_i hcall
          split at h <;> (try (simp at h; done))
          rename_i hs
          exact ⟨_, h, by simp [hg, hcl, hcall, hs]⟩
        · rename_i hcl
          split at h <;> (try (simp at h; done))
          rename_i hop
          split at h <;> (try (simp at h; done))
          rename_i hs
          exact ⟨_, h, by simp only [hg, hcl, hop, hs, if_true]⟩
      · rename_i hg
        exact ⟨_, h, by simp [hg]⟩
    obtain ⟨v, h1, h2⟩ := key
    obtain ⟨es, Rs, h3, h4, h5, h6⟩ := evQuiet_spec h1
    refine ⟨(@Done.mk v [] ⟨[]⟩) :: es, fun j => match j with | 0 => R | j + 1 => Rs j, by simp [h3], rfl, h5, fun j q hj => ?_⟩
    cases j with
    | zero =>
      simp at hj; subst hj
      exact ⟨_, rfl, h4, h2⟩
    | succ j =>
      obtain ⟨d', h7, h8, h9⟩ := h6 j q (by simpa using hj)
      exact ⟨d', by simpa using h7, h8, h9⟩

theorem quiet_part {call : CallF} (hE : EnvOk P E gl) (hcall : CallOk P E gl Λ call) {ops : Array Oper} {pres : List (List Nat)} {Z l : List (IOper × List Nat)} (hZ : ZOk P gl ops pres Z) {s : Nat} (hpart : PartOf Z s l)
    (hm : s + l.length ≤ ops.size) (hcut : s + l.length = ops.size ∨ isCut pres (s + l.length) = true) (hok : apartOk l = true) {rnd : Option Nat} {Q : Exit → Act → World → Prop} {R' : Regs}
    (h : Here P E gl Λ lo (hget A) (below A) σ F w R a) (he : evQuiet E call A l R = some R') {listed : Array Bool} (hr : Reads ops.size listed (fun i => decide (i < s)))
    (hM : Meets P E gl Λ lo A σ F w (fun a' w' => ∀ listed, Reads ops.size listed (fun i => decide (i < s + l.length)) → wpAnyIn (fen rnd) 0 P .any ops Q (unl (fun i => decide (i < s + l.length)) ops.size) listed a' w') Q (.next R' A)) :
    wpAnyIn (fen rnd) 0 P .any ops Q (unl (fun i => decide (i < s)) ops.size) listed a w := by
  obtain ⟨ds, Rs, h2, h3, h4, h5⟩ := evQuiet_spec he
  have each : ∀ j, j < l.length → ∃ q d o, l[j]? = some q ∧ ds[j]? = some d ∧ ops[s + j]? = some o ∧ compOper P gl ops o = some q.1 ∧ (∀ p, p ∈ q.2 ↔ s + p ∈ pres.getD (s + j) []) ∧ (∀ p ∈ q.2, p < j) ∧
      Rs (j + 1) = rput (Rs j) q.1.dst d.v ∧ ∀ R', (∀ x ∈ q.1.op.argsOf, arg E R' x = arg E (Rs j) x) → guarded R' q.1.guard = guarded (Rs j) q.1.guard → ∃ A', evOps E call [q.1] R' A = some (.next (rput R' q.1.dst d.v) A') ∧ A.length = A'.length ∧ hget A' = hget A := by
    intro j hj
    obtain ⟨q0, hq0, hq⟩ := hpart j l[j] (by simp [hj])
    obtain ⟨d, h6, h8, h7⟩ := h5 j l[j] (by simp [hj])
    obtain ⟨o, h9, h10, h11⟩ := hZ.get _ _ hq0
    have hmem : ∀ p, p ∈ (l[j]).2 ↔ s + p ∈ pres.getD (s + j) [] := fun p => by rw [hq, ← h11]; exact part_mem
    refine ⟨l[j], d, o, by simp [hj], h6, h9, by rw [hq]; exact h10, hmem, fun p hp => ?_, h8, fun R' ha hg => quiet_one h7 ha hg⟩
    have := hZ.pre.lt hZ.len _ _ ((hmem p).1 hp)
    omega
  have regs : ∀ j, j ≤ l.length → Rs j = regsAt R (wrs l ds) (fun i => decide (i < j)) := by
    intro j
    induction j with
    | zero =>
      intro _
      rw [h3, regsAt_congr (T' := fun _ => false) (fun i _ => by simp), regsAt_none]
    | succ j ih =>
      intro hj
      obtain ⟨q, d, o, h6, h7, _, _, _, _, h8, _⟩ := each j (by omega)
      rw [h8, ih (by omega)]
      refine rput_regsAt (fun t => ?_)
      refine pick_insert (wrs l ds) _ _ 0 j t _ (wrs_get h6 h7) (by simp) (fun k => ?_) (fun j' W' hlt _ hT => ?_)
      · by_cases e : k = j
        · subst e; simp
        · have e1 : decide (k < j + 1) = decide (k < j) := by simp; omega
          have e2 : (k == 0 + j) = false := by simpa using e
          simp only [e1, e2, Bool.or_false]
      · simp at hT; omega
  have start : wpAnyIn (fen rnd) 0 P .any ops Q (unl (listedAt s l.length (fun _ => false)) ops.size) listed a w := by
    refine walk hZ.pre hZ.len hm hcut (Inv := fun T a' w' => ∃ σ' F', Step (hget A) (below A) σ F w (hget A) (below A) σ' F' w' ∧
        Here P E gl Λ lo (hget A) (below A) σ' F' w' (regsAt R (wrs l ds) T) a') ?_ ?_ _ _ _ _ _ rfl (hr.congr fun i _ => by simp [listedAt]) (fun i p _ h => by cases h) ?_
    · rintro T j a' w' K ⟨σ', F', hst, hh⟩ hj hTj hpre hclosed hK
      obtain ⟨q, d, o, hq, hd', ho, hc, hmem, hlt, _, hone⟩ := each j hj
      have hpre2 : ∀ p ∈ q.2, T p = true := fun p hp => hpre p ((hmem p).1 hp)
      have free : ∀ i q', l[i]? = some q' → T i = true → j ∉ q'.2 ∧ i ≠ j := fun i q' hq' hT => by
        have hi : i < l.length := (List.getElem?_eq_some_iff.1 hq').1
        refine ⟨fun hin => ?_, fun e => by subst e; rw [hTj] at hT; cases hT⟩
        obtain ⟨q'', _, _, h6, _, _, _, h7, _⟩ := each i hi
        rw [hq'] at h6; cases h6
        have := hclosed i j hi hT ((h7 j).1 hin)
        rw [hTj] at this; cases this
      have hreads : ∀ t, q.1.reads t = true → rget (regsAt R (wrs l ds) T) t = rget (Rs j) t := fun t ht => by
        rw [regs j (by omega), rget_regsAt, rget_regsAt]
        rw [pick_agree (wrs l ds) T (fun i => decide (i < j)) 0 t (fun i W hW hne => ?_)]
        rw [Nat.zero_add] at hne
        obtain ⟨q', d', h6, h7, rfl⟩ := wrs_inv hW
        rw [lookL_dst]
        split
        · rename_i hdst
          exfalso
          have hi : i < l.length := (List.getElem?_eq_some_iff.1 h6).1
          obtain ⟨q'', _, _, h8, _, _, _, _, h9, _⟩ := each i hi
          rw [h6] at h8; cases h8
          have hij : i ≠ j := fun e => by subst e; rw [hTj] at hne; simp at hne
          have := apart_spec hok h6 hq hij (fun hin => ?_) (fun hin => ?_) hdst
          · rw [ht] at this; cases this.1
          · cases hT : T i with
            | true => exact (free i q' h6 hT).1 hin
            | false =>
              rw [hT] at hne
              have := h9 j hin
              simp at hne; omega
          · have h10 := hlt i hin
            have h11 := hpre2 i hin
            rw [h11] at hne; simp at hne; omega
        · rfl
      obtain ⟨hargs, hgu⟩ := reads_arg (E := E) hreads
      obtain ⟨A', hev, hl, hsame⟩ := hone _ hargs hgu
      have er : rput (regsAt R (wrs l ds) T) q.1.dst d.v = regsAt R (wrs l ds) (fun i => T i || i == j) := by
        refine rput_regsAt (fun t => ?_)
        refine pick_insert (wrs l ds) T (fun i => T i || i == j) 0 j t _ (wrs_get hq hd') (by simpa using hTj) (fun k => by simp) (fun j' W' hlt' hW' hT' hne => ?_)
        rw [Nat.zero_add] at hT'
        obtain ⟨q', d', h6, h7, rfl⟩ := wrs_inv hW'
        rw [lookL_dst] at hne ⊢
        split at hne
        · rename_i hdst
          split
          · rename_i hdst'
            exfalso
            obtain ⟨f1, f2⟩ := free j' q' h6 hT'
            have hn : j' ∉ q.2 := fun hin => by have := hlt j' hin; omega
            exact (apart_spec hok h6 hq f2 f1 hn hdst').2 hdst
          · rfl
        · exact absurd rfl hne
      have eb : below A' = below A := by unfold below; rw [hl]
      rw [er] at hev
      refine oper_sound hE hcall ho hc hh hev (fun σ2 F2 a2 w2 hs2 hh2 => hK a2 w2 ⟨σ2, F2, ?_, ?_⟩)
      · rw [eb, hsame] at hs2; exact hst.trans hs2
      · rw [eb, hsame] at hh2; exact hh2
    · rintro T listed' a' w' hall ⟨σ', F', hst, hh⟩ hr'
      have er : regsAt R (wrs l ds) T = R' := by
        rw [← h4, regs l.length (Nat.le_refl _)]
        refine regsAt_congr (fun i hi => ?_)
        have : i < l.length := by simp [wrs] at hi; omega
        rw [hall i this]; simp [this]
      rw [er] at hh
      exact hM σ' F' a' w' hst hh listed' hr'
    · rw [regsAt_none]
      exact ⟨σ, F, Step.refl h.ctx.rel, h⟩
  rw [unl_congr (T := fun i => decide (i < s)) (fun i _ => by simp [listedAt])] at start
  exact start

theorem seg_sound {call : CallF} (hE : EnvOk P E gl) (hcall : CallOk P E gl Λ call) {ops : Array Oper} {pres : List (List Nat)} {Z l : List (IOper × List Nat)} (hZ : ZOk P gl ops pres Z) {s : Nat} (hpart : PartOf Z s l)
    (hm : s + l.length ≤ ops.size) (hcut : s + l.length = ops.size ∨ isCut pres (s + l.length) = true) (hok : apartOk l = true) {rnd : Option Nat} {Q : Exit → Act → World → Prop} {r : OR}
    (h : Here P E gl Λ lo (hget A) (below A) σ F w R a) (he : evSeg E call l R A = some r) {listed : Array Bool} (hr : Reads ops.size listed (fun i => decide (i < s)))
    (hM : Meets P E gl Λ lo A σ F w (fun a' w' => ∀ listed, Reads ops.size listed (fun i => decide (i < s + l.length)) → wpAnyIn (fen rnd) 0 P .any ops Q (unl (fun i => decide (i < s + l.length)) ops.size) listed a' w') Q r) :
    wpAnyIn (fen rnd) 0 P .any ops Q (unl (fun i => decide (i < s)) ops.size) listed a w := by
  unfold evSeg at he
  split at he
  · simp at he; subst he
    exact hM σ F a w (Step.refl h.ctx.rel) h listed (by simpa using hr)
  · rename_i q
    obtain ⟨q0, hq0, hq⟩ := hpart 0 q rfl
    obtain ⟨o, ho, hc, _⟩ := hZ.get _ _ hq0
    have hc : compOper P gl ops o = some q.1 := by rw [hq]; exact hc
    have start : wpAnyIn (fen rnd) 0 P .any ops Q (unl (listedAt s [q].length (fun _ => false)) ops.size) listed a w := by
      refine walk hZ.pre hZ.len hm hcut (Inv := fun T a' w' => (T 0 = false → a' = a ∧ w' = w) ∧ (T 0 = true → ∀ listed, Reads ops.size listed (fun i => decide (i < s + [q].length)) → wpAnyIn (fen rnd) 0 P .any ops Q (unl (fun i => decide (i < s + [q].length)) ops.size) listed a' w'))
        ?_ ?_ _ _ _ _ _ rfl (hr.congr fun i _ => by simp [listedAt]) (fun i p _ h => by cases h) ?_
      · rintro T j a' w' K ⟨h1, _⟩ hj hTj _ _ hK
        have hj0 : j = 0 := by simpa using hj
        subst hj0
        obtain ⟨rfl, rfl⟩ := h1 hTj
        refine oper_sound hE hcall ho hc h he ?_
        cases r with
        | next R' A' => exact fun σ' F' a2 w2 hs hh => hK a2 w2 ⟨fun h => by simp at h, fun _ => hM σ' F' a2 w2 hs hh⟩
        | panic v R' A' => exact hM
      · rintro T listed' a' w' hall ⟨_, h2⟩ hr'
        exact h2 (hall 0 (by simp)) listed' hr'
      · exact ⟨fun _ => ⟨rfl, rfl⟩, fun h => by cases h⟩
    rw [unl_congr (T := fun i => decide (i < s)) (fun i _ => by simp [listedAt])] at start
    exact start
  · split at he
    · simp only [Option.map_eq_some_iff] at he
      obtain ⟨R', hq, rfl⟩ := he
      exact quiet_part hE hcall hZ hpart hm hcut hok h hq hr hM
    · exact region_part hE hcall hZ hpart hm hcut hok h he hr hM

/-- Parts, one after the other. -/
def Chunked (pres : List (List Nat)) (Z : List (IOper × List Nat)) : Nat → List (List (IOper × List Nat)) → Prop
  | s, [] => s = Z.length
  | s, l :: rest => PartOf Z s l ∧ s + l.length ≤ Z.length ∧ (s + l.length = Z.length ∨ isCut pres (s + l.length) = true) ∧ Chunked pres Z (s + l.length) rest

theorem segsOf_chunked {pres : List (List Nat)} {Z : List (IOper × List Nat)} : ∀ (l : List (IOper × List Nat)) (j start : Nat) (cur : List (IOper × List Nat)), l = Z.drop j → j ≤ Z.length → start + cur.length = j → PartOf Z start cur →
    Chunked pres Z start (segsOf (isCut pres) l j start cur)
  | [], j, start, cur, hl, hj, hc, hp => by
    have : Z.length ≤ j := List.drop_eq_nil_iff.1 hl.symm
    simp only [segsOf, Chunked]
    exact ⟨hp, by omega, .inl (by omega), by omega⟩
  | (o, pre) :: rest, j, start, cur, hl, hj, hc, hp => by
    have hlt : j < Z.length := by
      rcases Nat.lt_or_ge j Z.length with h | h
      · exact h
      · rw [List.drop_eq_nil_of_le h] at hl; cases hl
    have hcons := List.drop_eq_getElem_cons hlt
    rw [hcons] at hl
    have h1 : Z[j] = (o, pre) := (List.cons.inj hl).1.symm
    have h2 : rest = Z.drop (j + 1) := (List.cons.inj hl).2
    simp only [segsOf]
    split
    · rename_i hcut
      refine ⟨hp, by omega, .inr (by rw [hc]; exact hcut), ?_⟩
      rw [hc]
      refine segsOf_chunked rest (j + 1) j _ h2 (by omega) (by simp) (fun k q hk => ?_)
      cases k with
      | zero => simp at hk; subst hk; exact ⟨(o, pre), by simp [h1, hlt], rfl⟩
      | succ k => simp at hk
    · refine segsOf_chunked rest (j + 1) start _ h2 (by omega) (by simp; omega) (fun k q hk => ?_)
      by_cases hk2 : k < cur.length
      · rw [List.getElem?_append_left hk2] at hk
        exact hp k q hk
      · rw [List.getElem?_append_right (by omega)] at hk
        have hk0 : k - cur.length = 0 := by
          have := (List.getElem?_eq_some_iff.1 hk).1
          simp at this; omega
        rw [hk0] at hk
        simp at hk; subst hk
        have e : start + k = j := by omega
        exact ⟨(o, pre), by rw [e]; simp [h1, hlt], rfl⟩

theorem segs_sound {call : CallF} (hE : EnvOk P E gl) (hcall : CallOk P E gl Λ call) {ops : Array Oper} {pres : List (List Nat)} {Z : List (IOper × List Nat)} (hZ : ZOk P gl ops pres Z) (hlen : Z.length = ops.size) {rnd : Option Nat} {Q : Exit → Act → World → Prop} {r : OR} :
    ∀ (segs : List (List (IOper × List Nat))) (s : Nat) (R : Regs) (A : Heap) (a : Act) (w : World) (σ : Sig) (F : Nat → Prop) (listed : Array Bool), Chunked pres Z s segs → (∀ l ∈ segs, apartOk l = true) → Here P E gl Λ lo (hget A) (below A) σ F w R a →
      evSegs E call segs R A = some r → Reads ops.size listed (fun i => decide (i < s)) → Meets P E gl Λ lo A σ F w (Q .normal) Q r → wpAnyIn (fen rnd) 0 P .any ops Q (unl (fun i => decide (i < s)) ops.size) listed a w
  | [], s, R, A, a, w, σ, F, listed, hch, _, h, he, hr, hm => by
    simp [evSegs] at he; subst he
    simp only [Chunked] at hch
    subst hch
    refine wpAnyIn_done ?_ (hm σ F a w (Step.refl h.ctx.rel) h) _
    rw [List.eq_nil_iff_forall_not_mem]
    intro i hi
    obtain ⟨o, ho, h1, _⟩ := (ready_iff hr).1 hi
    have := (Array.getElem?_eq_some_iff.1 ho).1
    simp at h1; omega
  | l :: rest, s, R, A, a, w, σ, F, listed, hch, hap, h, he, hr, hm => by
    obtain ⟨h1, h2, h3, h4⟩ := hch
    simp only [evSegs] at he
    have hcut : s + l.length = ops.size ∨ isCut pres (s + l.length) = true := by rw [← hlen]; exact h3
    cases hh : evSeg E call l R A with
    | none => rw [hh] at he; simp at he
    | some r' =>
      rw [hh] at he
      refine seg_sound hE hcall hZ h1 (by omega) hcut (hap l (by simp)) h hh hr ?_
      cases r' with
      | next R' A' =>
        intro σ' F' a' w' hs hh' listed' hr'
        exact segs_sound hE hcall hZ hlen rest _ R' A' a' w' σ' F' listed' h4 (fun l hl => hap l (List.mem_cons_of_mem _ hl)) hh' he hr' (hm.trans hs)
      | panic v R' A' =>
        simp at he; subst he
        exact hm

theorem draw_shape {ops : Array Oper} {ios : List IOper} {c : ICode} (hc : (if true = true then (do
      let pres ← presOf ops.toList []
      if pres.length = ios.length ∧ (segsOf (isCut pres) (ios.zip pres) 0 0 []).all apartOk then some (ICode.draw (segsOf (isCut pres) (ios.zip pres) 0 0 [])) else none) else some (.ops ios)) = some c) : ∃ segs, c = .draw segs := by
  simp only [if_true, Option.bind_eq_bind, Option.bind_eq_some_iff] at hc
  obtain ⟨pres, _, h⟩ := hc
  split at h <;> simp at h
  exact ⟨_, h.symm⟩

theorem draw_sound {call : CallF} (hE : EnvOk P E gl) (hcall : CallOk P E gl Λ call) {ops : Array Oper} {rnd : Option Nat} {id : Nat} {Q : Exit → Act → World → Prop} {r : OR} {ios : List IOper} {segs : List (List (IOper × List Nat))}
    (hios : ops.toList.mapM (compOper P gl ops) = some ios)
    (hc : (if true = true then (do
      let pres ← presOf ops.toList []
      if pres.length = ios.length ∧ (segsOf (isCut pres) (ios.zip pres) 0 0 []).all apartOk then some (ICode.draw (segsOf (isCut pres) (ios.zip pres) 0 0 [])) else none) else some (.ops ios)) = some (.draw segs))
    (h : Here P E gl Λ lo (hget A) (below A) σ F w R a) (he : evSegs E call segs R A = some r) (hm : Meets P E gl Λ lo A σ F w (Q .normal) Q r) :
    (Code.region id ops true).wpIn (fen rnd) 0 P Q a w := by
  simp only [if_true, Option.bind_eq_bind, Option.bind_eq_some_iff] at hc
  obtain ⟨pres, hpres, hc⟩ := hc
  split at hc <;> simp at hc
  rename_i hok
  subst hc
  obtain ⟨h1, h2⟩ := mapM_some hios
  obtain ⟨hp1, hp2⟩ := presOf_ok hpres
  have hlz : (ios.zip pres).length = ops.size := by rw [List.length_zip, hp2]; simp [h1]
  have hZ : ZOk P gl ops pres (ios.zip pres) := ⟨hp1, hp2, fun i q hq => by
    obtain ⟨h3, h4⟩ := List.getElem?_zip_eq_some.1 hq
    have hlt : i < ops.size := by have := (List.getElem?_eq_some_iff.1 h4).1; omega
    refine ⟨ops[i], by simp [hlt], h2 i ops[i] q.1 (by simp [hlt]) h3, by simp [List.getD, h4]⟩⟩
  have hq : Step (hget A) (below A) σ F w (hget A) (below A) σ F { w with drawn := w.drawn + 1 } := Step.quiet h.ctx.rel (fun _ h => h) rfl rfl rfl rfl
  refine wpIn_region_any hE.mixed ?_
  have hsz : unl (fun i => decide (i < 0)) ops.size = ops.size := by
    have : ∀ n, unl (fun i => decide (i < 0)) n = n := by
      intro n
      induction n with
      | zero => rfl
      | succ n ih => simp only [unl, ih]; simp
    exact this _
  have := segs_sound hE hcall hZ hlz (rnd := rnd) (Q := Q) _ 0 R A a { w with drawn := w.drawn + 1 } σ F (Array.replicate ops.size false)
    (segsOf_chunked (ios.zip pres) 0 0 [] rfl (by omega) rfl (fun k q hk => by simp at hk)) (by simpa using hok.2) (h.step hq) he ⟨by simp, fun i hi => by simp [hi]⟩ (hm.trans hq)
  rwa [hsz] at this

end Go.Abs

/- Code. -/
namespace Go.Abs

variable {H H' : Nat → Blk} {D D' : Nat → Prop} {σ σ' : Sig} {F F' F2 : Nat → Prop} {w w' : World} {v x y z : AV} {u ux uy : Value} {P : Program} {A A' : Heap} {gl : List Nat} {E : Env} {Λ : List LoopInfo} {R R' : Regs} {a a' : Act} {lo : Nat}

theorem Post.not_normal {e : AExit} {ex : Exit} (h : Post P E gl Λ lo A σ F w e R' A' ex a' w') (he : e ≠ .normal) : ex ≠ .normal := by
  obtain ⟨_, _, _, _, h⟩ := h
  rintro rfl
  cases e <;> first | exact he rfl | exact h

theorem Post.then {e : AExit} {ex : Exit} {K : Act → World → Prop} (h : Post P E gl Λ lo A σ F w e R' A' ex a' w') (he : e ≠ .normal) : Exit.then K (Post P E gl Λ lo A σ F w e R' A') ex a' w' := by
  cases ex <;> first | exact h | exact (h.not_normal he rfl).elim

theorem Post.normal {ex : Exit} (h : Post P E gl Λ lo A σ F w .normal R' A' ex a' w') : ex = .normal := by
  obtain ⟨_, _, _, _, h⟩ := h
  cases ex <;> first | rfl | exact h.elim

theorem ev_loop {n : Nat} (ih : EvOk P E gl n) (Λ : List LoopInfo) (c : ICode) (R : Regs) (A : Heap) (e : AExit) (R' : Regs) (A' : Heap) (he : ev E (n + 1) Λ (.loop c) R A = some (e, R', A')) (code : Code) (hc : compCode P gl code = some c)
    (rnd : Option Nat) (lo : Nat) (σ : Sig) (F : Nat → Prop) (w : World) (a : Act) (h : Here P E gl Λ lo (hget A) (below A) σ F w R a) (hlo : lo ≤ w.heap.size) (hr : RndOk Λ σ rnd) :
    LoopIn (fen rnd) 0 P code (Post P E gl Λ lo A σ F w e R' A') a w := by
  refine loopIn_turn ?_
  simp only [ev] at he
  split at he
  · rename_i R1 A1 h1
    refine wpIn_mono (ih.code Λ c R A _ _ _ h1 code hc rnd lo σ F w a h hlo hr) (fun ex a1 w1 hp => ?_)
    obtain rfl := hp.normal
    obtain ⟨σ1, F1, s1, s2, _⟩ := hp
    have := ih.loop Λ c R1 A1 e R' A' he code hc rnd lo σ1 F1 w1 a1 s2 (Nat.le_trans hlo s1.ext.size) (hr.step h.ctx s1)
    intro b k cs h1 h2 h3
    obtain ⟨e2, a2, w2, hq, harr⟩ := this b k cs h1 h2 h3
    exact ⟨e2, a2, w2, hq.trans s1, harr⟩
  · rename_i hne
    refine wpIn_mono (ih.code Λ c R A e R' A' he code hc rnd lo σ F w a h hlo hr) (fun ex a1 w1 hp => hp.then ?_)
    rintro rfl
    exact hne _ _ he

theorem ev_code {n : Nat} (hE : EnvOk P E gl) (ih : EvOk P E gl n) (hcall : ∀ Λ, CallOk P E gl Λ (callOf E (ev E n) Λ)) (Λ : List LoopInfo) (c : ICode) (R : Regs) (A : Heap) (e : AExit) (R' : Regs) (A' : Heap) (he : ev E (n + 1) Λ c R A = some (e, R', A')) (code : Code) (hc : compCode P gl code = some c)
    (rnd : Option Nat) (lo : Nat) (σ : Sig) (F : Nat → Prop) (w : World) (a : Act) (h : Here P E gl Λ lo (hget A) (below A) σ F w R a) (hlo : lo ≤ w.heap.size) (hr : RndOk Λ σ rnd) :
    code.wpIn (fen rnd) 0 P (Post P E gl Λ lo A σ F w e R' A') a w := by
  induction code with
  | skip =>
    simp [compCode] at hc; subst hc
    simp [ev] at he; obtain ⟨rfl, rfl, rfl⟩ := he
    exact wpIn_skip ⟨σ, F, Step.refl h.ctx.rel, h, trivial⟩
  | label l =>
    simp [compCode] at hc; subst hc
    simp [ev] at he; obtain ⟨rfl, rfl, rfl⟩ := he
    exact wpIn_label ⟨σ, F, Step.refl h.ctx.rel, h, trivial⟩
  | scope b ihb =>
    simp only [compCode] at hc
    refine wpIn_scope (ihb hc) ?_
    rintro l a1 w1 ⟨_, _, _, _, h⟩
    cases e <;> exact h
  | exit id =>
    simp [compCode] at hc; subst hc
    simp [ev] at he; obtain ⟨rfl, rfl, rfl⟩ := he
    exact wpIn_exit ⟨σ, F, Step.refl h.ctx.rel, h, rfl⟩
  | ret =>
    simp [compCode] at hc; subst hc
    simp [ev] at he; obtain ⟨rfl, rfl, rfl⟩ := he
    exact wpIn_ret ⟨σ, F, Step.refl h.ctx.rel, h, trivial⟩
  | seq x y _ _ =>
    simp only [compCode, Option.bind_eq_bind, Option.bind_eq_some_iff, Option.some.injEq] at hc
    obtain ⟨cx, hx, cy, hy, rfl⟩ := hc
    refine wpIn_seq ?_
    simp only [ev] at he
    split at he
    · rename_i R1 A1 h1
      refine wpIn_mono (ih.code Λ cx R A _ _ _ h1 x hx rnd lo σ F w a h hlo hr) (fun ex a1 w1 hp => ?_)
      obtain rfl := hp.normal
      obtain ⟨σ1, F1, s1, s2, _⟩ := hp
      exact wpIn_mono (ih.code Λ cy R1 A1 e R' A' he y hy rnd lo σ1 F1 w1 a1 s2 (Nat.le_trans hlo s1.ext.size) (hr.step h.ctx s1)) (fun ex2 a2 w2 hp2 => hp2.trans s1)
    · rename_i hne
      refine wpIn_mono (ih.code Λ cx R A e R' A' he x hx rnd lo σ F w a h hlo hr) (fun ex a1 w1 hp => hp.then ?_)
      rintro rfl
      exact hne _ _ he
  | cond q x y _ _ =>
    simp only [compCode, Option.bind_eq_bind, Option.bind_eq_some_iff, Option.some.injEq] at hc
    obtain ⟨cq, hq, cx, hx, cy, hy, rfl⟩ := hc
    simp only [ev] at he
    split at he <;> (try (simp at he; done))
    rename_i t ht
    have hv := arg_sound h.regs h.ctx.glob (E := E) hq
    rw [ht] at hv
    generalize hu : a.eval q = uq at hv
    cases hv
    refine wpIn_cond hu ?_
    cases t with
    | true => exact ih.code Λ cx R A e R' A' he x hx rnd lo σ F w a h hlo hr
    | false => exact ih.code Λ cy R A e R' A' he y hy rnd lo σ F w a h hlo hr
  | block id b _ =>
    simp only [compCode, Option.bind_eq_bind, Option.bind_eq_some_iff, Option.some.injEq] at hc
    obtain ⟨cb, hb, rfl⟩ := hc
    refine wpIn_block ?_
    simp only [ev] at he
    split at he
    · rename_i j R1 A1 h1
      refine wpIn_mono (ih.code Λ cb R A _ _ _ h1 b hb rnd lo σ F w a h hlo hr) (fun ex a1 w1 hp => ?_)
      obtain ⟨σ1, F1, s1, s2, s3⟩ := hp
      cases ex <;> try exact s3.elim
      rename_i j'
      obtain rfl : j = j' := s3
      simp only [Exit.inBlock]
      split at he
      · rename_i hj
        rw [if_pos hj]
        simp at he; obtain ⟨rfl, rfl, rfl⟩ := he
        exact ⟨σ1, F1, s1, s2, trivial⟩
      · rename_i hj
        rw [if_neg hj]
        simp at he; obtain ⟨rfl, rfl, rfl⟩ := he
        exact ⟨σ1, F1, s1, s2, rfl⟩
    · rename_i hne
      refine wpIn_mono (ih.code Λ cb R A e R' A' he b hb rnd lo σ F w a h hlo hr) (fun ex a1 w1 hp => ?_)
      cases ex <;> try exact hp
      exfalso
      obtain ⟨_, _, _, _, s3⟩ := hp
      cases e <;> try exact s3
      exact hne _ _ _ he
  | loop b _ =>
    simp only [compCode, Option.bind_eq_bind, Option.bind_eq_some_iff, Option.some.injEq] at hc
    obtain ⟨cb, hb, rfl⟩ := hc
    exact wpIn_loop_of (ev_loop ih Λ cb R A e R' A' he b hb rnd lo σ F w a h hlo hr)
  | region id ops draw =>
    simp only [compCode, Option.bind_eq_bind, Option.bind_eq_some_iff] at hc
    obtain ⟨ios, hios, hc⟩ := hc
    cases draw with
    | false =>
      simp at hc; subst hc
      have meets : ∀ r, evOps E (callOf E (ev E n) Λ) ios R A = some r → (match r with | .next R1 A1 => (AExit.normal, R1, A1) | .panic v R1 A1 => (.panic v, R1, A1)) = (e, R', A') →
          (Code.region id ops false).wpIn (fen rnd) 0 P (Post P E gl Λ lo A σ F w e R' A') a w := by
        intro r hr1 hr2
        refine region_sound hE (hcall Λ) hios h hr1 ?_
        cases r with
        | next R1 A1 =>
          simp at hr2; obtain ⟨rfl, rfl, rfl⟩ := hr2
          exact fun σ' F' a' w' hs hh => ⟨σ', F', hs, hh, trivial⟩
        | panic v R1 A1 =>
          simp at hr2; obtain ⟨rfl, rfl, rfl⟩ := hr2
          exact fun σ' F' a' w' u hs hh hv => ⟨σ', F', hs, hh, u, rfl, hv⟩
      simp only [ev] at he
      split at he <;> (try (simp at he; done))
      · rename_i h1; exact meets _ h1 (by simpa using he)
      · rename_i h1; exact meets _ h1 (by simpa using he)
    | true =>
      have meets : ∀ segs r, (if true = true then (do
            let pres ← presOf ops.toList []
            if pres.length = ios.length ∧ (segsOf (isCut pres) (ios.zip pres) 0 0 []).all apartOk then some (ICode.draw (segsOf (isCut pres) (ios.zip pres) 0 0 [])) else none) else some (.ops ios)) = some (.draw segs) →
          evSegs E (callOf E (ev E n) Λ) segs R A = some r → (match r with | .next R1 A1 => (AExit.normal, R1, A1) | .panic v R1 A1 => (.panic v, R1, A1)) = (e, R', A') →
          (Code.region id ops true).wpIn (fen rnd) 0 P (Post P E gl Λ lo A σ F w e R' A') a w := by
        intro segs r hseg hr1 hr2
        refine draw_sound hE (hcall Λ) hios hseg h hr1 ?_
        cases r with
        | next R1 A1 =>
          simp at hr2; obtain ⟨rfl, rfl, rfl⟩ := hr2
          exact fun σ' F' a' w' hs hh => ⟨σ', F', hs, hh, trivial⟩
        | panic v R1 A1 =>
          simp at hr2; obtain ⟨rfl, rfl, rfl⟩ := hr2
          exact fun σ' F' a' w' u hs hh hv => ⟨σ', F', hs, hh, u, rfl, hv⟩
      obtain ⟨segs, rfl⟩ := draw_shape hc
      simp only [ev] at he
      split at he <;> (try (simp at he; done))
      · rename_i h1; exact meets _ _ hc h1 (by simpa using he)
      · rename_i h1; exact meets _ _ hc h1 (by simpa using he)
  | rangeFunc f ps asg b _ _ =>
    simp only [compCode, Option.bind_eq_bind, Option.bind_eq_some_iff, Option.some.injEq] at hc
    obtain ⟨cf, hf, ca, ha, cb, hb, rfl⟩ := hc
    simp only [ev] at he
    split at he <;> (try (simp at he; done))
    rename_i hp
    split at he <;> (try (simp at he; done))
    rename_i v0 A1 h1
    split at he <;> (try (simp at he; done))
    · rename_i hB
      simp at he; obtain ⟨rfl, rfl, rfl⟩ := he
      exact range_sound hE hcall hf ha hb hp h1 (.inl ⟨hB, rfl⟩) h hlo hr
    · rename_i hB
      simp at he; obtain ⟨rfl, rfl, rfl⟩ := he
      exact range_sound hE hcall hf ha hb hp h1 (.inr (.inl ⟨hB, rfl⟩)) h hlo hr
    · rename_i id hB
      simp at he; obtain ⟨rfl, rfl, rfl⟩ := he
      exact range_sound hE hcall hf ha hb hp h1 (.inr (.inr ⟨id, hB, rfl⟩)) h hlo hr
  | _ => simp [compCode] at hc

end Go.Abs

/- Calls of functions. -/
namespace Go.Abs

variable {H H' : Nat → Blk} {D D' : Nat → Prop} {σ σ' : Sig} {F F' F2 : Nat → Prop} {w w' : World} {v x y z : AV} {u ux uy : Value} {P : Program} {A A' : Heap} {gl : List Nat} {E : Env} {Λ : List LoopInfo} {R R' : Regs} {a a' : Act} {lo : Nat}

theorem fen_none : fen none = Fence.wide := rfl

theorem RR.take {R : Regs} {tmps : Array Value} {r : Nat} (ht : Takable lo H σ F w r) (h : RR w σ F D R tmps) : RR (taken w r) σ F D R tmps :=
  ⟨h.size, fun i x u hx hu => (h.val i x u hx hu).take ht⟩

/-- A function's call, from its body's walk. -/
theorem fun_calls {g : FuncId} {fn : Func} {c : Code} {args : Array Value} {keep : Bool} {e : AExit} {rs : List IRes} {r : CRes} (hf : P.funcs[g]? = some fn) (hb : fn.body = some c)
    (hrs : fn.results.toList.mapM (compRes P) = some rs) (hr : Rel (hget A) (below A) w σ F)
    (hbody : c.wpIn (fen none) 0 P (Post P E gl Λ w.heap.size A σ F w e R' A') { tmps := args ++ Array.replicate (fn.ntmps - args.size) Go.undef, defers := [] } w)
    {A2 : Heap} (hres : (∃ vs, (e = .normal ∨ e = .ret) ∧ resOf R' A' rs = some vs ∧ r = .ret (leave keep A A' (tupled vs)).1 ∧ A2 = (leave keep A A' (tupled vs)).2) ∨
      (∃ v, e = .panic v ∧ r = .panic (leave keep A A' v).1 ∧ A2 = (leave keep A A' v).2)) :
    Calls P g args w (CallEnd (hget A) (below A) σ F w A2 (below A2) r) := by
  refine callsIn_wide.1 (callsIn_of_wp_marks (n := 0) hf hb trivial (wpIn_mono hbody fun ex a' w' hp => ?_))
  obtain ⟨σ', F', hs, hh, hx⟩ := hp
  obtain ⟨ms, hm0, hm1, hm2⟩ := hh.marks
  have htk : ∀ q ∈ ms, Takable w.heap.size (hget A') σ' F' w' q := fun q hq => let ⟨h1, h2, h3, h4, h5⟩ := hm2 q hq; ⟨h1, h2, h3, h4, h5⟩
  have ret : ∀ vs, resOf R' A' rs = some vs → r = .ret (leave keep A A' (tupled vs)).1 → A2 = (leave keep A A' (tupled vs)).2 →
      LeavesInM Fence.wide 0 P fn a'.tmps (CallEnd (hget A) (below A) σ F w A2 (below A2) r) a'.defers .returning w' := by
    rintro vs h1 rfl rfl
    rw [hm0]
    refine leavesM (S := fun w' => Step (hget A) (below A) σ F w (hget A') (below A') σ' F' w' ∧ RR w' σ' F' (below A') R' a'.tmps) (by simp) (fun w1 hS => ?_)
      (fun w1 q hS ht => ⟨hS.1.take ht (Nat.le_refl _), hS.2.take ht⟩) ms w' ⟨hs, hh.regs⟩ hm1 htk
    obtain ⟨u, h2, h3⟩ := results_sound (P := P) hS.1.rel hS.2 hrs h1
    refine ⟨u, h2, ?_⟩
    obtain ⟨F2, h4, h5⟩ := leave_sound (keep := keep) hr hS.1 h3
    exact ⟨σ', F2, h4, u, rfl, h5⟩
  rcases hres with ⟨vs, he, h1, h2, h3⟩ | ⟨v, rfl, h2, h3⟩
  · rcases he with rfl | rfl <;> (cases ex <;> try exact hx.elim)
    · exact ret vs h1 h2 h3
    · exact ret vs h1 h2 h3
  · cases ex <;> try exact hx.elim
    rename_i ch
    obtain ⟨u, rfl, hv⟩ := hx
    subst h2 h3
    show LeavesInM _ _ _ _ _ _ _ _ _
    rw [hm0]
    refine leavesM (S := fun w' => Step (hget A) (below A) σ F w (hget A') (below A') σ' F' w' ∧ VR w' σ' F' (below A') v u) (by simp) (fun w1 hS => ?_)
      (fun w1 q hS ht => ⟨hS.1.take ht (Nat.le_refl _), hS.2.take ht⟩) ms w' ⟨hs, hv⟩ hm1 htk
    obtain ⟨F2, h4, h5⟩ := leave_sound (keep := keep) hr hS.1 hS.2
    exact ⟨σ', F2, h4, u, rfl, h5⟩

/-- Several lists of values, read. -/
theorem lists_append {as0 bs : List AV} {us vs : Array Value} (h1 : us.size = as0.length) (h2 : ∀ (i : Nat) x u, as0[i]? = some x → us[i]? = some u → VR w σ F D x u) (h3 : vs.size = bs.length) (h4 : ∀ (i : Nat) x u, bs[i]? = some x → vs[i]? = some u → VR w σ F D x u) :
    (us ++ vs).size = (as0 ++ bs).length ∧ ∀ (i : Nat) x u, (as0 ++ bs)[i]? = some x → (us ++ vs)[i]? = some u → VR w σ F D x u := by
  refine ⟨by simp [h1, h3], fun i x u hx hu => ?_⟩
  by_cases hi : i < as0.length
  · rw [List.getElem?_append_left hi] at hx
    rw [Array.getElem?_append_left (by omega)] at hu
    exact h2 i x u hx hu
  · rw [List.getElem?_append_right (by omega)] at hx
    rw [Array.getElem?_append_right (by omega), h1] at hu
    exact h4 _ x u hx hu

theorem run_callFunc {g : FuncId} {fn : Func} {c : Code} {us : Array Value} (hf : P.funcs[g]? = some fn) (hb : fn.body = some c) (hn : (fn.name == "runtime.NumGoroutine") = false) : (callFunc g us).run P w = .ok (.enter g us) w := by
  simp only [callFunc, Sem.run_bind]
  have h1 : (program).run P w = .ok P w := rfl
  rw [h1]
  simp [hf, hb]
  simpa using hn

theorem body_call {n : Nat} (ih : EvOk P E gl n) {g : FuncId} {F0 : IFun} {xs : List AV} {r : CRes} (hcf : compFun P gl g = some F0) (hname : ∀ fn, P.funcs[g]? = some fn → (fn.name == "runtime.NumGoroutine") = false)
    (hc : callBody E (ev E n) Λ g F0 xs A = some (r, A')) {us : Array Value} (h : Ctx P E gl Λ (hget A) (below A) σ F w) (s3 : us.size = xs.length) (s4 : ∀ (i : Nat) x u, xs[i]? = some x → us[i]? = some u → VR w σ F (below A) x u) :
    CallTo P (CallEnd (hget A) (below A) σ F w A' (below A') r) ((callFunc g us).run P w) := by
  simp only [compFun, Option.bind_eq_bind, Option.bind_eq_some_iff, Option.some.injEq] at hcf
  obtain ⟨fn, hfn, c, hbody, rs, hrs, cb, hcb, rfl⟩ := hcf
  rw [run_callFunc hfn hbody (hname fn hfn)]
  have hl : xs.length = us.size := s3.symm
  have hregs : RR w σ F (below A) (xs ++ List.replicate (fn.ntmps - xs.length) undefA) (us ++ Array.replicate (fn.ntmps - us.size) Go.undef) := by
    obtain ⟨t1, t2⟩ := lists_append (D := below A) (w := w) (σ := σ) (F := F) (as0 := xs) (us := us) (bs := List.replicate (fn.ntmps - xs.length) undefA) (vs := Array.replicate (fn.ntmps - us.size) Go.undef) s3 s4 (by simp [hl])
      (fun i x u hx hu => by
        simp only [List.getElem?_replicate] at hx
        simp only [Array.getElem?_replicate] at hu
        split at hx <;> simp at hx
        split at hu <;> simp at hu
        subst hx; subst hu; exact VR.undef)
    exact ⟨t1, t2⟩
  have walk : ∀ e R1 A1, ev E n Λ cb (xs ++ List.replicate (fn.ntmps - xs.length) undefA) A = some (e, R1, A1) →
      c.wpIn (fen none) 0 P (Post P E gl Λ w.heap.size A σ F w e R1 A1) { tmps := us ++ Array.replicate (fn.ntmps - us.size) Go.undef, defers := [] } w := by
    intro e R1 A1 he
    exact ih.code Λ cb _ A e R1 A1 he c hcb none w.heap.size σ F w _ ⟨h, hregs, ⟨[], rfl, List.nodup_nil, by simp⟩⟩ (Nat.le_refl _) (fun l hl => by cases hl)
  show Calls P g _ w _
  simp only [callBody] at hc
  split at hc
  · rename_i v R1 A1 he
    simp at hc
    obtain ⟨rfl, rfl⟩ := hc
    exact fun_calls hfn hbody hrs h.rel (walk _ _ _ he) (.inr ⟨v, rfl, rfl, rfl⟩)
  · rename_i R1 A1 he
    split at hc <;> simp at hc
    rename_i vs hvs2
    obtain ⟨rfl, rfl⟩ := hc
    exact fun_calls hfn hbody hrs h.rel (walk _ _ _ he) (.inl ⟨vs, .inl rfl, hvs2, rfl, rfl⟩)
  · rename_i R1 A1 he
    split at hc <;> simp at hc
    rename_i vs hvs2
    obtain ⟨rfl, rfl⟩ := hc
    exact fun_calls hfn hbody hrs h.rel (walk _ _ _ he) (.inl ⟨vs, .inr rfl, hvs2, rfl, rfl⟩)
  · simp at hc

theorem CallTo.mono {R R2 : Ending → World → Prop} {res : Result Next} (h : CallTo P R res) (hR : ∀ e w', R e w' → R2 e w') : CallTo P R2 res := by
  cases res with
  | halt x w' => exact h.elim
  | ok nx w' =>
    cases nx <;> try exact h.elim
    · exact Calls.mono h hR
    · exact RoundIn.mono (F := Fence.wide) (n := 0) h hR

/-- What is done with no memory at all is done beside any. -/
theorem CallEnd.aside (hr : Rel (hget A) (below A) w σ F) {v : AV} {e : Ending} (h : CallEnd (hget []) (below []) σ F w [] (below []) (.ret v) e w') : CallEnd (hget A) (below A) σ F w A (below A) (.ret v) e w' := by
  obtain ⟨σ', F', hs, u, he, hv⟩ := h
  have hno : ∀ b, ¬ Own (hget []) σ b := by
    rintro b ⟨id, h, _⟩
    rw [hget_dead (by simp)] at h; cases h
  have hnoD : ∀ id, ¬ below ([] : Heap) id := fun id h => absurd h (by simp [below])
  refine ⟨σ, F', ⟨⟨hr.dom, fun id => ?_, hr.inj, fun b hb => Nat.lt_of_lt_of_le (hr.size b hb) hs.ext.size, hs.rel.fsize, fun b hb ho => ?_⟩,
    ⟨hs.ext.size, fun b hb _ => hs.ext.same b hb (hno b), hs.ext.cells, hs.ext.loops, hs.ext.mono, fun b hb => ?_, hs.ext.os, hs.ext.output, hs.ext.tape⟩, fun _ _ => rfl, fun _ h => h, fun _ h => .inl h⟩, u, he, ?_⟩
  · by_cases hl : (hget A id).live = true
    · exact (hr.br id).carry (hs.ext.same _ (hr.size _ ⟨id, hl, rfl⟩) (hno _)) (fun h => hr.dom id h) hs.ext.mono (fun b hb => hs.ext.same b (hr.fsize b hb) (hno b)) hs.ext.cells (fun _ _ => rfl) (fun _ h => h)
    · cases hb : hget A id <;> rw [hb] at hl <;> first | trivial | exact absurd rfl hl
  · rcases hs.ext.new b hb with h | h | h
    · exact hr.apart b h ho
    · have := hr.size b ho; omega
    · exact hno b h
  · rcases hs.ext.new b hb with h | h | h
    · exact .inl h
    · exact .inr (.inl h)
    · exact absurd h (hno b)
  · exact hv.carry (fun _ h => h) (fun _ _ => rfl) (fun _ vs _ _ h => ⟨vs, h, rfl⟩) (fun id h => absurd h (hnoD id)) (fun id h => absurd h (hnoD id))

theorem Rel.nothing (hr : Rel (hget A) (below A) w σ F) : Rel (hget []) (below []) w σ F := by
  have hd : ∀ id, hget ([] : Heap) id = .dead := fun id => hget_dead (by simp)
  have hl : ∀ {id : Nat} {p : Prop}, (hget ([] : Heap) id).live = true → p := fun {id p} h => by rw [hd] at h; cases h
  refine ⟨fun id h => hl h, fun id => (by rw [hd]; trivial), fun i j h => hl h, ?_, hr.fsize, ?_⟩
  · rintro b ⟨id, h, _⟩; exact hl h
  · rintro b _ ⟨id, h, _⟩; exact hl h

/-- Calls of functions' values. -/
theorem func_call {n : Nat} (hE : EnvOk P E gl) (ih : EvOk P E gl n) {g : FuncId} {p q as0 : List AV} {r : CRes} (hc : callOf E (ev E n) Λ (.func (.func g) p q) as0 A = some (r, A')) {fv : Value} {us : Array Value} (h : Ctx P E gl Λ (hget A) (below A) σ F w)
    (hv : VR w σ F (below A) (.func (.func g) p q) fv) (hus : us.size = as0.length) (hvs : ∀ (i : Nat) x u, as0[i]? = some x → us[i]? = some u → VR w σ F (below A) x u) :
    ∃ d, (Deferred.ofValue fv us).run P w = .ok d w ∧ CallTo P (CallEnd (hget A) (below A) σ F w A' (below A') r) ((invoke d.target d.args).run P w) := by
  cases hv with
  | func _ _ _ ps qs hp hq hpv hqv =>
  refine ⟨{ target := .fn (.func g) qs, args := ps ++ us }, rfl, ?_⟩
  have hin : (invoke (.fn (.func g) qs) (ps ++ us)).run P w = (callFunc g (ps ++ us ++ qs)).run P w := by simp [invoke]
  rw [hin]
  obtain ⟨s1, s2⟩ := lists_append hp hpv hus hvs
  obtain ⟨s3, s4⟩ := lists_append s1 s2 hq hqv
  simp only [callOf] at hc
  split at hc
  · rename_i hi hintr
    split at hc <;> simp at hc
    rename_i v A1 h1
    obtain ⟨rfl, rfl⟩ := hc
    exact hE.intr g hi hintr _ _ _ _ h1 σ F w _ h.rel h.glob s3 s4
  · split at hc
    · simp at hc
    rename_i F0 hF0
    obtain ⟨hcf, hname⟩ := hE.fns g F0 hF0
    split at hc
    · rename_i v hez
      simp only [Option.some.injEq, Prod.mk.injEq] at hc
      obtain ⟨rfl, rfl⟩ := hc
      exact hE.easy g _ _ hez A σ F w _ h.rel s3 s4
    split at hc
    · rename_i hap
      simp only [Bool.and_eq_true] at hap
      unfold asideOf at hc
      split at hc <;> (try (simp at hc; done))
      rename_i v hb
      split at hc <;> simp at hc
      obtain ⟨rfl, rfl⟩ := hc
      refine (body_call (A := []) (Λ := []) ih hcf hname hb ⟨h.rel.nothing, h.glob, fun i hi => by cases hi⟩ s3 (fun i x u hx hu => ?_)).mono (fun e w' hR => hR.aside h.rel)
      have hx0 : x.under 0 = true := unders_iff.1 hap.2 x (List.mem_of_getElem? hx)
      exact (s4 i x u hx hu).lower (m := 0) hx0 (fun id _ h => absurd h (by omega))
    · exact body_call ih hcf hname hc h s3 s4

end Go.Abs

/- Calls of 'yield'. -/
namespace Go.Abs

variable {H H' : Nat → Blk} {D D' : Nat → Prop} {σ σ' : Sig} {F F' F2 : Nat → Prop} {w w' : World} {v x y z : AV} {u ux uy : Value} {P : Program} {A A' : Heap} {gl : List Nat} {E : Env} {Λ : List LoopInfo} {R R' : Regs} {a a' : Act} {lo : Nat}

/-- A loop's record is written. -/
theorem Step.setLoop {l : Nat} {ready ready' : Bool} {p p' : Option Pend} {r : Loop} (hr : Rel (hget A) (below A) w σ F) (hB : hget A l = .loop ready p) (hw : w.heap[σ.blk l]? = some (.loop r)) :
    Step (hget A) (below A) σ F w (hget (A.set l (.loop ready' p'))) (below (A.set l (.loop ready' p'))) σ F (w.putObj (σ.blk l) (.loop { r with state := loopState ready' p', pending := pendCode p' })) := by
  have hl : l < A.length := hr.dom l (by rw [hB]; rfl)
  have e1 : hget (A.set l (.loop ready' p')) = upd1 (hget A) l (.loop ready' p') := by
    funext j
    have := hget_hset A l (.loop ready' p') j
    unfold hset at this
    rw [if_pos hl] at this
    exact this
  have e2 : below (A.set l (.loop ready' p')) = below A := by unfold below; simp
  rw [e1, e2]
  refine Step.setObj hr (by rw [hB]; rfl) hw (by intros; simp) (fun q hq => ?_) ?_
  · cases hq; exact ⟨_, _, rfl⟩
  · exact ⟨{ r with state := loopState ready' p', pending := pendCode p' }, by simp [getElem?_size hw], rfl, rfl⟩

theorem foldl_regs : ∀ (ps : List Nat) (as0 : List AV) (us : List Value) (R : Regs) (tmps : Array Value), RR w σ F D R tmps → us.length = as0.length → (∀ (i : Nat) x u, as0[i]? = some x → us[i]? = some u → VR w σ F D x u) →
    RR w σ F D ((ps.zip as0).foldl (fun R p => rset R p.1 p.2) R) ((ps.zip us).foldl (fun tmps (p : Nat × Value) => tmps.setIfInBounds p.1 p.2) tmps)
  | [], _, _, R, tmps, h, _, _ => by simpa using h
  | p :: ps, [], us, R, tmps, h, hl, _ => by
    obtain rfl : us = [] := List.eq_nil_of_length_eq_zero (by simpa using hl)
    simpa using h
  | p :: ps, q :: as0, [], R, tmps, h, hl, _ => by simp at hl
  | p :: ps, q :: as0, u :: us, R, tmps, h, hl, hv => by
    simp only [List.zip_cons_cons, List.foldl_cons]
    have h1 : RR w σ F D (rset R p q) (tmps.setIfInBounds p u) := RR.put (a := ⟨tmps, []⟩) h (some p) (hv 0 q u rfl rfl)
    exact foldl_regs ps as0 us _ _ h1 (by simpa using hl) (fun i x u h1 h2 => hv (i + 1) x u (by simpa using h1) (by simpa using h2))

theorem yld_call {n : Nat} (ih : EvOk P E gl n) {l : Nat} {as0 : List AV} {r : CRes} (hc : callOf E (ev E n) Λ (.yld l) as0 A = some (r, A')) {fv : Value} {us : Array Value} (h : Ctx P E gl Λ (hget A) (below A) σ F w)
    (hv : VR w σ F (below A) (.yld l) fv) (hus : us.size = as0.length) (hvs : ∀ (i : Nat) x u, as0[i]? = some x → us[i]? = some u → VR w σ F (below A) x u) :
    ∃ d, (Deferred.ofValue fv us).run P w = .ok d w ∧ CallTo P (CallEnd (hget A) (below A) σ F w A' (below A') r) ((invoke d.target d.args).run P w) := by
  cases hv with
  | yld _ hl =>
  refine ⟨{ target := .fn (.yield (σ.blk l)) #[], args := #[] ++ us }, rfl, ?_⟩
  simp only [callOf] at hc
  split at hc
  · rename_i i hfind
    have hi : i ∈ Λ := List.mem_of_find?_eq_some hfind
    have hil : i.id = l := by simpa using List.find?_some hfind
    subst hil
    obtain ⟨_, r0, hr0, hregs, hps, hasg, hbody⟩ := h.loops i hi
    split at hc
    · rename_i hlen
      have hsz : us.size = r0.params.size := by rw [hus, hlen, ← hps]; simp
      have hin : (invoke (.fn (.yield (σ.blk i.id)) #[]) (#[] ++ us)).run P w = .ok (.round (σ.blk i.id) r0.fn ((r0.params.zip us).foldl (fun tmps (t, a) => tmps.setIfInBounds t a) r0.tmps) r0.assign r0.body) w := by
        simp only [invoke, Array.empty_append]
        exact run_yield hr0 hsz
      rw [hin]
      show RoundIn Fence.wide 0 P _ _ _ _ _ w _
      refine roundIn_of_wpIn trivial ?_
      have hR : RR w σ F (below A) ((i.params.zip as0).foldl (fun R p => rset R p.1 p.2) i.regs) ((r0.params.zip us).foldl (fun tmps (t, a) => tmps.setIfInBounds t a) r0.tmps) := by
        have := foldl_regs i.params as0 us.toList i.regs r0.tmps hregs (by simpa using hus) (fun j x u h1 h2 => hvs j x u h1 (by simpa using h2))
        rw [← hps] at this
        have e : (r0.params.zip us).foldl (fun tmps (t, a) => tmps.setIfInBounds t a) r0.tmps = (r0.params.toList.zip us.toList).foldl (fun tmps (p : Nat × Value) => tmps.setIfInBounds p.1 p.2) r0.tmps := by
          rw [← Array.foldl_toList, Array.toList_zip]
        rw [e]
        rw [hps] at this ⊢
        exact this
      split at hc <;> (try (simp at hc; done))
      rename_i R1 A1 hasg2
      split at hc <;> (try (simp at hc; done))
      rename_i hB1
      have rok : RndOk Λ σ (some (σ.blk i.id)) := fun q hq => by cases hq; exact ⟨i, hi, rfl⟩
      refine wpIn_mono (ih.code Λ i.assign _ A _ R1 A1 hasg2 r0.assign hasg (some (σ.blk i.id)) 0 σ F w _ ⟨h, hR, ⟨[], rfl, List.nodup_nil, by simp⟩⟩ (Nat.zero_le _) rok) (fun ex a1 w1 hp => ?_)
      obtain rfl := hp.normal
      obtain ⟨σ1, F1, s1, h1, _⟩ := hp
      have eσ : ∀ {σ2 : Sig}, (∀ id, below A id → σ2 id = σ id) → σ2.blk i.id = σ.blk i.id := fun hh => by unfold Sig.blk; rw [hh _ hl]
      have hb1 := h1.ctx.rel.br i.id
      rw [hB1] at hb1
      obtain ⟨r1, g1, g2, g3⟩ := hb1
      have st1 := Step.setLoop (ready' := false) (p' := none) h1.ctx.rel hB1 g1
      have eb1 : σ1.blk i.id = σ.blk i.id := eσ s1.sig
      refine ⟨_, by rw [← eb1]; exact run_beginRound g1 g2, ?_⟩
      have ew : ({ r1 with state := loopState false none, pending := pendCode none } : Loop) = { r1 with state := .busy } := by
        rw [show pendCode none = r1.pending from g3.symm]; rfl
      rw [ew] at st1
      split at hc <;> (try (simp at hc; done))
      rename_i e2 R2 A2 hbody2
      split at hc <;> (try (simp at hc; done))
      rename_i rd pd hB2
      have h2 := h1.step st1
      refine wpIn_mono (ih.code Λ i.body R1 _ e2 R2 A2 hbody2 r0.body hbody (some (σ.blk i.id)) 0 σ1 F1 _ a1 h2 (Nat.zero_le _) ((rok.step h s1))) (fun ex2 a2 w2 hp2 => ?_)
      obtain ⟨σ2, F2, s2, h3, hx⟩ := hp2
      have hb2 := h3.ctx.rel.br i.id
      rw [hB2] at hb2
      obtain ⟨r2, k1, k2, k3⟩ := hb2
      have sAll := (s1.trans st1).trans s2
      have eb2 : σ2.blk i.id = σ.blk i.id := eσ sAll.sig
      have fin : ∀ (ready' : Bool) (p' : Option Pend), ({ r2 with state := loopState ready' p', pending := pendCode p' } : Loop) = { r2 with state := if (pendCode p').isNone then .ready else .done, pending := pendCode p' } → (pendCode p').isNone = ready' →
          r = .ret (.bool ready') → A' = A2.set i.id (.loop ready' p') → ∃ v w', (Instr.endRound (σ.blk i.id) (pendCode p')).run P w2 = .ok v w' ∧ CallEnd (hget A) (below A) σ F w A' (below A') r (.returned v) w' := by
        rintro ready' p' hh hn rfl rfl
        have st3 := Step.setLoop (ready' := ready') (p' := p') h3.ctx.rel hB2 k1
        rw [hh] at st3
        refine ⟨_, _, by rw [← eb2]; exact run_endRound (pendCode p') k1, σ2, F2, sAll.trans st3, _, rfl, ?_⟩
        rw [hn]; exact .bool _
      cases e2 with
      | normal =>
        simp at hc; obtain ⟨rfl, rfl⟩ := hc
        cases ex2 <;> try exact hx.elim
        exact fin true none rfl rfl rfl rfl
      | ret =>
        simp at hc; obtain ⟨rfl, rfl⟩ := hc
        cases ex2 <;> try exact hx.elim
        exact fin false (some .ret) rfl rfl rfl rfl
      | exit id =>
        simp at hc; obtain ⟨rfl, rfl⟩ := hc
        cases ex2 <;> try exact hx.elim
        rename_i id'
        obtain rfl : id = id' := hx
        exact fin false (some (.exit id)) rfl rfl rfl rfl
      | panic v => simp at hc
    · simp at hc
  · simp at hc

theorem call_ok {n : Nat} (hE : EnvOk P E gl) (ih : EvOk P E gl n) (Λ : List LoopInfo) : CallOk P E gl Λ (callOf E (ev E n) Λ) := by
  intro f as0 A r A' hc σ F w fv us h hv hus hvs
  cases f with
  | func fn p q =>
    cases fn with
    | func g => exact func_call hE ih hc h hv hus hvs
    | _ => simp [callOf] at hc
  | yld l => exact yld_call ih hc h hv hus hvs
  | _ => simp [callOf] at hc

end Go.Abs

/- The evaluator is right, however deep; and what it comes to does not depend on the depth. -/
namespace Go.Abs

variable {P : Program} {gl : List Nat} {E : Env}

theorem evOk (hE : EnvOk P E gl) : ∀ n, EvOk P E gl n
  | 0 => ⟨fun _ _ _ _ _ _ _ he => by simp [ev] at he, fun _ _ _ _ _ _ _ he => by simp [ev] at he⟩
  | n + 1 => ⟨ev_code hE (evOk hE n) (fun Λ => call_ok hE (evOk hE n) Λ), ev_loop (evOk hE n)⟩

end Go.Abs
