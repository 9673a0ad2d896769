/- Part 3 of the proof of TypingRight: A29, A30, A31, A32, A33, A34, A35, A36, A37. -/
import Derived.Test.YtbpcjahjbkiofaaMTypingRight1
set_option linter.unusedVariables false
set_option linter.unusedSimpArgs false
namespace Go.Proofs.Ytbpcjahjbkiofaa.AV
open Go

/-- Nothing happens but that the table is told otherwise. -/
theorem Next.retab {G : Ctx} {ok ok' : Nat → Prop} {mu mu' : Nat → Option Nat} {T T' : Tab} {w : World} (I : Inv G ok mu T w) (hC : Compat w w mu mu' T T') (hL : ∀ b, ok b → ok' b) (hR : ∀ b, ok' b → ok b ∨ ∃ i, mu i = some b ∧ (tget T i).live)
    (hl : ∀ i b, mu' i = some b → (tget T' i).live → ¬ ok' b ∧ ∃ j, mu j = some b ∧ (tget T j).live) (hi : ∀ i j b, mu' i = some b → mu' j = some b → (tget T' i).live → (tget T' j).live → i = j) (ho : ∀ i, ObOK w ok' mu' T' i (tget T' i)) :
    Go.Proofs.Ytbpcjahjbkiofaa.AV.Next ok ok' mu mu' T T' w w :=
  ⟨rfl, rfl, rfl, Nat.le_refl _, fun _ _ _ => rfl, hC, hL, fun b hb => by
    rcases hR b hb with h | ⟨i, h1, h2⟩
    · exact ⟨(I.okB b h).1, .inl h⟩
    · exact ⟨I.mu_lt i b h1 h2, .inr (.inl ⟨i, h1, h2⟩)⟩, fun i b h1 h2 => ⟨(hl i b h1 h2).1, .inl (hl i b h1 h2).2⟩, hi, ho⟩

theorem Rel.next {G : Ctx} {nt : Nat} {env : Env} {T T' : Tab} {a : Act} {w : World} (h : ∀ (ok : Nat → Prop) (mu : Nat → Option Nat), Inv G ok mu T w → ∃ ok' mu', Go.Proofs.Ytbpcjahjbkiofaa.AV.Next ok ok' mu mu' T T' w w) (R : Rel G nt env T a w) : Rel G nt env T' a w := by
  obtain ⟨h1, h2, ok, mu, I, E⟩ := R
  obtain ⟨ok', mu', N⟩ := h ok mu I
  exact ⟨h1, h2, ok', mu', I.next N, N.env I E⟩

/-! ### The capacity of a row -/
def fext (n sz : Nat) (f : Nat → List AV) : Nat → List AV := fun i => if i < n then f i else List.replicate sz .top

theorem lget_replicate (k : Nat) : ∀ (n : Nat), lget (List.replicate n AV.top) k = .top := by
  intro n
  induction n generalizing k with
  | zero => exact lget_ge [] k (Nat.zero_le _)
  | succ n ih => cases k with
    | zero => rfl
    | succ k => exact ih k

theorem Rel.capW {G : Ctx} {nt : Nat} {env : Env} {T : Tab} {a : Act} {w : World} (R : Rel G nt env T a w) {id sz n ver nid : Nat} {f : Nat → List AV} (hT : tget T id = .row sz n ver f) (hf : tget T nid = .fresh) :
    ∃ C, n ≤ C ∧ C ≤ maxLen ∧ Rel G nt env (tset (tset T id (.row sz C ver (fext n sz f))) nid (.cap id ver C)) a w := by
  obtain ⟨h1, h2, ok, mu, I, E⟩ := R
  have hne : nid ≠ id := fun e => by rw [e, hT] at hf; cases hf
  have ho := I.obs id
  rw [hT] at ho
  obtain ⟨g1, g2, g3⟩ := ho
  have key : ∃ C, n ≤ C ∧ C ≤ maxLen ∧ (∀ T', tget T' id = .row sz C ver (fext n sz f) → ObOK w ok mu T' id (.row sz C ver (fext n sz f))) ∧ (match mu id with | none => C = 0 | some b => capOf w b = C * sz) := by
    cases hm : mu id with
    | none =>
      rw [hm] at g3
      subst g3
      refine ⟨0, Nat.le_refl _, by simp [maxLen], fun T' _ => ⟨g1, fun i hi => absurd hi (Nat.not_lt_zero _), ?_⟩, rfl⟩
      rw [hm]
    | some b =>
      rw [hm] at g3
      obtain ⟨c, e, C, k1, k2, k3, k4, k5, k6⟩ := g3
      refine ⟨C, k3, k4, fun T' _ => ⟨g1, fun i hi => ?_, ?_⟩, by show capOf w b = C * sz; unfold capOf; rw [k1]; exact k2⟩
      · unfold fext
        split
        · exact g2 i (by assumption)
        · simp
      · rw [hm]
        refine ⟨c, e, C, k1, k2, Nat.le_refl _, k4, k5, fun i o hi ho => ?_⟩
        unfold fext
        split
        · rename_i hlt
          exact (k6 i o hlt ho).mono (fun b h => ⟨h, rfl⟩) fun e => by cases e
        · rw [lget_replicate]; exact .top _ _
  obtain ⟨C, hnC, hCm, hob, hcap⟩ := key
  refine ⟨C, hnC, hCm, ?_⟩
  have hT' : ∀ j, tget (tset (tset T id (.row sz C ver (fext n sz f))) nid (.cap id ver C)) j = if j = nid then .cap id ver C else if j = id then .row sz C ver (fext n sz f) else tget T j := fun j => by rw [tget_tset, tget_tset]
  have hCo : Compat w w mu mu T (tset (tset T id (.row sz C ver (fext n sz f))) nid (.cap id ver C)) := by
    intro j hj
    rw [hT']
    by_cases e1 : j = nid
    · rw [e1] at hj; exact absurd hf hj
    rw [if_neg e1]
    by_cases e2 : j = id
    · subst e2
      rw [if_pos rfl]
      exact ⟨fun e => (by cases e), fun _ e => (by cases e), fun sz2 n2 v2 f2 e => by cases e; exact ⟨n, ver, f, hT, Nat.le_refl _, fun _ => ⟨hnC, rfl, fun _ _ => rfl⟩⟩⟩
    · rw [if_neg e2]
      exact ⟨hj, fun c e => ⟨⟨c, e⟩, rfl⟩, fun sz2 n2 v2 f2 e => ⟨n2, v2, f2, e, Nat.le_refl _, fun _ => ⟨Nat.le_refl _, rfl, fun _ _ => rfl⟩⟩⟩
  have hlive : ∀ j, (tget (tset (tset T id (.row sz C ver (fext n sz f))) nid (.cap id ver C)) j).live → (tget T j).live := fun j hl => by
    rw [hT'] at hl
    split at hl
    · exact hl.elim
    · split at hl
      · rename_i e; subst e; rw [hT]; trivial
      · exact hl
  have N := Next.retab (ok' := ok) (mu' := mu) I hCo (fun _ h => h) (fun _ h => .inl h) (fun j b hj hl => ⟨I.sep j b hj (hlive j hl), j, hj, hlive j hl⟩) (fun i j b hi hj hli hlj => I.inj i j b hi hj (hlive i hli) (hlive j hlj)) (fun j => by
    rw [hT']
    by_cases e1 : j = nid
    · rw [if_pos e1]
      have e3 : tget (tset (tset T id (.row sz C ver (fext n sz f))) nid (.cap id ver C)) id = .row sz C ver (fext n sz f) := by rw [hT', if_neg (fun e => hne e.symm), if_pos rfl]
      refine ⟨by rw [e3]; exact fun e => (by cases e), fun sz2 n2 v2 f2 e => ?_⟩
      rw [e3] at e
      cases e
      exact ⟨Nat.le_refl _, fun _ => hcap⟩
    rw [if_neg e1]
    by_cases e2 : j = id
    · rw [if_pos e2]
      subst e2
      exact hob _ (by rw [hT', if_neg e1, if_pos rfl])
    · rw [if_neg e2]
      exact (I.obs j).mono (fun b hb => ⟨hb, rfl⟩) hCo rfl fun _ _ _ => rfl)
  exact ⟨h1, h2, ok, mu, I.next N, N.env I E⟩

section
variable {P : Program} {nt : Nat} {env : Env} {T : Tab} {Q : Post}

/-- The capacity of a row gets a name. -/
theorem Run.capO {k : List AItem} {l : List AOper} (id nid : Nat) {sz n ver : Nat} {f : Nat → List AV} (hT : tget T id = .row sz n ver f) (hf : tget T nid = .fresh)
    (h : ∀ C, n ≤ C → C ≤ maxLen → tsetK T id (.row sz C ver (fext n sz f)) fun T1 => tsetK T1 nid (.cap id ver C) fun T2 => Goes P nt Q (.ops l :: k) env T2) : Run P nt (.ops l :: k) env T Q := by
  refine ⟨⟨fun mo i hc G a w R => ?_⟩⟩
  obtain ⟨C, h1, h2, R'⟩ := R.capW hT hf
  have h3 := h C h1 h2
  rw [tsetK_iff, tsetK_iff] at h3
  exact (Goes.run h3).out.out mo i hc G a w R'
theorem Run.capC {k : List AItem} {c : ACode} (id nid : Nat) {sz n ver : Nat} {f : Nat → List AV} (hT : tget T id = .row sz n ver f) (hf : tget T nid = .fresh)
    (h : ∀ C, n ≤ C → C ≤ maxLen → tsetK T id (.row sz C ver (fext n sz f)) fun T1 => tsetK T1 nid (.cap id ver C) fun T2 => Goes P nt Q (.code c :: k) env T2) : Run P nt (.code c :: k) env T Q := by
  refine ⟨⟨fun mc hm G a w R => ?_⟩⟩
  obtain ⟨C, h1, h2, R'⟩ := R.capW hT hf
  have h3 := h C h1 h2
  rw [tsetK_iff, tsetK_iff] at h3
  exact (Goes.run h3).out.out mc hm G a w R'
end

/-! ### A row given away: it may be read from now on, and stays -/
def frzS (id cv : Nat) (f : Nat → List AV) : AV → AV
  | .row sz id' ver off len => bif Nat.beq id' id && Nat.beq ver cv then .list sz len (fun i => f (off + i)) else .row sz id' ver off len
  | x => x
def frzSL (id cv : Nat) (f : Nat → List AV) : List AV → List AV
  | [] => []
  | x :: r => frzS id cv f x :: frzSL id cv f r
def frzI (id cv : Nat) (f : Nat → List AV) : AV → AV
  | .agg l => .agg (frzSL id cv f l)
  | x => frzS id cv f x
def mapE (g : AV → AV) : Env → Env
  | [] => []
  | (n, x) :: r => (n, g x) :: mapE g r
theorem eget_mapE {g : AV → AV} (h : g .top = .top) : ∀ (l : Env) (n : Nat), eget (mapE g l) n = g (eget l n)
  | [], n => h.symm
  | (i, x) :: r, n => by
    show (bif Nat.beq i n then g x else eget (mapE g r) n) = g (bif Nat.beq i n then x else eget r n)
    cases Nat.beq i n
    · exact eget_mapE h r n
    · rfl
theorem frzSL_length (id cv : Nat) (f : Nat → List AV) : ∀ l : List AV, (frzSL id cv f l).length = l.length
  | [] => rfl
  | x :: r => by show (frzSL id cv f r).length + 1 = _; rw [frzSL_length id cv f r]; rfl
theorem lget_frzSL (id cv : Nat) (f : Nat → List AV) : ∀ (l : List AV) (j : Nat), lget (frzSL id cv f l) j = frzS id cv f (lget l j)
  | [], j => by rw [show frzSL id cv f [] = [] from rfl, lget_ge [] j (Nat.zero_le _)]; rfl
  | x :: r, 0 => rfl
  | x :: r, j + 1 => by show lget (frzSL id cv f r) j = _; rw [lget_frzSL id cv f r j]; rfl

theorem Wk.frz {env : Env} {T : Tab} {id sz n cv : Nat} {f : Nat → List AV} (hT : tget T id = .row sz n cv f) : Wk env T (mapE (frzI id cv f) env) (tset T id .dead) := by
  rintro G nt a w ⟨h1, h2, ok, mu, I, E⟩
  have hlv : (tget T id).live := by rw [hT]; trivial
  let ok' : Nat → Prop := fun b => ok b ∨ mu id = some b
  have hlive : ∀ j, (tget (tset T id .dead) j).live → j ≠ id ∧ (tget T j).live := fun j hl => by
    rw [tget_tset] at hl
    split at hl
    · exact hl.elim
    · rename_i e; exact ⟨e, hl⟩
  have hC : Compat w w mu mu T (tset T id .dead) := by
    intro j hj
    rw [tget_tset]
    by_cases e : j = id
    · rw [if_pos e]; exact ⟨fun e => (by cases e), fun _ e => (by cases e), fun _ _ _ _ e => (by cases e)⟩
    · rw [if_neg e]
      exact ⟨hj, fun c e => ⟨⟨c, e⟩, rfl⟩, fun sz2 n2 v2 f2 e => ⟨n2, v2, f2, e, Nat.le_refl _, fun _ => ⟨Nat.le_refl _, rfl, fun _ _ => rfl⟩⟩⟩
  have hw : ∀ b, ok b → ok' b ∧ w.heap[b]? = w.heap[b]? := fun b hb => ⟨.inl hb, rfl⟩
  have N : Go.Proofs.Ytbpcjahjbkiofaa.AV.Next ok ok' mu mu T (tset T id .dead) w w := by
    refine Next.retab I hC (fun _ h => .inl h) (fun b hb => hb.elim .inl fun h => .inr ⟨id, h, hlv⟩) (fun j b hj hl => ?_) (fun i j b hi hj hli hlj => I.inj i j b hi hj (hlive i hli).2 (hlive j hlj).2) (fun j => ?_)
    · obtain ⟨q1, q2⟩ := hlive j hl
      exact ⟨fun h => h.elim (I.sep j b hj q2) fun h => q1 (I.inj j id b hj h q2 hlv), j, hj, q2⟩
    · rw [tget_tset]
      split
      · trivial
      · exact (I.obs j).mono hw hC rfl fun _ _ _ => rfl
  refine ⟨h1, h2, ok', mu, I.next N, fun i => ?_⟩
  have hE := E i
  rw [eget_mapE rfl]
  have one : ∀ (v : Value) (x : AV), RV w ok mu T false v x → RV w ok' mu (tset T id .dead) false v (frzS id cv f x) := fun v x h => by
    unfold frzS
    split
    · rename_i sz' id' ver off len
      cases hb : (Nat.beq id' id && Nat.beq ver cv) with
      | false => rw [cond_false]; exact h.mono hw fun _ => hC
      | true =>
        rw [cond_true]
        simp only [Bool.and_eq_true, Nat.beq_eq] at hb
        obtain ⟨rfl, rfl⟩ := hb
        obtain ⟨rfl, hle, hcase⟩ := row_addr I h hT rfl
        rcases hcase with ⟨hm, rfl, rfl, rfl, A, rfl⟩ | ⟨b, cap, hm, rfl, hcap, hlc⟩
        · have ho := I.obs id'
          rw [hT] at ho
          exact .list _ A 0 sz 0 _ (fun _ _ => undef) (Nat.le_refl _) (by unfold maxLen; omega) ho.1 (fun h => absurd h (Nat.lt_irrefl _)) (fun i hi => absurd hi (Nat.not_lt_zero _)) (fun i _ hi => absurd hi (Nat.not_lt_zero _)) fun i _ hi => absurd hi (Nat.not_lt_zero _)
        · obtain ⟨h0, hfl, c, e, C, k1, k2, k3, k4, k5, k6, k7⟩ := row_block I hT hm
          have hCc : off + cap = C := Nat.eq_of_mul_eq_mul_right h0 (by rw [hcap, k5])
          have hbd : ∀ i o, i < len → o < sz → (off + i) * sz + o < c.size := fun i o hi ho => by
            rw [k2]
            have := Nat.mul_le_mul_right sz (show off + i + 1 ≤ C by omega)
            rw [Nat.add_mul, Nat.one_mul] at this
            omega
          refine .list _ _ cap sz len _ (fun i o => c.getD ((off + i) * sz + o) undef) hlc (by omega) h0 (fun _ => ⟨b, off * sz, rfl, .inr hm, fun i o hi ho => ?_⟩) (fun i hi => hfl _ (by omega)) (fun i o hi ho => mem_one k6 (hbd i o hi ho)) fun i o hi ho => (k7 _ _ (by omega) ho).mono hw fun e => by cases e
          have : off * sz + (i * sz + o) = (off + i) * sz + o := by rw [Nat.add_mul]; omega
          rw [this]
          exact cell_of_heap k1 (hbd i o hi ho)
    · exact h.mono hw fun _ => hC
  unfold frzI
  split
  · rename_i l hl
    rw [hl] at hE
    obtain ⟨cs, hcs, hs, h1', hr⟩ := rv_agg hE
    rw [hcs]
    refine .agg _ _ _ (by rw [frzSL_length]; exact hs) (fun j hj => h1' j (by rwa [frzSL_length] at hj)) fun j hj => ?_
    rw [frzSL_length] at hj
    rw [lget_frzSL]
    exact one _ _ (hr j hj)
  · exact one _ _ hE

def mapEK (g : AV → AV) (l : Env) (K : Env → Prop) : Prop := match l with
  | [] => K []
  | (n, x) :: r => norm1 (g x) fun y => mapEK g r fun r' => K ((n, y) :: r')
theorem mapEK_iff (g : AV → AV) : ∀ (l : Env) (K : Env → Prop), mapEK g l K ↔ K (mapE g l)
  | [], K => Iff.rfl
  | (n, x) :: r, K => (norm1_iff (g x) _).trans (mapEK_iff g r _)

section
variable {P : Program} {nt : Nat} {env : Env} {T : Tab} {Q : Post}
theorem Run.frzO {k : List AItem} {l : List AOper} (id : Nat) {sz n cv : Nat} {f : Nat → List AV} (hT : tget T id = .row sz n cv f) (h : mapEK (frzI id cv f) env fun e => tsetK T id .dead fun t => Goes P nt Q (.ops l :: k) e t) : Run P nt (.ops l :: k) env T Q := by
  rw [mapEK_iff, tsetK_iff] at h
  exact Run.wk_ops (Wk.frz hT) (Goes.run h)
theorem Run.frzC {k : List AItem} {c : ACode} (id : Nat) {sz n cv : Nat} {f : Nat → List AV} (hT : tget T id = .row sz n cv f) (h : mapEK (frzI id cv f) env fun e => tsetK T id .dead fun t => Goes P nt Q (.code c :: k) e t) : Run P nt (.code c :: k) env T Q := by
  rw [mapEK_iff, tsetK_iff] at h
  exact Run.wk_code (Wk.frz hT) (Goes.run h)
end

/-! ### A row told anew: another number, a later version -/
/-- The first elements of the row j are the row k from now on, at the version v'. -/
theorem Wk.move {T : Tab} {r : Nat} {j k n' v' szj nj vj nk vk len : Nat} {fj fk f' : Nat → List AV} (hj : tget T j = .row szj nj vj fj) (hk : tget T k = .row szj nk vk fk) (hv : vk < v') (hn : n' ≤ nj) (hf : ∀ i, i < n' → LeL (fj i) (f' i)) (hl : len ≤ n') :
    Wk [(r, .row szj j vj 0 len)] T [(r, .row szj k v' 0 len)] (tset (tset T j .dead) k (.row szj n' v' f')) := by
  rintro G nt a w ⟨h1, h2, ok, mu, I, E⟩
  have hT' : ∀ i, tget (tset (tset T j .dead) k (.row szj n' v' f')) i = if i = k then .row szj n' v' f' else if i = j then .dead else tget T i := fun i => by rw [tget_tset, tget_tset]
  have hlj : (tget T j).live := by rw [hj]; trivial
  have hlk : (tget T k).live := by rw [hk]; trivial
  let mu' := muSet mu k (mu j)
  have hC : Compat w w mu mu' T (tset (tset T j .dead) k (.row szj n' v' f')) := by
    intro i hi
    rw [hT']
    by_cases e : i = k
    · subst e
      rw [if_pos rfl]
      exact ⟨fun e => (by cases e), fun _ e => (by cases e), fun sz2 n2 v2 f2 e => by cases e; exact ⟨nk, vk, fk, hk, Nat.le_of_lt hv, fun e => by omega⟩⟩
    · rw [if_neg e]
      by_cases e2 : i = j
      · rw [if_pos e2]; exact ⟨fun e => (by cases e), fun _ e => (by cases e), fun _ _ _ _ e => (by cases e)⟩
      · rw [if_neg e2]
        have em : mu' i = mu i := muSet_ne _ _ _ e
        rw [em]
        exact ⟨hi, fun c e => ⟨⟨c, e⟩, rfl⟩, fun sz2 n2 v2 f2 e => ⟨n2, v2, f2, e, Nat.le_refl _, fun _ => ⟨Nat.le_refl _, rfl, fun _ _ => rfl⟩⟩⟩
  have hlive : ∀ i b, mu' i = some b → (tget (tset (tset T j .dead) k (.row szj n' v' f')) i).live → (i = k ∧ mu j = some b) ∨ (i ≠ k ∧ i ≠ j ∧ mu i = some b ∧ (tget T i).live) := fun i b hi hl => by
    rw [hT'] at hl
    by_cases e : i = k
    · subst e
      exact .inl ⟨rfl, by rw [← hi]; exact (muSet_same _ _ _).symm⟩
    · rw [if_neg e] at hl
      by_cases e2 : i = j
      · rw [if_pos e2] at hl; exact hl.elim
      · rw [if_neg e2] at hl
        exact .inr ⟨e, e2, by rw [← hi]; exact (muSet_ne _ _ _ e).symm, hl⟩
  have N : Go.Proofs.Ytbpcjahjbkiofaa.AV.Next ok ok mu mu' T (tset (tset T j .dead) k (.row szj n' v' f')) w w := by
    refine Next.retab I hC (fun _ h => h) (fun _ h => .inl h) (fun i b hi hl => ?_) (fun p q b hp hq hlp hlq => ?_) (fun i => ?_)
    · rcases hlive i b hi hl with ⟨_, h⟩ | ⟨_, _, h, h'⟩
      · exact ⟨I.sep j b h hlj, j, h, hlj⟩
      · exact ⟨I.sep i b h h', i, h, h'⟩
    · rcases hlive p b hp hlp with ⟨e1, h3⟩ | ⟨e1, e2, h3, h4⟩ <;> rcases hlive q b hq hlq with ⟨g1, h5⟩ | ⟨g1, g2, h5, h6⟩
      · rw [e1, g1]
      · exact absurd (I.inj j q b h3 h5 hlj h6).symm g2
      · exact absurd (I.inj p j b h3 h5 h4 hlj) e2
      · exact I.inj p q b h3 h5 h4 h6
    · rw [hT']
      by_cases e : i = k
      · subst e
        rw [if_pos rfl]
        have ho := I.obs j
        rw [hj] at ho
        obtain ⟨q1, q2, q3⟩ := ho
        refine ⟨q1, fun p hp => by rw [← (hf p hp).1]; exact q2 p (by omega), ?_⟩
        rw [show mu' i = mu j from muSet_same _ _ _]
        cases hm : mu j with
        | none => rw [hm] at q3; show n' = 0; omega
        | some b =>
          rw [hm] at q3
          obtain ⟨c, e, C, k1, k2, k3, k4, k5, k6⟩ := q3
          exact ⟨c, e, C, k1, k2, by omega, k4, k5, fun p o hp ho => ((hf p hp).2 o (by rw [q2 p (by omega)]; exact ho) _ _ _ _ _ _ (k6 p o (by omega) ho)).mono (fun b h => ⟨h, rfl⟩) fun e => by cases e⟩
      · rw [if_neg e]
        by_cases e2 : i = j
        · rw [if_pos e2]; trivial
        · rw [if_neg e2]
          exact (I.obs i).mono (fun b h => ⟨h, rfl⟩) hC (muSet_ne _ _ _ e) fun _ _ _ => rfl
  refine ⟨h1, h2, ok, mu', I.next N, fun i => ?_⟩
  rw [eget_cons]
  by_cases e : i = r
  · subst e
    rw [if_pos rfl]
    have hE := E i
    rw [eget_cons, if_pos rfl] at hE
    have ek : tget (tset (tset T j .dead) k (.row szj n' v' f')) k = .row szj n' v' f' := by rw [hT', if_pos rfl]
    refine .row _ _ _ _ _ _ (rv_rowV hE) ⟨(by rw [ek]; exact fun e => (by cases e)), fun c hc => (by rw [ek] at hc; cases hc), fun sz2 n2 v2 f2 e2 => ?_⟩
    rw [ek] at e2
    cases e2
    refine ⟨Nat.le_refl _, fun _ => ⟨rfl, by omega, ?_⟩⟩
    obtain ⟨_, _, hcase⟩ := row_addr I hE hj rfl
    unfold SliceAt
    rw [show mu' k = mu j from muSet_same _ _ _]
    rcases hcase with ⟨hm, _, e3, _, A, hval⟩ | ⟨b, cap, hm, hval, hcap, hlc⟩
    · rw [hm]
      subst e3
      exact ⟨rfl, rfl, A, hval⟩
    · rw [hm]
      exact ⟨cap, hval, hcap, hlc⟩
  · rw [if_neg e]; exact .top _ _

/-! ### Ends -/
theorem FinT.of_wk {t T0 T1 : Tab} {rv r : AV} (h0 : T0.length ≤ 4) (h : Wk [(0, rv)] t [(0, r)] T1) : FinT t rv T0 T1 r := by
  intro G w ok mu v hT I hv
  have R : Rel G 1 [(0, rv)] t ⟨#[v], []⟩ w := ⟨⟨rfl, by rw [hT]; exact h0⟩, rfl, ok, mu, I, fun i => by
    rw [eget_cons]
    by_cases e : i = 0
    · subst e; exact hv
    · rw [if_neg e]; exact .top _ _⟩
  obtain ⟨_, _, ok', mu', I', E'⟩ := h G 1 _ w R
  have := E' 0
  exact ⟨ok', mu', I', by simpa [eget] using this⟩

/-- A function's end: what it hands out, and what of its objects stays. -/
def retW (env : Env) (T : Tab) (l : List RItem) (K : AV → Tab → Prop) : Prop := match resL env T l with
  | none => False
  | some rl => norm (resV rl) fun v => K v T
section
variable {P : Program} {nt : Nat} {env : Env} {T : Tab} {Q : Post}
theorem retW_spec {l : List RItem} {T0 T1 : Tab} {r : AV} (h0 : Nat.ble T0.length 4 = true) (h : retW env T l fun v t => Wk [(0, v)] t [(0, r)] T1) : RetQ l T0 T1 r .ret env T := by
  unfold retW at h
  split at h
  · exact h.elim
  · rename_i rl hl
    rw [norm_iff] at h
    exact ⟨rl, hl, FinT.of_wk (Nat.le_of_ble_eq_true h0) h⟩
theorem Run.retW {k : List AItem} {l : List RItem} {T0 T1 : Tab} {r : AV} (h0 : Nat.ble T0.length 4 = true) (h : AV.retW env T l fun v t => Wk [(0, v)] t [(0, r)] T1) : Run P nt (.code .ret :: k) env T (RetQ l T0 T1 r) := Run.ret (retW_spec h0 h)
theorem Run.retWR {k k0 : List AItem} {K : Env → Tab → Prop} {l : List RItem} {T0 T1 : Tab} {r : AV} (h0 : Nat.ble T0.length 4 = true) (h : AV.retW env T l fun v t => Wk [(0, v)] t [(0, r)] T1) : Run P nt (.code .ret :: k) env T (roundQ P nt (RetQ l T0 T1 r) k0 K) := Run.ret (retW_spec h0 h)

theorem AC.congr {f : FuncId} {args : List AV} {T0 T1 T2 : Tab} {r : AV} (h : AC P f args T0 r T1) (he : ∀ i, tget T1 i = tget T2 i) : AC P f args T0 r T2 := by
  refine ⟨fun w ok mu I vs h1 h2 => (h.out w ok mu I vs h1 h2).mono ?_⟩
  rintro e w' ⟨v, ok', mu', rfl, N, hv⟩
  have hC : Compat w' w' mu' mu' T1 T2 := fun id hid => by
    rw [he] at hid
    rw [he]
    exact Compat.refl _ _ _ id hid
  refine ⟨v, ok', mu', rfl, ⟨N.os, N.tape, N.output, N.size, N.keep, N.compat.trans hC, N.okL, N.okR, fun i b hi hl => N.live i b hi (by rw [he]; exact hl), fun i j b hi hj hli hlj => N.inj i j b hi hj (by rw [he]; exact hli) (by rw [he]; exact hlj), fun i => ?_⟩, hv.mono (fun b hb => ⟨hb, rfl⟩) fun _ => hC⟩
  rw [← he i]
  exact (N.obs i).mono (fun b hb => ⟨hb, rfl⟩) hC rfl fun _ _ _ => rfl

/-! ### Calls over some of one's own objects -/
def tputsK (s : List Nat) (os : Tab) (T : Tab) (K : Tab → Prop) : Prop := match s with
  | [] => K T
  | j :: r => match os with
    | [] => K T
    | o :: os => tputsK r os T fun T1 => normO o fun o => tsetK T1 j o K
theorem tputsK_iff : ∀ (s : List Nat) (os : Tab) (T : Tab) (K : Tab → Prop), tputsK s os T K ↔ K (tputs s os T)
  | [], os, T, K => Iff.rfl
  | j :: r, [], T, K => Iff.rfl
  | j :: r, o :: os, T, K => by
    show tputsK r os T (fun T1 => normO o fun o => tsetK T1 j o K) ↔ _
    rw [tputsK_iff, normO_iff, tsetK_iff]
    exact Iff.rfl

theorem Step1.callA {d : Option Nat} {g : Option (Nat × Bool)} {f : FuncId} {L : List Opd} {rv : AV} {T' : Tab} (hg : gB g env = .yes []) (hc : AC P f (vals env L) T rv T') : Step1 P nt ⟨d, .call f L, g⟩ env T rv T' := by
  refine ⟨fun mo i m hm hco G a w R K Qm hq => ?_⟩
  obtain ⟨h1, h2, h3, _⟩ := cOper_spec hco
  simp only [wpOp, hm, ((gB_spec R hco).2 _ hg).1 trivial, if_true]
  obtain ⟨hdef, hs, ok, mu, I, E⟩ := R
  obtain ⟨c, hop, hcal, hargs, fn, hfn, hb, hn⟩ := cOp_call h1
  obtain ⟨a1, a2⟩ := args_rv E hargs
  left
  unfold Oper.wp
  have hrun : (execOp a.eval m).run P w = .ok (.enter f (c.args.map a.eval)) w := by
    have := run_callFunc (P := P) (w := w) hfn hb hn (c.args.map a.eval)
    simp [execOp, hop, resolve, hcal, Act.eval, Deferred.ofValue, invoke, this]
  rw [hrun, Oper.upon_enter]
  refine (hc.out w ok mu I.base (c.args.map a.eval) a1 a2).mono ?_
  rintro e w' ⟨v, ok', mu', rfl, N, hv⟩
  have R' := Rel.put hdef hs I E N hv h3
  simp only [h2]
  exact hq _ _ R'

/-- A call over the objects s (those behind the callee's own are new), in a plain region. -/
theorem Run.callG {k : List AItem} {d : Option Nat} {g : Option (Nat × Bool)} {r : List AOper} {f : FuncId} {L : List Opd} {rv : AV} {args : List AV} {T0 T1 : Tab} (s : List Nat) (hc : AC P f args T0 rv T1) (hv : vals env L = mL s args) (hg : gB g env = .yes [])
    (hk : okG s args T0 rv T1 = true) (hT : okT s s T0 T) (h : norm (mV s rv) fun rv => tputsK s (mOs s T1) T fun T2 => bindK env d rv fun e => Goes P nt Q (.ops r :: k) e T2) :
    Run P nt (.ops (⟨d, .call f L, g⟩ :: r) :: k) env T Q := by
  rw [norm_iff, tputsK_iff, bindK_iff] at h
  exact ⟨SO.of_step1 (Step1.callA hg (by rw [hv]; exact hc.frameG s hk hT)) (Goes.run h).out⟩

/-- All but one stay as they are. -/
def sameBut (ss s : List Nat) (T1 T : Tab) (id : Nat) (ob : Ob) : Prop := match s with
  | [] => True
  | j :: r => match T1 with
    | [] => True
    | o :: T1 => (bif Nat.beq j id then mO ss o = ob else tget T j = mO ss o) ∧ sameBut ss r T1 T id ob
theorem sameBut_get {ss : List Nat} {id : Nat} {ob : Ob} : ∀ {s : List Nat} {T1 T : Tab}, sameBut ss s T1 T id ob → ∀ i, i < s.length → i < T1.length → (nthN s i = id → mO ss (tget T1 i) = ob) ∧ (nthN s i ≠ id → tget T (nthN s i) = mO ss (tget T1 i))
  | [], T1, T, h, i, hi, _ => by simp at hi
  | j :: r, [], T, h, i, _, hi => by simp at hi
  | j :: r, o :: T1, T, h, i, hi, hi' => by
    obtain ⟨h1, h2⟩ := h
    cases i with
    | zero =>
      show (j = id → mO ss o = ob) ∧ (j ≠ id → tget T j = mO ss o)
      cases hb : Nat.beq j id with
      | true => rw [hb] at h1; exact ⟨fun _ => h1, fun e => absurd (Nat.eq_of_beq_eq_true hb) e⟩
      | false => rw [hb] at h1; exact ⟨fun e => by subst e; simp at hb, fun _ => h1⟩
    | succ i => exact sameBut_get h2 i (by simpa using hi) (by simpa using hi')
/-- All stay as they are. -/
def sameAll (ss s : List Nat) (T1 T : Tab) : Prop := match s with
  | [] => True
  | j :: r => match T1 with
    | [] => True
    | o :: T1 => tget T j = mO ss o ∧ sameAll ss r T1 T
theorem sameAll_get {ss : List Nat} : ∀ {s : List Nat} {T1 T : Tab}, sameAll ss s T1 T → ∀ i, i < s.length → i < T1.length → tget T (nthN s i) = mO ss (tget T1 i)
  | [], T1, T, h, i, hi, _ => by simp at hi
  | j :: r, [], T, h, i, _, hi => by simp at hi
  | j :: r, o :: T1, T, h, i, hi, hi' => by
    cases i with
    | zero => exact h.1
    | succ i => exact sameAll_get h.2 i (by simpa using hi) (by simpa using hi')

theorem okT_congr {ss : List Nat} : ∀ {s : List Nat} {T0 T T' : Tab}, okT ss s T0 T → (∀ i ∈ s, tget T' i = tget T i) → okT ss s T0 T'
  | [], T0, T, T', _, _ => trivial
  | j :: r, [], T, T', h, he => ⟨by rw [he j (by simp)]; exact h.1, okT_congr h.2 fun i hi => he i (List.mem_cons_of_mem _ hi)⟩
  | j :: r, o :: T0, T, T', h, he => ⟨by rw [he j (by simp)]; exact h.1, okT_congr (T0 := T0) h.2 fun i hi => he i (List.mem_cons_of_mem _ hi)⟩

theorem inB_mem {id : Nat} {s : List Nat} (h : (notIn (some id) s) = false) : id ∈ s := by
  induction s with
  | nil => simp [notIn] at h
  | cons m r ih =>
    simp only [notIn, Bool.and_eq_false_iff, Bool.not_eq_false'] at h
    rcases h with h | h
    · exact (Nat.eq_of_beq_eq_true h) ▸ List.mem_cons_self
    · exact List.mem_cons_of_mem _ (ih h)

/-- The same where the order is open: the call changes, or makes, one object. -/
theorem Run.callGD {k : List AItem} {d : Option Nat} {g : Option (Nat × Bool)} {r : List AOper} {b : Nat} {bm : List Nat} {hh : List HF} {f : FuncId} {L : List Opd} {rv : AV} {args : List AV} {T0 T1 : Tab} (s : List Nat) (id : Nat) {ob : Ob} (hc : AC P f args T0 rv T1) (hv : vals env L = mL s args) (hg : gB g env = .yes [])
    (hk : okG s args T0 rv T1 = true) (hT : okT s s T0 T) (hid : notIn (some id) s = false) (hob : sameBut s s T1 T id ob) (hx : chkH b 0 hh ⟨d, lapp (gS g) (opdsS L), s, some id⟩ = true)
    (h : norm (mV s rv) fun rv => tupdK T (some (id, ob)) fun T2 => happK hh ⟨d, lapp (gS g) (opdsS L), s, some id⟩ fun h1 => bindK env d rv fun e => Goes P nt Q (.dops r bm h1 :: k) e T2) :
    Run P nt (.dops (⟨d, .call f L, g⟩ :: r) (b :: bm) hh :: k) env T Q := by
  rw [norm_iff, tupdK_iff, happK_iff, bindK_iff] at h
  refine ⟨DO.fact (fp := s) (u := some (id, ob)) ⟨fun env' T' he ht => ?_⟩ hx (Goes.run h).out⟩
  rw [agE_rdOf] at he
  rw [agT_fpOf] at ht
  have hsl : ∀ n ∈ opdsS L, eget env' n = eget env n := fun n hn => he n (mem_lapp.2 (.inr hn))
  have hv' : vals env' L = mL s args := by rw [vals_congr hsl]; exact hv
  have hac := hc.frameG s hk (okT_congr hT ht)
  have hlen : s.length = T1.length := by
    simp only [okG, Bool.and_eq_true, Nat.beq_eq] at hk
    exact hk.1
  have hnd : ndB s = true := by
    simp only [okG, Bool.and_eq_true] at hk
    exact hk.2.1
  refine Step1.callA (by rw [gB_congr fun n hn => he n (mem_lapp.2 (.inl hn))]; exact hg) ?_
  rw [hv']
  refine hac.congr fun i => ?_
  show _ = tget (tset T' id ob) i
  rw [tget_tputs s _ T' i (by rw [mOs_length]; exact hlen), tget_tset]
  cases hf : fnd s i with
  | none =>
    have : i ≠ id := fun e => by
      subst e
      obtain ⟨q, hq, hqe⟩ := List.mem_iff_getElem.1 (inB_mem hid)
      refine fnd_none hf q hq ?_
      rw [nthN_get]
      simp [hq, hqe]
    rw [if_neg this]
  | some q =>
    obtain ⟨h1, h2⟩ := fnd_some hf
    obtain ⟨g1, g2⟩ := sameBut_get hob q h1 (by rw [← hlen]; exact h1)
    show tget (mOs s T1) q = _
    rw [tget_mOs]
    by_cases e : i = id
    · rw [if_pos e]
      exact g1 (by rw [h2, e])
    · rw [if_neg e, ← g2 (by rw [h2]; exact e), h2]
      exact (ht i (by rw [← h2]; exact nthN_mem s q h1)).symm

/-- .. or none. -/
theorem Run.callGN {k : List AItem} {d : Option Nat} {g : Option (Nat × Bool)} {r : List AOper} {b : Nat} {bm : List Nat} {hh : List HF} {f : FuncId} {L : List Opd} {rv : AV} {args : List AV} {T0 T1 : Tab} (s : List Nat) (hc : AC P f args T0 rv T1) (hv : vals env L = mL s args) (hg : gB g env = .yes [])
    (hk : okG s args T0 rv T1 = true) (hT : okT s s T0 T) (hob : sameAll s s T1 T) (hx : chkH b 0 hh ⟨d, lapp (gS g) (opdsS L), s, none⟩ = true)
    (h : norm (mV s rv) fun rv => happK hh ⟨d, lapp (gS g) (opdsS L), s, none⟩ fun h1 => bindK env d rv fun e => Goes P nt Q (.dops r bm h1 :: k) e T) :
    Run P nt (.dops (⟨d, .call f L, g⟩ :: r) (b :: bm) hh :: k) env T Q := by
  rw [norm_iff, happK_iff, bindK_iff] at h
  refine ⟨DO.fact (fp := s) (u := none) ⟨fun env' T' he ht => ?_⟩ hx (Goes.run h).out⟩
  rw [agE_rdOf] at he
  rw [agT_fpOf] at ht
  have hsl : ∀ n ∈ opdsS L, eget env' n = eget env n := fun n hn => he n (mem_lapp.2 (.inr hn))
  have hv' : vals env' L = mL s args := by rw [vals_congr hsl]; exact hv
  have hac := hc.frameG s hk (okT_congr hT ht)
  have hlen : s.length = T1.length := by
    simp only [okG, Bool.and_eq_true, Nat.beq_eq] at hk
    exact hk.1
  refine Step1.callA (by rw [gB_congr fun n hn => he n (mem_lapp.2 (.inl hn))]; exact hg) ?_
  rw [hv']
  refine hac.congr fun i => ?_
  show _ = tget T' i
  rw [tget_tputs s _ T' i (by rw [mOs_length]; exact hlen)]
  cases hf : fnd s i with
  | none => rfl
  | some q =>
    obtain ⟨h1, h2⟩ := fnd_some hf
    show tget (mOs s T1) q = _
    rw [tget_mOs, ← sameAll_get hob q h1 (by rw [← hlen]; exact h1), h2]
    exact (ht i (by rw [← h2]; exact nthN_mem s q h1)).symm
end

end Go.Proofs.Ytbpcjahjbkiofaa.AV

set_option linter.unusedVariables false
set_option linter.unusedSimpArgs false
namespace Go.Proofs.Ytbpcjahjbkiofaa.AV
open Go

def padT (n : Nat) (T : Tab) : Tab := match n with
  | 0 => T
  | n + 1 => match T with
    | [] => .dead :: padT n []
    | o :: r => o :: padT n r
theorem tget_padT : ∀ (n : Nat) (T : Tab) (i : Nat), tget (padT n T) i = tget T i ∨ (tget T i = .fresh ∧ tget (padT n T) i = .dead)
  | 0, T, i => .inl rfl
  | n + 1, [], 0 => .inr ⟨tget_nil 0, rfl⟩
  | n + 1, [], i + 1 => by
    have := tget_padT n [] i
    rw [tget_nil] at this ⊢
    exact this
  | n + 1, o :: r, 0 => .inl rfl
  | n + 1, o :: r, i + 1 => tget_padT n r i
theorem Wk.pad {env : Env} {T : Tab} (n : Nat) : Wk env T env (padT n T) := Wk.tab fun i => by
  rcases tget_padT n T i with h | ⟨h1, h2⟩
  · rw [h]; exact LeOb.refl _
  · rw [h1, h2]; exact .inr rfl

section
variable {P : Program} {nt : Nat} {env : Env} {T : Tab} {Q : Post}

/-- A part of a row of one's own, where the order is open. -/
theorem Run.slXD {k : List AItem} {d : Option Nat} {g : Option (Nat × Bool)} {r : List AOper} {bb : Nat} {bm : List Nat} {hh : List HF} {sz id ver off len n cv i j : Nat} {X : Opd} {lo hi : Option Opd} {f : Nat → List AV} {x y : Int} (hg : gB g env = .yes []) (hx : oval env X = .row sz id ver off len) (hT : tget T id = .row sz n cv f) (hver : Nat.beq ver cv = true) (hl : bndV env 0 lo = some x) (hh' : bndV env len hi = some y) (ex : x = (i : Int)) (ey : y = (j : Int))
    (h1 : i < j ∨ i = 0) (h2 : i ≤ j) (h3 : off + j ≤ n) (hk : chkH bb 0 hh ⟨d, lapp (gS g) (slots (.sl sz X lo hi none)), [id], none⟩ = true)
    (h : happK hh ⟨d, lapp (gS g) (slots (.sl sz X lo hi none)), [id], none⟩ fun h1 => bindK env d (.row sz id ver (off + i) (j - i)) fun e => Goes P nt Q (.dops r bm h1 :: k) e T) :
    Run P nt (.dops (⟨d, .sl sz X lo hi none, g⟩ :: r) (bb :: bm) hh :: k) env T Q := by
  rw [happK_iff, bindK_iff] at h
  refine ⟨DO.fact (fp := [id]) (u := none) (v := .row sz id ver (off + i) (j - i)) ⟨fun env' T' he ht => ?_⟩ hk (Goes.run h).out⟩
  rw [agE_rdOf] at he
  rw [agT_fpOf] at ht
  have hsl : ∀ n ∈ slots (.sl sz X lo hi none), eget env' n = eget env n := fun n hn => he n (mem_lapp.2 (.inr hn))
  have e1 : oval env' X = oval env X := oval_congr fun n hn => hsl n (mem_lapp.2 (.inl hn))
  have e2 : bndV env' 0 lo = bndV env 0 lo := bndV_congr fun n hn => hsl n (mem_lapp.2 (.inr (mem_lapp.2 (.inl hn))))
  have e3 : bndV env' len hi = bndV env len hi := bndV_congr fun n hn => hsl n (mem_lapp.2 (.inr (mem_lapp.2 (.inr (mem_lapp.2 (.inl hn))))))
  have hd := Does.slRX (P := P) (env := env') (T := T') (hx := by rw [e1]; exact hx) (hT := by rw [ht id (by simp)]; exact hT) hver (hl := by rw [e2]; exact hl) (hh := by rw [e3]; exact hh') ex ey h1 h2 h3
  refine ⟨fun mo i m hm hco G a w R K Qm hq => ?_⟩
  obtain ⟨q1, q2, q3, _⟩ := cOper_spec hco
  simp only [wpOp, hm, ((gB_spec R hco).2 _ (gB_some (p := .sl sz X lo hi none) he hg)).1 trivial, if_true]
  obtain ⟨hdef, hs, ok, mu, I, E⟩ := R
  obtain ⟨nx, x, w', ok', mu', hrun, hnx, N, hx'⟩ := hd.out q1 I E
  left
  unfold Oper.wp
  rw [hrun]
  have R' := Rel.put hdef hs I E N hx' q3
  rcases hnx with rfl | ⟨rfl, rfl⟩
  · simp only [Oper.upon, q2]; exact hq _ _ R'
  · simp only [Oper.upon, q2]; exact hq _ _ R'

/-- A copy into a part of a row of one's own, where the order is open. -/
theorem Run.copyD {k : List AItem} {d : Option Nat} {g : Option (Nat × Bool)} {r : List AOper} {bb : Nat} {bm : List Nat} {hh : List HF} {sz id ver off len n cv m : Nat} {X Y : Opd} {f f2 : Nat → List AV} (hg : gB g env = .yes []) (hx : oval env X = .row sz id ver off len) (hT : tget T id = .row sz n cv f) (hver : Nat.beq ver cv = true) (h0 : 0 < len)
    (hy : srcS T sz (oval env Y) = some (sz, m, f2)) (hk : chkH bb 0 hh ⟨d, lapp (gS g) (slots (.copy sz X Y)), id :: idOf (oval env Y), some id⟩ = true)
    (h : tupdK T (some (id, .row sz n cv (fput off (min m len) f2 f))) fun T1 => happK hh ⟨d, lapp (gS g) (slots (.copy sz X Y)), id :: idOf (oval env Y), some id⟩ fun h1 => bindK env d (.int .i64 (min m len : Nat)) fun e => Goes P nt Q (.dops r bm h1 :: k) e T1) :
    Run P nt (.dops (⟨d, .copy sz X Y, g⟩ :: r) (bb :: bm) hh :: k) env T Q := by
  refine Run.doesDT (v := .int .i64 (min m len : Nat)) (id :: idOf (oval env Y)) hg (fun env' T' he ht => ?_) hk (by rw [norm_iff]; exact h)
  have ex : oval env' X = oval env X := oval_congr fun n hn => he n (mem_lapp.2 (.inl hn))
  have ey : oval env' Y = oval env Y := oval_congr fun n hn => he n (mem_lapp.2 (.inr hn))
  exact Does.copy (by rw [ex]; exact hx) (by rw [ht id (by simp)]; exact hT) hver h0 (by rw [ey, srcS_congr fun i hi => ht i (List.mem_cons_of_mem _ hi)]; exact hy)
end
end Go.Proofs.Ytbpcjahjbkiofaa.AV

set_option linter.unusedVariables false
set_option linter.unusedSimpArgs false
namespace Go.Proofs.Ytbpcjahjbkiofaa.AV
open Go

theorem Inv.take {G : Ctx} {ok : Nat → Prop} {mu : Nat → Option Nat} {t : Tab} {w : World} (I : Inv G ok mu t w) (n : Nat) (h0 : G.T0.length ≤ n) (ht : lowT n n t = true) : Inv G ok mu (takeT n t) w := by
  have hlt : ∀ i, (tget (takeT n t) i).live → i < n ∧ tget (takeT n t) i = tget t i := fun i hi => by
    rw [tget_takeT] at hi ⊢
    split at hi
    · rename_i h; exact ⟨h, by rw [if_pos h]⟩
    · exact hi.elim
  refine { I with
    sep := fun i b hi hl => I.sep i b hi ((hlt i hl).2 ▸ hl)
    inj := fun i j b hi hj hli hlj => I.inj i j b hi hj ((hlt i hli).2 ▸ hli) ((hlt j hlj).2 ▸ hlj)
    lv := fun i b hi hl => I.lv i b hi ((hlt i hl).2 ▸ hl)
    obs := fun i => ?_
    cmp := fun id hid => ?_ }
  · rw [tget_takeT]
    by_cases hi : i < n
    · rw [if_pos hi]
      have ho := I.obs i
      have hlow := lowT_get n n t i ht hi
      revert ho hlow
      cases tget t i with
      | fresh => intro _ _; trivial
      | dead => intro _ _; trivial
      | cap k v C =>
        intro ho hlow
        simp only [lowO, Nat.blt_eq] at hlow
        obtain ⟨q1, q2⟩ := ho
        refine ⟨by rw [tget_takeT, if_pos hlow]; exact q1, fun sz m cv f e => ?_⟩
        rw [tget_takeT, if_pos hlow] at e
        exact q2 sz m cv f e
      | box cells =>
        intro ho hlow
        obtain ⟨b, c, e, q1, q2, q3, q4, q5⟩ := ho
        exact ⟨b, c, e, q1, q2, q3, q4, fun j hj => (q5 j hj).low0 (lowL_get n _ _ hlow)⟩
      | row sz m ver f =>
        intro ho _
        obtain ⟨q1, q2, q3⟩ := ho
        refine ⟨q1, q2, ?_⟩
        cases hm : mu i with
        | none => rw [hm] at q3; exact q3
        | some b =>
          rw [hm] at q3
          obtain ⟨c, e, C, k1, k2, k3, k4, k5, k6⟩ := q3
          exact ⟨c, e, C, k1, k2, k3, k4, k5, fun i o hi ho => (k6 i o hi ho).mono (fun b h => ⟨h, rfl⟩) fun e => by cases e⟩
    · rw [if_neg hi]; trivial
  · have hid' : id < n := by
      rcases Nat.lt_or_ge id G.T0.length with h | h
      · omega
      · exact absurd (tget_ge _ _ h) hid
    have := I.cmp id hid
    rw [tget_takeT, if_pos hid']
    exact this

theorem FinT.take {t t' T0 : Tab} {rv r : AV} (h : FinT t rv T0 t' r) (n : Nat) (h0 : T0.length ≤ n) (ht : lowT n n t' = true) (hl : low n r = true) : FinT t rv T0 (takeT n t') r := by
  intro G w ok mu v hT I hv
  obtain ⟨ok', mu', I', hv'⟩ := h G w ok mu v hT I hv
  exact ⟨ok', mu', I'.take n (by rw [hT]; exact h0) ht, hv'.low hl⟩

/-- What a function's end has to show. -/
structure FinS (t : Tab) (rv : AV) (T0 T1 : Tab) (r : AV) : Prop where
  out : FinT t rv T0 T1 r

section
variable {P : Program} {nt : Nat} {env : Env} {T : Tab} {Q : Post}
theorem retS_spec {l : List RItem} {T0 T1 : Tab} {r : AV} (h : retW env T l fun v t => FinS t v T0 T1 r) : RetQ l T0 T1 r .ret env T := by
  unfold AV.retW at h
  split at h
  · exact h.elim
  · rename_i rl hl
    rw [norm_iff] at h
    exact ⟨rl, hl, h.out⟩
theorem Run.retS {k : List AItem} {l : List RItem} {T0 T1 : Tab} {r : AV} (h : AV.retW env T l fun v t => FinS t v T0 T1 r) : Run P nt (.code .ret :: k) env T (RetQ l T0 T1 r) := Run.ret (retS_spec h)
theorem Run.retSR {k k0 : List AItem} {K : Env → Tab → Prop} {l : List RItem} {T0 T1 : Tab} {r : AV} (h : AV.retW env T l fun v t => FinS t v T0 T1 r) : Run P nt (.code .ret :: k) env T (roundQ P nt (RetQ l T0 T1 r) k0 K) := Run.ret (retS_spec h)

/-- The first objects stay, as they are now; the others fall. -/
theorem FinS.keep {t T0 T1 : Tab} {rv r : AV} (n : Nat) (h4 : Nat.ble T0.length 4 = true) (h0 : Nat.ble T0.length n = true) (ht : (lowT n n t && low n rv) = true) (e : takeT n t = T1) (hr : Le rv r) : FinS t rv T0 T1 r := by
  subst e
  simp only [Bool.and_eq_true] at ht
  refine ⟨fun G w ok mu v hT I hv => ⟨ok, mu, I.take n (by rw [hT]; exact Nat.le_of_ble_eq_true h0) ht.1, hr _ _ _ _ _ _ (hv.low ht.2)⟩⟩

/-- .. told less precisely. -/
theorem FinS.tab {t T0 T1 T2 : Tab} {rv r : AV} (h4 : Nat.ble T0.length 4 = true) (h : FinS t rv T0 T1 r) (hl : ∀ i, LeOb (tget T1 i) (tget T2 i)) : FinS t rv T0 T2 r := by
  refine ⟨fun G w ok mu v hT I hv => ?_⟩
  obtain ⟨ok', mu', I', hv'⟩ := h.out G w ok mu v hT I hv
  have R : Rel G 1 [(0, r)] T1 ⟨#[v], []⟩ w := ⟨⟨rfl, by rw [hT]; exact Nat.le_of_ble_eq_true h4⟩, rfl, ok', mu', I', fun i => by
    rw [eget_cons]
    by_cases e : i = 0
    · subst e; exact hv'
    · rw [if_neg e]; exact .top _ _⟩
  obtain ⟨_, _, ok2, mu2, I2, E2⟩ := Wk.tab hl G 1 _ w R
  have := E2 0
  exact ⟨ok2, mu2, I2, by simpa [eget] using this⟩

/-- The end of a function that was handed a row, and hands out one: it is that row, anew. -/
theorem FinS.row {t : Tab} {sz j vj nj nk vk n' v' n0 v0 : Nat} {fj fk f' f0 : Nat → List AV} (hj : tget t j = .row sz nj vj fj) (hk : tget t 0 = .row sz nk vk fk) (hv : Nat.blt vk v' = true) (hn : n' ≤ nj) (hf : ∀ i, i < n' → LeL (fj i) (f' i)) :
    FinS t (.row sz j vj 0 n') [.row sz n0 v0 f0] [.row sz n' v' f'] (.row sz 0 v' 0 n') := by
  have h1 := FinT.of_wk (T0 := [.row sz n0 v0 f0]) (by simp) (Wk.move (T := t) (r := 0) hj hk (by simpa using hv) hn hf (Nat.le_refl n'))
  have e : takeT 1 (tset (tset t j .dead) 0 (.row sz n' v' f')) = [.row sz n' v' f'] := by
    cases hh : tset t j .dead with
    | nil => rfl
    | cons o r => rfl
  refine ⟨?_⟩
  have := h1.take 1 (Nat.le_refl 1) (by
    cases hh : tset t j .dead with
    | nil => rfl
    | cons o r => rfl) rfl
  rwa [e] at this

/-- The end of a function that hands out a row of its own. -/
theorem FinS.new {t : Tab} {sz j vj nj n' : Nat} {fj f' : Nat → List AV} (hj : tget t j = .row sz nj vj fj) (hn : n' ≤ nj) (hf : ∀ i, i < n' → LeL (fj i) (f' i)) :
    FinS t (.row sz j vj 0 n') [] [.row sz n' 0 f'] (.row sz 0 0 0 n') := by
  refine ⟨fun G w ok mu v hT I hv => ?_⟩
  let mu' : Nat → Option Nat := fun i => if i = 0 then mu j else none
  have hlj : (tget t j).live := by rw [hj]; trivial
  have hl1 : ∀ i, (tget [Ob.row sz n' 0 f'] i).live → i = 0 := fun i h => by
    cases i with
    | zero => rfl
    | succ i => exact absurd h (by show ¬ (tget [] i).live; rw [tget_nil]; exact fun h => h)
  have hmu : ∀ i b, mu' i = some b → i = 0 ∧ mu j = some b := fun i b h => by
    simp only [mu'] at h
    split at h
    · exact ⟨by assumption, h⟩
    · cases h
  have ho := I.obs j
  rw [hj] at ho
  obtain ⟨q1, q2, q3⟩ := ho
  refine ⟨ok, mu', { I with
    sep := fun i b hi hl => I.sep j b (hmu i b hi).2 hlj
    inj := fun i k b hi hk _ _ => by rw [(hmu i b hi).1, (hmu k b hk).1]
    lv := fun i b hi hl => I.lv j b (hmu i b hi).2 hlj
    obs := fun i => ?_
    cmp := fun id hid => by rw [hT, tget_nil] at hid; exact absurd rfl hid }, ?_⟩
  · cases i with
    | zero =>
      refine ⟨q1, fun p hp => by rw [← (hf p hp).1]; exact q2 p (by omega), ?_⟩
      show (match mu j with | none => n' = 0 | some b => _)
      cases hm : mu j with
      | none => rw [hm] at q3; show n' = 0; omega
      | some b =>
        rw [hm] at q3
        obtain ⟨c, e, C, k1, k2, k3, k4, k5, k6⟩ := q3
        exact ⟨c, e, C, k1, k2, by omega, k4, k5, fun p o hp ho => ((hf p hp).2 o (by rw [q2 p (by omega)]; exact ho) _ _ _ _ _ _ (k6 p o (by omega) ho)).mono (fun b h => ⟨h, rfl⟩) fun e => by cases e⟩
    | succ i => show ObOK _ _ _ _ _ (tget [] i); rw [tget_nil]; trivial
  · refine .row _ _ _ _ _ _ (rv_rowV hv) ⟨fun e => (by cases e), fun c hc => (by cases hc), fun sz2 n2 v2 f2 e2 => ?_⟩
    cases e2
    refine ⟨Nat.le_refl _, fun _ => ⟨rfl, by omega, ?_⟩⟩
    obtain ⟨_, _, hcase⟩ := row_addr I hv hj rfl
    show SliceAt w mu' 0 sz 0 n' v
    unfold SliceAt
    show (match mu j with | some b => _ | none => _)
    rcases hcase with ⟨hm, _, e3, _, A, hval⟩ | ⟨b, cap, hm, hval, hcap, hlc⟩
    · rw [hm]
      subst e3
      exact ⟨rfl, rfl, A, hval⟩
    · rw [hm]
      exact ⟨cap, hval, hcap, hlc⟩

/-- .. or nil in its place. -/
theorem FinS.newZ {t : Tab} {sz : Nat} {f' : Nat → List AV} (hs : Nat.blt 0 sz = true) : FinS t .zsl [] [.row sz 0 0 f'] (.row sz 0 0 0 0) := by
  refine ⟨fun G w ok mu v hT I hv => ?_⟩
  obtain ⟨A, rfl⟩ := rv_zsl hv
  refine ⟨ok, fun _ => none, { I with
    sep := fun i b hi _ => by cases hi
    inj := fun i k b hi _ _ _ => by cases hi
    lv := fun i b hi _ => by cases hi
    obs := fun i => ?_
    cmp := fun id hid => by rw [hT, tget_nil] at hid; exact absurd rfl hid }, rv_row_virt A rfl rfl⟩
  cases i with
  | zero => exact ⟨by simpa using hs, fun i hi => absurd hi (Nat.not_lt_zero _), rfl⟩
  | succ i => show ObOK _ _ _ _ _ (tget [] i); rw [tget_nil]; trivial

/-! ### Events where the order is open -/
theorem Run.doesDN {k : List AItem} {d : Option Nat} {p : AOp} {g : Option (Nat × Bool)} {r : List AOper} {bb : Nat} {bm : List Nat} {hh : List HF} {v : AV} (ids : List Nat) (hg : gB g env = .yes [])
    (hv : ∀ env' T', (∀ n ∈ slots p, eget env' n = eget env n) → (∀ i ∈ ids, tget T' i = tget T i) → Does P p env' T' v T') (hk : chkH bb 0 hh ⟨d, lapp (gS g) (slots p), ids, none⟩ = true)
    (h : norm v fun v => happK hh ⟨d, lapp (gS g) (slots p), ids, none⟩ fun h1 => bindK env d v fun e => Goes P nt Q (.dops r bm h1 :: k) e T) : Run P nt (.dops (⟨d, p, g⟩ :: r) (bb :: bm) hh :: k) env T Q := by
  rw [norm_iff, happK_iff, bindK_iff] at h
  refine ⟨DO.fact (fp := ids) (u := none) ⟨fun env' T' he ht => ?_⟩ hk (Goes.run h).out⟩
  rw [agE_rdOf] at he
  rw [agT_fpOf] at ht
  have hd := hv env' T' (fun n hn => he n (mem_lapp.2 (.inr hn))) ht
  refine ⟨fun mo i m hm hco G a w R K Qm hq => ?_⟩
  obtain ⟨q1, q2, q3, _⟩ := cOper_spec hco
  simp only [wpOp, hm, ((gB_spec R hco).2 _ (gB_some (p := p) he hg)).1 trivial, if_true]
  obtain ⟨hdef, hs, ok, mu, I, E⟩ := R
  obtain ⟨nx, x, w', ok', mu', hrun, hnx, N, hx'⟩ := hd.out q1 I E
  left
  unfold Oper.wp
  rw [hrun]
  have R' := Rel.put hdef hs I E N hx' q3
  rcases hnx with rfl | ⟨rfl, rfl⟩
  · simp only [Oper.upon, q2]; exact hq _ _ R'
  · simp only [Oper.upon, q2]; exact hq _ _ R'

/-- An empty part of a row of one's own, where the order is open. -/
theorem Run.slED {k : List AItem} {d : Option Nat} {g : Option (Nat × Bool)} {r : List AOper} {bb : Nat} {bm : List Nat} {hh : List HF} {sz id ver off len n cv i j : Nat} {X : Opd} {lo hi : Option Opd} {f : Nat → List AV} {x y : Int} (hg : gB g env = .yes []) (hx : oval env X = .row sz id ver off len) (hT : tget T id = .row sz n cv f) (hver : Nat.beq ver cv = true) (hl : bndV env 0 lo = some x) (hh' : bndV env len hi = some y) (ex : x = (i : Int)) (ey : y = (j : Int))
    (h1 : i = j) (h3 : off + j ≤ n) (hk : chkH bb 0 hh ⟨d, lapp (gS g) (slots (.sl sz X lo hi none)), [id], none⟩ = true)
    (h : happK hh ⟨d, lapp (gS g) (slots (.sl sz X lo hi none)), [id], none⟩ fun h1 => bindK env d (.list sz 0 fun _ => []) fun e => Goes P nt Q (.dops r bm h1 :: k) e T) :
    Run P nt (.dops (⟨d, .sl sz X lo hi none, g⟩ :: r) (bb :: bm) hh :: k) env T Q := by
  refine Run.doesDN (v := .list sz 0 fun _ => []) [id] hg (fun env' T' hsl ht => ?_) hk (by rw [norm_iff]; exact h)
  have e1 : oval env' X = oval env X := oval_congr fun n hn => hsl n (mem_lapp.2 (.inl hn))
  have e2 : bndV env' 0 lo = bndV env 0 lo := bndV_congr fun n hn => hsl n (mem_lapp.2 (.inr (mem_lapp.2 (.inl hn))))
  have e3 : bndV env' len hi = bndV env len hi := bndV_congr fun n hn => hsl n (mem_lapp.2 (.inr (mem_lapp.2 (.inr (mem_lapp.2 (.inl hn))))))
  exact Does.slRE (hx := by rw [e1]; exact hx) (hT := by rw [ht id (by simp)]; exact hT) hver (hl := by rw [e2]; exact hl) (hh := by rw [e3]; exact hh') ex ey h1 h3

/-- An append in place, where the order is open. -/
theorem Run.appInD {k : List AItem} {d : Option Nat} {g : Option (Nat × Bool)} {r : List AOper} {bb : Nat} {bm : List Nat} {hh : List HF} {sz bytes id ver i n cv m : Nat} {X Y : Opd} {f f2 : Nat → List AV} (hg : gB g env = .yes []) (hx : oval env X = .row sz id ver 0 i) (hT : tget T id = .row sz n cv f) (hver : Nat.beq ver cv = true)
    (hy : srcS T sz (oval env Y) = some (sz, m, f2)) (hm : i + m ≤ n) (hk : chkH bb 0 hh ⟨d, lapp (gS g) (slots (.app sz bytes X Y)), id :: idOf (oval env Y), some id⟩ = true)
    (h : tupdK T (some (id, .row sz n cv (fput i m f2 f))) fun T1 => happK hh ⟨d, lapp (gS g) (slots (.app sz bytes X Y)), id :: idOf (oval env Y), some id⟩ fun h1 => bindK env d (.row sz id ver 0 (i + m)) fun e => Goes P nt Q (.dops r bm h1 :: k) e T1) :
    Run P nt (.dops (⟨d, .app sz bytes X Y, g⟩ :: r) (bb :: bm) hh :: k) env T Q := by
  refine Run.doesDT (v := .row sz id ver 0 (i + m)) (id :: idOf (oval env Y)) hg (fun env' T' he ht => ?_) hk (by rw [norm_iff]; exact h)
  have ex : oval env' X = oval env X := oval_congr fun n hn => he n (mem_lapp.2 (.inl hn))
  have ey : oval env' Y = oval env Y := oval_congr fun n hn => he n (mem_lapp.2 (.inr hn))
  exact Does.appIn (by rw [ex]; exact hx) (by rw [ht id (by simp)]; exact hT) hver (by rw [ey, srcS_congr fun i hi => ht i (List.mem_cons_of_mem _ hi)]; exact hy) hm
end
end Go.Proofs.Ytbpcjahjbkiofaa.AV

set_option linter.unusedVariables false
set_option linter.unusedSimpArgs false
namespace Go.Proofs.Ytbpcjahjbkiofaa.AV
open Go

/-- nil in a cell of a box is told as a row of no cells. -/
theorem Wk.virt {env : Env} {T : Tab} {b nid sz : Nat} (c : Nat) {cells : List AV} (f : Nat → List AV) (hs : Nat.blt 0 sz = true) (hb : tget T b = .box cells) (hf : tget T nid = .fresh) (hc : lget cells c = .zsl) (hl : Nat.blt c cells.length = true) :
    Wk env T env (tset (tset T nid (.row sz 0 0 f)) b (.box (lset cells c (.row sz nid 0 0 0)))) := by
  rintro G nt a w ⟨h1, h2, ok, mu, I, E⟩
  have hne : nid ≠ b := fun e => by rw [e, hb] at hf; cases hf
  have N1 : Go.Proofs.Ytbpcjahjbkiofaa.AV.Next ok ok mu (muSet mu nid none) T (tset T nid (.row sz 0 0 f)) w w := Next.virt I (by simpa using hs) (.inl hf)
  have I1 := I.next N1
  have hb1 : tget (tset T nid (.row sz 0 0 f)) b = .box cells := by rw [tget_tset_ne _ _ _ _ hne.symm]; exact hb
  have hmuR : muSet mu nid none nid = none := muSet_same _ _ _
  have ho := I1.obs b
  rw [hb1] at ho
  obtain ⟨bb, cc, e, q1, q2, q3, q4, q5⟩ := ho
  have hT' : ∀ i, tget (tset (tset T nid (.row sz 0 0 f)) b (.box (lset cells c (.row sz nid 0 0 0)))) i = if i = b then .box (lset cells c (.row sz nid 0 0 0)) else tget (tset T nid (.row sz 0 0 f)) i := fun i => tget_tset _ _ _ _
  have hC : Compat w w (muSet mu nid none) (muSet mu nid none) (tset T nid (.row sz 0 0 f)) (tset (tset T nid (.row sz 0 0 f)) b (.box (lset cells c (.row sz nid 0 0 0)))) := by
    intro i hi
    rw [hT']
    by_cases e : i = b
    · rw [if_pos e, e]
      exact ⟨fun e => (by cases e), fun _ _ => ⟨⟨cells, hb1⟩, rfl⟩, fun _ _ _ _ e => (by cases e)⟩
    · rw [if_neg e]
      exact ⟨hi, fun c e => ⟨⟨c, e⟩, rfl⟩, fun sz2 n2 v2 f2 e => ⟨n2, v2, f2, e, Nat.le_refl _, fun _ => ⟨Nat.le_refl _, rfl, fun _ _ => rfl⟩⟩⟩
  have hlive : ∀ i, (tget (tset (tset T nid (.row sz 0 0 f)) b (.box (lset cells c (.row sz nid 0 0 0)))) i).live → (tget (tset T nid (.row sz 0 0 f)) i).live := fun i hl => by
    rw [hT'] at hl
    split at hl
    · rename_i e; rw [e, hb1]; trivial
    · exact hl
  have hw : ∀ b, ok b → ok b ∧ w.heap[b]? = w.heap[b]? := fun b h => ⟨h, rfl⟩
  have N2 := Next.retab (ok' := ok) (mu' := muSet mu nid none) I1 hC (fun _ h => h) (fun _ h => .inl h) (fun i b hi hl => ⟨I1.sep i b hi (hlive i hl), i, hi, hlive i hl⟩) (fun i j b hi hj hli hlj => I1.inj i j b hi hj (hlive i hli) (hlive j hlj)) (fun i => by
    rw [hT']
    by_cases e : i = b
    · rw [if_pos e]
      subst e
      refine ⟨bb, cc, e, q1, q2, by rw [lset_length]; exact q3, fun j hj => q4 j (by rwa [lset_length] at hj), fun j hj => ?_⟩
      rw [lset_length] at hj
      have hcl : c < cells.length := by simpa using hl
      rw [lget_lset _ _ _ _ hcl]
      by_cases e2 : j = c
      · rw [if_pos e2, e2]
        have hz := q5 c hcl
        rw [hc] at hz
        obtain ⟨A, hA⟩ := rv_zsl hz
        rw [hA]
        exact rv_row_virt A hmuR (by rw [hT', if_neg hne]; exact tget_tset_same _ _ _)
      · rw [if_neg e2]
        exact (q5 j hj).mono hw fun _ => hC
    · rw [if_neg e]
      exact (I1.obs i).mono hw hC rfl fun _ _ _ => rfl)
  have N := N1.trans I N2
  exact ⟨h1, h2, ok, _, I.next N, N.env I E⟩

/-- A row of one's own becomes the only object. -/
theorem new_core {G : Ctx} {ok : Nat → Prop} {mu : Nat → Option Nat} {t : Tab} {w : World} (I : Inv G ok mu t w) (hT : G.T0 = []) {sz j vj nj n' : Nat} {fj f' : Nat → List AV} (hj : tget t j = .row sz nj vj fj) (hn : n' ≤ nj) (hf : ∀ i, i < n' → LeL (fj i) (f' i)) :
    ∃ mu', Inv G ok mu' [.row sz n' 0 f'] w ∧ ∀ v, RV w ok mu t false v (.row sz j vj 0 n') → RV w ok mu' [.row sz n' 0 f'] false v (.row sz 0 0 0 n') := by
  let mu' : Nat → Option Nat := fun i => if i = 0 then mu j else none
  have hlj : (tget t j).live := by rw [hj]; trivial
  have hmu : ∀ i b, mu' i = some b → i = 0 ∧ mu j = some b := fun i b h => by
    simp only [mu'] at h
    split at h
    · exact ⟨by assumption, h⟩
    · cases h
  have ho := I.obs j
  rw [hj] at ho
  obtain ⟨q1, q2, q3⟩ := ho
  refine ⟨mu', { I with
    sep := fun i b hi hl => I.sep j b (hmu i b hi).2 hlj
    inj := fun i k b hi hk _ _ => by rw [(hmu i b hi).1, (hmu k b hk).1]
    lv := fun i b hi hl => I.lv j b (hmu i b hi).2 hlj
    obs := fun i => ?_
    cmp := fun id hid => by rw [hT, tget_nil] at hid; exact absurd rfl hid }, fun v hv => ?_⟩
  · cases i with
    | zero =>
      refine ⟨q1, fun p hp => by rw [← (hf p hp).1]; exact q2 p (by omega), ?_⟩
      show (match mu j with | none => n' = 0 | some b => _)
      cases hm : mu j with
      | none => rw [hm] at q3; show n' = 0; omega
      | some b =>
        rw [hm] at q3
        obtain ⟨c, e, C, k1, k2, k3, k4, k5, k6⟩ := q3
        exact ⟨c, e, C, k1, k2, by omega, k4, k5, fun p o hp ho => ((hf p hp).2 o (by rw [q2 p (by omega)]; exact ho) _ _ _ _ _ _ (k6 p o (by omega) ho)).mono (fun b h => ⟨h, rfl⟩) fun e => by cases e⟩
    | succ i => show ObOK _ _ _ _ _ (tget [] i); rw [tget_nil]; trivial
  · refine .row _ _ _ _ _ _ (rv_rowV hv) ⟨fun e => (by cases e), fun c hc => (by cases hc), fun sz2 n2 v2 f2 e2 => ?_⟩
    cases e2
    refine ⟨Nat.le_refl _, fun _ => ⟨rfl, by omega, ?_⟩⟩
    obtain ⟨_, _, hcase⟩ := row_addr I hv hj rfl
    show SliceAt w mu' 0 sz 0 n' v
    unfold SliceAt
    show (match mu j with | some b => _ | none => _)
    rcases hcase with ⟨hm, _, e3, _, A, hval⟩ | ⟨b, cap, hm, hval, hcap, hlc⟩
    · rw [hm]
      subst e3
      exact ⟨rfl, rfl, A, hval⟩
    · rw [hm]
      exact ⟨cap, hval, hcap, hlc⟩

/-- The end of a function that hands out a struct of two cells, the second one a new row. -/
theorem FinS.newA {t : Tab} {sz j vj nj n' : Nat} {fj f' : Nat → List AV} {x : AV} (hx : noRef x = true) (hj : tget t j = .row sz nj vj fj) (hn : n' ≤ nj) (hf : ∀ i, i < n' → LeL (fj i) (f' i)) :
    FinS t (.agg [x, .row sz j vj 0 n']) [] [.row sz n' 0 f'] (.agg [x, .row sz 0 0 0 n']) := by
  refine ⟨fun G w ok mu v hT I hv => ?_⟩
  obtain ⟨mu', I', hr⟩ := new_core I hT hj hn hf
  obtain ⟨cs, rfl, hs, h1, hc⟩ := rv_agg hv
  refine ⟨ok, mu', I', .agg _ _ _ hs h1 fun i hi => ?_⟩
  match i, hi with
  | 0, _ => exact RV.any (hc 0 (by simp)) hx
  | 1, _ => exact hr _ (hc 1 (by simp))
end Go.Proofs.Ytbpcjahjbkiofaa.AV

set_option linter.unusedVariables false
set_option linter.unusedSimpArgs false
namespace Go.Proofs.Ytbpcjahjbkiofaa.AV
open Go

section
variable {P : Program} {nt : Nat} {env : Env} {T : Tab} {Q : Post}

theorem Run.iaRC {k : List AItem} {d : Option Nat} {g : Option (Nat × Bool)} {r : List AOper} {gs : List Bool} {sz sz' id ver off len n cv : Nat} {X Y : Opd} {f : Nat → List AV} {ik : IntKind} {i : Int} (hg : gB g env = .yes gs) (hx : oval (stripE env env (slots (.ia sz X Y))) X = .row sz' id ver off len) (hT : tget T id = .row sz' n cv f) (hver : Nat.beq ver cv = true) (hs : Nat.beq sz sz' = true)
    (hy : oval (stripE env env (slots (.ia sz X Y))) Y = .int ik i) (ho : obL (stripOb gs env (slots (.ia sz X Y))) = obR (stripOb gs env (slots (.ia sz X Y)))) (hi : AllT gs → 0 ≤ i ∧ i < len) {j : Nat} (hj : off + i.toNat = j)
    (h : wrapK gs (.ptr id ver j 0) fun v => bindK env d v fun e => Goes P nt Q (.ops r :: k) e T) :
    Run P nt (.ops (⟨d, .ia sz X Y, g⟩ :: r) :: k) env T Q := by
  rw [wrapK_iff, bindK_iff] at h
  subst hj
  exact ⟨SO.of_step1 (Step1.doesW (o := ⟨d, .ia sz X Y, g⟩) hg (OKs.of ho) fun hp => Does.iaRow hx hT hver hs hy (hi hp).1 (hi hp).2) (Goes.run h).out⟩

theorem Run.iaRD {k : List AItem} {d : Option Nat} {g : Option (Nat × Bool)} {r : List AOper} {b : Nat} {bm : List Nat} {hh : List HF} {gs : List Bool} {sz sz' id ver off len n cv : Nat} {X Y : Opd} {f : Nat → List AV} {ik : IntKind} {i : Int} (hg : gB g env = .yes gs) (hx : oval (stripE env env (slots (.ia sz X Y))) X = .row sz' id ver off len) (hT : tget T id = .row sz' n cv f) (hver : Nat.beq ver cv = true) (hs : Nat.beq sz sz' = true)
    (hy : oval (stripE env env (slots (.ia sz X Y))) Y = .int ik i) (ho : obL (stripOb gs env (slots (.ia sz X Y))) = obR (stripOb gs env (slots (.ia sz X Y)))) (hi : AllT gs → 0 ≤ i ∧ i < len) {j : Nat} (hj : off + i.toNat = j)
    (hk : chkH b 0 hh ⟨d, lapp (gS g) (slots (.ia sz X Y)), [id], none⟩ = true)
    (h : wrapK gs (.ptr id ver j 0) fun v => happK hh ⟨d, lapp (gS g) (slots (.ia sz X Y)), [id], none⟩ fun h1 => bindK env d v fun e => Goes P nt Q (.dops r bm h1 :: k) e T) :
    Run P nt (.dops (⟨d, .ia sz X Y, g⟩ :: r) (b :: bm) hh :: k) env T Q := by
  subst hj
  refine Run.doesD (v := .ptr id ver (off + i.toNat) 0) [id] hg ho (fun hp env' T' he ht => ?_) hk (by rw [norm_iff]; exact h)
  have e1 : oval env' X = oval (stripE env env (slots (.ia sz X Y))) X := oval_congr fun n hn => he n (mem_lapp.2 (.inl hn))
  have e2 : oval env' Y = oval (stripE env env (slots (.ia sz X Y))) Y := oval_congr fun n hn => he n (mem_lapp.2 (.inr hn))
  exact Does.iaRow (by rw [e1]; exact hx) (by rw [ht id (by simp)]; exact hT) hver hs (by rw [e2]; exact hy) (hi hp).1 (hi hp).2

/-- A call of a function value over the objects s, in a plain region. -/
theorem Run.callvG {k : List AItem} {d : Option Nat} {r : List AOper} {f : FuncId} {fn : Func} {cap : List AV} {gv : Opd} {L : List Opd} {rv : AV} {args : List AV} {T0 T1 : Tab} (s : List Nat) (hfn : P.funcs[f]? = some fn) (hb : (fn.body.isSome && fn.name != "runtime.NumGoroutine") = true) (hgv : oval env gv = .func f cap) (hc : AC P f args T0 rv T1) (hv : vals env L ++ cap = mL s args)
    (hk : okG s args T0 rv T1 = true) (hT : okT s s T0 T) (h : norm (mV s rv) fun rv => tputsK s (mOs s T1) T fun T2 => bindK env d rv fun e => Goes P nt Q (.ops r :: k) e T2) :
    Run P nt (.ops (⟨d, .callv gv L, none⟩ :: r) :: k) env T Q := by
  rw [norm_iff, tputsK_iff, bindK_iff] at h
  simp only [Bool.and_eq_true, bne_iff_ne, ne_eq] at hb
  exact ⟨SO.callv rfl rfl hgv ⟨fn, hfn, hb.1, hb.2⟩ (by rw [hv]; exact hc.frameG s hk hT) (Goes.run h).out⟩

/-- The first objects stay; what is handed out names none. -/
theorem FinS.keepP {t T0 T1 : Tab} {rv r : AV} (n : Nat) (h0 : Nat.ble T0.length n = true) (ht : (lowT n n t && pureV rv) = true) (e : takeT n t = T1) (hr : Le rv r) : FinS t rv T0 T1 r := by
  subst e
  simp only [Bool.and_eq_true] at ht
  refine ⟨fun G w ok mu v hT I hv => ⟨ok, mu, I.take n (by rw [hT]; exact Nat.le_of_ble_eq_true h0) ht.1, hr _ _ _ _ _ _ (((hv.pure ht.2).mono (fun b hb => ⟨hb, rfl⟩) (fun e => by cases e)).thaw)⟩⟩
end
end Go.Proofs.Ytbpcjahjbkiofaa.AV

set_option linter.unusedVariables false
set_option linter.unusedSimpArgs false
namespace Go.Proofs.Ytbpcjahjbkiofaa.AV
open Go

section
variable {P : Program} {nt : Nat} {env : Env} {T : Tab} {Q : Post}

/-- What goes on from here, up to the region's end. -/
abbrev Goes1 (P : Program) (nt : Nat) (Q : Post) (k : List AItem) (env : Env) (T : Tab) : Prop := runC 1 k env T [] (fun k' e t acc => obL acc = obR acc ∧ Run P nt k' e t Q)
theorem Goes1.run {k : List AItem} (h : Goes1 P nt Q k env T) : Run P nt k env T Q := runC_sound _ _ _ _ h

theorem Run.callGDs {k : List AItem} {d : Option Nat} {g : Option (Nat × Bool)} {r : List AOper} {b : Nat} {bm : List Nat} {hh : List HF} {f : FuncId} {L : List Opd} {rv : AV} {args : List AV} {T0 T1 : Tab} (s : List Nat) (id : Nat) {ob : Ob} (hc : AC P f args T0 rv T1) (hv : vals env L = mL s args) (hg : gB g env = .yes [])
    (hk : okG s args T0 rv T1 = true) (hT : okT s s T0 T) (hid : notIn (some id) s = false) (hob : sameBut s s T1 T id ob) (hx : chkH b 0 hh ⟨d, lapp (gS g) (opdsS L), s, some id⟩ = true)
    (h : norm (mV s rv) fun rv => tupdK T (some (id, ob)) fun T2 => happK hh ⟨d, lapp (gS g) (opdsS L), s, some id⟩ fun h1 => bindK env d rv fun e => Goes1 P nt Q (.dops r bm h1 :: k) e T2) :
    Run P nt (.dops (⟨d, .call f L, g⟩ :: r) (b :: bm) hh :: k) env T Q := by
  rw [norm_iff, tupdK_iff, happK_iff, bindK_iff] at h
  refine ⟨DO.fact (fp := s) (u := some (id, ob)) ⟨fun env' T' he ht => ?_⟩ hx (Goes1.run h).out⟩
  rw [agE_rdOf] at he
  rw [agT_fpOf] at ht
  have hsl : ∀ n ∈ opdsS L, eget env' n = eget env n := fun n hn => he n (mem_lapp.2 (.inr hn))
  have hv' : vals env' L = mL s args := by rw [vals_congr hsl]; exact hv
  have hac := hc.frameG s hk (okT_congr hT ht)
  have hlen : s.length = T1.length := by
    simp only [okG, Bool.and_eq_true, Nat.beq_eq] at hk
    exact hk.1
  refine Step1.callA (by rw [gB_congr fun n hn => he n (mem_lapp.2 (.inl hn))]; exact hg) ?_
  rw [hv']
  refine hac.congr fun i => ?_
  show _ = tget (tset T' id ob) i
  rw [tget_tputs s _ T' i (by rw [mOs_length]; exact hlen), tget_tset]
  cases hf : fnd s i with
  | none =>
    have : i ≠ id := fun e => by
      subst e
      obtain ⟨q, hq, hqe⟩ := List.mem_iff_getElem.1 (inB_mem hid)
      refine fnd_none hf q hq ?_
      rw [nthN_get]
      simp [hq, hqe]
    rw [if_neg this]
  | some q =>
    obtain ⟨h1, h2⟩ := fnd_some hf
    obtain ⟨g1, g2⟩ := sameBut_get hob q h1 (by rw [← hlen]; exact h1)
    show tget (mOs s T1) q = _
    rw [tget_mOs]
    by_cases e : i = id
    · rw [if_pos e]
      exact g1 (by rw [h2, e])
    · rw [if_neg e, ← g2 (by rw [h2]; exact e), h2]
      exact (ht i (by rw [← h2]; exact nthN_mem s q h1)).symm
end
end Go.Proofs.Ytbpcjahjbkiofaa.AV

set_option linter.unusedVariables false
set_option linter.unusedSimpArgs false
namespace Go.Proofs.Ytbpcjahjbkiofaa.AV
open Go

section
variable {P : Program} {nt : Nat} {env : Env} {T : Tab} {Q : Post}

theorem cOp_ixS {o : Oper} {X Y : Opd} (h : cOp P o = some (.ixS X Y)) : ∃ (t : TypeId) (x y : Operand), o.op = .index t x y ∧ P.underlying t = some .string ∧ opd x = some X ∧ opd y = some Y := by
  unfold cOp at h
  split at h
  all_goals try (exfalso; first
    | exact map_no h (fun z e => by cases e)
    | (unfold cCall at h; (repeat' split at h) <;> cases h; done)
    | (unfold cBin at h; (repeat' split at h) <;> cases h; done)
    | ((repeat' split at h) <;> cases h; done)
    | cases h; done)
  rename_i t x y hop
  split at h
  · rename_i A B hd hx hy
    cases h
    exact ⟨t, x, y, hop, hd, hx, hy⟩
  · cases h

/-- A byte of a string. -/
def byteAt (s : ByteArray) (i : Nat) : Int := ((s.data.getD i 0).toNat : Int)

theorem Does.ixS {X Y : Opd} {s : ByteArray} {k : IntKind} {x : Int} {i : Nat} (hx : oval env X = .str s) (hy : oval env Y = .int k x) (ex : x = (i : Int)) (hi : i < s.size) : Does P (.ixS X Y) env T (.int .u8 (byteAt s i)) T := by
  refine ⟨fun {G w ok mu a o} hc I E => ?_⟩
  subst ex
  obtain ⟨t, x, y, hop, hd, hxo, hyo⟩ := cOp_ixS hc
  have rx := opd_rv E hxo
  have ry := opd_rv E hyo
  rw [hx] at rx
  rw [hy] at ry
  refine Did.pure (x := .int .u8 (byteAt s i)) I ?_ (.int _ _ _)
  have h1 : s[i]? = some (s.data.getD i 0) := by
    have : i < s.data.size := hi
    rw [getElem?_pos s i hi]
    unfold Array.getD
    rw [dif_pos this]
    rfl
  simp [execOp, hop, Instr.index, rv_str rx, rv_int ry, asIntOf, run_underlying hd, h1, byteAt]

/-- In a loop within a loop. -/
theorem Run.retRR {k k0 k1 : List AItem} {K K1 : Env → Tab → Prop} {l : List RItem} {r : AV} (h : retL env T l r) : Run P nt (.code .ret :: k) env T (roundQ P nt (roundQ P nt (RetQ l [] [] r) k0 K) k1 K1) := Run.ret (retL_spec h)
end
end Go.Proofs.Ytbpcjahjbkiofaa.AV

set_option linter.unusedVariables false
set_option linter.unusedSimpArgs false
namespace Go.Proofs.Ytbpcjahjbkiofaa.AV
open Go

/-- The end of a function that hands out a struct of two cells, the second one a row of its own: it is frozen. -/
theorem FinS.aggF {t : Tab} {sz j vj nj n' : Nat} {fj : Nat → List AV} {x r : AV} (hx : pureV x = true) (hx' : frz t x = x) (hj : tget t j = .row sz nj vj fj) (hp : pureV (.agg [x, .list sz n' fun i => fj (0 + i)]) = true) (hl : Le (.agg [x, .list sz n' fun i => fj (0 + i)]) r) :
    FinS t (.agg [x, .row sz j vj 0 n']) [] [] r := by
  have e : frzT t (.agg [x, .row sz j vj 0 n']) = .agg [x, .list sz n' fun i => fj (0 + i)] := by
    show AV.agg [frz t x, frz t (.row sz j vj 0 n')] = _
    rw [hx']
    congr 2
    show [match tget t j with
        | Ob.row _ _ cv f => bif vj.beq cv then AV.list sz n' (fun i => f (0 + i)) else AV.top
        | _ => AV.top] = _
    rw [hj]
    simp only [Nat.beq_refl, cond_true]
  exact ⟨FinT.frz (by rw [e]; exact hp) (by rw [e]; exact hl)⟩

section
variable {P : Program} {nt : Nat} {env : Env} {T : Tab} {Q : Post}
/-- A step on an object, after which one stops. -/
theorem Run.doesT0 {k : List AItem} {d : Option Nat} {p : AOp} {g : Option (Nat × Bool)} {r : List AOper} {v : AV} {id : Nat} {ob : Ob} (hg : gB g env = .yes []) (hv : Does P p env T v (tset T id ob))
    (h : norm v fun v => tupdK T (some (id, ob)) fun T1 => bindK env d v fun e => Run P nt (.ops r :: k) e T1 Q) : Run P nt (.ops (⟨d, p, g⟩ :: r) :: k) env T Q := by
  rw [norm_iff, tupdK_iff, bindK_iff] at h
  refine ⟨SO.of_step1 (v := v) (T' := tset T id ob) ?_ h.out⟩
  refine ⟨fun mo i m hm hco G a w R K Qm hq => ?_⟩
  obtain ⟨h1, h2, h3, _⟩ := cOper_spec hco
  simp only [wpOp, hm, ((gB_spec R hco).2 _ hg).1 trivial, if_true]
  obtain ⟨hdef, hs, ok, mu, I, E⟩ := R
  obtain ⟨nx, x, w', ok', mu', hrun, hnx, N, hx⟩ := hv.out h1 I E
  left
  unfold Oper.wp
  rw [hrun]
  have R' := Rel.put hdef hs I E N hx h3
  rcases hnx with rfl | ⟨rfl, rfl⟩
  · simp only [Oper.upon, h2]; exact hq _ _ R'
  · simp only [Oper.upon, h2]; exact hq _ _ R'
end
end Go.Proofs.Ytbpcjahjbkiofaa.AV

set_option linter.unusedVariables false
set_option linter.unusedSimpArgs false
namespace Go.Proofs.Ytbpcjahjbkiofaa.AV
open Go
section
variable {P : Program} {nt : Nat} {env : Env} {T : Tab} {Q : Post}
theorem Run.nilS {l : List RItem} {T0 T1 : Tab} {r : AV} (h : AV.retW env T l fun v t => FinS t v T0 T1 r) : Run P nt [] env T (RetQ l T0 T1 r) := Run.nil (retS_spec h)
/-- A row given away, of which one slot alone is told. -/
theorem Run.frz1 {k : List AItem} {l : List AOper} (id n : Nat) {sz m cv off len : Nat} {f : Nat → List AV} (hT : tget T id = .row sz m cv f) (hn : eget env n = .row sz id cv off len)
    (h : tsetK T id .dead fun t => Goes P nt Q (.ops l :: k) [(n, .list sz len fun i => f (off + i))] t) : Run P nt (.ops l :: k) env T Q := by
  rw [tsetK_iff] at h
  refine Run.wk_ops (Wk.trans (Wk.frz hT) (Wk.ofEnv (Wk.cons ?_ Wk.done))) (Goes.run h)
  rw [eget_mapE rfl, hn]
  show Le (frzS id cv f (.row sz id cv off len)) _
  simp only [frzS, Nat.beq_refl, Bool.and_true, cond_true, if_true]
  exact .refl _
end
end Go.Proofs.Ytbpcjahjbkiofaa.AV

