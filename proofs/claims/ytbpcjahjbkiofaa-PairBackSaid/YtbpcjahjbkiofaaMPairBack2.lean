/- Part 3 of the proof of PairBack: A31, A32, A33, A34, A35, A36, A37, A38, A39, A40, CODES. -/
import Derived.Test.YtbpcjahjbkiofaaMPairBack1
import Derived.Laws.BytesArg
import Derived.Test.YtbpcjahjbkiofaaProg
set_option linter.unusedVariables false
set_option linter.unusedSimpArgs false
namespace Go.Proofs.Ytbpcjahjbkiofaa.AV
open Go

theorem Inv.take {G : Ctx} {ok : Nat → Prop} {mu : Nat → Option Nat} {t : Tab} {w : World} (I : Inv G ok mu t w) (n : Nat) (h0 : G.T0.length ≤ n) (ht : lowT n n t = true) : Inv G ok mu (takeT n t) w := by
  have hlt : ∀ i, (tget (takeT n t) i).live → i < n ∧ tget (takeT n t) i = tget t i := fun i hi => by
    rw [tget_takeT] at hi ⊢
    split at hi
    · rename_i h; exact ⟨h, by rw [if_pos h]⟩
    · exact hi.elim
  refine { I with
    sep := fun i b hi hl => I.sep i b hi ((hlt i hl).2 ▸ hl)
    inj := fun i j b hi hj hli hlj => I.inj i j b hi hj ((hlt i hli).2 ▸ hli) ((hlt j hlj).2 ▸ hlj)
    lv := fun i b hi hl => I.lv i b hi ((hlt i hl).2 ▸ hl)
    obs := fun i => ?_
    cmp := fun id hid => ?_ }
  · rw [tget_takeT]
    by_cases hi : i < n
    · rw [if_pos hi]
      have ho := I.obs i
      have hlow := lowT_get n n t i ht hi
      revert ho hlow
      cases tget t i with
      | fresh => intro _ _; trivial
      | dead => intro _ _; trivial
      | cap k v C =>
        intro ho hlow
        simp only [lowO, Nat.blt_eq] at hlow
        obtain ⟨q1, q2⟩ := ho
        refine ⟨by rw [tget_takeT, if_pos hlow]; exact q1, fun sz m cv f e => ?_⟩
        rw [tget_takeT, if_pos hlow] at e
        exact q2 sz m cv f e
      | box cells =>
        intro ho hlow
        obtain ⟨b, c, e, q1, q2, q3, q4, q5⟩ := ho
        exact ⟨b, c, e, q1, q2, q3, q4, fun j hj => (q5 j hj).low0 (lowL_get n _ _ hlow)⟩
      | row sz m ver f =>
        intro ho _
        obtain ⟨q1, q2, q3⟩ := ho
        refine ⟨q1, q2, ?_⟩
        cases hm : mu i with
        | none => rw [hm] at q3; exact q3
        | some b =>
          rw [hm] at q3
          obtain ⟨c, e, C, k1, k2, k3, k4, k5, k6⟩ := q3
          exact ⟨c, e, C, k1, k2, k3, k4, k5, fun i o hi ho => (k6 i o hi ho).mono (fun b h => ⟨h, rfl⟩) fun e => by cases e⟩
    · rw [if_neg hi]; trivial
  · have hid' : id < n := by
      rcases Nat.lt_or_ge id G.T0.length with h | h
      · omega
      · exact absurd (tget_ge _ _ h) hid
    have := I.cmp id hid
    rw [tget_takeT, if_pos hid']
    exact this

theorem FinT.take {t t' T0 : Tab} {rv r : AV} (h : FinT t rv T0 t' r) (n : Nat) (h0 : T0.length ≤ n) (ht : lowT n n t' = true) (hl : low n r = true) : FinT t rv T0 (takeT n t') r := by
  intro G w ok mu v hT I hv
  obtain ⟨ok', mu', I', hv'⟩ := h G w ok mu v hT I hv
  exact ⟨ok', mu', I'.take n (by rw [hT]; exact h0) ht, hv'.low hl⟩

/-- What a function's end has to show. -/
structure FinS (t : Tab) (rv : AV) (T0 T1 : Tab) (r : AV) : Prop where
  out : FinT t rv T0 T1 r

section
variable {P : Program} {nt : Nat} {env : Env} {T : Tab} {Q : Post}
theorem retS_spec {l : List RItem} {T0 T1 : Tab} {r : AV} (h : retW env T l fun v t => FinS t v T0 T1 r) : RetQ l T0 T1 r .ret env T := by
  unfold AV.retW at h
  split at h
  · exact h.elim
  · rename_i rl hl
    rw [norm_iff] at h
    exact ⟨rl, hl, h.out⟩
theorem Run.retS {k : List AItem} {l : List RItem} {T0 T1 : Tab} {r : AV} (h : AV.retW env T l fun v t => FinS t v T0 T1 r) : Run P nt (.code .ret :: k) env T (RetQ l T0 T1 r) := Run.ret (retS_spec h)
theorem Run.retSR {k k0 : List AItem} {K : Env → Tab → Prop} {l : List RItem} {T0 T1 : Tab} {r : AV} (h : AV.retW env T l fun v t => FinS t v T0 T1 r) : Run P nt (.code .ret :: k) env T (roundQ P nt (RetQ l T0 T1 r) k0 K) := Run.ret (retS_spec h)

/-- The first objects stay, as they are now; the others fall. -/
theorem FinS.keep {t T0 T1 : Tab} {rv r : AV} (n : Nat) (h4 : Nat.ble T0.length 4 = true) (h0 : Nat.ble T0.length n = true) (ht : (lowT n n t && low n rv) = true) (e : takeT n t = T1) (hr : Le rv r) : FinS t rv T0 T1 r := by
  subst e
  simp only [Bool.and_eq_true] at ht
  refine ⟨fun G w ok mu v hT I hv => ⟨ok, mu, I.take n (by rw [hT]; exact Nat.le_of_ble_eq_true h0) ht.1, hr _ _ _ _ _ _ (hv.low ht.2)⟩⟩

/-- .. told less precisely. -/
theorem FinS.tab {t T0 T1 T2 : Tab} {rv r : AV} (h4 : Nat.ble T0.length 4 = true) (h : FinS t rv T0 T1 r) (hl : ∀ i, LeOb (tget T1 i) (tget T2 i)) : FinS t rv T0 T2 r := by
  refine ⟨fun G w ok mu v hT I hv => ?_⟩
  obtain ⟨ok', mu', I', hv'⟩ := h.out G w ok mu v hT I hv
  have R : Rel G 1 [(0, r)] T1 ⟨#[v], []⟩ w := ⟨⟨rfl, by rw [hT]; exact Nat.le_of_ble_eq_true h4⟩, rfl, ok', mu', I', fun i => by
    rw [eget_cons]
    by_cases e : i = 0
    · subst e; exact hv'
    · rw [if_neg e]; exact .top _ _⟩
  obtain ⟨_, _, ok2, mu2, I2, E2⟩ := Wk.tab hl G 1 _ w R
  have := E2 0
  exact ⟨ok2, mu2, I2, by simpa [eget] using this⟩

/-- The end of a function that was handed a row, and hands out one: it is that row, anew. -/
theorem FinS.row {t : Tab} {sz j vj nj nk vk n' v' n0 v0 : Nat} {fj fk f' f0 : Nat → List AV} (hj : tget t j = .row sz nj vj fj) (hk : tget t 0 = .row sz nk vk fk) (hv : Nat.blt vk v' = true) (hn : n' ≤ nj) (hf : ∀ i, i < n' → LeL (fj i) (f' i)) :
    FinS t (.row sz j vj 0 n') [.row sz n0 v0 f0] [.row sz n' v' f'] (.row sz 0 v' 0 n') := by
  have h1 := FinT.of_wk (T0 := [.row sz n0 v0 f0]) (by simp) (Wk.move (T := t) (r := 0) hj hk (by simpa using hv) hn hf (Nat.le_refl n'))
  have e : takeT 1 (tset (tset t j .dead) 0 (.row sz n' v' f')) = [.row sz n' v' f'] := by
    cases hh : tset t j .dead with
    | nil => rfl
    | cons o r => rfl
  refine ⟨?_⟩
  have := h1.take 1 (Nat.le_refl 1) (by
    cases hh : tset t j .dead with
    | nil => rfl
    | cons o r => rfl) rfl
  rwa [e] at this

/-- The end of a function that hands out a row of its own. -/
theorem FinS.new {t : Tab} {sz j vj nj n' : Nat} {fj f' : Nat → List AV} (hj : tget t j = .row sz nj vj fj) (hn : n' ≤ nj) (hf : ∀ i, i < n' → LeL (fj i) (f' i)) :
    FinS t (.row sz j vj 0 n') [] [.row sz n' 0 f'] (.row sz 0 0 0 n') := by
  refine ⟨fun G w ok mu v hT I hv => ?_⟩
  let mu' : Nat → Option Nat := fun i => if i = 0 then mu j else none
  have hlj : (tget t j).live := by rw [hj]; trivial
  have hl1 : ∀ i, (tget [Ob.row sz n' 0 f'] i).live → i = 0 := fun i h => by
    cases i with
    | zero => rfl
    | succ i => exact absurd h (by show ¬ (tget [] i).live; rw [tget_nil]; exact fun h => h)
  have hmu : ∀ i b, mu' i = some b → i = 0 ∧ mu j = some b := fun i b h => by
    simp only [mu'] at h
    split at h
    · exact ⟨by assumption, h⟩
    · cases h
  have ho := I.obs j
  rw [hj] at ho
  obtain ⟨q1, q2, q3⟩ := ho
  refine ⟨ok, mu', { I with
    sep := fun i b hi hl => I.sep j b (hmu i b hi).2 hlj
    inj := fun i k b hi hk _ _ => by rw [(hmu i b hi).1, (hmu k b hk).1]
    lv := fun i b hi hl => I.lv j b (hmu i b hi).2 hlj
    obs := fun i => ?_
    cmp := fun id hid => by rw [hT, tget_nil] at hid; exact absurd rfl hid }, ?_⟩
  · cases i with
    | zero =>
      refine ⟨q1, fun p hp => by rw [← (hf p hp).1]; exact q2 p (by omega), ?_⟩
      show (match mu j with | none => n' = 0 | some b => _)
      cases hm : mu j with
      | none => rw [hm] at q3; show n' = 0; omega
      | some b =>
        rw [hm] at q3
        obtain ⟨c, e, C, k1, k2, k3, k4, k5, k6⟩ := q3
        exact ⟨c, e, C, k1, k2, by omega, k4, k5, fun p o hp ho => ((hf p hp).2 o (by rw [q2 p (by omega)]; exact ho) _ _ _ _ _ _ (k6 p o (by omega) ho)).mono (fun b h => ⟨h, rfl⟩) fun e => by cases e⟩
    | succ i => show ObOK _ _ _ _ _ (tget [] i); rw [tget_nil]; trivial
  · refine .row _ _ _ _ _ _ (rv_rowV hv) ⟨fun e => (by cases e), fun c hc => (by cases hc), fun sz2 n2 v2 f2 e2 => ?_⟩
    cases e2
    refine ⟨Nat.le_refl _, fun _ => ⟨rfl, by omega, ?_⟩⟩
    obtain ⟨_, _, hcase⟩ := row_addr I hv hj rfl
    show SliceAt w mu' 0 sz 0 n' v
    unfold SliceAt
    show (match mu j with | some b => _ | none => _)
    rcases hcase with ⟨hm, _, e3, _, A, hval⟩ | ⟨b, cap, hm, hval, hcap, hlc⟩
    · rw [hm]
      subst e3
      exact ⟨rfl, rfl, A, hval⟩
    · rw [hm]
      exact ⟨cap, hval, hcap, hlc⟩

/-- .. or nil in its place. -/
theorem FinS.newZ {t : Tab} {sz : Nat} {f' : Nat → List AV} (hs : Nat.blt 0 sz = true) : FinS t .zsl [] [.row sz 0 0 f'] (.row sz 0 0 0 0) := by
  refine ⟨fun G w ok mu v hT I hv => ?_⟩
  obtain ⟨A, rfl⟩ := rv_zsl hv
  refine ⟨ok, fun _ => none, { I with
    sep := fun i b hi _ => by cases hi
    inj := fun i k b hi _ _ _ => by cases hi
    lv := fun i b hi _ => by cases hi
    obs := fun i => ?_
    cmp := fun id hid => by rw [hT, tget_nil] at hid; exact absurd rfl hid }, rv_row_virt A rfl rfl⟩
  cases i with
  | zero => exact ⟨by simpa using hs, fun i hi => absurd hi (Nat.not_lt_zero _), rfl⟩
  | succ i => show ObOK _ _ _ _ _ (tget [] i); rw [tget_nil]; trivial

/-! ### Events where the order is open -/
theorem Run.doesDN {k : List AItem} {d : Option Nat} {p : AOp} {g : Option (Nat × Bool)} {r : List AOper} {bb : Nat} {bm : List Nat} {hh : List HF} {v : AV} (ids : List Nat) (hg : gB g env = .yes [])
    (hv : ∀ env' T', (∀ n ∈ slots p, eget env' n = eget env n) → (∀ i ∈ ids, tget T' i = tget T i) → Does P p env' T' v T') (hk : chkH bb 0 hh ⟨d, lapp (gS g) (slots p), ids, none⟩ = true)
    (h : norm v fun v => happK hh ⟨d, lapp (gS g) (slots p), ids, none⟩ fun h1 => bindK env d v fun e => Goes P nt Q (.dops r bm h1 :: k) e T) : Run P nt (.dops (⟨d, p, g⟩ :: r) (bb :: bm) hh :: k) env T Q := by
  rw [norm_iff, happK_iff, bindK_iff] at h
  refine ⟨DO.fact (fp := ids) (u := none) ⟨fun env' T' he ht => ?_⟩ hk (Goes.run h).out⟩
  rw [agE_rdOf] at he
  rw [agT_fpOf] at ht
  have hd := hv env' T' (fun n hn => he n (mem_lapp.2 (.inr hn))) ht
  refine ⟨fun mo i m hm hco G a w R K Qm hq => ?_⟩
  obtain ⟨q1, q2, q3, _⟩ := cOper_spec hco
  simp only [wpOp, hm, ((gB_spec R hco).2 _ (gB_some (p := p) he hg)).1 trivial, if_true]
  obtain ⟨hdef, hs, ok, mu, I, E⟩ := R
  obtain ⟨nx, x, w', ok', mu', hrun, hnx, N, hx'⟩ := hd.out q1 I E
  left
  unfold Oper.wp
  rw [hrun]
  have R' := Rel.put hdef hs I E N hx' q3
  rcases hnx with rfl | ⟨rfl, rfl⟩
  · simp only [Oper.upon, q2]; exact hq _ _ R'
  · simp only [Oper.upon, q2]; exact hq _ _ R'

/-- An empty part of a row of one's own, where the order is open. -/
theorem Run.slED {k : List AItem} {d : Option Nat} {g : Option (Nat × Bool)} {r : List AOper} {bb : Nat} {bm : List Nat} {hh : List HF} {sz id ver off len n cv i j : Nat} {X : Opd} {lo hi : Option Opd} {f : Nat → List AV} {x y : Int} (hg : gB g env = .yes []) (hx : oval env X = .row sz id ver off len) (hT : tget T id = .row sz n cv f) (hver : Nat.beq ver cv = true) (hl : bndV env 0 lo = some x) (hh' : bndV env len hi = some y) (ex : x = (i : Int)) (ey : y = (j : Int))
    (h1 : i = j) (h3 : off + j ≤ n) (hk : chkH bb 0 hh ⟨d, lapp (gS g) (slots (.sl sz X lo hi none)), [id], none⟩ = true)
    (h : happK hh ⟨d, lapp (gS g) (slots (.sl sz X lo hi none)), [id], none⟩ fun h1 => bindK env d (.list sz 0 fun _ => []) fun e => Goes P nt Q (.dops r bm h1 :: k) e T) :
    Run P nt (.dops (⟨d, .sl sz X lo hi none, g⟩ :: r) (bb :: bm) hh :: k) env T Q := by
  refine Run.doesDN (v := .list sz 0 fun _ => []) [id] hg (fun env' T' hsl ht => ?_) hk (by rw [norm_iff]; exact h)
  have e1 : oval env' X = oval env X := oval_congr fun n hn => hsl n (mem_lapp.2 (.inl hn))
  have e2 : bndV env' 0 lo = bndV env 0 lo := bndV_congr fun n hn => hsl n (mem_lapp.2 (.inr (mem_lapp.2 (.inl hn))))
  have e3 : bndV env' len hi = bndV env len hi := bndV_congr fun n hn => hsl n (mem_lapp.2 (.inr (mem_lapp.2 (.inr (mem_lapp.2 (.inl hn))))))
  exact Does.slRE (hx := by rw [e1]; exact hx) (hT := by rw [ht id (by simp)]; exact hT) hver (hl := by rw [e2]; exact hl) (hh := by rw [e3]; exact hh') ex ey h1 h3

/-- An append in place, where the order is open. -/
theorem Run.appInD {k : List AItem} {d : Option Nat} {g : Option (Nat × Bool)} {r : List AOper} {bb : Nat} {bm : List Nat} {hh : List HF} {sz bytes id ver i n cv m : Nat} {X Y : Opd} {f f2 : Nat → List AV} (hg : gB g env = .yes []) (hx : oval env X = .row sz id ver 0 i) (hT : tget T id = .row sz n cv f) (hver : Nat.beq ver cv = true)
    (hy : srcS T sz (oval env Y) = some (sz, m, f2)) (hm : i + m ≤ n) (hk : chkH bb 0 hh ⟨d, lapp (gS g) (slots (.app sz bytes X Y)), id :: idOf (oval env Y), some id⟩ = true)
    (h : tupdK T (some (id, .row sz n cv (fput i m f2 f))) fun T1 => happK hh ⟨d, lapp (gS g) (slots (.app sz bytes X Y)), id :: idOf (oval env Y), some id⟩ fun h1 => bindK env d (.row sz id ver 0 (i + m)) fun e => Goes P nt Q (.dops r bm h1 :: k) e T1) :
    Run P nt (.dops (⟨d, .app sz bytes X Y, g⟩ :: r) (bb :: bm) hh :: k) env T Q := by
  refine Run.doesDT (v := .row sz id ver 0 (i + m)) (id :: idOf (oval env Y)) hg (fun env' T' he ht => ?_) hk (by rw [norm_iff]; exact h)
  have ex : oval env' X = oval env X := oval_congr fun n hn => he n (mem_lapp.2 (.inl hn))
  have ey : oval env' Y = oval env Y := oval_congr fun n hn => he n (mem_lapp.2 (.inr hn))
  exact Does.appIn (by rw [ex]; exact hx) (by rw [ht id (by simp)]; exact hT) hver (by rw [ey, srcS_congr fun i hi => ht i (List.mem_cons_of_mem _ hi)]; exact hy) hm
end
end Go.Proofs.Ytbpcjahjbkiofaa.AV

set_option linter.unusedVariables false
set_option linter.unusedSimpArgs false
namespace Go.Proofs.Ytbpcjahjbkiofaa.AV
open Go

/-- nil in a cell of a box is told as a row of no cells. -/
theorem Wk.virt {env : Env} {T : Tab} {b nid sz : Nat} (c : Nat) {cells : List AV} (f : Nat → List AV) (hs : Nat.blt 0 sz = true) (hb : tget T b = .box cells) (hf : tget T nid = .fresh) (hc : lget cells c = .zsl) (hl : Nat.blt c cells.length = true) :
    Wk env T env (tset (tset T nid (.row sz 0 0 f)) b (.box (lset cells c (.row sz nid 0 0 0)))) := by
  rintro G nt a w ⟨h1, h2, ok, mu, I, E⟩
  have hne : nid ≠ b := fun e => by rw [e, hb] at hf; cases hf
  have N1 : Go.Proofs.Ytbpcjahjbkiofaa.AV.Next ok ok mu (muSet mu nid none) T (tset T nid (.row sz 0 0 f)) w w := Next.virt I (by simpa using hs) (.inl hf)
  have I1 := I.next N1
  have hb1 : tget (tset T nid (.row sz 0 0 f)) b = .box cells := by rw [tget_tset_ne _ _ _ _ hne.symm]; exact hb
  have hmuR : muSet mu nid none nid = none := muSet_same _ _ _
  have ho := I1.obs b
  rw [hb1] at ho
  obtain ⟨bb, cc, e, q1, q2, q3, q4, q5⟩ := ho
  have hT' : ∀ i, tget (tset (tset T nid (.row sz 0 0 f)) b (.box (lset cells c (.row sz nid 0 0 0)))) i = if i = b then .box (lset cells c (.row sz nid 0 0 0)) else tget (tset T nid (.row sz 0 0 f)) i := fun i => tget_tset _ _ _ _
  have hC : Compat w w (muSet mu nid none) (muSet mu nid none) (tset T nid (.row sz 0 0 f)) (tset (tset T nid (.row sz 0 0 f)) b (.box (lset cells c (.row sz nid 0 0 0)))) := by
    intro i hi
    rw [hT']
    by_cases e : i = b
    · rw [if_pos e, e]
      exact ⟨fun e => (by cases e), fun _ _ => ⟨⟨cells, hb1⟩, rfl⟩, fun _ _ _ _ e => (by cases e)⟩
    · rw [if_neg e]
      exact ⟨hi, fun c e => ⟨⟨c, e⟩, rfl⟩, fun sz2 n2 v2 f2 e => ⟨n2, v2, f2, e, Nat.le_refl _, fun _ => ⟨Nat.le_refl _, rfl, fun _ _ => rfl⟩⟩⟩
  have hlive : ∀ i, (tget (tset (tset T nid (.row sz 0 0 f)) b (.box (lset cells c (.row sz nid 0 0 0)))) i).live → (tget (tset T nid (.row sz 0 0 f)) i).live := fun i hl => by
    rw [hT'] at hl
    split at hl
    · rename_i e; rw [e, hb1]; trivial
    · exact hl
  have hw : ∀ b, ok b → ok b ∧ w.heap[b]? = w.heap[b]? := fun b h => ⟨h, rfl⟩
  have N2 := Next.retab (ok' := ok) (mu' := muSet mu nid none) I1 hC (fun _ h => h) (fun _ h => .inl h) (fun i b hi hl => ⟨I1.sep i b hi (hlive i hl), i, hi, hlive i hl⟩) (fun i j b hi hj hli hlj => I1.inj i j b hi hj (hlive i hli) (hlive j hlj)) (fun i => by
    rw [hT']
    by_cases e : i = b
    · rw [if_pos e]
      subst e
      refine ⟨bb, cc, e, q1, q2, by rw [lset_length]; exact q3, fun j hj => q4 j (by rwa [lset_length] at hj), fun j hj => ?_⟩
      rw [lset_length] at hj
      have hcl : c < cells.length := by simpa using hl
      rw [lget_lset _ _ _ _ hcl]
      by_cases e2 : j = c
      · rw [if_pos e2, e2]
        have hz := q5 c hcl
        rw [hc] at hz
        obtain ⟨A, hA⟩ := rv_zsl hz
        rw [hA]
        exact rv_row_virt A hmuR (by rw [hT', if_neg hne]; exact tget_tset_same _ _ _)
      · rw [if_neg e2]
        exact (q5 j hj).mono hw fun _ => hC
    · rw [if_neg e]
      exact (I1.obs i).mono hw hC rfl fun _ _ _ => rfl)
  have N := N1.trans I N2
  exact ⟨h1, h2, ok, _, I.next N, N.env I E⟩

/-- A row of one's own becomes the only object. -/
theorem new_core {G : Ctx} {ok : Nat → Prop} {mu : Nat → Option Nat} {t : Tab} {w : World} (I : Inv G ok mu t w) (hT : G.T0 = []) {sz j vj nj n' : Nat} {fj f' : Nat → List AV} (hj : tget t j = .row sz nj vj fj) (hn : n' ≤ nj) (hf : ∀ i, i < n' → LeL (fj i) (f' i)) :
    ∃ mu', Inv G ok mu' [.row sz n' 0 f'] w ∧ ∀ v, RV w ok mu t false v (.row sz j vj 0 n') → RV w ok mu' [.row sz n' 0 f'] false v (.row sz 0 0 0 n') := by
  let mu' : Nat → Option Nat := fun i => if i = 0 then mu j else none
  have hlj : (tget t j).live := by rw [hj]; trivial
  have hmu : ∀ i b, mu' i = some b → i = 0 ∧ mu j = some b := fun i b h => by
    simp only [mu'] at h
    split at h
    · exact ⟨by assumption, h⟩
    · cases h
  have ho := I.obs j
  rw [hj] at ho
  obtain ⟨q1, q2, q3⟩ := ho
  refine ⟨mu', { I with
    sep := fun i b hi hl => I.sep j b (hmu i b hi).2 hlj
    inj := fun i k b hi hk _ _ => by rw [(hmu i b hi).1, (hmu k b hk).1]
    lv := fun i b hi hl => I.lv j b (hmu i b hi).2 hlj
    obs := fun i => ?_
    cmp := fun id hid => by rw [hT, tget_nil] at hid; exact absurd rfl hid }, fun v hv => ?_⟩
  · cases i with
    | zero =>
      refine ⟨q1, fun p hp => by rw [← (hf p hp).1]; exact q2 p (by omega), ?_⟩
      show (match mu j with | none => n' = 0 | some b => _)
      cases hm : mu j with
      | none => rw [hm] at q3; show n' = 0; omega
      | some b =>
        rw [hm] at q3
        obtain ⟨c, e, C, k1, k2, k3, k4, k5, k6⟩ := q3
        exact ⟨c, e, C, k1, k2, by omega, k4, k5, fun p o hp ho => ((hf p hp).2 o (by rw [q2 p (by omega)]; exact ho) _ _ _ _ _ _ (k6 p o (by omega) ho)).mono (fun b h => ⟨h, rfl⟩) fun e => by cases e⟩
    | succ i => show ObOK _ _ _ _ _ (tget [] i); rw [tget_nil]; trivial
  · refine .row _ _ _ _ _ _ (rv_rowV hv) ⟨fun e => (by cases e), fun c hc => (by cases hc), fun sz2 n2 v2 f2 e2 => ?_⟩
    cases e2
    refine ⟨Nat.le_refl _, fun _ => ⟨rfl, by omega, ?_⟩⟩
    obtain ⟨_, _, hcase⟩ := row_addr I hv hj rfl
    show SliceAt w mu' 0 sz 0 n' v
    unfold SliceAt
    show (match mu j with | some b => _ | none => _)
    rcases hcase with ⟨hm, _, e3, _, A, hval⟩ | ⟨b, cap, hm, hval, hcap, hlc⟩
    · rw [hm]
      subst e3
      exact ⟨rfl, rfl, A, hval⟩
    · rw [hm]
      exact ⟨cap, hval, hcap, hlc⟩

/-- The end of a function that hands out a struct of two cells, the second one a new row. -/
theorem FinS.newA {t : Tab} {sz j vj nj n' : Nat} {fj f' : Nat → List AV} {x : AV} (hx : noRef x = true) (hj : tget t j = .row sz nj vj fj) (hn : n' ≤ nj) (hf : ∀ i, i < n' → LeL (fj i) (f' i)) :
    FinS t (.agg [x, .row sz j vj 0 n']) [] [.row sz n' 0 f'] (.agg [x, .row sz 0 0 0 n']) := by
  refine ⟨fun G w ok mu v hT I hv => ?_⟩
  obtain ⟨mu', I', hr⟩ := new_core I hT hj hn hf
  obtain ⟨cs, rfl, hs, h1, hc⟩ := rv_agg hv
  refine ⟨ok, mu', I', .agg _ _ _ hs h1 fun i hi => ?_⟩
  match i, hi with
  | 0, _ => exact RV.any (hc 0 (by simp)) hx
  | 1, _ => exact hr _ (hc 1 (by simp))
end Go.Proofs.Ytbpcjahjbkiofaa.AV

set_option linter.unusedVariables false
set_option linter.unusedSimpArgs false
namespace Go.Proofs.Ytbpcjahjbkiofaa.AV
open Go

section
variable {P : Program} {nt : Nat} {env : Env} {T : Tab} {Q : Post}

theorem Run.iaRC {k : List AItem} {d : Option Nat} {g : Option (Nat × Bool)} {r : List AOper} {gs : List Bool} {sz sz' id ver off len n cv : Nat} {X Y : Opd} {f : Nat → List AV} {ik : IntKind} {i : Int} (hg : gB g env = .yes gs) (hx : oval (stripE env env (slots (.ia sz X Y))) X = .row sz' id ver off len) (hT : tget T id = .row sz' n cv f) (hver : Nat.beq ver cv = true) (hs : Nat.beq sz sz' = true)
    (hy : oval (stripE env env (slots (.ia sz X Y))) Y = .int ik i) (ho : obL (stripOb gs env (slots (.ia sz X Y))) = obR (stripOb gs env (slots (.ia sz X Y)))) (hi : AllT gs → 0 ≤ i ∧ i < len) {j : Nat} (hj : off + i.toNat = j)
    (h : wrapK gs (.ptr id ver j 0) fun v => bindK env d v fun e => Goes P nt Q (.ops r :: k) e T) :
    Run P nt (.ops (⟨d, .ia sz X Y, g⟩ :: r) :: k) env T Q := by
  rw [wrapK_iff, bindK_iff] at h
  subst hj
  exact ⟨SO.of_step1 (Step1.doesW (o := ⟨d, .ia sz X Y, g⟩) hg (OKs.of ho) fun hp => Does.iaRow hx hT hver hs hy (hi hp).1 (hi hp).2) (Goes.run h).out⟩

theorem Run.iaRD {k : List AItem} {d : Option Nat} {g : Option (Nat × Bool)} {r : List AOper} {b : Nat} {bm : List Nat} {hh : List HF} {gs : List Bool} {sz sz' id ver off len n cv : Nat} {X Y : Opd} {f : Nat → List AV} {ik : IntKind} {i : Int} (hg : gB g env = .yes gs) (hx : oval (stripE env env (slots (.ia sz X Y))) X = .row sz' id ver off len) (hT : tget T id = .row sz' n cv f) (hver : Nat.beq ver cv = true) (hs : Nat.beq sz sz' = true)
    (hy : oval (stripE env env (slots (.ia sz X Y))) Y = .int ik i) (ho : obL (stripOb gs env (slots (.ia sz X Y))) = obR (stripOb gs env (slots (.ia sz X Y)))) (hi : AllT gs → 0 ≤ i ∧ i < len) {j : Nat} (hj : off + i.toNat = j)
    (hk : chkH b 0 hh ⟨d, lapp (gS g) (slots (.ia sz X Y)), [id], none⟩ = true)
    (h : wrapK gs (.ptr id ver j 0) fun v => happK hh ⟨d, lapp (gS g) (slots (.ia sz X Y)), [id], none⟩ fun h1 => bindK env d v fun e => Goes P nt Q (.dops r bm h1 :: k) e T) :
    Run P nt (.dops (⟨d, .ia sz X Y, g⟩ :: r) (b :: bm) hh :: k) env T Q := by
  subst hj
  refine Run.doesD (v := .ptr id ver (off + i.toNat) 0) [id] hg ho (fun hp env' T' he ht => ?_) hk (by rw [norm_iff]; exact h)
  have e1 : oval env' X = oval (stripE env env (slots (.ia sz X Y))) X := oval_congr fun n hn => he n (mem_lapp.2 (.inl hn))
  have e2 : oval env' Y = oval (stripE env env (slots (.ia sz X Y))) Y := oval_congr fun n hn => he n (mem_lapp.2 (.inr hn))
  exact Does.iaRow (by rw [e1]; exact hx) (by rw [ht id (by simp)]; exact hT) hver hs (by rw [e2]; exact hy) (hi hp).1 (hi hp).2

/-- A call of a function value over the objects s, in a plain region. -/
theorem Run.callvG {k : List AItem} {d : Option Nat} {r : List AOper} {f : FuncId} {fn : Func} {cap : List AV} {gv : Opd} {L : List Opd} {rv : AV} {args : List AV} {T0 T1 : Tab} (s : List Nat) (hfn : P.funcs[f]? = some fn) (hb : (fn.body.isSome && fn.name != "runtime.NumGoroutine") = true) (hgv : oval env gv = .func f cap) (hc : AC P f args T0 rv T1) (hv : vals env L ++ cap = mL s args)
    (hk : okG s args T0 rv T1 = true) (hT : okT s s T0 T) (h : norm (mV s rv) fun rv => tputsK s (mOs s T1) T fun T2 => bindK env d rv fun e => Goes P nt Q (.ops r :: k) e T2) :
    Run P nt (.ops (⟨d, .callv gv L, none⟩ :: r) :: k) env T Q := by
  rw [norm_iff, tputsK_iff, bindK_iff] at h
  simp only [Bool.and_eq_true, bne_iff_ne, ne_eq] at hb
  exact ⟨SO.callv rfl rfl hgv ⟨fn, hfn, hb.1, hb.2⟩ (by rw [hv]; exact hc.frameG s hk hT) (Goes.run h).out⟩

/-- The first objects stay; what is handed out names none. -/
theorem FinS.keepP {t T0 T1 : Tab} {rv r : AV} (n : Nat) (h0 : Nat.ble T0.length n = true) (ht : (lowT n n t && pureV rv) = true) (e : takeT n t = T1) (hr : Le rv r) : FinS t rv T0 T1 r := by
  subst e
  simp only [Bool.and_eq_true] at ht
  refine ⟨fun G w ok mu v hT I hv => ⟨ok, mu, I.take n (by rw [hT]; exact Nat.le_of_ble_eq_true h0) ht.1, hr _ _ _ _ _ _ (((hv.pure ht.2).mono (fun b hb => ⟨hb, rfl⟩) (fun e => by cases e)).thaw)⟩⟩
end
end Go.Proofs.Ytbpcjahjbkiofaa.AV

set_option linter.unusedVariables false
set_option linter.unusedSimpArgs false
namespace Go.Proofs.Ytbpcjahjbkiofaa.AV
open Go

section
variable {P : Program} {nt : Nat} {env : Env} {T : Tab} {Q : Post}

/-- What goes on from here, up to the region's end. -/
abbrev Goes1 (P : Program) (nt : Nat) (Q : Post) (k : List AItem) (env : Env) (T : Tab) : Prop := runC 1 k env T [] (fun k' e t acc => obL acc = obR acc ∧ Run P nt k' e t Q)
theorem Goes1.run {k : List AItem} (h : Goes1 P nt Q k env T) : Run P nt k env T Q := runC_sound _ _ _ _ h

theorem Run.callGDs {k : List AItem} {d : Option Nat} {g : Option (Nat × Bool)} {r : List AOper} {b : Nat} {bm : List Nat} {hh : List HF} {f : FuncId} {L : List Opd} {rv : AV} {args : List AV} {T0 T1 : Tab} (s : List Nat) (id : Nat) {ob : Ob} (hc : AC P f args T0 rv T1) (hv : vals env L = mL s args) (hg : gB g env = .yes [])
    (hk : okG s args T0 rv T1 = true) (hT : okT s s T0 T) (hid : notIn (some id) s = false) (hob : sameBut s s T1 T id ob) (hx : chkH b 0 hh ⟨d, lapp (gS g) (opdsS L), s, some id⟩ = true)
    (h : norm (mV s rv) fun rv => tupdK T (some (id, ob)) fun T2 => happK hh ⟨d, lapp (gS g) (opdsS L), s, some id⟩ fun h1 => bindK env d rv fun e => Goes1 P nt Q (.dops r bm h1 :: k) e T2) :
    Run P nt (.dops (⟨d, .call f L, g⟩ :: r) (b :: bm) hh :: k) env T Q := by
  rw [norm_iff, tupdK_iff, happK_iff, bindK_iff] at h
  refine ⟨DO.fact (fp := s) (u := some (id, ob)) ⟨fun env' T' he ht => ?_⟩ hx (Goes1.run h).out⟩
  rw [agE_rdOf] at he
  rw [agT_fpOf] at ht
  have hsl : ∀ n ∈ opdsS L, eget env' n = eget env n := fun n hn => he n (mem_lapp.2 (.inr hn))
  have hv' : vals env' L = mL s args := by rw [vals_congr hsl]; exact hv
  have hac := hc.frameG s hk (okT_congr hT ht)
  have hlen : s.length = T1.length := by
    simp only [okG, Bool.and_eq_true, Nat.beq_eq] at hk
    exact hk.1
  refine Step1.callA (by rw [gB_congr fun n hn => he n (mem_lapp.2 (.inl hn))]; exact hg) ?_
  rw [hv']
  refine hac.congr fun i => ?_
  show _ = tget (tset T' id ob) i
  rw [tget_tputs s _ T' i (by rw [mOs_length]; exact hlen), tget_tset]
  cases hf : fnd s i with
  | none =>
    have : i ≠ id := fun e => by
      subst e
      obtain ⟨q, hq, hqe⟩ := List.mem_iff_getElem.1 (inB_mem hid)
      refine fnd_none hf q hq ?_
      rw [nthN_get]
      simp [hq, hqe]
    rw [if_neg this]
  | some q =>
    obtain ⟨h1, h2⟩ := fnd_some hf
    obtain ⟨g1, g2⟩ := sameBut_get hob q h1 (by rw [← hlen]; exact h1)
    show tget (mOs s T1) q = _
    rw [tget_mOs]
    by_cases e : i = id
    · rw [if_pos e]
      exact g1 (by rw [h2, e])
    · rw [if_neg e, ← g2 (by rw [h2]; exact e), h2]
      exact (ht i (by rw [← h2]; exact nthN_mem s q h1)).symm
end
end Go.Proofs.Ytbpcjahjbkiofaa.AV

set_option linter.unusedVariables false
set_option linter.unusedSimpArgs false
namespace Go.Proofs.Ytbpcjahjbkiofaa.AV
open Go

section
variable {P : Program} {nt : Nat} {env : Env} {T : Tab} {Q : Post}

theorem cOp_ixS {o : Oper} {X Y : Opd} (h : cOp P o = some (.ixS X Y)) : ∃ (t : TypeId) (x y : Operand), o.op = .index t x y ∧ P.underlying t = some .string ∧ opd x = some X ∧ opd y = some Y := by
  unfold cOp at h
  split at h
  all_goals try (exfalso; first
    | exact map_no h (fun z e => by cases e)
    | (unfold cCall at h; (repeat' split at h) <;> cases h; done)
    | (unfold cBin at h; (repeat' split at h) <;> cases h; done)
    | ((repeat' split at h) <;> cases h; done)
    | cases h; done)
  rename_i t x y hop
  split at h
  · rename_i A B hd hx hy
    cases h
    exact ⟨t, x, y, hop, hd, hx, hy⟩
  · cases h

/-- A byte of a string. -/
def byteAt (s : ByteArray) (i : Nat) : Int := ((s.data.getD i 0).toNat : Int)

theorem Does.ixS {X Y : Opd} {s : ByteArray} {k : IntKind} {x : Int} {i : Nat} (hx : oval env X = .str s) (hy : oval env Y = .int k x) (ex : x = (i : Int)) (hi : i < s.size) : Does P (.ixS X Y) env T (.int .u8 (byteAt s i)) T := by
  refine ⟨fun {G w ok mu a o} hc I E => ?_⟩
  subst ex
  obtain ⟨t, x, y, hop, hd, hxo, hyo⟩ := cOp_ixS hc
  have rx := opd_rv E hxo
  have ry := opd_rv E hyo
  rw [hx] at rx
  rw [hy] at ry
  refine Did.pure (x := .int .u8 (byteAt s i)) I ?_ (.int _ _ _)
  have h1 : s[i]? = some (s.data.getD i 0) := by
    have : i < s.data.size := hi
    rw [getElem?_pos s i hi]
    unfold Array.getD
    rw [dif_pos this]
    rfl
  simp [execOp, hop, Instr.index, rv_str rx, rv_int ry, asIntOf, run_underlying hd, h1, byteAt]

/-- In a loop within a loop. -/
theorem Run.retRR {k k0 k1 : List AItem} {K K1 : Env → Tab → Prop} {l : List RItem} {r : AV} (h : retL env T l r) : Run P nt (.code .ret :: k) env T (roundQ P nt (roundQ P nt (RetQ l [] [] r) k0 K) k1 K1) := Run.ret (retL_spec h)
end
end Go.Proofs.Ytbpcjahjbkiofaa.AV

set_option linter.unusedVariables false
set_option linter.unusedSimpArgs false
namespace Go.Proofs.Ytbpcjahjbkiofaa.AV
open Go

/-- The end of a function that hands out a struct of two cells, the second one a row of its own: it is frozen. -/
theorem FinS.aggF {t : Tab} {sz j vj nj n' : Nat} {fj : Nat → List AV} {x r : AV} (hx : pureV x = true) (hx' : frz t x = x) (hj : tget t j = .row sz nj vj fj) (hp : pureV (.agg [x, .list sz n' fun i => fj (0 + i)]) = true) (hl : Le (.agg [x, .list sz n' fun i => fj (0 + i)]) r) :
    FinS t (.agg [x, .row sz j vj 0 n']) [] [] r := by
  have e : frzT t (.agg [x, .row sz j vj 0 n']) = .agg [x, .list sz n' fun i => fj (0 + i)] := by
    show AV.agg [frz t x, frz t (.row sz j vj 0 n')] = _
    rw [hx']
    congr 2
    show [match tget t j with
        | Ob.row _ _ cv f => bif vj.beq cv then AV.list sz n' (fun i => f (0 + i)) else AV.top
        | _ => AV.top] = _
    rw [hj]
    simp only [Nat.beq_refl, cond_true]
  exact ⟨FinT.frz (by rw [e]; exact hp) (by rw [e]; exact hl)⟩

section
variable {P : Program} {nt : Nat} {env : Env} {T : Tab} {Q : Post}
/-- A step on an object, after which one stops. -/
theorem Run.doesT0 {k : List AItem} {d : Option Nat} {p : AOp} {g : Option (Nat × Bool)} {r : List AOper} {v : AV} {id : Nat} {ob : Ob} (hg : gB g env = .yes []) (hv : Does P p env T v (tset T id ob))
    (h : norm v fun v => tupdK T (some (id, ob)) fun T1 => bindK env d v fun e => Run P nt (.ops r :: k) e T1 Q) : Run P nt (.ops (⟨d, p, g⟩ :: r) :: k) env T Q := by
  rw [norm_iff, tupdK_iff, bindK_iff] at h
  refine ⟨SO.of_step1 (v := v) (T' := tset T id ob) ?_ h.out⟩
  refine ⟨fun mo i m hm hco G a w R K Qm hq => ?_⟩
  obtain ⟨h1, h2, h3, _⟩ := cOper_spec hco
  simp only [wpOp, hm, ((gB_spec R hco).2 _ hg).1 trivial, if_true]
  obtain ⟨hdef, hs, ok, mu, I, E⟩ := R
  obtain ⟨nx, x, w', ok', mu', hrun, hnx, N, hx⟩ := hv.out h1 I E
  left
  unfold Oper.wp
  rw [hrun]
  have R' := Rel.put hdef hs I E N hx h3
  rcases hnx with rfl | ⟨rfl, rfl⟩
  · simp only [Oper.upon, h2]; exact hq _ _ R'
  · simp only [Oper.upon, h2]; exact hq _ _ R'
end
end Go.Proofs.Ytbpcjahjbkiofaa.AV

set_option linter.unusedVariables false
set_option linter.unusedSimpArgs false
namespace Go.Proofs.Ytbpcjahjbkiofaa.AV
open Go
section
variable {P : Program} {nt : Nat} {env : Env} {T : Tab} {Q : Post}
theorem Run.nilS {l : List RItem} {T0 T1 : Tab} {r : AV} (h : AV.retW env T l fun v t => FinS t v T0 T1 r) : Run P nt [] env T (RetQ l T0 T1 r) := Run.nil (retS_spec h)
/-- A row given away, of which one slot alone is told. -/
theorem Run.frz1 {k : List AItem} {l : List AOper} (id n : Nat) {sz m cv off len : Nat} {f : Nat → List AV} (hT : tget T id = .row sz m cv f) (hn : eget env n = .row sz id cv off len)
    (h : tsetK T id .dead fun t => Goes P nt Q (.ops l :: k) [(n, .list sz len fun i => f (off + i))] t) : Run P nt (.ops l :: k) env T Q := by
  rw [tsetK_iff] at h
  refine Run.wk_ops (Wk.trans (Wk.frz hT) (Wk.ofEnv (Wk.cons ?_ Wk.done))) (Goes.run h)
  rw [eget_mapE rfl, hn]
  show Le (frzS id cv f (.row sz id cv off len)) _
  simp only [frzS, Nat.beq_refl, Bool.and_true, cond_true, if_true]
  exact .refl _
end
end Go.Proofs.Ytbpcjahjbkiofaa.AV

set_option linter.unusedVariables false
set_option linter.unusedSimpArgs false
namespace Go.Proofs.Ytbpcjahjbkiofaa.AV
open Go

section
variable {P : Program} {nt : Nat} {env : Env} {T : Tab} {Q : Post}

theorem cOp_cvBS {o : Oper} {X : Opd} (h : cOp P o = some (.cvBS X)) : ∃ (s d e : TypeId) (x : Operand), o.op = .convert s d x ∧ P.underlying s = some (.slice e) ∧ P.underlying e = some (.int .u8) ∧ P.underlying d = some .string ∧ opd x = some X := by
  unfold cOp at h
  split at h
  all_goals try (exfalso; first
    | exact map_no h (fun z e => by cases e)
    | (unfold cCall at h; (repeat' split at h) <;> cases h; done)
    | (unfold cBin at h; (repeat' split at h) <;> cases h; done)
    | ((repeat' split at h) <;> cases h; done)
    | cases h; done)
  rename_i s d x hop
  split at h
  · cases h
  · split at h <;> cases h
  · rename_i e a hs hd hx
    split at h
    · rename_i he
      cases h
      exact ⟨s, d, e, x, hop, hs, he, hd, hx⟩
    · cases h
  · cases h

theorem Does.cvBS {X : Opd} (b : List Int) (hx : oval env X = .list 1 b.length fun i => [.int .u8 (b.getD i 0)]) : Does P (.cvBS X) env T (.str (strOfNums b)) T := by
  refine ⟨fun {G w ok mu a o} hc I E => ?_⟩
  obtain ⟨s, d, e, x, hop, hs, he, hd, hxo⟩ := cOp_cvBS hc
  have rx := opd_rv E hxo
  rw [hx] at rx
  obtain ⟨A, cap, cv, hval, hn, hcap, _, ha, hl, h1', hv⟩ := rv_list rx
  refine Did.pure (x := .string (strOfNums b)) I ?_ (.str _ _)
  have key : (convert s d (a.eval x)).run P w = .ok (.string (strOfNums b)) w := by
    rw [hval]
    by_cases h0 : 0 < b.length
    · obtain ⟨bb, off, rfl, _, hcell⟩ := ha h0
      refine run_convert_bytes_arg w s e hs he bb off b.length cap b rfl (fun i hi => ?_) d hd
      have h2 := hcell i 0 hi (by omega)
      have h3 := rv_int (hv i 0 hi (by omega))
      rw [h3] at h2
      simpa using h2
    · have hb : b = [] := List.eq_nil_of_length_eq_zero (by omega)
      subst hb
      cases A with
      | none => exact run_convert_bytes_nil w s e hs he _ _ d hd
      | some A =>
        have hlc : (loadCells A 0).run P w = .ok (([] : List Int).map (Value.int .u8)).toArray w := by
          simpa using run_loadCells_list (P := P) w A [] (fun j v hj => by simp at hj)
        show (convert s d (.slice (some A) 0 cap)).run P w = _
        rw [run_convert_bytes_string w s d e _ 0 cap hs he hd, run_bytesToString w _ 0 cap [] hlc]
        rfl
  simp [execOp, hop, key]
end
end Go.Proofs.Ytbpcjahjbkiofaa.AV

set_option linter.unusedVariables false
set_option linter.unusedSimpArgs false
namespace Go.Proofs.Ytbpcjahjbkiofaa.AV
open Go
theorem Wk.virtE {env : Env} {T : Tab} {nid sz n : Nat} (f : Nat → List AV) (hs : Nat.blt 0 sz = true) (hf : tget T nid = .fresh) (hn : eget env n = .zsl) :
    Wk env T ((n, .row sz nid 0 0 0) :: env) (tset T nid (.row sz 0 0 f)) := by
  rintro G nt a w ⟨h1, h2, ok, mu, I, E⟩
  have N1 : Go.Proofs.Ytbpcjahjbkiofaa.AV.Next ok ok mu (muSet mu nid none) T (tset T nid (.row sz 0 0 f)) w w := Next.virt I (by simpa using hs) (.inl hf)
  refine ⟨h1, h2, ok, _, I.next N1, fun i => ?_⟩
  rw [eget_cons]
  by_cases e : i = n
  · rw [if_pos e, e]
    have hz := E n
    rw [hn] at hz
    obtain ⟨A, hA⟩ := rv_zsl hz
    rw [hA]
    exact rv_row_virt A (muSet_same _ _ _) (tget_tset_same _ _ _)
  · rw [if_neg e]
    exact N1.env I E i
end Go.Proofs.Ytbpcjahjbkiofaa.AV

set_option linter.unusedVariables false
set_option linter.unusedSimpArgs false
namespace Go.Proofs.Ytbpcjahjbkiofaa.AV
open Go
theorem Wk.moveN {T : Tab} {r : Nat} {j k n' v' szj nj vj len : Nat} {fj f' : Nat → List AV} (hj : tget T j = .row szj nj vj fj) (hk : tget T k = .fresh) (hn : n' ≤ nj) (hf : ∀ i, i < n' → LeL (fj i) (f' i)) (hl : len ≤ n') :
    Wk [(r, .row szj j vj 0 len)] T [(r, .row szj k v' 0 len)] (tset (tset T j .dead) k (.row szj n' v' f')) := by
  rintro G nt a w ⟨h1, h2, ok, mu, I, E⟩
  have hT' : ∀ i, tget (tset (tset T j .dead) k (.row szj n' v' f')) i = if i = k then .row szj n' v' f' else if i = j then .dead else tget T i := fun i => by rw [tget_tset, tget_tset]
  have hlj : (tget T j).live := by rw [hj]; trivial
  let mu' := muSet mu k (mu j)
  have hC : Compat w w mu mu' T (tset (tset T j .dead) k (.row szj n' v' f')) := by
    intro i hi
    rw [hT']
    by_cases e : i = k
    · subst e
      rw [if_pos rfl]
      exact absurd hk hi
    · rw [if_neg e]
      by_cases e2 : i = j
      · rw [if_pos e2]; exact ⟨fun e => (by cases e), fun _ e => (by cases e), fun _ _ _ _ e => (by cases e)⟩
      · rw [if_neg e2]
        have em : mu' i = mu i := muSet_ne _ _ _ e
        rw [em]
        exact ⟨hi, fun c e => ⟨⟨c, e⟩, rfl⟩, fun sz2 n2 v2 f2 e => ⟨n2, v2, f2, e, Nat.le_refl _, fun _ => ⟨Nat.le_refl _, rfl, fun _ _ => rfl⟩⟩⟩
  have hlive : ∀ i b, mu' i = some b → (tget (tset (tset T j .dead) k (.row szj n' v' f')) i).live → (i = k ∧ mu j = some b) ∨ (i ≠ k ∧ i ≠ j ∧ mu i = some b ∧ (tget T i).live) := fun i b hi hl => by
    rw [hT'] at hl
    by_cases e : i = k
    · subst e
      exact .inl ⟨rfl, by rw [← hi]; exact (muSet_same _ _ _).symm⟩
    · rw [if_neg e] at hl
      by_cases e2 : i = j
      · rw [if_pos e2] at hl; exact hl.elim
      · rw [if_neg e2] at hl
        exact .inr ⟨e, e2, by rw [← hi]; exact (muSet_ne _ _ _ e).symm, hl⟩
  have N : Go.Proofs.Ytbpcjahjbkiofaa.AV.Next ok ok mu mu' T (tset (tset T j .dead) k (.row szj n' v' f')) w w := by
    refine Next.retab I hC (fun _ h => h) (fun _ h => .inl h) (fun i b hi hl => ?_) (fun p q b hp hq hlp hlq => ?_) (fun i => ?_)
    · rcases hlive i b hi hl with ⟨_, h⟩ | ⟨_, _, h, h'⟩
      · exact ⟨I.sep j b h hlj, j, h, hlj⟩
      · exact ⟨I.sep i b h h', i, h, h'⟩
    · rcases hlive p b hp hlp with ⟨e1, h3⟩ | ⟨e1, e2, h3, h4⟩ <;> rcases hlive q b hq hlq with ⟨g1, h5⟩ | ⟨g1, g2, h5, h6⟩
      · rw [e1, g1]
      · exact absurd (I.inj j q b h3 h5 hlj h6).symm g2
      · exact absurd (I.inj p j b h3 h5 h4 hlj) e2
      · exact I.inj p q b h3 h5 h4 h6
    · rw [hT']
      by_cases e : i = k
      · subst e
        rw [if_pos rfl]
        have ho := I.obs j
        rw [hj] at ho
        obtain ⟨q1, q2, q3⟩ := ho
        refine ⟨q1, fun p hp => by rw [← (hf p hp).1]; exact q2 p (by omega), ?_⟩
        rw [show mu' i = mu j from muSet_same _ _ _]
        cases hm : mu j with
        | none => rw [hm] at q3; show n' = 0; omega
        | some b =>
          rw [hm] at q3
          obtain ⟨c, e, C, k1, k2, k3, k4, k5, k6⟩ := q3
          exact ⟨c, e, C, k1, k2, by omega, k4, k5, fun p o hp ho => ((hf p hp).2 o (by rw [q2 p (by omega)]; exact ho) _ _ _ _ _ _ (k6 p o (by omega) ho)).mono (fun b h => ⟨h, rfl⟩) fun e => by cases e⟩
      · rw [if_neg e]
        by_cases e2 : i = j
        · rw [if_pos e2]; trivial
        · rw [if_neg e2]
          exact (I.obs i).mono (fun b h => ⟨h, rfl⟩) hC (muSet_ne _ _ _ e) fun _ _ _ => rfl
  refine ⟨h1, h2, ok, mu', I.next N, fun i => ?_⟩
  rw [eget_cons]
  by_cases e : i = r
  · subst e
    rw [if_pos rfl]
    have hE := E i
    rw [eget_cons, if_pos rfl] at hE
    have ek : tget (tset (tset T j .dead) k (.row szj n' v' f')) k = .row szj n' v' f' := by rw [hT', if_pos rfl]
    refine .row _ _ _ _ _ _ (rv_rowV hE) ⟨(by rw [ek]; exact fun e => (by cases e)), fun c hc => (by rw [ek] at hc; cases hc), fun sz2 n2 v2 f2 e2 => ?_⟩
    rw [ek] at e2
    cases e2
    refine ⟨Nat.le_refl _, fun _ => ⟨rfl, by omega, ?_⟩⟩
    obtain ⟨_, _, hcase⟩ := row_addr I hE hj rfl
    unfold SliceAt
    rw [show mu' k = mu j from muSet_same _ _ _]
    rcases hcase with ⟨hm, _, e3, _, A, hval⟩ | ⟨b, cap, hm, hval, hcap, hlc⟩
    · rw [hm]
      subst e3
      exact ⟨rfl, rfl, A, hval⟩
    · rw [hm]
      exact ⟨cap, hval, hcap, hlc⟩
  · rw [if_neg e]; exact .top _ _

/-! ### Ends -/
end Go.Proofs.Ytbpcjahjbkiofaa.AV

set_option maxRecDepth 100000
namespace Go.Proofs.Ytbpcjahjbkiofaa.Fn
open Go Go.Proofs Go.Proofs.Ytbpcjahjbkiofaa.AV
noncomputable abbrev P : Program := Try.prog
namespace L16_TypingOn
/-- instar/instarlaw16.TypingOn -/
abbrev id : FuncId := 3
abbrev nt : Nat := 37
def code : ACode := .seq (.reg [⟨some 2, .box (.t 0), none⟩, ⟨some 3, .box (.t 1), none⟩, ⟨some 4, .mv (.c (.bool false)), none⟩]) (.seq (.seq (.reg [⟨some 9, .ld 2 true (.t 2), none⟩, ⟨some 10, .ld 16 true (.t 3), none⟩, ⟨some 11, .bslF 16 [.t 10], none⟩, ⟨some 12, .call 12 [.t 9, .t 11], none⟩]) (.cond (.t 12) (.seq (.reg [⟨some 13, .call 13 [], none⟩, ⟨some 4, .mv (.t 13), none⟩]) .ret) .skip)) (.seq (.reg [⟨some 15, .ld 2 true (.t 2), none⟩, ⟨some 16, .ld 16 true (.t 3), none⟩, ⟨some 17, .call 14 [.t 15, .t 16], none⟩, ⟨some 14, .mv (.t 17), none⟩, ⟨some 18, .ext 0 (.t 14), none⟩, ⟨some 19, .ext 1 (.t 14), none⟩, ⟨some 5, .alloc [.int .i64 0, .slice none 0 0], none⟩, ⟨none, .st 2 (.t 5) (.t 18), none⟩, ⟨some 6, .mv (.t 19), none⟩]) (.seq (.reg [⟨some 21, .ld 2 true (.t 2), none⟩, ⟨some 22, .ld 16 true (.t 3), none⟩, ⟨some 23, .call 15 [.t 21, .t 22], none⟩, ⟨some 20, .mv (.t 23), none⟩, ⟨some 24, .ext 0 (.t 20), none⟩, ⟨some 25, .ext 1 (.t 20), none⟩, ⟨some 7, .alloc [.int .i64 0, .slice none 0 0], none⟩, ⟨none, .st 2 (.t 7) (.t 24), none⟩, ⟨some 8, .mv (.t 25), none⟩]) (.seq (.reg [⟨some 26, .ld 2 true (.t 5), none⟩, ⟨some 27, .ld 2 true (.t 7), none⟩, ⟨some 28, .call 16 [.t 26, .t 27], none⟩, ⟨some 29, .mv (.t 28), none⟩, ⟨some 30, .mv (.t 6), some (29, true)⟩, ⟨some 31, .mv (.t 8), some (29, true)⟩, ⟨some 32, .bin .eql (.t 30) (.t 31), some (29, true)⟩, ⟨some 33, .pick (.t 29) (.t 32) (.c (.bool false)), none⟩, ⟨some 34, .mv (.t 33), none⟩, ⟨some 35, .call 13 [], some (34, true)⟩, ⟨some 36, .pick (.t 34) (.t 35) (.c (.bool false)), none⟩, ⟨some 4, .mv (.t 36), none⟩]) .ret))))
def res : List RItem := [.t 4]
theorem ok : Option.bind Try.f3.body (cCode P Try.f3.ntmps) = some code := by kernel_rfl
theorem rok : cRes P Try.f3.results.toList = some res := by kernel_rfl
theorem intro {args : List AV} {T T2 : Tab} {r : AV} (ha : (Nat.ble args.length nt && Nat.ble T.length 4) = true) (h : Run P nt [.code code] (argEnv 0 args) T (RetQ res T T2 r)) : AC P id args T r T2 :=
  AC.introB Try.func3 ok rfl rok ha h
end L16_TypingOn
namespace L16_TypingRight
/-- instar/instarlaw16.TypingRight -/
abbrev id : FuncId := 5
abbrev nt : Nat := 100
def code : ACode := .seq (.reg [⟨some 2, .box (.t 0), none⟩, ⟨some 3, .box (.t 1), none⟩, ⟨some 4, .mv (.c (.bool false)), none⟩]) (.seq (.seq (.reg [⟨some 14, .ld 2 true (.t 2), none⟩, ⟨some 15, .ld 16 true (.t 3), none⟩, ⟨some 16, .bslF 16 [.t 15], none⟩, ⟨some 17, .call 12 [.t 14, .t 16], none⟩]) (.cond (.t 17) (.seq (.reg [⟨some 18, .call 13 [], none⟩, ⟨some 4, .mv (.t 18), none⟩]) .ret) .skip)) (.seq (.reg [⟨some 20, .ld 2 true (.t 2), none⟩, ⟨some 21, .call 19 [.t 20], none⟩, ⟨some 19, .mv (.t 21), none⟩, ⟨some 22, .ext 0 (.t 19), none⟩, ⟨some 23, .ext 1 (.t 19), none⟩, ⟨some 5, .mv (.t 22), none⟩, ⟨some 6, .mv (.t 23), none⟩]) (.seq (.reg [⟨some 25, .ld 2 true (.t 2), none⟩, ⟨some 26, .ld 16 true (.t 3), none⟩, ⟨some 27, .call 14 [.t 25, .t 26], none⟩, ⟨some 24, .mv (.t 27), none⟩, ⟨some 28, .ext 0 (.t 24), none⟩, ⟨some 29, .ext 1 (.t 24), none⟩, ⟨some 7, .alloc [.int .i64 0, .slice none 0 0], none⟩, ⟨none, .st 2 (.t 7) (.t 28), none⟩, ⟨some 8, .mv (.t 29), none⟩]) (.seq (.reg [⟨some 31, .ld 2 true (.t 2), none⟩, ⟨some 32, .call 19 [.t 31], none⟩, ⟨some 30, .mv (.t 32), none⟩, ⟨some 33, .ext 0 (.t 30), none⟩, ⟨some 34, .ext 1 (.t 30), none⟩, ⟨some 9, .mv (.t 33), none⟩, ⟨some 10, .mv (.t 34), none⟩]) (.seq (.seq (.reg [⟨some 35, .mv (.t 5), none⟩, ⟨some 36, .cvBS (.t 35), none⟩, ⟨some 37, .mv (.t 9), none⟩, ⟨some 38, .cvBS (.t 37), none⟩, ⟨some 39, .binS true (.t 36) (.t 38), none⟩]) (.cond (.t 39) (.seq (.reg [⟨some 4, .mv (.c (.bool false)), none⟩]) .ret) .skip)) (.seq (.seq (.reg [⟨some 40, .mv (.t 8), none⟩, ⟨some 41, .bin .neq (.t 40) (.c (.int .i64 0)), none⟩]) (.cond (.t 41) (.seq (.reg [⟨some 42, .fa 1 (.t 7), none⟩, ⟨some 43, .ld 1 false (.t 42), none⟩, ⟨some 44, .len (.t 43), none⟩, ⟨some 45, .bin .eql (.t 44) (.c (.int .i64 0)), none⟩, ⟨some 46, .mv (.t 45), none⟩, ⟨some 47, .fa 0 (.t 7), some (46, true)⟩, ⟨some 48, .ld 1 false (.t 47), some (46, true)⟩, ⟨some 49, .bin .eql (.t 48) (.c (.int .i64 0)), some (46, true)⟩, ⟨some 50, .pick (.t 46) (.t 49) (.c (.bool false)), none⟩, ⟨some 51, .mv (.t 50), none⟩, ⟨some 52, .call 13 [], some (51, true)⟩, ⟨some 53, .pick (.t 51) (.t 52) (.c (.bool false)), none⟩, ⟨some 4, .mv (.t 53), none⟩]) .ret) .skip)) (.seq (.seq (.reg [⟨some 54, .ld 2 true (.t 7), none⟩, ⟨some 55, .call 20 [.t 54], none⟩, ⟨some 56, .not (.t 55), none⟩, ⟨some 57, .mv (.t 56), none⟩, ⟨some 58, .fa 0 (.t 7), some (57, false)⟩, ⟨some 59, .ld 1 false (.t 58), some (57, false)⟩, ⟨some 60, .fa 0 (.t 2), some (57, false)⟩, ⟨some 61, .ld 1 false (.t 60), some (57, false)⟩, ⟨some 62, .bin .neq (.t 59) (.t 61), some (57, false)⟩, ⟨some 63, .pick (.t 57) (.c (.bool true)) (.t 62), none⟩]) (.cond (.t 63) (.seq (.reg [⟨some 4, .mv (.c (.bool false)), none⟩]) .ret) .skip)) (.seq (.seq (.reg [⟨some 11, .mv (.c (.int .i64 0)), none⟩]) (.block 0 (.loop (.seq (.seq (.reg [⟨some 64, .mv (.t 11), none⟩, ⟨some 65, .fa 1 (.t 2), none⟩, ⟨some 66, .ld 1 false (.t 65), none⟩, ⟨some 67, .len (.t 66), none⟩, ⟨some 68, .bin .lss (.t 64) (.t 67), none⟩]) (.cond (.t 68) .skip (.exit 0))) (.seq (.block 1 (.seq (.reg [⟨some 71, .fa 1 (.t 2), none⟩, ⟨some 72, .ld 1 false (.t 71), none⟩, ⟨some 73, .mv (.t 11), none⟩, ⟨some 74, .ia 2 (.t 72) (.t 73), none⟩, ⟨some 75, .ld 2 true (.t 74), none⟩, ⟨some 12, .alloc [.int .i64 0, .slice none 0 0], none⟩, ⟨none, .st 2 (.t 12) (.t 75), none⟩]) (.seq (.reg [⟨some 76, .ld 2 true (.t 7), none⟩, ⟨some 77, .fa 0 (.t 12), none⟩, ⟨some 78, .ld 1 false (.t 77), none⟩, ⟨some 79, .call 21 [.t 76, .t 78], none⟩, ⟨some 13, .mv (.t 79), none⟩]) (.seq (.draw [⟨some 80, .fa 0 (.t 12), none⟩, ⟨some 81, .ld 1 false (.t 80), none⟩, ⟨some 82, .fa 1 (.t 3), none⟩, ⟨some 83, .ld 1 false (.t 82), none⟩, ⟨some 84, .bin .neq (.t 81) (.t 83), none⟩, ⟨some 85, .mv (.t 84), none⟩, ⟨some 86, .mv (.t 13), some (85, true)⟩, ⟨some 87, .bin .lss (.t 86) (.c (.int .i64 0)), some (85, true)⟩, ⟨some 88, .mv (.t 87), some (85, true)⟩, ⟨some 89, .ld 2 true (.t 12), some (88, false)⟩, ⟨some 90, .fa 1 (.t 7), some (88, false)⟩, ⟨some 91, .ld 1 false (.t 90), some (88, false)⟩, ⟨some 92, .mv (.t 13), some (88, false)⟩, ⟨some 93, .ia 2 (.t 91) (.t 92), some (88, false)⟩, ⟨some 94, .ld 2 true (.t 93), some (88, false)⟩, ⟨some 95, .call 22 [.t 89, .t 94], some (88, false)⟩, ⟨some 96, .not (.t 95), some (88, false)⟩, ⟨some 97, .pick (.t 88) (.c (.bool true)) (.t 96), some (85, true)⟩, ⟨some 98, .pick (.t 85) (.t 97) (.c (.bool false)), none⟩] [0, 1, 0, 4, 15, 31, 63, 127, 255, 511, 511, 1535, 511, 7679, 15871, 32767, 65535, 131071, 262143]) (.cond (.t 98) (.seq (.reg [⟨some 4, .mv (.c (.bool false)), none⟩]) .ret) .skip))))) (.reg [⟨some 69, .mv (.t 11), none⟩, ⟨some 70, .bin .add (.t 69) (.c (.int .i64 1)), none⟩, ⟨some 11, .mv (.t 70), none⟩])))))) (.seq (.reg [⟨some 99, .call 13 [], none⟩, ⟨some 4, .mv (.t 99), none⟩]) .ret)))))))))
def res : List RItem := [.t 4]
theorem ok : Option.bind Try.f5.body (cCode P Try.f5.ntmps) = some code := by kernel_rfl
theorem rok : cRes P Try.f5.results.toList = some res := by kernel_rfl
theorem intro {args : List AV} {T T2 : Tab} {r : AV} (ha : (Nat.ble args.length nt && Nat.ble T.length 4) = true) (h : Run P nt [.code code] (argEnv 0 args) T (RetQ res T T2 r)) : AC P id args T r T2 :=
  AC.introB Try.func5 ok rfl rok ha h
end L16_TypingRight
namespace L17_PairSteps
/-- instar/instarlaw17.PairSteps -/
abbrev id : FuncId := 6
abbrev nt : Nat := 69
def code : ACode := .seq (.reg [⟨some 3, .box (.t 0), none⟩, ⟨some 4, .box (.t 1), none⟩, ⟨some 6, .mv (.c (.bool false)), none⟩]) (.seq (.seq (.reg [⟨some 15, .ld 2 true (.t 3), none⟩, ⟨some 16, .mv (.t 2), none⟩, ⟨some 17, .call 23 [.t 15, .t 16], none⟩, ⟨some 18, .mv (.t 17), none⟩, ⟨some 19, .ld 16 true (.t 4), some (18, false)⟩, ⟨some 20, .bslF 16 [.t 19], some (18, false)⟩, ⟨some 21, .call 24 [.t 20], some (18, false)⟩, ⟨some 22, .pick (.t 18) (.c (.bool true)) (.t 21), none⟩]) (.cond (.t 22) (.seq (.reg [⟨some 23, .call 25 [], none⟩, ⟨some 6, .mv (.t 23), none⟩]) .ret) .skip)) (.seq (.reg [⟨some 25, .ld 2 true (.t 3), none⟩, ⟨some 26, .ld 16 true (.t 4), none⟩, ⟨some 27, .call 26 [.t 25, .t 26], none⟩, ⟨some 24, .mv (.t 27), none⟩, ⟨some 28, .ext 0 (.t 24), none⟩, ⟨some 29, .ext 1 (.t 24), none⟩, ⟨some 7, .alloc [.int .i64 0, .int .i64 0, .int .i64 0, .int .i64 0, .int .i64 0, .int .i64 0, .int .i64 0, .int .i64 0, .int .i64 0, .int .i64 0, .int .i64 0, .int .i64 0, .int .i64 0, .string { data := { toList := [] } }, .slice none 0 0, .slice none 0 0], none⟩, ⟨none, .st 16 (.t 7) (.t 28), none⟩, ⟨some 8, .mv (.t 29), none⟩]) (.seq (.reg [⟨some 31, .ld 2 true (.t 3), none⟩, ⟨some 32, .ld 16 true (.t 4), none⟩, ⟨some 33, .call 27 [.t 31, .t 32], none⟩, ⟨some 30, .mv (.t 33), none⟩, ⟨some 34, .ext 0 (.t 30), none⟩, ⟨some 35, .ext 1 (.t 30), none⟩, ⟨some 9, .alloc [.int .i64 0, .int .i64 0, .int .i64 0, .int .i64 0, .int .i64 0, .int .i64 0, .int .i64 0, .int .i64 0, .int .i64 0, .int .i64 0, .int .i64 0, .int .i64 0, .int .i64 0, .string { data := { toList := [] } }, .slice none 0 0, .slice none 0 0], none⟩, ⟨none, .st 16 (.t 9) (.t 34), none⟩, ⟨some 10, .mv (.t 35), none⟩]) (.seq (.reg [⟨some 37, .ld 2 true (.t 3), none⟩, ⟨some 38, .mv (.t 2), none⟩, ⟨some 39, .call 28 [.t 37, .t 38], none⟩, ⟨some 36, .mv (.t 39), none⟩, ⟨some 40, .ext 0 (.t 36), none⟩, ⟨some 41, .ext 1 (.t 36), none⟩, ⟨some 11, .mv (.t 40), none⟩, ⟨some 12, .mv (.t 41), none⟩]) (.seq (.reg [⟨some 43, .ld 2 true (.t 3), none⟩, ⟨some 44, .mv (.t 2), none⟩, ⟨some 45, .call 29 [.t 43, .t 44], none⟩, ⟨some 42, .mv (.t 45), none⟩, ⟨some 46, .ext 0 (.t 42), none⟩, ⟨some 47, .ext 1 (.t 42), none⟩, ⟨some 13, .mv (.t 46), none⟩, ⟨some 14, .mv (.t 47), none⟩]) (.seq (.reg [⟨some 48, .ld 16 true (.t 7), none⟩, ⟨some 49, .ld 16 true (.t 9), none⟩, ⟨some 50, .call 30 [.t 48, .t 49], none⟩, ⟨some 51, .mv (.t 50), none⟩, ⟨some 52, .mv (.t 8), some (51, true)⟩, ⟨some 53, .mv (.t 10), some (51, true)⟩, ⟨some 54, .bin .eql (.t 52) (.t 53), some (51, true)⟩, ⟨some 55, .pick (.t 51) (.t 54) (.c (.bool false)), none⟩, ⟨some 56, .mv (.t 55), none⟩, ⟨some 57, .mv (.t 11), some (56, true)⟩, ⟨some 58, .mv (.t 13), some (56, true)⟩, ⟨some 59, .call 31 [.t 57, .t 58], some (56, true)⟩, ⟨some 60, .pick (.t 56) (.t 59) (.c (.bool false)), none⟩, ⟨some 61, .mv (.t 60), none⟩, ⟨some 62, .mv (.t 12), some (61, true)⟩, ⟨some 63, .mv (.t 14), some (61, true)⟩, ⟨some 64, .bin .eql (.t 62) (.t 63), some (61, true)⟩, ⟨some 65, .pick (.t 61) (.t 64) (.c (.bool false)), none⟩, ⟨some 66, .mv (.t 65), none⟩, ⟨some 67, .call 25 [], some (66, true)⟩, ⟨some 68, .pick (.t 66) (.t 67) (.c (.bool false)), none⟩, ⟨some 6, .mv (.t 68), none⟩]) .ret))))))
def res : List RItem := [.t 6]
theorem ok : Option.bind Try.f6.body (cCode P Try.f6.ntmps) = some code := by kernel_rfl
theorem rok : cRes P Try.f6.results.toList = some res := by kernel_rfl
theorem intro {args : List AV} {T T2 : Tab} {r : AV} (ha : (Nat.ble args.length nt && Nat.ble T.length 4) = true) (h : Run P nt [.code code] (argEnv 0 args) T (RetQ res T T2 r)) : AC P id args T r T2 :=
  AC.introB Try.func6 ok rfl rok ha h
end L17_PairSteps
namespace L17_PairChecks
/-- instar/instarlaw17.PairChecks -/
abbrev id : FuncId := 7
abbrev nt : Nat := 44
def code : ACode := .seq (.reg [⟨some 3, .box (.t 0), none⟩, ⟨some 6, .mv (.c (.bool false)), none⟩]) (.seq (.seq (.reg [⟨some 11, .ld 2 true (.t 3), none⟩, ⟨some 12, .mv (.t 1), none⟩, ⟨some 13, .call 23 [.t 11, .t 12], none⟩, ⟨some 14, .mv (.t 13), none⟩, ⟨some 15, .mv (.t 2), some (14, false)⟩, ⟨some 16, .call 24 [.t 15], some (14, false)⟩, ⟨some 17, .pick (.t 14) (.c (.bool true)) (.t 16), none⟩]) (.cond (.t 17) (.seq (.reg [⟨some 18, .call 25 [], none⟩, ⟨some 6, .mv (.t 18), none⟩]) .ret) .skip)) (.seq (.reg [⟨some 20, .ld 2 true (.t 3), none⟩, ⟨some 21, .mv (.t 1), none⟩, ⟨some 22, .mv (.t 2), none⟩, ⟨some 23, .call 32 [.t 20, .t 21, .t 22], none⟩, ⟨some 19, .mv (.t 23), none⟩, ⟨some 24, .ext 0 (.t 19), none⟩, ⟨some 25, .ext 1 (.t 19), none⟩, ⟨some 7, .mv (.t 24), none⟩, ⟨some 8, .mv (.t 25), none⟩]) (.seq (.reg [⟨some 27, .ld 2 true (.t 3), none⟩, ⟨some 28, .mv (.t 1), none⟩, ⟨some 29, .mv (.t 2), none⟩, ⟨some 30, .call 33 [.t 27, .t 28, .t 29], none⟩, ⟨some 26, .mv (.t 30), none⟩, ⟨some 31, .ext 0 (.t 26), none⟩, ⟨some 32, .ext 1 (.t 26), none⟩, ⟨some 9, .mv (.t 31), none⟩, ⟨some 10, .mv (.t 32), none⟩]) (.seq (.reg [⟨some 33, .mv (.t 7), none⟩, ⟨some 34, .mv (.t 9), none⟩, ⟨some 35, .bin .eql (.t 33) (.t 34), none⟩, ⟨some 36, .mv (.t 35), none⟩, ⟨some 37, .mv (.t 8), some (36, true)⟩, ⟨some 38, .mv (.t 10), some (36, true)⟩, ⟨some 39, .bin .eql (.t 37) (.t 38), some (36, true)⟩, ⟨some 40, .pick (.t 36) (.t 39) (.c (.bool false)), none⟩, ⟨some 41, .mv (.t 40), none⟩, ⟨some 42, .call 25 [], some (41, true)⟩, ⟨some 43, .pick (.t 41) (.t 42) (.c (.bool false)), none⟩, ⟨some 6, .mv (.t 43), none⟩]) .ret))))
def res : List RItem := [.t 6]
theorem ok : Option.bind Try.f7.body (cCode P Try.f7.ntmps) = some code := by kernel_rfl
theorem rok : cRes P Try.f7.results.toList = some res := by kernel_rfl
theorem intro {args : List AV} {T T2 : Tab} {r : AV} (ha : (Nat.ble args.length nt && Nat.ble T.length 4) = true) (h : Run P nt [.code code] (argEnv 0 args) T (RetQ res T T2 r)) : AC P id args T r T2 :=
  AC.introB Try.func7 ok rfl rok ha h
end L17_PairChecks
namespace L17_PairBack
/-- instar/instarlaw17.PairBack -/
abbrev id : FuncId := 8
abbrev nt : Nat := 140
def code : ACode := .seq (.reg [⟨some 3, .box (.t 0), none⟩, ⟨some 6, .mv (.c (.bool false)), none⟩]) (.seq (.seq (.reg [⟨some 19, .ld 2 true (.t 3), none⟩, ⟨some 20, .mv (.t 1), none⟩, ⟨some 21, .call 23 [.t 19, .t 20], none⟩, ⟨some 22, .mv (.t 21), none⟩, ⟨some 23, .mv (.t 2), some (22, false)⟩, ⟨some 24, .call 24 [.t 23], some (22, false)⟩, ⟨some 25, .pick (.t 22) (.c (.bool true)) (.t 24), none⟩]) (.cond (.t 25) (.seq (.reg [⟨some 26, .call 25 [], none⟩, ⟨some 6, .mv (.t 26), none⟩]) .ret) .skip)) (.seq (.reg [⟨some 28, .ld 2 true (.t 3), none⟩, ⟨some 29, .mv (.t 1), none⟩, ⟨some 30, .call 28 [.t 28, .t 29], none⟩, ⟨some 27, .mv (.t 30), none⟩, ⟨some 31, .ext 0 (.t 27), none⟩, ⟨some 32, .ext 1 (.t 27), none⟩, ⟨some 7, .mv (.t 31), none⟩, ⟨some 8, .mv (.t 32), none⟩]) (.seq (.reg [⟨some 34, .ld 2 true (.t 3), none⟩, ⟨some 35, .mv (.t 1), none⟩, ⟨some 36, .call 18 [.t 34, .t 35], none⟩, ⟨some 33, .mv (.t 36), none⟩, ⟨some 37, .ext 0 (.t 33), none⟩, ⟨some 38, .ext 1 (.t 33), none⟩, ⟨some 39, .ext 2 (.t 33), none⟩, ⟨some 9, .alloc [.int .i64 0, .slice none 0 0], none⟩, ⟨none, .st 2 (.t 9) (.t 37), none⟩, ⟨some 10, .mv (.t 38), none⟩, ⟨some 11, .mv (.t 39), none⟩]) (.seq (.seq (.reg [⟨some 40, .mv (.t 11), none⟩, ⟨some 41, .bin .neq (.t 40) (.c (.int .i64 0)), none⟩]) (.cond (.t 41) (.seq (.reg [⟨some 43, .ld 2 true (.t 3), none⟩, ⟨some 44, .mv (.t 1), none⟩, ⟨some 45, .mv (.t 2), none⟩, ⟨some 46, .call 32 [.t 43, .t 44, .t 45], none⟩, ⟨some 42, .mv (.t 46), none⟩, ⟨some 47, .ext 0 (.t 42), none⟩, ⟨some 48, .ext 1 (.t 42), none⟩, ⟨some 12, .mv (.t 47), none⟩, ⟨some 13, .mv (.t 48), none⟩]) (.seq (.reg [⟨some 49, .mv (.t 7), none⟩, ⟨some 50, .len (.t 49), none⟩, ⟨some 51, .bin .eql (.t 50) (.c (.int .i64 0)), none⟩, ⟨some 52, .mv (.t 51), none⟩, ⟨some 53, .mv (.t 8), some (52, true)⟩, ⟨some 54, .mv (.t 11), some (52, true)⟩, ⟨some 55, .bin .eql (.t 53) (.t 54), some (52, true)⟩, ⟨some 56, .pick (.t 52) (.t 55) (.c (.bool false)), none⟩, ⟨some 57, .mv (.t 56), none⟩, ⟨some 58, .mv (.t 12), some (57, true)⟩, ⟨some 59, .mv (.t 10), some (57, true)⟩, ⟨some 60, .bin .eql (.t 58) (.t 59), some (57, true)⟩, ⟨some 61, .pick (.t 57) (.t 60) (.c (.bool false)), none⟩, ⟨some 62, .mv (.t 61), none⟩, ⟨some 63, .mv (.t 13), some (62, true)⟩, ⟨some 64, .mv (.t 11), some (62, true)⟩, ⟨some 65, .bin .eql (.t 63) (.t 64), some (62, true)⟩, ⟨some 66, .pick (.t 62) (.t 65) (.c (.bool false)), none⟩, ⟨some 67, .mv (.t 66), none⟩, ⟨some 68, .call 25 [], some (67, true)⟩, ⟨some 69, .pick (.t 67) (.t 68) (.c (.bool false)), none⟩, ⟨some 6, .mv (.t 69), none⟩]) .ret)) .skip)) (.seq (.seq (.reg [⟨some 70, .mv (.t 8), none⟩, ⟨some 71, .bin .neq (.t 70) (.c (.int .i64 0)), none⟩, ⟨some 72, .mv (.t 71), none⟩, ⟨some 73, .mv (.t 7), some (72, false)⟩, ⟨some 74, .len (.t 73), some (72, false)⟩, ⟨some 75, .mv (.t 1), some (72, false)⟩, ⟨some 76, .len (.t 75), some (72, false)⟩, ⟨some 77, .bin .neq (.t 74) (.t 76), some (72, false)⟩, ⟨some 78, .pick (.t 72) (.c (.bool true)) (.t 77), none⟩]) (.cond (.t 78) (.seq (.reg [⟨some 6, .mv (.c (.bool false)), none⟩]) .ret) .skip)) (.seq (.seq (.reg [⟨some 14, .mv (.c (.int .i64 0)), none⟩]) (.block 0 (.loop (.seq (.seq (.reg [⟨some 79, .mv (.t 14), none⟩, ⟨some 80, .mv (.t 1), none⟩, ⟨some 81, .len (.t 80), none⟩, ⟨some 82, .bin .lss (.t 79) (.t 81), none⟩]) (.cond (.t 82) .skip (.exit 0))) (.seq (.block 1 (.seq (.draw [⟨some 85, .mv (.t 7), none⟩, ⟨some 86, .mv (.t 14), none⟩, ⟨some 87, .ia 16 (.t 85) (.t 86), none⟩, ⟨some 88, .ld 16 true (.t 87), none⟩, ⟨some 89, .call 34 [.t 88], none⟩, ⟨some 90, .not (.t 89), none⟩, ⟨some 91, .mv (.t 90), none⟩, ⟨some 92, .mv (.t 7), some (91, false)⟩, ⟨some 93, .mv (.t 14), some (91, false)⟩, ⟨some 94, .ia 16 (.t 92) (.t 93), some (91, false)⟩, ⟨some 95, .fa 0 (.t 94), some (91, false)⟩, ⟨some 96, .ld 1 false (.t 95), some (91, false)⟩, ⟨some 97, .mv (.t 1), some (91, false)⟩, ⟨some 98, .mv (.t 1), some (91, false)⟩, ⟨some 99, .len (.t 98), some (91, false)⟩, ⟨some 100, .bin .sub (.t 99) (.c (.int .i64 1)), some (91, false)⟩, ⟨some 101, .mv (.t 14), some (91, false)⟩, ⟨some 102, .bin .sub (.t 100) (.t 101), some (91, false)⟩, ⟨some 103, .ia 16 (.t 97) (.t 102), some (91, false)⟩, ⟨some 104, .fa 0 (.t 103), some (91, false)⟩, ⟨some 105, .ld 1 false (.t 104), some (91, false)⟩, ⟨some 106, .bin .add (.t 105) (.c (.int .i64 20)), some (91, false)⟩, ⟨some 107, .bin .neq (.t 96) (.t 106), some (91, false)⟩, ⟨some 108, .pick (.t 91) (.c (.bool true)) (.t 107), none⟩] [0, 0, 3, 7, 15, 31, 63, 127, 127, 511, 1023, 2047, 127, 127, 8319, 24703, 127, 123007, 258175, 520319, 1044607, 2093183, 4194303, 8388607]) (.cond (.t 108) (.seq (.reg [⟨some 6, .mv (.c (.bool false)), none⟩]) .ret) .skip))) (.reg [⟨some 83, .mv (.t 14), none⟩, ⟨some 84, .bin .add (.t 83) (.c (.int .i64 1)), none⟩, ⟨some 14, .mv (.t 84), none⟩])))))) (.seq (.reg [⟨some 110, .ld 2 true (.t 3), none⟩, ⟨some 111, .mv (.t 1), none⟩, ⟨some 112, .mv (.t 7), none⟩, ⟨some 113, .call 32 [.t 110, .t 111, .t 112], none⟩, ⟨some 109, .mv (.t 113), none⟩, ⟨some 114, .ext 0 (.t 109), none⟩, ⟨some 115, .ext 1 (.t 109), none⟩, ⟨some 15, .mv (.t 114), none⟩, ⟨some 16, .mv (.t 115), none⟩]) (.seq (.reg [⟨some 117, .ld 2 true (.t 3), none⟩, ⟨some 118, .mv (.t 1), none⟩, ⟨some 119, .mv (.t 2), none⟩, ⟨some 120, .call 32 [.t 117, .t 118, .t 119], none⟩, ⟨some 116, .mv (.t 120), none⟩, ⟨some 121, .ext 0 (.t 116), none⟩, ⟨some 122, .ext 1 (.t 116), none⟩, ⟨some 17, .mv (.t 121), none⟩, ⟨some 18, .mv (.t 122), none⟩]) (.seq (.reg [⟨some 123, .mv (.t 15), none⟩, ⟨some 124, .bin .eql (.t 123) (.c (.int .i64 0)), none⟩, ⟨some 125, .mv (.t 124), none⟩, ⟨some 126, .mv (.t 16), some (125, true)⟩, ⟨some 127, .bin .eql (.t 126) (.c (.int .i64 0)), some (125, true)⟩, ⟨some 128, .pick (.t 125) (.t 127) (.c (.bool false)), none⟩, ⟨some 129, .mv (.t 128), none⟩, ⟨some 130, .mv (.t 18), some (129, true)⟩, ⟨some 131, .bin .eql (.t 130) (.c (.int .i64 0)), some (129, true)⟩, ⟨some 132, .mv (.t 7), some (129, true)⟩, ⟨some 133, .mv (.t 2), some (129, true)⟩, ⟨some 134, .call 31 [.t 132, .t 133], some (129, true)⟩, ⟨some 135, .binB false (.t 131) (.t 134), some (129, true)⟩, ⟨some 136, .pick (.t 129) (.t 135) (.c (.bool false)), none⟩, ⟨some 137, .mv (.t 136), none⟩, ⟨some 138, .call 25 [], some (137, true)⟩, ⟨some 139, .pick (.t 137) (.t 138) (.c (.bool false)), none⟩, ⟨some 6, .mv (.t 139), none⟩]) .ret)))))))))
def res : List RItem := [.t 6]
theorem ok : Option.bind Try.f8.body (cCode P Try.f8.ntmps) = some code := by kernel_rfl
theorem rok : cRes P Try.f8.results.toList = some res := by kernel_rfl
theorem intro {args : List AV} {T T2 : Tab} {r : AV} (ha : (Nat.ble args.length nt && Nat.ble T.length 4) = true) (h : Run P nt [.code code] (argEnv 0 args) T (RetQ res T T2 r)) : AC P id args T r T2 :=
  AC.introB Try.func8 ok rfl rok ha h
end L17_PairBack
namespace L16_great
/-- instar/instarlaw16.great -/
abbrev id : FuncId := 12
abbrev nt : Nat := 33
def code : ACode := .seq (.reg [⟨some 2, .box (.t 0), none⟩, ⟨some 4, .mv (.c (.bool false)), none⟩]) (.seq (.seq (.reg [⟨some 5, .mv (.c (.int .i64 0)), none⟩]) (.block 0 (.loop (.seq (.seq (.reg [⟨some 6, .mv (.t 5), none⟩, ⟨some 7, .fa 1 (.t 2), none⟩, ⟨some 8, .ld 1 false (.t 7), none⟩, ⟨some 9, .len (.t 8), none⟩, ⟨some 10, .bin .lss (.t 6) (.t 9), none⟩, ⟨some 11, .mv (.t 10), none⟩, ⟨some 12, .mv (.t 5), some (11, true)⟩, ⟨some 13, .bin .lss (.t 12) (.c (.int .i64 41)), some (11, true)⟩, ⟨some 14, .pick (.t 11) (.t 13) (.c (.bool false)), none⟩]) (.cond (.t 14) .skip (.exit 0))) (.seq (.block 1 (.seq (.reg [⟨some 17, .fa 1 (.t 2), none⟩, ⟨some 18, .ld 1 false (.t 17), none⟩, ⟨some 19, .mv (.t 5), none⟩, ⟨some 20, .ia 2 (.t 18) (.t 19), none⟩, ⟨some 21, .fa 1 (.t 20), none⟩, ⟨some 22, .ld 1 false (.t 21), none⟩, ⟨some 23, .len (.t 22), none⟩, ⟨some 24, .bin .gtr (.t 23) (.c (.int .i64 40)), none⟩]) (.cond (.t 24) (.seq (.reg [⟨some 4, .mv (.c (.bool true)), none⟩]) .ret) .skip))) (.reg [⟨some 15, .mv (.t 5), none⟩, ⟨some 16, .bin .add (.t 15) (.c (.int .i64 1)), none⟩, ⟨some 5, .mv (.t 16), none⟩])))))) (.seq (.reg [⟨some 25, .fa 1 (.t 2), none⟩, ⟨some 26, .ld 1 false (.t 25), none⟩, ⟨some 27, .len (.t 26), none⟩, ⟨some 28, .bin .gtr (.t 27) (.c (.int .i64 40)), none⟩, ⟨some 29, .mv (.t 28), none⟩, ⟨some 30, .mv (.t 1), some (29, false)⟩, ⟨some 31, .call 24 [.t 30], some (29, false)⟩, ⟨some 32, .pick (.t 29) (.c (.bool true)) (.t 31), none⟩, ⟨some 4, .mv (.t 32), none⟩]) .ret))
def res : List RItem := [.t 4]
theorem ok : Option.bind Try.f12.body (cCode P Try.f12.ntmps) = some code := by kernel_rfl
theorem rok : cRes P Try.f12.results.toList = some res := by kernel_rfl
theorem intro {args : List AV} {T T2 : Tab} {r : AV} (ha : (Nat.ble args.length nt && Nat.ble T.length 4) = true) (h : Run P nt [.code code] (argEnv 0 args) T (RetQ res T T2 r)) : AC P id args T r T2 :=
  AC.introB Try.func12 ok rfl rok ha h
end L16_great
namespace L16_awake
/-- instar/instarlaw16.awake -/
abbrev id : FuncId := 13
abbrev nt : Nat := 54
def code : ACode := .seq (.reg [⟨some 0, .mv (.c (.bool false)), none⟩]) (.seq (.reg [⟨some 4, .bld [.int .i64 0, .int .i64 0, .int .i64 0, .int .i64 0, .int .i64 0] [(1, 1, .c (.int .i64 1)), (3, 1, .c (.int .i64 100))], none⟩, ⟨some 5, .bslF 5 [.t 4], none⟩, ⟨some 6, .bld [.int .i64 0, .slice none 0 0] [(1, 1, .t 5)], none⟩, ⟨some 7, .bslF 2 [.t 6], none⟩, ⟨some 8, .bld [.int .i64 0, .slice none 0 0] [(0, 1, .c (.int .i64 1)), (1, 1, .t 7)], none⟩, ⟨some 1, .alloc [.int .i64 0, .slice none 0 0], none⟩, ⟨none, .st 2 (.t 1) (.t 8), none⟩]) (.seq (.reg [⟨some 10, .ld 2 true (.t 1), none⟩, ⟨some 11, .bld [.int .i64 0, .int .i64 0, .int .i64 0, .int .i64 0, .int .i64 0, .int .i64 0, .int .i64 0, .int .i64 0, .int .i64 0, .int .i64 0, .int .i64 0, .int .i64 0, .int .i64 0, .string { data := { toList := [] } }, .slice none 0 0, .slice none 0 0] [(0, 1, .c (.int .i64 6)), (5, 1, .c (.int .i64 7)), (4, 1, .c (.int .i64 1))], none⟩, ⟨some 12, .call 14 [.t 10, .t 11], none⟩, ⟨some 9, .mv (.t 12), none⟩, ⟨some 13, .ext 0 (.t 9), none⟩, ⟨some 14, .ext 1 (.t 9), none⟩, ⟨some 2, .alloc [.int .i64 0, .slice none 0 0], none⟩, ⟨none, .st 2 (.t 2) (.t 13), none⟩, ⟨some 3, .mv (.t 14), none⟩]) (.seq (.reg [⟨some 15, .mv (.t 3), none⟩, ⟨some 16, .bin .eql (.t 15) (.c (.int .i64 0)), none⟩, ⟨some 17, .mv (.t 16), none⟩, ⟨some 18, .fa 1 (.t 2), some (17, true)⟩, ⟨some 19, .ld 1 false (.t 18), some (17, true)⟩, ⟨some 20, .len (.t 19), some (17, true)⟩, ⟨some 21, .bin .eql (.t 20) (.c (.int .i64 1)), some (17, true)⟩, ⟨some 22, .pick (.t 17) (.t 21) (.c (.bool false)), none⟩, ⟨some 23, .mv (.t 22), none⟩, ⟨some 24, .fa 1 (.t 2), some (23, true)⟩, ⟨some 25, .ld 1 false (.t 24), some (23, true)⟩, ⟨some 26, .ia 2 (.t 25) (.c (.int .i64 0)), some (23, true)⟩, ⟨some 27, .fa 1 (.t 26), some (23, true)⟩, ⟨some 28, .ld 1 false (.t 27), some (23, true)⟩, ⟨some 29, .len (.t 28), some (23, true)⟩, ⟨some 30, .bin .eql (.t 29) (.c (.int .i64 2)), some (23, true)⟩, ⟨some 31, .pick (.t 23) (.t 30) (.c (.bool false)), none⟩, ⟨some 32, .mv (.t 31), none⟩, ⟨some 33, .fa 1 (.t 2), some (32, true)⟩, ⟨some 34, .ld 1 false (.t 33), some (32, true)⟩, ⟨some 35, .ia 2 (.t 34) (.c (.int .i64 0)), some (32, true)⟩, ⟨some 36, .fa 1 (.t 35), some (32, true)⟩, ⟨some 37, .ld 1 false (.t 36), some (32, true)⟩, ⟨some 38, .ia 5 (.t 37) (.c (.int .i64 0)), some (32, true)⟩, ⟨some 39, .fa 3 (.t 38), some (32, true)⟩, ⟨some 40, .ld 1 false (.t 39), some (32, true)⟩, ⟨some 41, .bin .eql (.t 40) (.c (.int .i64 14)), some (32, true)⟩, ⟨some 42, .pick (.t 32) (.t 41) (.c (.bool false)), none⟩, ⟨some 43, .mv (.t 42), none⟩, ⟨some 44, .fa 1 (.t 2), some (43, true)⟩, ⟨some 45, .ld 1 false (.t 44), some (43, true)⟩, ⟨some 46, .ia 2 (.t 45) (.c (.int .i64 0)), some (43, true)⟩, ⟨some 47, .fa 1 (.t 46), some (43, true)⟩, ⟨some 48, .ld 1 false (.t 47), some (43, true)⟩, ⟨some 49, .ia 5 (.t 48) (.c (.int .i64 1)), some (43, true)⟩, ⟨some 50, .fa 3 (.t 49), some (43, true)⟩, ⟨some 51, .ld 1 false (.t 50), some (43, true)⟩, ⟨some 52, .bin .eql (.t 51) (.c (.int .i64 6)), some (43, true)⟩, ⟨some 53, .pick (.t 43) (.t 52) (.c (.bool false)), none⟩, ⟨some 0, .mv (.t 53), none⟩]) .ret)))
def res : List RItem := [.t 0]
theorem ok : Option.bind Try.f13.body (cCode P Try.f13.ntmps) = some code := by kernel_rfl
theorem rok : cRes P Try.f13.results.toList = some res := by kernel_rfl
theorem intro {args : List AV} {T T2 : Tab} {r : AV} (ha : (Nat.ble args.length nt && Nat.ble T.length 4) = true) (h : Run P nt [.code code] (argEnv 0 args) T (RetQ res T T2 r)) : AC P id args T r T2 :=
  AC.introB Try.func13 ok rfl rok ha h
end L16_awake
namespace typing_On
/-- instar/typing.On -/
abbrev id : FuncId := 14
abbrev nt : Nat := 99
def code : ACode := .seq (.reg [⟨some 2, .box (.t 0), none⟩, ⟨some 3, .box (.t 1), none⟩, ⟨some 4, .alloc [.int .i64 0, .slice none 0 0], none⟩, ⟨some 5, .mv (.c (.int .i64 0)), none⟩]) (.seq (.seq (.reg [⟨some 8, .ld 2 true (.t 2), none⟩, ⟨some 9, .call 48 [.t 8], none⟩, ⟨some 10, .not (.t 9), none⟩, ⟨some 11, .mv (.t 10), none⟩, ⟨some 12, .ld 16 true (.t 3), some (11, false)⟩, ⟨some 13, .call 49 [.t 12], some (11, false)⟩, ⟨some 14, .not (.t 13), some (11, false)⟩, ⟨some 15, .pick (.t 11) (.c (.bool true)) (.t 14), none⟩, ⟨some 16, .mv (.t 15), none⟩, ⟨some 17, .fa 0 (.t 3), some (16, false)⟩, ⟨some 18, .ld 1 false (.t 17), some (16, false)⟩, ⟨some 19, .bin .lss (.t 18) (.c (.int .i64 1)), some (16, false)⟩, ⟨some 20, .pick (.t 16) (.c (.bool true)) (.t 19), none⟩, ⟨some 21, .mv (.t 20), none⟩, ⟨some 22, .fa 0 (.t 3), some (21, false)⟩, ⟨some 23, .ld 1 false (.t 22), some (21, false)⟩, ⟨some 24, .bin .gtr (.t 23) (.c (.int .i64 10)), some (21, false)⟩, ⟨some 25, .pick (.t 21) (.c (.bool true)) (.t 24), none⟩]) (.cond (.t 25) (.seq (.reg [⟨some 26, .bld [.int .i64 0, .slice none 0 0] [], none⟩, ⟨none, .st 2 (.t 4) (.t 26), none⟩, ⟨some 5, .mv (.c (.int .i64 2)), none⟩]) .ret) .skip)) (.seq (.draw [⟨some 27, .ld 16 true (.t 3), none⟩, ⟨some 28, .ld 2 true (.t 2), none⟩, ⟨some 29, .call 50 [.t 28], none⟩, ⟨some 30, .bld [.int .i64 0, .int .i64 0, .int .i64 0, .int .i64 0, .int .i64 0, .int .i64 0, .int .i64 0, .int .i64 0, .int .i64 0, .int .i64 0, .int .i64 0, .int .i64 0, .int .i64 0, .string { data := { toList := [] } }, .slice none 0 0, .slice none 0 0, .int .i64 0, .slice none 0 0, .int .i64 0, .int .i64 0] [(0, 16, .t 27), (16, 2, .t 29)], none⟩, ⟨some 31, .box (.t 30), none⟩, ⟨some 6, .mv (.t 31), none⟩] [0, 0, 2, 7, 15, 31]) (.seq (.seq (.reg [⟨some 32, .mv (.t 6), none⟩, ⟨some 33, .call 51 [.t 32], none⟩, ⟨some 7, .mv (.t 33), none⟩]) (.seq (.reg [⟨some 34, .mv (.t 7), none⟩, ⟨some 35, .bin .neq (.t 34) (.c (.int .i64 0)), none⟩]) (.cond (.t 35) (.seq (.reg [⟨some 36, .bld [.int .i64 0, .slice none 0 0] [], none⟩, ⟨some 37, .mv (.t 7), none⟩, ⟨none, .st 2 (.t 4) (.t 36), none⟩, ⟨some 5, .mv (.t 37), none⟩]) .ret) .skip))) (.seq (.seq (.reg [⟨some 38, .fa 0 (.t 3), none⟩, ⟨some 39, .ld 1 false (.t 38), none⟩]) (.block 0 (.seq (.reg [⟨some 45, .bin .eql (.t 39) (.c (.int .i64 9)), none⟩, ⟨some 44, .mv (.t 45), none⟩]) (.cond (.t 44) (.draw [⟨some 46, .mv (.t 6), none⟩, ⟨some 47, .mv (.t 6), none⟩, ⟨some 48, .nilc (.t 47), none⟩, ⟨some 49, .fa 16 (.t 48), none⟩, ⟨some 50, .fa 1 (.t 49), none⟩, ⟨some 51, .ld 1 false (.t 50), none⟩, ⟨some 52, .mv (.t 6), none⟩, ⟨some 53, .nilc (.t 52), none⟩, ⟨some 54, .fa 18 (.t 53), none⟩, ⟨some 55, .ld 1 false (.t 54), none⟩, ⟨some 56, .fa 1 (.t 3), none⟩, ⟨some 57, .ld 1 false (.t 56), none⟩, ⟨some 58, .fa 15 (.t 3), none⟩, ⟨some 59, .ld 1 false (.t 58), none⟩, ⟨some 60, .call 53 [.t 59], none⟩, ⟨some 61, .bld [.int .i64 0, .slice none 0 0] [(0, 1, .t 57), (1, 1, .t 60)], none⟩, ⟨some 62, .bslF 2 [.t 61], none⟩, ⟨some 63, .call 52 [.t 51, .t 55, .t 62], none⟩, ⟨some 64, .nilc (.t 46), none⟩, ⟨some 65, .fa 16 (.t 64), none⟩, ⟨some 66, .fa 1 (.t 65), none⟩, ⟨none, .st 1 (.t 66) (.t 63), none⟩] [0, 0, 2, 6, 14, 30, 0, 64, 192, 448, 0, 1024, 0, 4096, 12288, 31744, 64512, 131070, 262143, 524287, 1048575, 2097151]) (.seq (.reg [⟨some 68, .bin .eql (.t 39) (.c (.int .i64 10)), none⟩, ⟨some 67, .mv (.t 68), none⟩]) (.cond (.t 67) (.draw [⟨some 69, .mv (.t 6), none⟩, ⟨some 70, .mv (.t 6), none⟩, ⟨some 71, .nilc (.t 70), none⟩, ⟨some 72, .fa 16 (.t 71), none⟩, ⟨some 73, .fa 1 (.t 72), none⟩, ⟨some 74, .ld 1 false (.t 73), none⟩, ⟨some 75, .mv (.t 6), none⟩, ⟨some 76, .nilc (.t 75), none⟩, ⟨some 77, .fa 18 (.t 76), none⟩, ⟨some 78, .ld 1 false (.t 77), none⟩, ⟨some 79, .mv (.t 6), none⟩, ⟨some 80, .nilc (.t 79), none⟩, ⟨some 81, .fa 18 (.t 80), none⟩, ⟨some 82, .ld 1 false (.t 81), none⟩, ⟨some 83, .bin .add (.t 82) (.c (.int .i64 1)), none⟩, ⟨some 84, .call 54 [.t 74, .t 78, .t 83], none⟩, ⟨some 85, .nilc (.t 69), none⟩, ⟨some 86, .fa 16 (.t 85), none⟩, ⟨some 87, .fa 1 (.t 86), none⟩, ⟨none, .st 1 (.t 87) (.t 84), none⟩] [0, 0, 2, 6, 14, 30, 0, 64, 192, 448, 0, 1024, 3072, 7168, 15360, 32766, 65535, 131071, 262143, 524287]) (.seq (.reg [⟨some 40, .mv (.t 6), none⟩, ⟨some 41, .call 55 [.t 40], none⟩, ⟨some 42, .not (.t 41), none⟩]) (.cond (.t 42) (.seq (.reg [⟨some 43, .bld [.int .i64 0, .slice none 0 0] [], none⟩, ⟨none, .st 2 (.t 4) (.t 43), none⟩, ⟨some 5, .mv (.c (.int .i64 17)), none⟩]) .ret) .skip)))))))) (.seq (.seq (.reg [⟨some 88, .mv (.t 6), none⟩, ⟨some 89, .nilc (.t 88), none⟩, ⟨some 90, .fa 16 (.t 89), none⟩, ⟨some 91, .ld 2 true (.t 90), none⟩, ⟨some 92, .call 48 [.t 91], none⟩, ⟨some 93, .not (.t 92), none⟩]) (.cond (.t 93) (.seq (.reg [⟨some 94, .bld [.int .i64 0, .slice none 0 0] [], none⟩, ⟨none, .st 2 (.t 4) (.t 94), none⟩, ⟨some 5, .mv (.c (.int .i64 7)), none⟩]) .ret) .skip)) (.seq (.reg [⟨some 95, .mv (.t 6), none⟩, ⟨some 96, .nilc (.t 95), none⟩, ⟨some 97, .fa 16 (.t 96), none⟩, ⟨some 98, .ld 2 true (.t 97), none⟩, ⟨none, .st 2 (.t 4) (.t 98), none⟩, ⟨some 5, .mv (.c (.int .i64 0)), none⟩]) .ret))))))
def res : List RItem := [.cell 4 2 true, .t 5]
theorem ok : Option.bind Try.f14.body (cCode P Try.f14.ntmps) = some code := by kernel_rfl
theorem rok : cRes P Try.f14.results.toList = some res := by kernel_rfl
theorem intro {args : List AV} {T T2 : Tab} {r : AV} (ha : (Nat.ble args.length nt && Nat.ble T.length 4) = true) (h : Run P nt [.code code] (argEnv 0 args) T (RetQ res T T2 r)) : AC P id args T r T2 :=
  AC.introB Try.func14 ok rfl rok ha h
end typing_On
namespace R16_On
/-- instar/instarref16.On -/
abbrev id : FuncId := 15
abbrev nt : Nat := 131
def code : ACode := .seq (.reg [⟨some 2, .box (.t 0), none⟩, ⟨some 3, .box (.t 1), none⟩, ⟨some 4, .alloc [.int .i64 0, .slice none 0 0], none⟩, ⟨some 5, .mv (.c (.int .i64 0)), none⟩]) (.seq (.seq (.reg [⟨some 14, .ld 2 true (.t 2), none⟩, ⟨some 15, .call 20 [.t 14], none⟩, ⟨some 16, .not (.t 15), none⟩, ⟨some 17, .mv (.t 16), none⟩, ⟨some 18, .ld 16 true (.t 3), some (17, false)⟩, ⟨some 19, .call 34 [.t 18], some (17, false)⟩, ⟨some 20, .not (.t 19), some (17, false)⟩, ⟨some 21, .pick (.t 17) (.c (.bool true)) (.t 20), none⟩, ⟨some 22, .mv (.t 21), none⟩, ⟨some 23, .fa 0 (.t 3), some (22, false)⟩, ⟨some 24, .ld 1 false (.t 23), some (22, false)⟩, ⟨some 25, .bin .gtr (.t 24) (.c (.int .i64 10)), some (22, false)⟩, ⟨some 26, .pick (.t 22) (.c (.bool true)) (.t 25), none⟩]) (.cond (.t 26) (.seq (.reg [⟨some 27, .bld [.int .i64 0, .slice none 0 0] [], none⟩, ⟨none, .st 2 (.t 4) (.t 27), none⟩, ⟨some 5, .mv (.c (.int .i64 2)), none⟩]) .ret) .skip)) (.seq (.seq (.reg [⟨some 28, .ld 2 true (.t 2), none⟩, ⟨some 29, .ld 16 true (.t 3), none⟩, ⟨some 30, .call 56 [.t 28, .t 29], none⟩, ⟨some 6, .mv (.t 30), none⟩]) (.seq (.reg [⟨some 31, .mv (.t 6), none⟩, ⟨some 32, .bin .neq (.t 31) (.c (.int .i64 0)), none⟩]) (.cond (.t 32) (.seq (.reg [⟨some 33, .bld [.int .i64 0, .slice none 0 0] [], none⟩, ⟨some 34, .mv (.t 6), none⟩, ⟨none, .st 2 (.t 4) (.t 33), none⟩, ⟨some 5, .mv (.t 34), none⟩]) .ret) .skip))) (.seq (.reg [⟨some 35, .fa 1 (.t 3), none⟩, ⟨some 36, .ld 1 false (.t 35), none⟩, ⟨some 37, .bld [.int .i64 0, .slice none 0 0] [(0, 1, .t 36)], none⟩, ⟨some 7, .alloc [.int .i64 0, .slice none 0 0], none⟩, ⟨none, .st 2 (.t 7) (.t 37), none⟩]) (.seq (.seq (.reg [⟨some 38, .fa 0 (.t 3), none⟩, ⟨some 39, .ld 1 false (.t 38), none⟩]) (.block 0 (.seq (.reg [⟨some 98, .bin .eql (.t 39) (.c (.int .i64 9)), none⟩, ⟨some 97, .mv (.t 98), none⟩]) (.cond (.t 97) (.reg [⟨some 99, .fa 15 (.t 3), none⟩, ⟨some 100, .ld 1 false (.t 99), none⟩, ⟨some 101, .app 5 40 (.c (.slice none 0 0)) (.t 100), none⟩, ⟨some 102, .fa 1 (.t 7), none⟩, ⟨none, .st 1 (.t 102) (.t 101), none⟩]) (.seq (.reg [⟨some 104, .bin .eql (.t 39) (.c (.int .i64 1)), none⟩, ⟨some 103, .mv (.t 104), none⟩]) (.cond (.t 103) (.draw [⟨some 105, .fa 1 (.t 2), none⟩, ⟨some 106, .ld 1 false (.t 105), none⟩, ⟨some 107, .ld 2 true (.t 2), none⟩, ⟨some 108, .fa 1 (.t 3), none⟩, ⟨some 109, .ld 1 false (.t 108), none⟩, ⟨some 110, .call 21 [.t 107, .t 109], none⟩, ⟨some 111, .ia 2 (.t 106) (.t 110), none⟩, ⟨some 112, .fa 1 (.t 111), none⟩, ⟨some 113, .ld 1 false (.t 112), none⟩, ⟨some 114, .fa 3 (.t 3), none⟩, ⟨some 115, .ld 1 false (.t 114), none⟩, ⟨some 116, .fa 7 (.t 3), none⟩, ⟨some 117, .ld 5 true (.t 116), none⟩, ⟨some 118, .call 57 [.t 113, .t 115, .t 117], none⟩, ⟨some 119, .fa 1 (.t 7), none⟩, ⟨none, .st 1 (.t 119) (.t 118), none⟩] [0, 1, 0, 0, 8, 28, 63, 127, 255, 0, 512, 0, 2048, 8191, 16383, 32767]) (.seq (.reg [⟨some 121, .bin .eql (.t 39) (.c (.int .i64 10)), none⟩, ⟨some 120, .mv (.t 121), none⟩]) (.cond (.t 120) (.reg [⟨some 122, .fa 1 (.t 7), none⟩, ⟨none, .st 1 (.t 122) (.c (.slice none 0 0)), none⟩]) (.seq (.draw [⟨some 40, .fa 1 (.t 2), none⟩, ⟨some 41, .ld 1 false (.t 40), none⟩, ⟨some 42, .ld 2 true (.t 2), none⟩, ⟨some 43, .fa 1 (.t 3), none⟩, ⟨some 44, .ld 1 false (.t 43), none⟩, ⟨some 45, .call 21 [.t 42, .t 44], none⟩, ⟨some 46, .ia 2 (.t 41) (.t 45), none⟩, ⟨some 47, .fa 1 (.t 46), none⟩, ⟨some 48, .ld 1 false (.t 47), none⟩, ⟨some 8, .mv (.t 48), none⟩] [0, 1, 0, 0, 8, 28, 63, 127, 255, 511]) (.seq (.reg [⟨some 49, .mv (.t 8), none⟩, ⟨some 50, .bld [.int .i64 0, .slice none 0 0] [(1, 1, .t 49)], none⟩, ⟨some 51, .fa 2 (.t 3), none⟩, ⟨some 52, .ld 1 false (.t 51), none⟩, ⟨some 53, .call 58 [.t 50, .t 52], none⟩, ⟨some 9, .mv (.t 53), none⟩]) (.seq (.draw [⟨some 55, .mv (.t 8), none⟩, ⟨some 56, .mv (.t 9), none⟩, ⟨some 57, .ia 5 (.t 55) (.t 56), none⟩, ⟨some 58, .ld 5 true (.t 57), none⟩, ⟨some 59, .ld 16 true (.t 3), none⟩, ⟨some 60, .call 59 [.t 58, .t 59], none⟩, ⟨some 54, .mv (.t 60), none⟩, ⟨some 61, .ext 0 (.t 54), none⟩, ⟨some 62, .ext 1 (.t 54), none⟩, ⟨some 10, .mv (.t 61), none⟩, ⟨some 11, .mv (.t 62), none⟩] [0, 0, 3, 7, 0, 31, 63, 127, 127, 255, 1023]) (.seq (.seq (.reg [⟨some 63, .mv (.t 11), none⟩, ⟨some 64, .not (.t 63), none⟩]) (.cond (.t 64) (.seq (.reg [⟨some 65, .bld [.int .i64 0, .slice none 0 0] [], none⟩, ⟨none, .st 2 (.t 4) (.t 65), none⟩, ⟨some 5, .mv (.c (.int .i64 17)), none⟩]) .ret) .skip)) (.seq (.reg [⟨some 66, .mv (.t 8), none⟩, ⟨some 67, .mv (.t 9), none⟩, ⟨some 68, .call 60 [.t 66, .t 67], none⟩, ⟨some 69, .fa 1 (.t 7), none⟩, ⟨none, .st 1 (.t 69) (.t 68), none⟩]) (.seq (.seq (.reg [⟨some 70, .fa 0 (.t 3), none⟩, ⟨some 71, .ld 1 false (.t 70), none⟩, ⟨some 72, .bin .eql (.t 71) (.c (.int .i64 7)), none⟩]) (.cond (.t 72) (.reg [⟨some 73, .fa 3 (.t 3), none⟩, ⟨some 74, .ld 1 false (.t 73), none⟩, ⟨some 9, .mv (.t 74), none⟩]) .skip)) (.seq (.seq (.reg [⟨some 12, .mv (.c (.int .i64 0)), none⟩]) (.block 1 (.loop (.seq (.seq (.reg [⟨some 75, .mv (.t 12), none⟩, ⟨some 76, .mv (.t 10), none⟩, ⟨some 77, .len (.t 76), none⟩, ⟨some 78, .bin .lss (.t 75) (.t 77), none⟩]) (.cond (.t 78) .skip (.exit 1))) (.seq (.block 2 (.draw [⟨some 81, .fa 1 (.t 7), none⟩, ⟨some 82, .ld 1 false (.t 81), none⟩, ⟨some 83, .mv (.t 9), none⟩, ⟨some 84, .mv (.t 12), none⟩, ⟨some 85, .bin .add (.t 83) (.t 84), none⟩, ⟨some 86, .mv (.t 10), none⟩, ⟨some 87, .mv (.t 12), none⟩, ⟨some 88, .ia 5 (.t 86) (.t 87), none⟩, ⟨some 89, .ld 5 true (.t 88), none⟩, ⟨some 90, .call 57 [.t 82, .t 85, .t 89], none⟩, ⟨some 91, .fa 1 (.t 7), none⟩, ⟨none, .st 1 (.t 91) (.t 90), none⟩] [0, 1, 0, 0, 12, 0, 0, 96, 224, 511, 1023, 2047])) (.reg [⟨some 79, .mv (.t 12), none⟩, ⟨some 80, .bin .add (.t 79) (.c (.int .i64 1)), none⟩, ⟨some 12, .mv (.t 80), none⟩])))))) (.seq (.reg [⟨some 92, .fa 1 (.t 7), none⟩, ⟨some 93, .ld 1 false (.t 92), none⟩, ⟨some 94, .len (.t 93), none⟩, ⟨some 95, .bin .eql (.t 94) (.c (.int .i64 0)), none⟩]) (.cond (.t 95) (.seq (.reg [⟨some 96, .bld [.int .i64 0, .slice none 0 0] [], none⟩, ⟨none, .st 2 (.t 4) (.t 96), none⟩, ⟨some 5, .mv (.c (.int .i64 7)), none⟩]) .ret) .skip))))))))))))))))) (.seq (.reg [⟨some 123, .ld 2 true (.t 2), none⟩, ⟨some 124, .ld 2 true (.t 7), none⟩, ⟨some 125, .call 61 [.t 123, .t 124], none⟩, ⟨some 13, .alloc [.int .i64 0, .slice none 0 0], none⟩, ⟨none, .st 2 (.t 13) (.t 125), none⟩]) (.seq (.seq (.reg [⟨some 126, .ld 2 true (.t 13), none⟩, ⟨some 127, .call 20 [.t 126], none⟩, ⟨some 128, .not (.t 127), none⟩]) (.cond (.t 128) (.seq (.reg [⟨some 129, .bld [.int .i64 0, .slice none 0 0] [], none⟩, ⟨none, .st 2 (.t 4) (.t 129), none⟩, ⟨some 5, .mv (.c (.int .i64 7)), none⟩]) .ret) .skip)) (.seq (.reg [⟨some 130, .ld 2 true (.t 13), none⟩, ⟨none, .st 2 (.t 4) (.t 130), none⟩, ⟨some 5, .mv (.c (.int .i64 0)), none⟩]) .ret)))))))
def res : List RItem := [.cell 4 2 true, .t 5]
theorem ok : Option.bind Try.f15.body (cCode P Try.f15.ntmps) = some code := by kernel_rfl
theorem rok : cRes P Try.f15.results.toList = some res := by kernel_rfl
theorem intro {args : List AV} {T T2 : Tab} {r : AV} (ha : (Nat.ble args.length nt && Nat.ble T.length 4) = true) (h : Run P nt [.code code] (argEnv 0 args) T (RetQ res T T2 r)) : AC P id args T r T2 :=
  AC.introB Try.func15 ok rfl rok ha h
end R16_On
namespace R13_Same
/-- instar/instarref13.Same -/
abbrev id : FuncId := 16
abbrev nt : Nat := 39
def code : ACode := .seq (.reg [⟨some 2, .box (.t 0), none⟩, ⟨some 3, .box (.t 1), none⟩, ⟨some 4, .mv (.c (.bool false)), none⟩]) (.seq (.seq (.reg [⟨some 6, .fa 0 (.t 2), none⟩, ⟨some 7, .ld 1 false (.t 6), none⟩, ⟨some 8, .fa 0 (.t 3), none⟩, ⟨some 9, .ld 1 false (.t 8), none⟩, ⟨some 10, .bin .neq (.t 7) (.t 9), none⟩, ⟨some 11, .mv (.t 10), none⟩, ⟨some 12, .fa 1 (.t 2), some (11, false)⟩, ⟨some 13, .ld 1 false (.t 12), some (11, false)⟩, ⟨some 14, .len (.t 13), some (11, false)⟩, ⟨some 15, .fa 1 (.t 3), some (11, false)⟩, ⟨some 16, .ld 1 false (.t 15), some (11, false)⟩, ⟨some 17, .len (.t 16), some (11, false)⟩, ⟨some 18, .bin .neq (.t 14) (.t 17), some (11, false)⟩, ⟨some 19, .pick (.t 11) (.c (.bool true)) (.t 18), none⟩]) (.cond (.t 19) (.seq (.reg [⟨some 4, .mv (.c (.bool false)), none⟩]) .ret) .skip)) (.seq (.seq (.reg [⟨some 5, .mv (.c (.int .i64 0)), none⟩]) (.block 0 (.loop (.seq (.seq (.reg [⟨some 20, .mv (.t 5), none⟩, ⟨some 21, .fa 1 (.t 2), none⟩, ⟨some 22, .ld 1 false (.t 21), none⟩, ⟨some 23, .len (.t 22), none⟩, ⟨some 24, .bin .lss (.t 20) (.t 23), none⟩]) (.cond (.t 24) .skip (.exit 0))) (.seq (.block 1 (.seq (.draw [⟨some 27, .fa 1 (.t 2), none⟩, ⟨some 28, .ld 1 false (.t 27), none⟩, ⟨some 29, .mv (.t 5), none⟩, ⟨some 30, .ia 2 (.t 28) (.t 29), none⟩, ⟨some 31, .ld 2 true (.t 30), none⟩, ⟨some 32, .fa 1 (.t 3), none⟩, ⟨some 33, .ld 1 false (.t 32), none⟩, ⟨some 34, .mv (.t 5), none⟩, ⟨some 35, .ia 2 (.t 33) (.t 34), none⟩, ⟨some 36, .ld 2 true (.t 35), none⟩, ⟨some 37, .call 22 [.t 31, .t 36], none⟩, ⟨some 38, .not (.t 37), none⟩] [0, 1, 0, 7, 15, 0, 32, 0, 224, 480, 1023, 2047]) (.cond (.t 38) (.seq (.reg [⟨some 4, .mv (.c (.bool false)), none⟩]) .ret) .skip))) (.reg [⟨some 25, .mv (.t 5), none⟩, ⟨some 26, .bin .add (.t 25) (.c (.int .i64 1)), none⟩, ⟨some 5, .mv (.t 26), none⟩])))))) (.seq (.reg [⟨some 4, .mv (.c (.bool true)), none⟩]) .ret)))
def res : List RItem := [.t 4]
theorem ok : Option.bind Try.f16.body (cCode P Try.f16.ntmps) = some code := by kernel_rfl
theorem rok : cRes P Try.f16.results.toList = some res := by kernel_rfl
theorem intro {args : List AV} {T T2 : Tab} {r : AV} (ha : (Nat.ble args.length nt && Nat.ble T.length 4) = true) (h : Run P nt [.code code] (argEnv 0 args) T (RetQ res T T2 r)) : AC P id args T r T2 :=
  AC.introB Try.func16 ok rfl rok ha h
end R13_Same
namespace typing_All
/-- instar/typing.All -/
abbrev id : FuncId := 17
abbrev nt : Nat := 35
def code : ACode := .seq (.reg [⟨some 2, .box (.t 0), none⟩, ⟨some 4, .alloc [.int .i64 0, .slice none 0 0], none⟩, ⟨some 5, .mv (.c (.int .i64 0)), none⟩, ⟨some 6, .mv (.c (.int .i64 0)), none⟩]) (.seq (.reg [⟨some 12, .ld 2 true (.t 2), none⟩, ⟨some 13, .call 50 [.t 12], none⟩, ⟨some 7, .alloc [.int .i64 0, .slice none 0 0], none⟩, ⟨none, .st 2 (.t 7) (.t 13), none⟩]) (.seq (.seq (.reg [⟨some 14, .mv (.t 1), none⟩, ⟨some 15, .len (.t 14), none⟩, ⟨some 16, .mv (.c (.int .i64 0)), none⟩]) (.block 0 (.loop (.seq (.reg [⟨some 17, .bin .lss (.t 16) (.t 15), none⟩]) (.seq (.cond (.t 17) .skip (.exit 0)) (.seq (.block 1 (.seq (.reg [⟨some 18, .mv (.t 16), none⟩, ⟨some 19, .ia 16 (.t 14) (.t 16), none⟩, ⟨some 20, .ld 16 true (.t 19), none⟩, ⟨some 9, .alloc [.int .i64 0, .int .i64 0, .int .i64 0, .int .i64 0, .int .i64 0, .int .i64 0, .int .i64 0, .int .i64 0, .int .i64 0, .int .i64 0, .int .i64 0, .int .i64 0, .int .i64 0, .string { data := { toList := [] } }, .slice none 0 0, .slice none 0 0], none⟩, ⟨some 8, .mv (.t 18), none⟩, ⟨none, .st 16 (.t 9) (.t 20), none⟩]) (.seq (.reg [⟨some 22, .ld 2 true (.t 7), none⟩, ⟨some 23, .ld 16 true (.t 9), none⟩, ⟨some 24, .call 14 [.t 22, .t 23], none⟩, ⟨some 21, .mv (.t 24), none⟩, ⟨some 25, .ext 0 (.t 21), none⟩, ⟨some 26, .ext 1 (.t 21), none⟩, ⟨some 10, .alloc [.int .i64 0, .slice none 0 0], none⟩, ⟨none, .st 2 (.t 10) (.t 25), none⟩, ⟨some 11, .mv (.t 26), none⟩]) (.seq (.seq (.reg [⟨some 27, .mv (.t 11), none⟩, ⟨some 28, .bin .neq (.t 27) (.c (.int .i64 0)), none⟩]) (.cond (.t 28) (.seq (.reg [⟨some 29, .bld [.int .i64 0, .slice none 0 0] [], none⟩, ⟨some 30, .mv (.t 8), none⟩, ⟨some 31, .mv (.t 11), none⟩, ⟨none, .st 2 (.t 4) (.t 29), none⟩, ⟨some 5, .mv (.t 30), none⟩, ⟨some 6, .mv (.t 31), none⟩]) .ret) .skip)) (.reg [⟨some 32, .ld 2 true (.t 10), none⟩, ⟨none, .st 2 (.t 7) (.t 32), none⟩]))))) (.reg [⟨some 33, .bin .add (.t 16) (.c (.int .i64 1)), none⟩, ⟨some 16, .mv (.t 33), none⟩]))))))) (.seq (.reg [⟨some 34, .ld 2 true (.t 7), none⟩, ⟨none, .st 2 (.t 4) (.t 34), none⟩, ⟨some 5, .mv (.c (.int .i64 0)), none⟩, ⟨some 6, .mv (.c (.int .i64 0)), none⟩]) .ret)))
def res : List RItem := [.cell 4 2 true, .t 5, .t 6]
theorem ok : Option.bind Try.f17.body (cCode P Try.f17.ntmps) = some code := by kernel_rfl
theorem rok : cRes P Try.f17.results.toList = some res := by kernel_rfl
theorem intro {args : List AV} {T T2 : Tab} {r : AV} (ha : (Nat.ble args.length nt && Nat.ble T.length 4) = true) (h : Run P nt [.code code] (argEnv 0 args) T (RetQ res T T2 r)) : AC P id args T r T2 :=
  AC.introB Try.func17 ok rfl rok ha h
end typing_All
namespace R16_All
/-- instar/instarref16.All -/
abbrev id : FuncId := 18
abbrev nt : Nat := 32
def code : ACode := .seq (.reg [⟨some 2, .box (.t 0), none⟩, ⟨some 4, .alloc [.int .i64 0, .slice none 0 0], none⟩, ⟨some 5, .mv (.c (.int .i64 0)), none⟩, ⟨some 6, .mv (.c (.int .i64 0)), none⟩]) (.seq (.seq (.reg [⟨some 7, .mv (.c (.int .i64 0)), none⟩]) (.block 0 (.loop (.seq (.seq (.reg [⟨some 10, .mv (.t 7), none⟩, ⟨some 11, .mv (.t 1), none⟩, ⟨some 12, .len (.t 11), none⟩, ⟨some 13, .bin .lss (.t 10) (.t 12), none⟩]) (.cond (.t 13) .skip (.exit 0))) (.seq (.block 1 (.seq (.draw [⟨some 17, .ld 2 true (.t 2), none⟩, ⟨some 18, .mv (.t 1), none⟩, ⟨some 19, .mv (.t 7), none⟩, ⟨some 20, .ia 16 (.t 18) (.t 19), none⟩, ⟨some 21, .ld 16 true (.t 20), none⟩, ⟨some 22, .call 15 [.t 17, .t 21], none⟩, ⟨some 16, .mv (.t 22), none⟩, ⟨some 23, .ext 0 (.t 16), none⟩, ⟨some 24, .ext 1 (.t 16), none⟩, ⟨some 8, .alloc [.int .i64 0, .slice none 0 0], none⟩, ⟨none, .st 2 (.t 8) (.t 23), none⟩, ⟨some 9, .mv (.t 24), none⟩] [0, 0, 0, 6, 14, 31, 63, 127, 127, 0, 767, 2047]) (.seq (.seq (.reg [⟨some 25, .mv (.t 9), none⟩, ⟨some 26, .bin .neq (.t 25) (.c (.int .i64 0)), none⟩]) (.cond (.t 26) (.seq (.reg [⟨some 27, .bld [.int .i64 0, .slice none 0 0] [], none⟩, ⟨some 28, .mv (.t 7), none⟩, ⟨some 29, .mv (.t 9), none⟩, ⟨none, .st 2 (.t 4) (.t 27), none⟩, ⟨some 5, .mv (.t 28), none⟩, ⟨some 6, .mv (.t 29), none⟩]) .ret) .skip)) (.reg [⟨some 30, .ld 2 true (.t 8), none⟩, ⟨none, .st 2 (.t 2) (.t 30), none⟩])))) (.reg [⟨some 14, .mv (.t 7), none⟩, ⟨some 15, .bin .add (.t 14) (.c (.int .i64 1)), none⟩, ⟨some 7, .mv (.t 15), none⟩])))))) (.seq (.reg [⟨some 31, .ld 2 true (.t 2), none⟩, ⟨none, .st 2 (.t 4) (.t 31), none⟩, ⟨some 5, .mv (.c (.int .i64 0)), none⟩, ⟨some 6, .mv (.c (.int .i64 0)), none⟩]) .ret))
def res : List RItem := [.cell 4 2 true, .t 5, .t 6]
theorem ok : Option.bind Try.f18.body (cCode P Try.f18.ntmps) = some code := by kernel_rfl
theorem rok : cRes P Try.f18.results.toList = some res := by kernel_rfl
theorem intro {args : List AV} {T T2 : Tab} {r : AV} (ha : (Nat.ble args.length nt && Nat.ble T.length 4) = true) (h : Run P nt [.code code] (argEnv 0 args) T (RetQ res T T2 r)) : AC P id args T r T2 :=
  AC.introB Try.func18 ok rfl rok ha h
end R16_All
namespace schema_Print
/-- instar/schema.Print -/
abbrev id : FuncId := 19
abbrev nt : Nat := 54
def code : ACode := .seq (.reg [⟨some 1, .box (.t 0), none⟩, ⟨some 2, .mv (.c (.slice none 0 0)), none⟩, ⟨some 3, .mv (.c (.int .i64 0)), none⟩]) (.seq (.seq (.reg [⟨some 9, .ld 2 true (.t 1), none⟩, ⟨some 10, .call 48 [.t 9], none⟩, ⟨some 11, .not (.t 10), none⟩]) (.cond (.t 11) (.seq (.reg [⟨some 2, .mv (.c (.slice none 0 0)), none⟩, ⟨some 3, .mv (.c (.int .i64 2)), none⟩]) .ret) .skip)) (.seq (.reg [⟨some 12, .call 62 [], none⟩, ⟨some 4, .mv (.t 12), none⟩]) (.seq (.reg [⟨some 13, .mv (.t 4), none⟩, ⟨some 14, .fa 0 (.t 1), none⟩, ⟨some 15, .ld 1 false (.t 14), none⟩, ⟨some 16, .call 63 [.t 13, .t 15], none⟩]) (.seq (.reg [⟨some 17, .mv (.t 4), none⟩, ⟨some 18, .fa 1 (.t 1), none⟩, ⟨some 19, .ld 1 false (.t 18), none⟩, ⟨some 20, .len (.t 19), none⟩, ⟨some 21, .call 63 [.t 17, .t 20], none⟩]) (.seq (.seq (.reg [⟨some 22, .fa 1 (.t 1), none⟩, ⟨some 23, .ld 1 false (.t 22), none⟩, ⟨some 24, .len (.t 23), none⟩, ⟨some 25, .mv (.c (.int .i64 0)), none⟩]) (.block 0 (.loop (.seq (.reg [⟨some 26, .bin .lss (.t 25) (.t 24), none⟩]) (.seq (.cond (.t 26) .skip (.exit 0)) (.seq (.block 1 (.seq (.reg [⟨some 27, .ia 2 (.t 23) (.t 25), none⟩, ⟨some 28, .ld 2 true (.t 27), none⟩, ⟨some 6, .alloc [.int .i64 0, .slice none 0 0], none⟩, ⟨none, .st 2 (.t 6) (.t 28), none⟩]) (.seq (.reg [⟨some 29, .mv (.t 4), none⟩, ⟨some 30, .fa 0 (.t 6), none⟩, ⟨some 31, .ld 1 false (.t 30), none⟩, ⟨some 32, .call 63 [.t 29, .t 31], none⟩]) (.seq (.reg [⟨some 33, .mv (.t 4), none⟩, ⟨some 34, .fa 1 (.t 6), none⟩, ⟨some 35, .ld 1 false (.t 34), none⟩, ⟨some 36, .len (.t 35), none⟩, ⟨some 37, .call 63 [.t 33, .t 36], none⟩]) (.seq (.reg [⟨some 38, .fa 1 (.t 6), none⟩, ⟨some 39, .ld 1 false (.t 38), none⟩, ⟨some 40, .len (.t 39), none⟩, ⟨some 41, .mv (.c (.int .i64 0)), none⟩]) (.block 2 (.loop (.seq (.reg [⟨some 42, .bin .lss (.t 41) (.t 40), none⟩]) (.seq (.cond (.t 42) .skip (.exit 2)) (.seq (.block 3 (.seq (.reg [⟨some 43, .ia 5 (.t 39) (.t 41), none⟩, ⟨some 44, .ld 5 true (.t 43), none⟩, ⟨some 8, .alloc [.int .i64 0, .int .i64 0, .int .i64 0, .int .i64 0, .int .i64 0], none⟩, ⟨none, .st 5 (.t 8) (.t 44), none⟩]) (.reg [⟨some 45, .mv (.t 4), none⟩, ⟨some 46, .ld 5 true (.t 8), none⟩, ⟨some 47, .call 64 [.t 45, .t 46], none⟩]))) (.reg [⟨some 48, .bin .add (.t 41) (.c (.int .i64 1)), none⟩, ⟨some 41, .mv (.t 48), none⟩]))))))))))) (.reg [⟨some 49, .bin .add (.t 25) (.c (.int .i64 1)), none⟩, ⟨some 25, .mv (.t 49), none⟩]))))))) (.seq (.reg [⟨some 50, .mv (.t 4), none⟩, ⟨some 51, .call 65 [.t 50], none⟩, ⟨some 52, .ext 0 (.t 51), none⟩, ⟨some 53, .ext 1 (.t 51), none⟩, ⟨some 2, .mv (.t 52), none⟩, ⟨some 3, .mv (.t 53), none⟩]) .ret))))))
def res : List RItem := [.t 2, .t 3]
theorem ok : Option.bind Try.f19.body (cCode P Try.f19.ntmps) = some code := by kernel_rfl
theorem rok : cRes P Try.f19.results.toList = some res := by kernel_rfl
theorem intro {args : List AV} {T T2 : Tab} {r : AV} (ha : (Nat.ble args.length nt && Nat.ble T.length 4) = true) (h : Run P nt [.code code] (argEnv 0 args) T (RetQ res T T2 r)) : AC P id args T r T2 :=
  AC.introB Try.func19 ok rfl rok ha h
end schema_Print
namespace R13_Right
/-- instar/instarref13.Right -/
abbrev id : FuncId := 20
abbrev nt : Nat := 52
def code : ACode := .seq (.reg [⟨some 1, .box (.t 0), none⟩, ⟨some 2, .mv (.c (.bool false)), none⟩]) (.seq (.seq (.reg [⟨some 4, .fa 0 (.t 1), none⟩, ⟨some 5, .ld 1 false (.t 4), none⟩, ⟨some 6, .bin .lss (.t 5) (.c (.int .i64 1)), none⟩, ⟨some 7, .mv (.t 6), none⟩, ⟨some 8, .fa 0 (.t 1), some (7, false)⟩, ⟨some 9, .ld 1 false (.t 8), some (7, false)⟩, ⟨some 10, .bin .gtr (.t 9) (.c (.int .i64 65535)), some (7, false)⟩, ⟨some 11, .pick (.t 7) (.c (.bool true)) (.t 10), none⟩, ⟨some 12, .mv (.t 11), none⟩, ⟨some 13, .fa 1 (.t 1), some (12, false)⟩, ⟨some 14, .ld 1 false (.t 13), some (12, false)⟩, ⟨some 15, .len (.t 14), some (12, false)⟩, ⟨some 16, .bin .gtr (.t 15) (.c (.int .i64 8)), some (12, false)⟩, ⟨some 17, .pick (.t 12) (.c (.bool true)) (.t 16), none⟩]) (.cond (.t 17) (.seq (.reg [⟨some 2, .mv (.c (.bool false)), none⟩]) .ret) .skip)) (.seq (.seq (.reg [⟨some 3, .mv (.c (.int .i64 0)), none⟩]) (.block 0 (.loop (.seq (.seq (.reg [⟨some 18, .mv (.t 3), none⟩, ⟨some 19, .fa 1 (.t 1), none⟩, ⟨some 20, .ld 1 false (.t 19), none⟩, ⟨some 21, .len (.t 20), none⟩, ⟨some 22, .bin .lss (.t 18) (.t 21), none⟩]) (.cond (.t 22) .skip (.exit 0))) (.seq (.block 1 (.seq (.draw [⟨some 25, .fa 1 (.t 1), none⟩, ⟨some 26, .ld 1 false (.t 25), none⟩, ⟨some 27, .mv (.t 3), none⟩, ⟨some 28, .ia 2 (.t 26) (.t 27), none⟩, ⟨some 29, .ld 2 true (.t 28), none⟩, ⟨some 30, .call 66 [.t 29], none⟩, ⟨some 31, .not (.t 30), none⟩, ⟨some 32, .mv (.t 31), none⟩, ⟨some 33, .mv (.t 3), some (32, false)⟩, ⟨some 34, .bin .gtr (.t 33) (.c (.int .i64 0)), some (32, false)⟩, ⟨some 35, .mv (.t 34), some (32, false)⟩, ⟨some 36, .fa 1 (.t 1), some (35, true)⟩, ⟨some 37, .ld 1 false (.t 36), some (35, true)⟩, ⟨some 38, .mv (.t 3), some (35, true)⟩, ⟨some 39, .bin .sub (.t 38) (.c (.int .i64 1)), some (35, true)⟩, ⟨some 40, .ia 2 (.t 37) (.t 39), some (35, true)⟩, ⟨some 41, .fa 0 (.t 40), some (35, true)⟩, ⟨some 42, .ld 1 false (.t 41), some (35, true)⟩, ⟨some 43, .fa 1 (.t 1), some (35, true)⟩, ⟨some 44, .ld 1 false (.t 43), some (35, true)⟩, ⟨some 45, .mv (.t 3), some (35, true)⟩, ⟨some 46, .ia 2 (.t 44) (.t 45), some (35, true)⟩, ⟨some 47, .fa 0 (.t 46), some (35, true)⟩, ⟨some 48, .ld 1 false (.t 47), some (35, true)⟩, ⟨some 49, .bin .geq (.t 42) (.t 48), some (35, true)⟩, ⟨some 50, .pick (.t 35) (.t 49) (.c (.bool false)), some (32, false)⟩, ⟨some 51, .pick (.t 32) (.c (.bool true)) (.t 50), none⟩] [0, 1, 0, 7, 15, 31, 63, 127, 255, 511, 1023, 2047, 4095, 2047, 10239, 32767, 65535, 131071, 2047, 264191, 2047, 1837055, 3934207, 8128511, 16777215, 33554431, 67108863]) (.cond (.t 51) (.seq (.reg [⟨some 2, .mv (.c (.bool false)), none⟩]) .ret) .skip))) (.reg [⟨some 23, .mv (.t 3), none⟩, ⟨some 24, .bin .add (.t 23) (.c (.int .i64 1)), none⟩, ⟨some 3, .mv (.t 24), none⟩])))))) (.seq (.reg [⟨some 2, .mv (.c (.bool true)), none⟩]) .ret)))
def res : List RItem := [.t 2]
theorem ok : Option.bind Try.f20.body (cCode P Try.f20.ntmps) = some code := by kernel_rfl
theorem rok : cRes P Try.f20.results.toList = some res := by kernel_rfl
theorem intro {args : List AV} {T T2 : Tab} {r : AV} (ha : (Nat.ble args.length nt && Nat.ble T.length 4) = true) (h : Run P nt [.code code] (argEnv 0 args) T (RetQ res T T2 r)) : AC P id args T r T2 :=
  AC.introB Try.func20 ok rfl rok ha h
end R13_Right
namespace R13_Find
/-- instar/instarref13.Find -/
abbrev id : FuncId := 21
abbrev nt : Nat := 22
def code : ACode := .seq (.reg [⟨some 2, .box (.t 0), none⟩, ⟨some 4, .mv (.c (.int .i64 0)), none⟩]) (.seq (.seq (.reg [⟨some 5, .mv (.c (.int .i64 0)), none⟩]) (.block 0 (.loop (.seq (.seq (.reg [⟨some 6, .mv (.t 5), none⟩, ⟨some 7, .fa 1 (.t 2), none⟩, ⟨some 8, .ld 1 false (.t 7), none⟩, ⟨some 9, .len (.t 8), none⟩, ⟨some 10, .bin .lss (.t 6) (.t 9), none⟩]) (.cond (.t 10) .skip (.exit 0))) (.seq (.block 1 (.seq (.reg [⟨some 13, .fa 1 (.t 2), none⟩, ⟨some 14, .ld 1 false (.t 13), none⟩, ⟨some 15, .mv (.t 5), none⟩, ⟨some 16, .ia 2 (.t 14) (.t 15), none⟩, ⟨some 17, .fa 0 (.t 16), none⟩, ⟨some 18, .ld 1 false (.t 17), none⟩, ⟨some 19, .mv (.t 1), none⟩, ⟨some 20, .bin .eql (.t 18) (.t 19), none⟩]) (.cond (.t 20) (.seq (.reg [⟨some 21, .mv (.t 5), none⟩, ⟨some 4, .mv (.t 21), none⟩]) .ret) .skip))) (.reg [⟨some 11, .mv (.t 5), none⟩, ⟨some 12, .bin .add (.t 11) (.c (.int .i64 1)), none⟩, ⟨some 5, .mv (.t 12), none⟩])))))) (.seq (.reg [⟨some 4, .mv (.c (.int .i64 (-1))), none⟩]) .ret))
def res : List RItem := [.t 4]
theorem ok : Option.bind Try.f21.body (cCode P Try.f21.ntmps) = some code := by kernel_rfl
theorem rok : cRes P Try.f21.results.toList = some res := by kernel_rfl
theorem intro {args : List AV} {T T2 : Tab} {r : AV} (ha : (Nat.ble args.length nt && Nat.ble T.length 4) = true) (h : Run P nt [.code code] (argEnv 0 args) T (RetQ res T T2 r)) : AC P id args T r T2 :=
  AC.introB Try.func21 ok rfl rok ha h
end R13_Find
namespace R13_SameForm
/-- instar/instarref13.SameForm -/
abbrev id : FuncId := 22
abbrev nt : Nat := 38
def code : ACode := .seq (.reg [⟨some 2, .box (.t 0), none⟩, ⟨some 3, .box (.t 1), none⟩, ⟨some 4, .mv (.c (.bool false)), none⟩]) (.seq (.seq (.reg [⟨some 6, .fa 0 (.t 2), none⟩, ⟨some 7, .ld 1 false (.t 6), none⟩, ⟨some 8, .fa 0 (.t 3), none⟩, ⟨some 9, .ld 1 false (.t 8), none⟩, ⟨some 10, .bin .neq (.t 7) (.t 9), none⟩, ⟨some 11, .mv (.t 10), none⟩, ⟨some 12, .fa 1 (.t 2), some (11, false)⟩, ⟨some 13, .ld 1 false (.t 12), some (11, false)⟩, ⟨some 14, .len (.t 13), some (11, false)⟩, ⟨some 15, .fa 1 (.t 3), some (11, false)⟩, ⟨some 16, .ld 1 false (.t 15), some (11, false)⟩, ⟨some 17, .len (.t 16), some (11, false)⟩, ⟨some 18, .bin .neq (.t 14) (.t 17), some (11, false)⟩, ⟨some 19, .pick (.t 11) (.c (.bool true)) (.t 18), none⟩]) (.cond (.t 19) (.seq (.reg [⟨some 4, .mv (.c (.bool false)), none⟩]) .ret) .skip)) (.seq (.seq (.reg [⟨some 5, .mv (.c (.int .i64 0)), none⟩]) (.block 0 (.loop (.seq (.seq (.reg [⟨some 20, .mv (.t 5), none⟩, ⟨some 21, .fa 1 (.t 2), none⟩, ⟨some 22, .ld 1 false (.t 21), none⟩, ⟨some 23, .len (.t 22), none⟩, ⟨some 24, .bin .lss (.t 20) (.t 23), none⟩]) (.cond (.t 24) .skip (.exit 0))) (.seq (.block 1 (.seq (.draw [⟨some 27, .fa 1 (.t 2), none⟩, ⟨some 28, .ld 1 false (.t 27), none⟩, ⟨some 29, .mv (.t 5), none⟩, ⟨some 30, .ia 5 (.t 28) (.t 29), none⟩, ⟨some 31, .ld 5 true (.t 30), none⟩, ⟨some 32, .fa 1 (.t 3), none⟩, ⟨some 33, .ld 1 false (.t 32), none⟩, ⟨some 34, .mv (.t 5), none⟩, ⟨some 35, .ia 5 (.t 33) (.t 34), none⟩, ⟨some 36, .ld 5 true (.t 35), none⟩, ⟨some 37, .eqA true 5 [(0, 1), (1, 1), (2, 1), (3, 1), (4, 1)] (.t 31) (.t 36), none⟩] [0, 1, 0, 7, 15, 0, 32, 0, 224, 480, 1023]) (.cond (.t 37) (.seq (.reg [⟨some 4, .mv (.c (.bool false)), none⟩]) .ret) .skip))) (.reg [⟨some 25, .mv (.t 5), none⟩, ⟨some 26, .bin .add (.t 25) (.c (.int .i64 1)), none⟩, ⟨some 5, .mv (.t 26), none⟩])))))) (.seq (.reg [⟨some 4, .mv (.c (.bool true)), none⟩]) .ret)))
def res : List RItem := [.t 4]
theorem ok : Option.bind Try.f22.body (cCode P Try.f22.ntmps) = some code := by kernel_rfl
theorem rok : cRes P Try.f22.results.toList = some res := by kernel_rfl
theorem intro {args : List AV} {T T2 : Tab} {r : AV} (ha : (Nat.ble args.length nt && Nat.ble T.length 4) = true) (h : Run P nt [.code code] (argEnv 0 args) T (RetQ res T T2 r)) : AC P id args T r T2 :=
  AC.introB Try.func22 ok rfl rok ha h
end R13_SameForm
namespace L17_great
/-- instar/instarlaw17.great -/
abbrev id : FuncId := 23
abbrev nt : Nat := 33
def code : ACode := .seq (.reg [⟨some 2, .box (.t 0), none⟩, ⟨some 4, .mv (.c (.bool false)), none⟩]) (.seq (.seq (.reg [⟨some 5, .mv (.c (.int .i64 0)), none⟩]) (.block 0 (.loop (.seq (.seq (.reg [⟨some 6, .mv (.t 5), none⟩, ⟨some 7, .fa 1 (.t 2), none⟩, ⟨some 8, .ld 1 false (.t 7), none⟩, ⟨some 9, .len (.t 8), none⟩, ⟨some 10, .bin .lss (.t 6) (.t 9), none⟩, ⟨some 11, .mv (.t 10), none⟩, ⟨some 12, .mv (.t 5), some (11, true)⟩, ⟨some 13, .bin .lss (.t 12) (.c (.int .i64 41)), some (11, true)⟩, ⟨some 14, .pick (.t 11) (.t 13) (.c (.bool false)), none⟩]) (.cond (.t 14) .skip (.exit 0))) (.seq (.block 1 (.seq (.reg [⟨some 17, .fa 1 (.t 2), none⟩, ⟨some 18, .ld 1 false (.t 17), none⟩, ⟨some 19, .mv (.t 5), none⟩, ⟨some 20, .ia 2 (.t 18) (.t 19), none⟩, ⟨some 21, .fa 1 (.t 20), none⟩, ⟨some 22, .ld 1 false (.t 21), none⟩, ⟨some 23, .len (.t 22), none⟩, ⟨some 24, .bin .gtr (.t 23) (.c (.int .i64 40)), none⟩]) (.cond (.t 24) (.seq (.reg [⟨some 4, .mv (.c (.bool true)), none⟩]) .ret) .skip))) (.reg [⟨some 15, .mv (.t 5), none⟩, ⟨some 16, .bin .add (.t 15) (.c (.int .i64 1)), none⟩, ⟨some 5, .mv (.t 16), none⟩])))))) (.seq (.reg [⟨some 25, .fa 1 (.t 2), none⟩, ⟨some 26, .ld 1 false (.t 25), none⟩, ⟨some 27, .len (.t 26), none⟩, ⟨some 28, .bin .gtr (.t 27) (.c (.int .i64 40)), none⟩, ⟨some 29, .mv (.t 28), none⟩, ⟨some 30, .mv (.t 1), some (29, false)⟩, ⟨some 31, .call 24 [.t 30], some (29, false)⟩, ⟨some 32, .pick (.t 29) (.c (.bool true)) (.t 31), none⟩, ⟨some 4, .mv (.t 32), none⟩]) .ret))
def res : List RItem := [.t 4]
theorem ok : Option.bind Try.f23.body (cCode P Try.f23.ntmps) = some code := by kernel_rfl
theorem rok : cRes P Try.f23.results.toList = some res := by kernel_rfl
theorem intro {args : List AV} {T T2 : Tab} {r : AV} (ha : (Nat.ble args.length nt && Nat.ble T.length 4) = true) (h : Run P nt [.code code] (argEnv 0 args) T (RetQ res T T2 r)) : AC P id args T r T2 :=
  AC.introB Try.func23 ok rfl rok ha h
end L17_great
namespace R15_Great
/-- instar/instarref15.Great -/
abbrev id : FuncId := 24
abbrev nt : Nat := 33
def code : ACode := .seq (.reg [⟨some 2, .mv (.c (.bool false)), none⟩]) (.seq (.seq (.reg [⟨some 3, .mv (.c (.int .i64 0)), none⟩]) (.block 0 (.loop (.seq (.seq (.reg [⟨some 4, .mv (.t 3), none⟩, ⟨some 5, .mv (.t 0), none⟩, ⟨some 6, .len (.t 5), none⟩, ⟨some 7, .bin .lss (.t 4) (.t 6), none⟩, ⟨some 8, .mv (.t 7), none⟩, ⟨some 9, .mv (.t 3), some (8, true)⟩, ⟨some 10, .bin .lss (.t 9) (.c (.int .i64 61)), some (8, true)⟩, ⟨some 11, .pick (.t 8) (.t 10) (.c (.bool false)), none⟩]) (.cond (.t 11) .skip (.exit 0))) (.seq (.block 1 (.seq (.reg [⟨some 14, .mv (.t 0), none⟩, ⟨some 15, .mv (.t 3), none⟩, ⟨some 16, .ia 16 (.t 14) (.t 15), none⟩, ⟨some 17, .fa 14 (.t 16), none⟩, ⟨some 18, .ld 1 false (.t 17), none⟩, ⟨some 19, .len (.t 18), none⟩, ⟨some 20, .bin .gtr (.t 19) (.c (.int .i64 100)), none⟩, ⟨some 21, .mv (.t 20), none⟩, ⟨some 22, .mv (.t 0), some (21, false)⟩, ⟨some 23, .mv (.t 3), some (21, false)⟩, ⟨some 24, .ia 16 (.t 22) (.t 23), some (21, false)⟩, ⟨some 25, .fa 15 (.t 24), some (21, false)⟩, ⟨some 26, .ld 1 false (.t 25), some (21, false)⟩, ⟨some 27, .len (.t 26), some (21, false)⟩, ⟨some 28, .bin .gtr (.t 27) (.c (.int .i64 40)), some (21, false)⟩, ⟨some 29, .pick (.t 21) (.c (.bool true)) (.t 28), none⟩]) (.cond (.t 29) (.seq (.reg [⟨some 2, .mv (.c (.bool true)), none⟩]) .ret) .skip))) (.reg [⟨some 12, .mv (.t 3), none⟩, ⟨some 13, .bin .add (.t 12) (.c (.int .i64 1)), none⟩, ⟨some 3, .mv (.t 13), none⟩])))))) (.seq (.reg [⟨some 30, .mv (.t 0), none⟩, ⟨some 31, .len (.t 30), none⟩, ⟨some 32, .bin .gtr (.t 31) (.c (.int .i64 60)), none⟩, ⟨some 2, .mv (.t 32), none⟩]) .ret))
def res : List RItem := [.t 2]
theorem ok : Option.bind Try.f24.body (cCode P Try.f24.ntmps) = some code := by kernel_rfl
theorem rok : cRes P Try.f24.results.toList = some res := by kernel_rfl
theorem intro {args : List AV} {T T2 : Tab} {r : AV} (ha : (Nat.ble args.length nt && Nat.ble T.length 4) = true) (h : Run P nt [.code code] (argEnv 0 args) T (RetQ res T T2 r)) : AC P id args T r T2 :=
  AC.introB Try.func24 ok rfl rok ha h
end R15_Great
namespace L17_awake
/-- instar/instarlaw17.awake -/
abbrev id : FuncId := 25
abbrev nt : Nat := 32
def code : ACode := .seq (.reg [⟨some 0, .mv (.c (.bool false)), none⟩]) (.seq (.reg [⟨some 4, .bld [.int .i64 0, .int .i64 0, .int .i64 0, .int .i64 0, .int .i64 0] [(0, 1, .c (.int .i64 3)), (1, 1, .c (.int .i64 2))], none⟩, ⟨some 5, .bslF 5 [.t 4], none⟩, ⟨some 6, .bld [.int .i64 0, .slice none 0 0] [(1, 1, .t 5)], none⟩, ⟨some 7, .bslF 2 [.t 6], none⟩, ⟨some 8, .bld [.int .i64 0, .slice none 0 0] [(0, 1, .c (.int .i64 1)), (1, 1, .t 7)], none⟩, ⟨some 1, .alloc [.int .i64 0, .slice none 0 0], none⟩, ⟨none, .st 2 (.t 1) (.t 8), none⟩]) (.seq (.reg [⟨some 10, .ld 2 true (.t 1), none⟩, ⟨some 11, .bld [.int .i64 0, .int .i64 0, .int .i64 0, .int .i64 0, .int .i64 0, .int .i64 0, .int .i64 0, .int .i64 0, .int .i64 0, .int .i64 0, .int .i64 0, .int .i64 0, .int .i64 0, .string { data := { toList := [] } }, .slice none 0 0, .slice none 0 0] [(0, 1, .c (.int .i64 8)), (2, 1, .c (.int .i64 3)), (4, 1, .c (.int .i64 8))], none⟩, ⟨some 12, .call 26 [.t 10, .t 11], none⟩, ⟨some 9, .mv (.t 12), none⟩, ⟨some 13, .ext 0 (.t 9), none⟩, ⟨some 14, .ext 1 (.t 9), none⟩, ⟨some 2, .alloc [.int .i64 0, .int .i64 0, .int .i64 0, .int .i64 0, .int .i64 0, .int .i64 0, .int .i64 0, .int .i64 0, .int .i64 0, .int .i64 0, .int .i64 0, .int .i64 0, .int .i64 0, .string { data := { toList := [] } }, .slice none 0 0, .slice none 0 0], none⟩, ⟨none, .st 16 (.t 2) (.t 13), none⟩, ⟨some 3, .mv (.t 14), none⟩]) (.seq (.reg [⟨some 15, .mv (.t 3), none⟩, ⟨some 16, .bin .eql (.t 15) (.c (.int .i64 0)), none⟩, ⟨some 17, .mv (.t 16), none⟩, ⟨some 18, .fa 0 (.t 2), some (17, true)⟩, ⟨some 19, .ld 1 false (.t 18), some (17, true)⟩, ⟨some 20, .bin .eql (.t 19) (.c (.int .i64 28)), some (17, true)⟩, ⟨some 21, .pick (.t 17) (.t 20) (.c (.bool false)), none⟩, ⟨some 22, .mv (.t 21), none⟩, ⟨some 23, .fa 2 (.t 2), some (22, true)⟩, ⟨some 24, .ld 1 false (.t 23), some (22, true)⟩, ⟨some 25, .bin .eql (.t 24) (.c (.int .i64 8)), some (22, true)⟩, ⟨some 26, .pick (.t 22) (.t 25) (.c (.bool false)), none⟩, ⟨some 27, .mv (.t 26), none⟩, ⟨some 28, .fa 4 (.t 2), some (27, true)⟩, ⟨some 29, .ld 1 false (.t 28), some (27, true)⟩, ⟨some 30, .bin .eql (.t 29) (.c (.int .i64 3)), some (27, true)⟩, ⟨some 31, .pick (.t 27) (.t 30) (.c (.bool false)), none⟩, ⟨some 0, .mv (.t 31), none⟩]) .ret)))
def res : List RItem := [.t 0]
theorem ok : Option.bind Try.f25.body (cCode P Try.f25.ntmps) = some code := by kernel_rfl
theorem rok : cRes P Try.f25.results.toList = some res := by kernel_rfl
theorem intro {args : List AV} {T T2 : Tab} {r : AV} (ha : (Nat.ble args.length nt && Nat.ble T.length 4) = true) (h : Run P nt [.code code] (argEnv 0 args) T (RetQ res T T2 r)) : AC P id args T r T2 :=
  AC.introB Try.func25 ok rfl rok ha h
end L17_awake
namespace pair_Invert
/-- instar/pair.Invert -/
abbrev id : FuncId := 26
abbrev nt : Nat := 111
def code : ACode := .seq (.reg [⟨some 2, .box (.t 0), none⟩, ⟨some 3, .box (.t 1), none⟩, ⟨some 4, .alloc [.int .i64 0, .int .i64 0, .int .i64 0, .int .i64 0, .int .i64 0, .int .i64 0, .int .i64 0, .int .i64 0, .int .i64 0, .int .i64 0, .int .i64 0, .int .i64 0, .int .i64 0, .string { data := { toList := [] } }, .slice none 0 0, .slice none 0 0], none⟩, ⟨some 5, .mv (.c (.int .i64 0)), none⟩]) (.seq (.seq (.reg [⟨some 14, .ld 2 true (.t 2), none⟩, ⟨some 15, .ld 16 true (.t 3), none⟩, ⟨some 16, .call 14 [.t 14, .t 15], none⟩, ⟨some 13, .mv (.t 16), none⟩, ⟨some 17, .ext 0 (.t 13), none⟩, ⟨some 18, .ext 1 (.t 13), none⟩, ⟨some 6, .alloc [.int .i64 0, .slice none 0 0], none⟩, ⟨none, .st 2 (.t 6) (.t 17), none⟩, ⟨some 7, .mv (.t 18), none⟩]) (.seq (.reg [⟨some 19, .mv (.t 7), none⟩, ⟨some 20, .bin .neq (.t 19) (.c (.int .i64 0)), none⟩]) (.cond (.t 20) (.seq (.reg [⟨some 21, .bld [.int .i64 0, .int .i64 0, .int .i64 0, .int .i64 0, .int .i64 0, .int .i64 0, .int .i64 0, .int .i64 0, .int .i64 0, .int .i64 0, .int .i64 0, .int .i64 0, .int .i64 0, .string { data := { toList := [] } }, .slice none 0 0, .slice none 0 0] [], none⟩, ⟨some 22, .mv (.t 7), none⟩, ⟨none, .st 16 (.t 4) (.t 21), none⟩, ⟨some 5, .mv (.t 22), none⟩]) .ret) .skip))) (.seq (.reg [⟨some 24, .ld 2 true (.t 2), none⟩, ⟨some 25, .ld 16 true (.t 3), none⟩, ⟨some 26, .call 67 [.t 24, .t 25], none⟩, ⟨some 23, .mv (.t 26), none⟩, ⟨some 27, .ext 0 (.t 23), none⟩, ⟨some 28, .ext 1 (.t 23), none⟩, ⟨some 8, .alloc [.int .i64 0, .int .i64 0, .int .i64 0, .int .i64 0, .int .i64 0], none⟩, ⟨none, .st 5 (.t 8) (.t 27), none⟩, ⟨some 9, .mv (.t 28), none⟩]) (.seq (.reg [⟨some 29, .fa 0 (.t 3), none⟩, ⟨some 30, .ld 1 false (.t 29), none⟩, ⟨some 31, .bin .add (.t 30) (.c (.int .i64 20)), none⟩, ⟨some 32, .fa 1 (.t 3), none⟩, ⟨some 33, .ld 1 false (.t 32), none⟩, ⟨some 34, .fa 2 (.t 3), none⟩, ⟨some 35, .ld 1 false (.t 34), none⟩, ⟨some 36, .bld [.int .i64 0, .int .i64 0, .int .i64 0, .int .i64 0, .int .i64 0, .int .i64 0, .int .i64 0, .int .i64 0, .int .i64 0, .int .i64 0, .int .i64 0, .int .i64 0, .int .i64 0, .string { data := { toList := [] } }, .slice none 0 0, .slice none 0 0] [(0, 1, .t 31), (1, 1, .t 33), (2, 1, .t 35)], none⟩, ⟨some 10, .alloc [.int .i64 0, .int .i64 0, .int .i64 0, .int .i64 0, .int .i64 0, .int .i64 0, .int .i64 0, .int .i64 0, .int .i64 0, .int .i64 0, .int .i64 0, .int .i64 0, .int .i64 0, .string { data := { toList := [] } }, .slice none 0 0, .slice none 0 0], none⟩, ⟨none, .st 16 (.t 10) (.t 36), none⟩]) (.seq (.seq (.reg [⟨some 37, .fa 0 (.t 3), none⟩, ⟨some 38, .ld 1 false (.t 37), none⟩]) (.block 0 (.seq (.reg [⟨some 40, .bin .eql (.t 38) (.c (.int .i64 1)), none⟩, ⟨some 39, .mv (.t 40), none⟩]) (.cond (.t 39) (.reg [⟨some 41, .fa 7 (.t 3), none⟩, ⟨some 42, .fa 0 (.t 41), none⟩, ⟨some 43, .ld 1 false (.t 42), none⟩, ⟨some 44, .fa 2 (.t 10), none⟩, ⟨none, .st 1 (.t 44) (.t 43), none⟩]) (.seq (.reg [⟨some 46, .bin .eql (.t 38) (.c (.int .i64 2)), none⟩, ⟨some 45, .mv (.t 46), none⟩]) (.cond (.t 45) (.draw [⟨some 47, .mv (.t 9), none⟩, ⟨some 48, .ld 5 true (.t 8), none⟩, ⟨some 49, .fa 12 (.t 3), none⟩, ⟨some 50, .ld 2 true (.t 49), none⟩, ⟨some 51, .fa 2 (.t 10), none⟩, ⟨none, .st 1 (.t 51) (.c (.int .i64 0)), none⟩, ⟨some 52, .fa 3 (.t 10), none⟩, ⟨none, .st 1 (.t 52) (.t 47), none⟩, ⟨some 53, .fa 7 (.t 10), none⟩, ⟨none, .st 5 (.t 53) (.t 48), none⟩, ⟨some 54, .fa 12 (.t 10), none⟩, ⟨none, .st 2 (.t 54) (.t 50), none⟩] [0, 0, 0, 4, 0, 16, 49, 113, 243, 499, 1023, 2047]) (.seq (.reg [⟨some 56, .bin .eql (.t 38) (.c (.int .i64 4)), none⟩, ⟨some 55, .mv (.t 56), none⟩]) (.cond (.t 55) (.seq (.reg [⟨some 57, .fa 6 (.t 3), none⟩, ⟨some 58, .ld 1 false (.t 57), none⟩, ⟨some 59, .fa 6 (.t 10), none⟩, ⟨none, .st 1 (.t 59) (.t 58), none⟩]) (.draw [⟨some 60, .fa 5 (.t 3), none⟩, ⟨some 61, .ld 1 false (.t 60), none⟩, ⟨some 62, .ld 5 true (.t 8), none⟩, ⟨some 63, .fa 5 (.t 10), none⟩, ⟨none, .st 1 (.t 63) (.t 61), none⟩, ⟨some 64, .fa 7 (.t 10), none⟩, ⟨none, .st 5 (.t 64) (.t 62), none⟩] [0, 1, 0, 3, 11, 31, 63])) (.seq (.reg [⟨some 66, .bin .eql (.t 38) (.c (.int .i64 6)), none⟩, ⟨some 65, .mv (.t 66), none⟩]) (.cond (.t 65) (.seq (.reg [⟨some 67, .fa 4 (.t 3), none⟩, ⟨some 68, .ld 1 false (.t 67), none⟩, ⟨some 69, .fa 4 (.t 10), none⟩, ⟨none, .st 1 (.t 69) (.t 68), none⟩]) (.draw [⟨some 70, .fa 5 (.t 3), none⟩, ⟨some 71, .ld 1 false (.t 70), none⟩, ⟨some 72, .ld 5 true (.t 8), none⟩, ⟨some 73, .fa 5 (.t 10), none⟩, ⟨none, .st 1 (.t 73) (.t 71), none⟩, ⟨some 74, .fa 7 (.t 10), none⟩, ⟨none, .st 5 (.t 74) (.t 72), none⟩] [0, 1, 0, 3, 11, 31, 63])) (.seq (.reg [⟨some 76, .bin .eql (.t 38) (.c (.int .i64 3)), none⟩, ⟨some 75, .mv (.t 76), none⟩]) (.cond (.t 75) (.reg [⟨some 77, .ld 5 true (.t 8), none⟩, ⟨some 78, .fa 7 (.t 10), none⟩, ⟨none, .st 5 (.t 78) (.t 77), none⟩]) (.seq (.reg [⟨some 80, .bin .eql (.t 38) (.c (.int .i64 5)), none⟩, ⟨some 79, .mv (.t 80), none⟩]) (.cond (.t 79) (.reg [⟨some 81, .fa 14 (.t 3), none⟩, ⟨some 82, .ld 1 false (.t 81), none⟩, ⟨some 83, .call 68 [.t 82], none⟩, ⟨some 84, .fa 14 (.t 10), none⟩, ⟨none, .st 1 (.t 84) (.t 83), none⟩]) (.seq (.reg [⟨some 86, .bin .eql (.t 38) (.c (.int .i64 7)), none⟩, ⟨some 85, .mv (.t 86), none⟩]) (.cond (.t 85) (.reg [⟨some 87, .mv (.t 9), none⟩, ⟨some 88, .fa 3 (.t 10), none⟩, ⟨none, .st 1 (.t 88) (.t 87), none⟩]) (.seq (.reg [⟨some 90, .bin .eql (.t 38) (.c (.int .i64 8)), none⟩, ⟨some 89, .mv (.t 90), none⟩]) (.cond (.t 89) (.draw [⟨some 91, .fa 4 (.t 3), none⟩, ⟨some 92, .ld 1 false (.t 91), none⟩, ⟨some 93, .fa 2 (.t 3), none⟩, ⟨some 94, .ld 1 false (.t 93), none⟩, ⟨some 95, .fa 2 (.t 10), none⟩, ⟨none, .st 1 (.t 95) (.t 92), none⟩, ⟨some 96, .fa 4 (.t 10), none⟩, ⟨none, .st 1 (.t 96) (.t 94), none⟩] [0, 1, 0, 4, 3, 19, 63, 127]) (.seq (.reg [⟨some 98, .bin .eql (.t 38) (.c (.int .i64 10)), none⟩, ⟨some 97, .mv (.t 98), none⟩]) (.cond (.t 97) (.seq (.reg [⟨some 100, .ld 2 true (.t 2), none⟩, ⟨some 101, .fa 1 (.t 3), none⟩, ⟨some 102, .ld 1 false (.t 101), none⟩, ⟨some 103, .call 69 [.t 100, .t 102], none⟩, ⟨some 99, .mv (.t 103), none⟩, ⟨some 104, .ext 0 (.t 99), none⟩, ⟨some 105, .ext 1 (.t 99), none⟩, ⟨some 11, .alloc [.int .i64 0, .slice none 0 0], none⟩, ⟨none, .st 2 (.t 11) (.t 104), none⟩, ⟨some 12, .mv (.t 105), none⟩]) (.reg [⟨some 106, .fa 1 (.t 11), none⟩, ⟨some 107, .ld 1 false (.t 106), none⟩, ⟨some 108, .call 53 [.t 107], none⟩, ⟨some 109, .fa 15 (.t 10), none⟩, ⟨none, .st 1 (.t 109) (.t 108), none⟩])) .skip)))))))))))))))))))) (.seq (.reg [⟨some 110, .ld 16 true (.t 10), none⟩, ⟨none, .st 16 (.t 4) (.t 110), none⟩, ⟨some 5, .mv (.c (.int .i64 0)), none⟩]) .ret)))))
def res : List RItem := [.cell 4 16 true, .t 5]
theorem ok : Option.bind Try.f26.body (cCode P Try.f26.ntmps) = some code := by kernel_rfl
theorem rok : cRes P Try.f26.results.toList = some res := by kernel_rfl
theorem intro {args : List AV} {T T2 : Tab} {r : AV} (ha : (Nat.ble args.length nt && Nat.ble T.length 4) = true) (h : Run P nt [.code code] (argEnv 0 args) T (RetQ res T T2 r)) : AC P id args T r T2 :=
  AC.introB Try.func26 ok rfl rok ha h
end pair_Invert
namespace R17_Invert
/-- instar/instarref17.Invert -/
abbrev id : FuncId := 27
abbrev nt : Nat := 130
def code : ACode := .seq (.reg [⟨some 2, .box (.t 0), none⟩, ⟨some 3, .box (.t 1), none⟩, ⟨some 4, .alloc [.int .i64 0, .int .i64 0, .int .i64 0, .int .i64 0, .int .i64 0, .int .i64 0, .int .i64 0, .int .i64 0, .int .i64 0, .int .i64 0, .int .i64 0, .int .i64 0, .int .i64 0, .string { data := { toList := [] } }, .slice none 0 0, .slice none 0 0], none⟩, ⟨some 5, .mv (.c (.int .i64 0)), none⟩]) (.seq (.seq (.reg [⟨some 12, .ld 2 true (.t 2), none⟩, ⟨some 13, .ld 16 true (.t 3), none⟩, ⟨some 14, .call 15 [.t 12, .t 13], none⟩, ⟨some 11, .mv (.t 14), none⟩, ⟨some 15, .ext 0 (.t 11), none⟩, ⟨some 16, .ext 1 (.t 11), none⟩, ⟨some 6, .alloc [.int .i64 0, .slice none 0 0], none⟩, ⟨none, .st 2 (.t 6) (.t 15), none⟩, ⟨some 7, .mv (.t 16), none⟩]) (.seq (.reg [⟨some 17, .mv (.t 7), none⟩, ⟨some 18, .bin .neq (.t 17) (.c (.int .i64 0)), none⟩]) (.cond (.t 18) (.seq (.reg [⟨some 19, .bld [.int .i64 0, .int .i64 0, .int .i64 0, .int .i64 0, .int .i64 0, .int .i64 0, .int .i64 0, .int .i64 0, .int .i64 0, .int .i64 0, .int .i64 0, .int .i64 0, .int .i64 0, .string { data := { toList := [] } }, .slice none 0 0, .slice none 0 0] [], none⟩, ⟨some 20, .mv (.t 7), none⟩, ⟨none, .st 16 (.t 4) (.t 19), none⟩, ⟨some 5, .mv (.t 20), none⟩]) .ret) .skip))) (.seq (.seq (.reg [⟨some 21, .fa 0 (.t 3), none⟩, ⟨some 22, .ld 1 false (.t 21), none⟩, ⟨some 23, .bin .eql (.t 22) (.c (.int .i64 9)), none⟩]) (.cond (.t 23) (.seq (.reg [⟨some 24, .fa 1 (.t 3), none⟩, ⟨some 25, .ld 1 false (.t 24), none⟩, ⟨some 26, .bld [.int .i64 0, .int .i64 0, .int .i64 0, .int .i64 0, .int .i64 0, .int .i64 0, .int .i64 0, .int .i64 0, .int .i64 0, .int .i64 0, .int .i64 0, .int .i64 0, .int .i64 0, .string { data := { toList := [] } }, .slice none 0 0, .slice none 0 0] [(0, 1, .c (.int .i64 29)), (1, 1, .t 25)], none⟩, ⟨none, .st 16 (.t 4) (.t 26), none⟩, ⟨some 5, .mv (.c (.int .i64 0)), none⟩]) .ret) .skip)) (.seq (.draw [⟨some 27, .fa 1 (.t 2), none⟩, ⟨some 28, .ld 1 false (.t 27), none⟩, ⟨some 29, .ld 2 true (.t 2), none⟩, ⟨some 30, .fa 1 (.t 3), none⟩, ⟨some 31, .ld 1 false (.t 30), none⟩, ⟨some 32, .call 21 [.t 29, .t 31], none⟩, ⟨some 33, .ia 2 (.t 28) (.t 32), none⟩, ⟨some 34, .ld 2 true (.t 33), none⟩, ⟨some 8, .alloc [.int .i64 0, .slice none 0 0], none⟩, ⟨none, .st 2 (.t 8) (.t 34), none⟩] [0, 1, 0, 0, 8, 28, 63, 127, 0, 511]) (.seq (.seq (.reg [⟨some 35, .fa 0 (.t 3), none⟩, ⟨some 36, .ld 1 false (.t 35), none⟩, ⟨some 37, .bin .eql (.t 36) (.c (.int .i64 10)), none⟩]) (.cond (.t 37) (.seq (.draw [⟨some 38, .fa 1 (.t 3), none⟩, ⟨some 39, .ld 1 false (.t 38), none⟩, ⟨some 40, .fa 1 (.t 8), none⟩, ⟨some 41, .ld 1 false (.t 40), none⟩, ⟨some 42, .app 5 40 (.c (.slice none 0 0)) (.t 41), none⟩, ⟨some 43, .bld [.int .i64 0, .int .i64 0, .int .i64 0, .int .i64 0, .int .i64 0, .int .i64 0, .int .i64 0, .int .i64 0, .int .i64 0, .int .i64 0, .int .i64 0, .int .i64 0, .int .i64 0, .string { data := { toList := [] } }, .slice none 0 0, .slice none 0 0] [(0, 1, .c (.int .i64 30)), (1, 1, .t 39), (15, 1, .t 42)], none⟩, ⟨none, .st 16 (.t 4) (.t 43), none⟩, ⟨some 5, .mv (.c (.int .i64 0)), none⟩] [0, 1, 0, 4, 12, 31, 63, 127]) .ret) .skip)) (.seq (.seq (.reg [⟨some 44, .fa 0 (.t 3), none⟩, ⟨some 45, .ld 1 false (.t 44), none⟩, ⟨some 46, .bin .eql (.t 45) (.c (.int .i64 1)), none⟩]) (.cond (.t 46) (.seq (.reg [⟨some 47, .fa 1 (.t 3), none⟩, ⟨some 48, .ld 1 false (.t 47), none⟩, ⟨some 49, .fa 7 (.t 3), none⟩, ⟨some 50, .fa 0 (.t 49), none⟩, ⟨some 51, .ld 1 false (.t 50), none⟩, ⟨some 52, .bld [.int .i64 0, .int .i64 0, .int .i64 0, .int .i64 0, .int .i64 0, .int .i64 0, .int .i64 0, .int .i64 0, .int .i64 0, .int .i64 0, .int .i64 0, .int .i64 0, .int .i64 0, .string { data := { toList := [] } }, .slice none 0 0, .slice none 0 0] [(0, 1, .c (.int .i64 21)), (1, 1, .t 48), (2, 1, .t 51)], none⟩, ⟨none, .st 16 (.t 4) (.t 52), none⟩, ⟨some 5, .mv (.c (.int .i64 0)), none⟩]) .ret) .skip)) (.seq (.reg [⟨some 53, .ld 2 true (.t 8), none⟩, ⟨some 54, .fa 2 (.t 3), none⟩, ⟨some 55, .ld 1 false (.t 54), none⟩, ⟨some 56, .call 58 [.t 53, .t 55], none⟩, ⟨some 9, .mv (.t 56), none⟩]) (.seq (.reg [⟨some 57, .fa 1 (.t 8), none⟩, ⟨some 58, .ld 1 false (.t 57), none⟩, ⟨some 59, .mv (.t 9), none⟩, ⟨some 60, .ia 5 (.t 58) (.t 59), none⟩, ⟨some 61, .ld 5 true (.t 60), none⟩, ⟨some 10, .alloc [.int .i64 0, .int .i64 0, .int .i64 0, .int .i64 0, .int .i64 0], none⟩, ⟨none, .st 5 (.t 10) (.t 61), none⟩]) (.seq (.seq (.reg [⟨some 62, .fa 0 (.t 3), none⟩, ⟨some 63, .ld 1 false (.t 62), none⟩]) (.block 0 (.seq (.reg [⟨some 65, .bin .eql (.t 63) (.c (.int .i64 2)), none⟩, ⟨some 64, .mv (.t 65), none⟩]) (.cond (.t 64) (.seq (.reg [⟨some 66, .fa 1 (.t 3), none⟩, ⟨some 67, .ld 1 false (.t 66), none⟩, ⟨some 68, .mv (.t 9), none⟩, ⟨some 69, .ld 5 true (.t 10), none⟩, ⟨some 70, .fa 12 (.t 3), none⟩, ⟨some 71, .ld 2 true (.t 70), none⟩, ⟨some 72, .bld [.int .i64 0, .int .i64 0, .int .i64 0, .int .i64 0, .int .i64 0, .int .i64 0, .int .i64 0, .int .i64 0, .int .i64 0, .int .i64 0, .int .i64 0, .int .i64 0, .int .i64 0, .string { data := { toList := [] } }, .slice none 0 0, .slice none 0 0] [(0, 1, .c (.int .i64 22)), (1, 1, .t 67), (3, 1, .t 68), (7, 5, .t 69), (12, 2, .t 71)], none⟩, ⟨none, .st 16 (.t 4) (.t 72), none⟩, ⟨some 5, .mv (.c (.int .i64 0)), none⟩]) .ret) (.seq (.reg [⟨some 74, .bin .eql (.t 63) (.c (.int .i64 3)), none⟩, ⟨some 73, .mv (.t 74), none⟩]) (.cond (.t 73) (.seq (.reg [⟨some 75, .fa 1 (.t 3), none⟩, ⟨some 76, .ld 1 false (.t 75), none⟩, ⟨some 77, .fa 2 (.t 3), none⟩, ⟨some 78, .ld 1 false (.t 77), none⟩, ⟨some 79, .ld 5 true (.t 10), none⟩, ⟨some 80, .bld [.int .i64 0, .int .i64 0, .int .i64 0, .int .i64 0, .int .i64 0, .int .i64 0, .int .i64 0, .int .i64 0, .int .i64 0, .int .i64 0, .int .i64 0, .int .i64 0, .int .i64 0, .string { data := { toList := [] } }, .slice none 0 0, .slice none 0 0] [(0, 1, .c (.int .i64 23)), (1, 1, .t 76), (2, 1, .t 78), (7, 5, .t 79)], none⟩, ⟨none, .st 16 (.t 4) (.t 80), none⟩, ⟨some 5, .mv (.c (.int .i64 0)), none⟩]) .ret) (.seq (.reg [⟨some 82, .bin .eql (.t 63) (.c (.int .i64 4)), none⟩, ⟨some 81, .mv (.t 82), none⟩]) (.cond (.t 81) (.seq (.reg [⟨some 83, .fa 1 (.t 3), none⟩, ⟨some 84, .ld 1 false (.t 83), none⟩, ⟨some 85, .fa 2 (.t 3), none⟩, ⟨some 86, .ld 1 false (.t 85), none⟩, ⟨some 87, .fa 5 (.t 3), none⟩, ⟨some 88, .ld 1 false (.t 87), none⟩, ⟨some 89, .fa 6 (.t 3), none⟩, ⟨some 90, .ld 1 false (.t 89), none⟩, ⟨some 91, .ld 5 true (.t 10), none⟩, ⟨some 92, .bld [.int .i64 0, .int .i64 0, .int .i64 0, .int .i64 0, .int .i64 0, .int .i64 0, .int .i64 0, .int .i64 0, .int .i64 0, .int .i64 0, .int .i64 0, .int .i64 0, .int .i64 0, .string { data := { toList := [] } }, .slice none 0 0, .slice none 0 0] [(0, 1, .c (.int .i64 24)), (1, 1, .t 84), (2, 1, .t 86), (5, 1, .t 88), (6, 1, .t 90), (7, 5, .t 91)], none⟩, ⟨none, .st 16 (.t 4) (.t 92), none⟩, ⟨some 5, .mv (.c (.int .i64 0)), none⟩]) .ret) (.seq (.reg [⟨some 94, .bin .eql (.t 63) (.c (.int .i64 5)), none⟩, ⟨some 93, .mv (.t 94), none⟩]) (.cond (.t 93) (.seq (.draw [⟨some 95, .fa 1 (.t 3), none⟩, ⟨some 96, .ld 1 false (.t 95), none⟩, ⟨some 97, .fa 2 (.t 3), none⟩, ⟨some 98, .ld 1 false (.t 97), none⟩, ⟨some 99, .fa 14 (.t 3), none⟩, ⟨some 100, .ld 1 false (.t 99), none⟩, ⟨some 101, .app 1 8 (.c (.slice none 0 0)) (.t 100), none⟩, ⟨some 102, .bld [.int .i64 0, .int .i64 0, .int .i64 0, .int .i64 0, .int .i64 0, .int .i64 0, .int .i64 0, .int .i64 0, .int .i64 0, .int .i64 0, .int .i64 0, .int .i64 0, .int .i64 0, .string { data := { toList := [] } }, .slice none 0 0, .slice none 0 0] [(0, 1, .c (.int .i64 25)), (1, 1, .t 96), (2, 1, .t 98), (14, 1, .t 101)], none⟩, ⟨none, .st 16 (.t 4) (.t 102), none⟩, ⟨some 5, .mv (.c (.int .i64 0)), none⟩] [0, 1, 0, 4, 0, 16, 48, 127, 255, 511]) .ret) (.seq (.reg [⟨some 104, .bin .eql (.t 63) (.c (.int .i64 6)), none⟩, ⟨some 103, .mv (.t 104), none⟩]) (.cond (.t 103) (.seq (.reg [⟨some 105, .fa 1 (.t 3), none⟩, ⟨some 106, .ld 1 false (.t 105), none⟩, ⟨some 107, .fa 2 (.t 3), none⟩, ⟨some 108, .ld 1 false (.t 107), none⟩, ⟨some 109, .fa 5 (.t 3), none⟩, ⟨some 110, .ld 1 false (.t 109), none⟩, ⟨some 111, .fa 4 (.t 3), none⟩, ⟨some 112, .ld 1 false (.t 111), none⟩, ⟨some 113, .ld 5 true (.t 10), none⟩, ⟨some 114, .bld [.int .i64 0, .int .i64 0, .int .i64 0, .int .i64 0, .int .i64 0, .int .i64 0, .int .i64 0, .int .i64 0, .int .i64 0, .int .i64 0, .int .i64 0, .int .i64 0, .int .i64 0, .string { data := { toList := [] } }, .slice none 0 0, .slice none 0 0] [(0, 1, .c (.int .i64 26)), (1, 1, .t 106), (2, 1, .t 108), (5, 1, .t 110), (4, 1, .t 112), (7, 5, .t 113)], none⟩, ⟨none, .st 16 (.t 4) (.t 114), none⟩, ⟨some 5, .mv (.c (.int .i64 0)), none⟩]) .ret) (.seq (.reg [⟨some 116, .bin .eql (.t 63) (.c (.int .i64 7)), none⟩, ⟨some 115, .mv (.t 116), none⟩]) (.cond (.t 115) (.seq (.reg [⟨some 117, .fa 1 (.t 3), none⟩, ⟨some 118, .ld 1 false (.t 117), none⟩, ⟨some 119, .fa 2 (.t 3), none⟩, ⟨some 120, .ld 1 false (.t 119), none⟩, ⟨some 121, .mv (.t 9), none⟩, ⟨some 122, .bld [.int .i64 0, .int .i64 0, .int .i64 0, .int .i64 0, .int .i64 0, .int .i64 0, .int .i64 0, .int .i64 0, .int .i64 0, .int .i64 0, .int .i64 0, .int .i64 0, .int .i64 0, .string { data := { toList := [] } }, .slice none 0 0, .slice none 0 0] [(0, 1, .c (.int .i64 27)), (1, 1, .t 118), (2, 1, .t 120), (3, 1, .t 121)], none⟩, ⟨none, .st 16 (.t 4) (.t 122), none⟩, ⟨some 5, .mv (.c (.int .i64 0)), none⟩]) .ret) .skip)))))))))))))) (.seq (.reg [⟨some 123, .fa 1 (.t 3), none⟩, ⟨some 124, .ld 1 false (.t 123), none⟩, ⟨some 125, .fa 4 (.t 3), none⟩, ⟨some 126, .ld 1 false (.t 125), none⟩, ⟨some 127, .fa 2 (.t 3), none⟩, ⟨some 128, .ld 1 false (.t 127), none⟩, ⟨some 129, .bld [.int .i64 0, .int .i64 0, .int .i64 0, .int .i64 0, .int .i64 0, .int .i64 0, .int .i64 0, .int .i64 0, .int .i64 0, .int .i64 0, .int .i64 0, .int .i64 0, .int .i64 0, .string { data := { toList := [] } }, .slice none 0 0, .slice none 0 0] [(0, 1, .c (.int .i64 28)), (1, 1, .t 124), (2, 1, .t 126), (4, 1, .t 128)], none⟩, ⟨none, .st 16 (.t 4) (.t 129), none⟩, ⟨some 5, .mv (.c (.int .i64 0)), none⟩]) .ret)))))))))
def res : List RItem := [.cell 4 16 true, .t 5]
theorem ok : Option.bind Try.f27.body (cCode P Try.f27.ntmps) = some code := by kernel_rfl
theorem rok : cRes P Try.f27.results.toList = some res := by kernel_rfl
theorem intro {args : List AV} {T T2 : Tab} {r : AV} (ha : (Nat.ble args.length nt && Nat.ble T.length 4) = true) (h : Run P nt [.code code] (argEnv 0 args) T (RetQ res T T2 r)) : AC P id args T r T2 :=
  AC.introB Try.func27 ok rfl rok ha h
end R17_Invert
namespace pair_Back
/-- instar/pair.Back -/
abbrev id : FuncId := 28
abbrev nt : Nat := 40
def code : ACode := .seq (.reg [⟨some 2, .box (.t 0), none⟩, ⟨some 4, .mv (.c (.slice none 0 0)), none⟩, ⟨some 5, .mv (.c (.int .i64 0)), none⟩]) (.seq (.reg [⟨some 6, .mv (.c (.slice none 0 0)), none⟩]) (.seq (.seq (.reg [⟨some 11, .mv (.t 1), none⟩, ⟨some 12, .len (.t 11), none⟩, ⟨some 13, .mv (.c (.int .i64 0)), none⟩]) (.block 0 (.loop (.seq (.reg [⟨some 14, .bin .lss (.t 13) (.t 12), none⟩]) (.seq (.cond (.t 14) .skip (.exit 0)) (.seq (.block 1 (.seq (.reg [⟨some 15, .ia 16 (.t 11) (.t 13), none⟩, ⟨some 16, .ld 16 true (.t 15), none⟩, ⟨some 8, .alloc [.int .i64 0, .int .i64 0, .int .i64 0, .int .i64 0, .int .i64 0, .int .i64 0, .int .i64 0, .int .i64 0, .int .i64 0, .int .i64 0, .int .i64 0, .int .i64 0, .int .i64 0, .string { data := { toList := [] } }, .slice none 0 0, .slice none 0 0], none⟩, ⟨none, .st 16 (.t 8) (.t 16), none⟩]) (.seq (.reg [⟨some 18, .ld 2 true (.t 2), none⟩, ⟨some 19, .ld 16 true (.t 8), none⟩, ⟨some 20, .call 26 [.t 18, .t 19], none⟩, ⟨some 17, .mv (.t 20), none⟩, ⟨some 21, .ext 0 (.t 17), none⟩, ⟨some 22, .ext 1 (.t 17), none⟩, ⟨some 9, .alloc [.int .i64 0, .int .i64 0, .int .i64 0, .int .i64 0, .int .i64 0, .int .i64 0, .int .i64 0, .int .i64 0, .int .i64 0, .int .i64 0, .int .i64 0, .int .i64 0, .int .i64 0, .string { data := { toList := [] } }, .slice none 0 0, .slice none 0 0], none⟩, ⟨none, .st 16 (.t 9) (.t 21), none⟩, ⟨some 10, .mv (.t 22), none⟩]) (.seq (.seq (.reg [⟨some 23, .mv (.t 10), none⟩, ⟨some 24, .bin .neq (.t 23) (.c (.int .i64 0)), none⟩]) (.cond (.t 24) (.seq (.reg [⟨some 25, .mv (.t 10), none⟩, ⟨some 4, .mv (.c (.slice none 0 0)), none⟩, ⟨some 5, .mv (.t 25), none⟩]) .ret) .skip)) (.seq (.reg [⟨some 26, .mv (.t 6), none⟩, ⟨some 27, .ld 16 true (.t 9), none⟩, ⟨some 28, .bslF 16 [.t 27], none⟩, ⟨some 29, .app 16 168 (.t 26) (.t 28), none⟩, ⟨some 6, .mv (.t 29), none⟩]) (.reg [⟨some 31, .ld 2 true (.t 2), none⟩, ⟨some 32, .ld 16 true (.t 8), none⟩, ⟨some 33, .call 14 [.t 31, .t 32], none⟩, ⟨some 30, .mv (.t 33), none⟩, ⟨some 34, .ext 0 (.t 30), none⟩, ⟨some 35, .ext 1 (.t 30), none⟩, ⟨none, .st 2 (.t 2) (.t 34), none⟩])))))) (.reg [⟨some 36, .bin .add (.t 13) (.c (.int .i64 1)), none⟩, ⟨some 13, .mv (.t 36), none⟩]))))))) (.seq (.reg [⟨some 37, .mv (.t 6), none⟩, ⟨some 38, .call 70 [.t 37], none⟩]) (.seq (.reg [⟨some 39, .mv (.t 6), none⟩, ⟨some 4, .mv (.t 39), none⟩, ⟨some 5, .mv (.c (.int .i64 0)), none⟩]) .ret))))
def res : List RItem := [.t 4, .t 5]
theorem ok : Option.bind Try.f28.body (cCode P Try.f28.ntmps) = some code := by kernel_rfl
theorem rok : cRes P Try.f28.results.toList = some res := by kernel_rfl
theorem intro {args : List AV} {T T2 : Tab} {r : AV} (ha : (Nat.ble args.length nt && Nat.ble T.length 4) = true) (h : Run P nt [.code code] (argEnv 0 args) T (RetQ res T T2 r)) : AC P id args T r T2 :=
  AC.introB Try.func28 ok rfl rok ha h
end pair_Back
namespace R17_Back
/-- instar/instarref17.Back -/
abbrev id : FuncId := 29
abbrev nt : Nat := 42
def code : ACode := .seq (.reg [⟨some 2, .box (.t 0), none⟩, ⟨some 4, .mv (.c (.slice none 0 0)), none⟩, ⟨some 5, .mv (.c (.int .i64 0)), none⟩]) (.seq (.reg [⟨some 6, .mv (.c (.slice none 0 0)), none⟩]) (.seq (.seq (.reg [⟨some 7, .mv (.c (.int .i64 0)), none⟩]) (.block 0 (.loop (.seq (.seq (.reg [⟨some 10, .mv (.t 7), none⟩, ⟨some 11, .mv (.t 1), none⟩, ⟨some 12, .len (.t 11), none⟩, ⟨some 13, .bin .lss (.t 10) (.t 12), none⟩]) (.cond (.t 13) .skip (.exit 0))) (.seq (.block 1 (.seq (.draw [⟨some 17, .ld 2 true (.t 2), none⟩, ⟨some 18, .mv (.t 1), none⟩, ⟨some 19, .mv (.t 7), none⟩, ⟨some 20, .ia 16 (.t 18) (.t 19), none⟩, ⟨some 21, .ld 16 true (.t 20), none⟩, ⟨some 22, .call 27 [.t 17, .t 21], none⟩, ⟨some 16, .mv (.t 22), none⟩, ⟨some 23, .ext 0 (.t 16), none⟩, ⟨some 24, .ext 1 (.t 16), none⟩, ⟨some 8, .alloc [.int .i64 0, .int .i64 0, .int .i64 0, .int .i64 0, .int .i64 0, .int .i64 0, .int .i64 0, .int .i64 0, .int .i64 0, .int .i64 0, .int .i64 0, .int .i64 0, .int .i64 0, .string { data := { toList := [] } }, .slice none 0 0, .slice none 0 0], none⟩, ⟨none, .st 16 (.t 8) (.t 23), none⟩, ⟨some 9, .mv (.t 24), none⟩] [0, 0, 0, 6, 14, 31, 63, 127, 127, 0, 767, 2047]) (.seq (.seq (.reg [⟨some 25, .mv (.t 9), none⟩, ⟨some 26, .bin .neq (.t 25) (.c (.int .i64 0)), none⟩]) (.cond (.t 26) (.seq (.reg [⟨some 27, .mv (.t 9), none⟩, ⟨some 4, .mv (.c (.slice none 0 0)), none⟩, ⟨some 5, .mv (.t 27), none⟩]) .ret) .skip)) (.seq (.reg [⟨some 28, .ld 16 true (.t 8), none⟩, ⟨some 29, .bslF 16 [.t 28], none⟩, ⟨some 30, .mv (.t 6), none⟩, ⟨some 31, .app 16 168 (.t 29) (.t 30), none⟩, ⟨some 6, .mv (.t 31), none⟩]) (.draw [⟨some 33, .ld 2 true (.t 2), none⟩, ⟨some 34, .mv (.t 1), none⟩, ⟨some 35, .mv (.t 7), none⟩, ⟨some 36, .ia 16 (.t 34) (.t 35), none⟩, ⟨some 37, .ld 16 true (.t 36), none⟩, ⟨some 38, .call 15 [.t 33, .t 37], none⟩, ⟨some 32, .mv (.t 38), none⟩, ⟨some 39, .ext 0 (.t 32), none⟩, ⟨some 40, .ext 1 (.t 32), none⟩, ⟨none, .st 2 (.t 2) (.t 39), none⟩] [0, 0, 0, 6, 14, 31, 63, 127, 127, 255]))))) (.reg [⟨some 14, .mv (.t 7), none⟩, ⟨some 15, .bin .add (.t 14) (.c (.int .i64 1)), none⟩, ⟨some 7, .mv (.t 15), none⟩])))))) (.seq (.reg [⟨some 41, .mv (.t 6), none⟩, ⟨some 4, .mv (.t 41), none⟩, ⟨some 5, .mv (.c (.int .i64 0)), none⟩]) .ret)))
def res : List RItem := [.t 4, .t 5]
theorem ok : Option.bind Try.f29.body (cCode P Try.f29.ntmps) = some code := by kernel_rfl
theorem rok : cRes P Try.f29.results.toList = some res := by kernel_rfl
theorem intro {args : List AV} {T T2 : Tab} {r : AV} (ha : (Nat.ble args.length nt && Nat.ble T.length 4) = true) (h : Run P nt [.code code] (argEnv 0 args) T (RetQ res T T2 r)) : AC P id args T r T2 :=
  AC.introB Try.func29 ok rfl rok ha h
end R17_Back
namespace R15_Same
/-- instar/instarref15.Same -/
abbrev id : FuncId := 30
abbrev nt : Nat := 122
def code : ACode := .seq (.reg [⟨some 2, .box (.t 0), none⟩, ⟨some 3, .box (.t 1), none⟩, ⟨some 4, .mv (.c (.bool false)), none⟩]) (.seq (.seq (.reg [⟨some 7, .fa 0 (.t 2), none⟩, ⟨some 8, .ld 1 false (.t 7), none⟩, ⟨some 9, .fa 0 (.t 3), none⟩, ⟨some 10, .ld 1 false (.t 9), none⟩, ⟨some 11, .bin .neq (.t 8) (.t 10), none⟩, ⟨some 12, .mv (.t 11), none⟩, ⟨some 13, .fa 1 (.t 2), some (12, false)⟩, ⟨some 14, .ld 1 false (.t 13), some (12, false)⟩, ⟨some 15, .fa 1 (.t 3), some (12, false)⟩, ⟨some 16, .ld 1 false (.t 15), some (12, false)⟩, ⟨some 17, .bin .neq (.t 14) (.t 16), some (12, false)⟩, ⟨some 18, .pick (.t 12) (.c (.bool true)) (.t 17), none⟩, ⟨some 19, .mv (.t 18), none⟩, ⟨some 20, .fa 2 (.t 2), some (19, false)⟩, ⟨some 21, .ld 1 false (.t 20), some (19, false)⟩, ⟨some 22, .fa 2 (.t 3), some (19, false)⟩, ⟨some 23, .ld 1 false (.t 22), some (19, false)⟩, ⟨some 24, .bin .neq (.t 21) (.t 23), some (19, false)⟩, ⟨some 25, .pick (.t 19) (.c (.bool true)) (.t 24), none⟩, ⟨some 26, .mv (.t 25), none⟩, ⟨some 27, .fa 3 (.t 2), some (26, false)⟩, ⟨some 28, .ld 1 false (.t 27), some (26, false)⟩, ⟨some 29, .fa 3 (.t 3), some (26, false)⟩, ⟨some 30, .ld 1 false (.t 29), some (26, false)⟩, ⟨some 31, .bin .neq (.t 28) (.t 30), some (26, false)⟩, ⟨some 32, .pick (.t 26) (.c (.bool true)) (.t 31), none⟩, ⟨some 33, .mv (.t 32), none⟩, ⟨some 34, .fa 4 (.t 2), some (33, false)⟩, ⟨some 35, .ld 1 false (.t 34), some (33, false)⟩, ⟨some 36, .fa 4 (.t 3), some (33, false)⟩, ⟨some 37, .ld 1 false (.t 36), some (33, false)⟩, ⟨some 38, .bin .neq (.t 35) (.t 37), some (33, false)⟩, ⟨some 39, .pick (.t 33) (.c (.bool true)) (.t 38), none⟩, ⟨some 40, .mv (.t 39), none⟩, ⟨some 41, .fa 5 (.t 2), some (40, false)⟩, ⟨some 42, .ld 1 false (.t 41), some (40, false)⟩, ⟨some 43, .fa 5 (.t 3), some (40, false)⟩, ⟨some 44, .ld 1 false (.t 43), some (40, false)⟩, ⟨some 45, .bin .neq (.t 42) (.t 44), some (40, false)⟩, ⟨some 46, .pick (.t 40) (.c (.bool true)) (.t 45), none⟩, ⟨some 47, .mv (.t 46), none⟩, ⟨some 48, .fa 6 (.t 2), some (47, false)⟩, ⟨some 49, .ld 1 false (.t 48), some (47, false)⟩, ⟨some 50, .fa 6 (.t 3), some (47, false)⟩, ⟨some 51, .ld 1 false (.t 50), some (47, false)⟩, ⟨some 52, .bin .neq (.t 49) (.t 51), some (47, false)⟩, ⟨some 53, .pick (.t 47) (.c (.bool true)) (.t 52), none⟩, ⟨some 54, .mv (.t 53), none⟩, ⟨some 55, .fa 7 (.t 2), some (54, false)⟩, ⟨some 56, .ld 5 true (.t 55), some (54, false)⟩, ⟨some 57, .fa 7 (.t 3), some (54, false)⟩, ⟨some 58, .ld 5 true (.t 57), some (54, false)⟩, ⟨some 59, .eqA true 5 [(0, 1), (1, 1), (2, 1), (3, 1), (4, 1)] (.t 56) (.t 58), some (54, false)⟩, ⟨some 60, .pick (.t 54) (.c (.bool true)) (.t 59), none⟩, ⟨some 61, .mv (.t 60), none⟩, ⟨some 62, .fa 12 (.t 2), some (61, false)⟩, ⟨some 63, .ld 2 true (.t 62), some (61, false)⟩, ⟨some 64, .fa 12 (.t 3), some (61, false)⟩, ⟨some 65, .ld 2 true (.t 64), some (61, false)⟩, ⟨some 66, .eqA true 2 [(0, 1), (1, 2)] (.t 63) (.t 65), some (61, false)⟩, ⟨some 67, .pick (.t 61) (.c (.bool true)) (.t 66), none⟩, ⟨some 68, .mv (.t 67), none⟩, ⟨some 69, .fa 14 (.t 2), some (68, false)⟩, ⟨some 70, .ld 1 false (.t 69), some (68, false)⟩, ⟨some 71, .len (.t 70), some (68, false)⟩, ⟨some 72, .fa 14 (.t 3), some (68, false)⟩, ⟨some 73, .ld 1 false (.t 72), some (68, false)⟩, ⟨some 74, .len (.t 73), some (68, false)⟩, ⟨some 75, .bin .neq (.t 71) (.t 74), some (68, false)⟩, ⟨some 76, .pick (.t 68) (.c (.bool true)) (.t 75), none⟩, ⟨some 77, .mv (.t 76), none⟩, ⟨some 78, .fa 15 (.t 2), some (77, false)⟩, ⟨some 79, .ld 1 false (.t 78), some (77, false)⟩, ⟨some 80, .len (.t 79), some (77, false)⟩, ⟨some 81, .fa 15 (.t 3), some (77, false)⟩, ⟨some 82, .ld 1 false (.t 81), some (77, false)⟩, ⟨some 83, .len (.t 82), some (77, false)⟩, ⟨some 84, .bin .neq (.t 80) (.t 83), some (77, false)⟩, ⟨some 85, .pick (.t 77) (.c (.bool true)) (.t 84), none⟩]) (.cond (.t 85) (.seq (.reg [⟨some 4, .mv (.c (.bool false)), none⟩]) .ret) .skip)) (.seq (.seq (.reg [⟨some 5, .mv (.c (.int .i64 0)), none⟩]) (.block 0 (.loop (.seq (.seq (.reg [⟨some 86, .mv (.t 5), none⟩, ⟨some 87, .fa 14 (.t 2), none⟩, ⟨some 88, .ld 1 false (.t 87), none⟩, ⟨some 89, .len (.t 88), none⟩, ⟨some 90, .bin .lss (.t 86) (.t 89), none⟩]) (.cond (.t 90) .skip (.exit 0))) (.seq (.block 1 (.seq (.draw [⟨some 93, .fa 14 (.t 2), none⟩, ⟨some 94, .ld 1 false (.t 93), none⟩, ⟨some 95, .mv (.t 5), none⟩, ⟨some 96, .ia 1 (.t 94) (.t 95), none⟩, ⟨some 97, .ld 1 false (.t 96), none⟩, ⟨some 98, .fa 14 (.t 3), none⟩, ⟨some 99, .ld 1 false (.t 98), none⟩, ⟨some 100, .mv (.t 5), none⟩, ⟨some 101, .ia 1 (.t 99) (.t 100), none⟩, ⟨some 102, .ld 1 false (.t 101), none⟩, ⟨some 103, .bin .neq (.t 97) (.t 102), none⟩] [0, 1, 0, 7, 15, 0, 32, 0, 224, 480, 1023]) (.cond (.t 103) (.seq (.reg [⟨some 4, .mv (.c (.bool false)), none⟩]) .ret) .skip))) (.reg [⟨some 91, .mv (.t 5), none⟩, ⟨some 92, .bin .add (.t 91) (.c (.int .i64 1)), none⟩, ⟨some 5, .mv (.t 92), none⟩])))))) (.seq (.seq (.reg [⟨some 6, .mv (.c (.int .i64 0)), none⟩]) (.block 2 (.loop (.seq (.seq (.reg [⟨some 104, .mv (.t 6), none⟩, ⟨some 105, .fa 15 (.t 2), none⟩, ⟨some 106, .ld 1 false (.t 105), none⟩, ⟨some 107, .len (.t 106), none⟩, ⟨some 108, .bin .lss (.t 104) (.t 107), none⟩]) (.cond (.t 108) .skip (.exit 2))) (.seq (.block 3 (.seq (.draw [⟨some 111, .fa 15 (.t 2), none⟩, ⟨some 112, .ld 1 false (.t 111), none⟩, ⟨some 113, .mv (.t 6), none⟩, ⟨some 114, .ia 5 (.t 112) (.t 113), none⟩, ⟨some 115, .ld 5 true (.t 114), none⟩, ⟨some 116, .fa 15 (.t 3), none⟩, ⟨some 117, .ld 1 false (.t 116), none⟩, ⟨some 118, .mv (.t 6), none⟩, ⟨some 119, .ia 5 (.t 117) (.t 118), none⟩, ⟨some 120, .ld 5 true (.t 119), none⟩, ⟨some 121, .eqA true 5 [(0, 1), (1, 1), (2, 1), (3, 1), (4, 1)] (.t 115) (.t 120), none⟩] [0, 1, 0, 7, 15, 0, 32, 0, 224, 480, 1023]) (.cond (.t 121) (.seq (.reg [⟨some 4, .mv (.c (.bool false)), none⟩]) .ret) .skip))) (.reg [⟨some 109, .mv (.t 6), none⟩, ⟨some 110, .bin .add (.t 109) (.c (.int .i64 1)), none⟩, ⟨some 6, .mv (.t 110), none⟩])))))) (.seq (.reg [⟨some 4, .mv (.c (.bool true)), none⟩]) .ret))))
def res : List RItem := [.t 4]
theorem ok : Option.bind Try.f30.body (cCode P Try.f30.ntmps) = some code := by kernel_rfl
theorem rok : cRes P Try.f30.results.toList = some res := by kernel_rfl
theorem intro {args : List AV} {T T2 : Tab} {r : AV} (ha : (Nat.ble args.length nt && Nat.ble T.length 4) = true) (h : Run P nt [.code code] (argEnv 0 args) T (RetQ res T T2 r)) : AC P id args T r T2 :=
  AC.introB Try.func30 ok rfl rok ha h
end R15_Same
namespace R15_SameList
/-- instar/instarref15.SameList -/
abbrev id : FuncId := 31
abbrev nt : Nat := 27
def code : ACode := .seq (.reg [⟨some 4, .mv (.c (.bool false)), none⟩]) (.seq (.seq (.reg [⟨some 6, .mv (.t 0), none⟩, ⟨some 7, .len (.t 6), none⟩, ⟨some 8, .mv (.t 1), none⟩, ⟨some 9, .len (.t 8), none⟩, ⟨some 10, .bin .neq (.t 7) (.t 9), none⟩]) (.cond (.t 10) (.seq (.reg [⟨some 4, .mv (.c (.bool false)), none⟩]) .ret) .skip)) (.seq (.seq (.reg [⟨some 5, .mv (.c (.int .i64 0)), none⟩]) (.block 0 (.loop (.seq (.seq (.reg [⟨some 11, .mv (.t 5), none⟩, ⟨some 12, .mv (.t 0), none⟩, ⟨some 13, .len (.t 12), none⟩, ⟨some 14, .bin .lss (.t 11) (.t 13), none⟩]) (.cond (.t 14) .skip (.exit 0))) (.seq (.block 1 (.seq (.draw [⟨some 17, .mv (.t 0), none⟩, ⟨some 18, .mv (.t 5), none⟩, ⟨some 19, .ia 16 (.t 17) (.t 18), none⟩, ⟨some 20, .ld 16 true (.t 19), none⟩, ⟨some 21, .mv (.t 1), none⟩, ⟨some 22, .mv (.t 5), none⟩, ⟨some 23, .ia 16 (.t 21) (.t 22), none⟩, ⟨some 24, .ld 16 true (.t 23), none⟩, ⟨some 25, .call 30 [.t 20, .t 24], none⟩, ⟨some 26, .not (.t 25), none⟩] [0, 0, 3, 7, 0, 0, 48, 112, 255, 511]) (.cond (.t 26) (.seq (.reg [⟨some 4, .mv (.c (.bool false)), none⟩]) .ret) .skip))) (.reg [⟨some 15, .mv (.t 5), none⟩, ⟨some 16, .bin .add (.t 15) (.c (.int .i64 1)), none⟩, ⟨some 5, .mv (.t 16), none⟩])))))) (.seq (.reg [⟨some 4, .mv (.c (.bool true)), none⟩]) .ret)))
def res : List RItem := [.t 4]
theorem ok : Option.bind Try.f31.body (cCode P Try.f31.ntmps) = some code := by kernel_rfl
theorem rok : cRes P Try.f31.results.toList = some res := by kernel_rfl
theorem intro {args : List AV} {T T2 : Tab} {r : AV} (ha : (Nat.ble args.length nt && Nat.ble T.length 4) = true) (h : Run P nt [.code code] (argEnv 0 args) T (RetQ res T T2 r)) : AC P id args T r T2 :=
  AC.introB Try.func31 ok rfl rok ha h
end R15_SameList
namespace pair_Check
/-- instar/pair.Check -/
abbrev id : FuncId := 32
abbrev nt : Nat := 45
def code : ACode := .seq (.reg [⟨some 3, .box (.t 0), none⟩, ⟨some 6, .mv (.c (.int .i64 0)), none⟩, ⟨some 7, .mv (.c (.int .i64 0)), none⟩]) (.seq (.seq (.reg [⟨some 15, .ld 2 true (.t 3), none⟩, ⟨some 16, .mv (.t 1), none⟩, ⟨some 17, .call 17 [.t 15, .t 16], none⟩, ⟨some 14, .mv (.t 17), none⟩, ⟨some 18, .ext 0 (.t 14), none⟩, ⟨some 19, .ext 1 (.t 14), none⟩, ⟨some 20, .ext 2 (.t 14), none⟩, ⟨some 8, .alloc [.int .i64 0, .slice none 0 0], none⟩, ⟨none, .st 2 (.t 8) (.t 18), none⟩, ⟨some 9, .mv (.t 19), none⟩, ⟨some 10, .mv (.t 20), none⟩]) (.seq (.reg [⟨some 21, .mv (.t 10), none⟩, ⟨some 22, .bin .neq (.t 21) (.c (.int .i64 0)), none⟩]) (.cond (.t 22) (.seq (.reg [⟨some 23, .mv (.t 9), none⟩, ⟨some 24, .mv (.t 10), none⟩, ⟨some 6, .mv (.t 23), none⟩, ⟨some 7, .mv (.t 24), none⟩]) .ret) .skip))) (.seq (.reg [⟨some 26, .ld 2 true (.t 3), none⟩, ⟨some 27, .mv (.t 1), none⟩, ⟨some 28, .call 28 [.t 26, .t 27], none⟩, ⟨some 25, .mv (.t 28), none⟩, ⟨some 29, .ext 0 (.t 25), none⟩, ⟨some 30, .ext 1 (.t 25), none⟩, ⟨some 11, .mv (.t 29), none⟩, ⟨some 12, .mv (.t 30), none⟩]) (.seq (.seq (.reg [⟨some 31, .mv (.t 12), none⟩, ⟨some 32, .bin .neq (.t 31) (.c (.int .i64 0)), none⟩]) (.cond (.t 32) (.seq (.reg [⟨some 33, .mv (.t 12), none⟩, ⟨some 6, .mv (.c (.int .i64 0)), none⟩, ⟨some 7, .mv (.t 33), none⟩]) .ret) .skip)) (.seq (.seq (.reg [⟨some 34, .mv (.t 11), none⟩, ⟨some 35, .mv (.t 2), none⟩, ⟨some 36, .call 71 [.t 34, .t 35, .c (.func (.func 72) { toList := [] } { toList := [] })], none⟩, ⟨some 13, .mv (.t 36), none⟩]) (.seq (.reg [⟨some 37, .mv (.t 13), none⟩, ⟨some 38, .mv (.t 11), none⟩, ⟨some 39, .len (.t 38), none⟩, ⟨some 40, .mv (.t 2), none⟩, ⟨some 41, .len (.t 40), none⟩, ⟨some 42, .mnmx true (.t 39) (.t 41), none⟩, ⟨some 43, .bin .lss (.t 37) (.t 42), none⟩]) (.cond (.t 43) (.seq (.reg [⟨some 44, .mv (.t 13), none⟩, ⟨some 6, .mv (.t 44), none⟩, ⟨some 7, .mv (.c (.int .i64 18)), none⟩]) .ret) .skip))) (.seq (.reg [⟨some 6, .mv (.c (.int .i64 0)), none⟩, ⟨some 7, .mv (.c (.int .i64 0)), none⟩]) .ret)))))
def res : List RItem := [.t 6, .t 7]
theorem ok : Option.bind Try.f32.body (cCode P Try.f32.ntmps) = some code := by kernel_rfl
theorem rok : cRes P Try.f32.results.toList = some res := by kernel_rfl
theorem intro {args : List AV} {T T2 : Tab} {r : AV} (ha : (Nat.ble args.length nt && Nat.ble T.length 4) = true) (h : Run P nt [.code code] (argEnv 0 args) T (RetQ res T T2 r)) : AC P id args T r T2 :=
  AC.introB Try.func32 ok rfl rok ha h
end pair_Check
namespace R17_Check
/-- instar/instarref17.Check -/
abbrev id : FuncId := 33
abbrev nt : Nat := 64
def code : ACode := .seq (.reg [⟨some 3, .box (.t 0), none⟩, ⟨some 6, .mv (.c (.int .i64 0)), none⟩, ⟨some 7, .mv (.c (.int .i64 0)), none⟩]) (.seq (.seq (.reg [⟨some 15, .ld 2 true (.t 3), none⟩, ⟨some 16, .mv (.t 1), none⟩, ⟨some 17, .call 18 [.t 15, .t 16], none⟩, ⟨some 14, .mv (.t 17), none⟩, ⟨some 18, .ext 0 (.t 14), none⟩, ⟨some 19, .ext 1 (.t 14), none⟩, ⟨some 20, .ext 2 (.t 14), none⟩, ⟨some 8, .alloc [.int .i64 0, .slice none 0 0], none⟩, ⟨none, .st 2 (.t 8) (.t 18), none⟩, ⟨some 9, .mv (.t 19), none⟩, ⟨some 10, .mv (.t 20), none⟩]) (.seq (.reg [⟨some 21, .mv (.t 10), none⟩, ⟨some 22, .bin .neq (.t 21) (.c (.int .i64 0)), none⟩]) (.cond (.t 22) (.seq (.reg [⟨some 23, .mv (.t 9), none⟩, ⟨some 24, .mv (.t 10), none⟩, ⟨some 6, .mv (.t 23), none⟩, ⟨some 7, .mv (.t 24), none⟩]) .ret) .skip))) (.seq (.reg [⟨some 26, .ld 2 true (.t 3), none⟩, ⟨some 27, .mv (.t 1), none⟩, ⟨some 28, .call 29 [.t 26, .t 27], none⟩, ⟨some 25, .mv (.t 28), none⟩, ⟨some 29, .ext 0 (.t 25), none⟩, ⟨some 30, .ext 1 (.t 25), none⟩, ⟨some 11, .mv (.t 29), none⟩, ⟨some 12, .mv (.t 30), none⟩]) (.seq (.seq (.reg [⟨some 13, .mv (.c (.int .i64 0)), none⟩]) (.block 0 (.loop (.seq (.seq (.reg [⟨some 31, .mv (.t 13), none⟩, ⟨some 32, .mv (.t 11), none⟩, ⟨some 33, .len (.t 32), none⟩, ⟨some 34, .bin .lss (.t 31) (.t 33), none⟩, ⟨some 35, .mv (.t 34), none⟩, ⟨some 36, .mv (.t 13), some (35, true)⟩, ⟨some 37, .mv (.t 2), some (35, true)⟩, ⟨some 38, .len (.t 37), some (35, true)⟩, ⟨some 39, .bin .lss (.t 36) (.t 38), some (35, true)⟩, ⟨some 40, .pick (.t 35) (.t 39) (.c (.bool false)), none⟩]) (.cond (.t 40) .skip (.exit 0))) (.seq (.block 1 (.seq (.draw [⟨some 43, .mv (.t 11), none⟩, ⟨some 44, .mv (.t 13), none⟩, ⟨some 45, .ia 16 (.t 43) (.t 44), none⟩, ⟨some 46, .ld 16 true (.t 45), none⟩, ⟨some 47, .mv (.t 2), none⟩, ⟨some 48, .mv (.t 13), none⟩, ⟨some 49, .ia 16 (.t 47) (.t 48), none⟩, ⟨some 50, .ld 16 true (.t 49), none⟩, ⟨some 51, .call 30 [.t 46, .t 50], none⟩, ⟨some 52, .not (.t 51), none⟩] [0, 0, 3, 7, 0, 0, 48, 112, 255, 511]) (.cond (.t 52) (.seq (.reg [⟨some 53, .mv (.t 13), none⟩, ⟨some 6, .mv (.t 53), none⟩, ⟨some 7, .mv (.c (.int .i64 18)), none⟩]) .ret) .skip))) (.reg [⟨some 41, .mv (.t 13), none⟩, ⟨some 42, .bin .add (.t 41) (.c (.int .i64 1)), none⟩, ⟨some 13, .mv (.t 42), none⟩])))))) (.seq (.seq (.reg [⟨some 54, .mv (.t 11), none⟩, ⟨some 55, .len (.t 54), none⟩, ⟨some 56, .mv (.t 2), none⟩, ⟨some 57, .len (.t 56), none⟩, ⟨some 58, .bin .neq (.t 55) (.t 57), none⟩]) (.cond (.t 58) (.seq (.reg [⟨some 59, .mv (.t 11), none⟩, ⟨some 60, .len (.t 59), none⟩, ⟨some 61, .mv (.t 2), none⟩, ⟨some 62, .len (.t 61), none⟩, ⟨some 63, .mnmx false (.t 60) (.t 62), none⟩, ⟨some 6, .mv (.t 63), none⟩, ⟨some 7, .mv (.c (.int .i64 18)), none⟩]) .ret) .skip)) (.seq (.reg [⟨some 6, .mv (.c (.int .i64 0)), none⟩, ⟨some 7, .mv (.c (.int .i64 0)), none⟩]) .ret)))))
def res : List RItem := [.t 6, .t 7]
theorem ok : Option.bind Try.f33.body (cCode P Try.f33.ntmps) = some code := by kernel_rfl
theorem rok : cRes P Try.f33.results.toList = some res := by kernel_rfl
theorem intro {args : List AV} {T T2 : Tab} {r : AV} (ha : (Nat.ble args.length nt && Nat.ble T.length 4) = true) (h : Run P nt [.code code] (argEnv 0 args) T (RetQ res T T2 r)) : AC P id args T r T2 :=
  AC.introB Try.func33 ok rfl rok ha h
end R17_Check
namespace R15_Right
/-- instar/instarref15.Right -/
abbrev id : FuncId := 34
abbrev nt : Nat := 123
def code : ACode := .seq (.reg [⟨some 1, .box (.t 0), none⟩, ⟨some 2, .mv (.c (.bool false)), none⟩]) (.seq (.seq (.reg [⟨some 3, .fa 0 (.t 1), none⟩, ⟨some 4, .ld 1 false (.t 3), none⟩, ⟨some 5, .call 73 [.t 4], none⟩, ⟨some 6, .binS false (.t 5) (.c (.string { data := { toList := [] } })), none⟩, ⟨some 7, .mv (.t 6), none⟩, ⟨some 8, .ld 16 true (.t 1), some (7, false)⟩, ⟨some 9, .call 74 [.t 8], some (7, false)⟩, ⟨some 10, .not (.t 9), some (7, false)⟩, ⟨some 11, .pick (.t 7) (.c (.bool true)) (.t 10), none⟩, ⟨some 12, .mv (.t 11), none⟩, ⟨some 13, .fa 1 (.t 1), some (12, false)⟩, ⟨some 14, .ld 1 false (.t 13), some (12, false)⟩, ⟨some 15, .call 75 [.t 14, .c (.int .i64 0), .c (.int .i64 200)], some (12, false)⟩, ⟨some 16, .not (.t 15), some (12, false)⟩, ⟨some 17, .pick (.t 12) (.c (.bool true)) (.t 16), none⟩, ⟨some 18, .mv (.t 17), none⟩, ⟨some 19, .fa 2 (.t 1), some (18, false)⟩, ⟨some 20, .ld 1 false (.t 19), some (18, false)⟩, ⟨some 21, .call 75 [.t 20, .c (.int .i64 0), .c (.int .i64 255)], some (18, false)⟩, ⟨some 22, .not (.t 21), some (18, false)⟩, ⟨some 23, .pick (.t 18) (.c (.bool true)) (.t 22), none⟩, ⟨some 24, .mv (.t 23), none⟩, ⟨some 25, .fa 3 (.t 1), some (24, false)⟩, ⟨some 26, .ld 1 false (.t 25), some (24, false)⟩, ⟨some 27, .call 75 [.t 26, .c (.int .i64 0), .c (.int .i64 8)], some (24, false)⟩, ⟨some 28, .not (.t 27), some (24, false)⟩, ⟨some 29, .pick (.t 24) (.c (.bool true)) (.t 28), none⟩, ⟨some 30, .mv (.t 29), none⟩, ⟨some 31, .fa 4 (.t 1), some (30, false)⟩, ⟨some 32, .ld 1 false (.t 31), some (30, false)⟩, ⟨some 33, .call 75 [.t 32, .c (.int .i64 0), .c (.int .i64 255)], some (30, false)⟩, ⟨some 34, .not (.t 33), some (30, false)⟩, ⟨some 35, .pick (.t 30) (.c (.bool true)) (.t 34), none⟩, ⟨some 36, .mv (.t 35), none⟩, ⟨some 37, .ld 16 true (.t 1), some (36, false)⟩, ⟨some 38, .call 76 [.t 37], some (36, false)⟩, ⟨some 39, .not (.t 38), some (36, false)⟩, ⟨some 40, .pick (.t 36) (.c (.bool true)) (.t 39), none⟩]) (.cond (.t 40) (.seq (.reg [⟨some 2, .mv (.c (.bool false)), none⟩]) .ret) .skip)) (.seq (.seq (.reg [⟨some 41, .fa 0 (.t 1), none⟩, ⟨some 42, .ld 1 false (.t 41), none⟩, ⟨some 43, .call 77 [.t 42, .c (.int .u8 116)], none⟩, ⟨some 44, .mv (.t 43), none⟩, ⟨some 45, .fa 4 (.t 1), some (44, true)⟩, ⟨some 46, .ld 1 false (.t 45), some (44, true)⟩, ⟨some 47, .fa 2 (.t 1), some (44, true)⟩, ⟨some 48, .ld 1 false (.t 47), some (44, true)⟩, ⟨some 49, .bin .eql (.t 46) (.t 48), some (44, true)⟩, ⟨some 50, .pick (.t 44) (.t 49) (.c (.bool false)), none⟩, ⟨some 51, .mv (.t 50), none⟩, ⟨some 52, .fa 0 (.t 1), some (51, false)⟩, ⟨some 53, .ld 1 false (.t 52), some (51, false)⟩, ⟨some 54, .call 77 [.t 53, .c (.int .u8 70)], some (51, false)⟩, ⟨some 55, .mv (.t 54), some (51, false)⟩, ⟨some 56, .fa 7 (.t 1), some (55, true)⟩, ⟨some 57, .ld 5 true (.t 56), some (55, true)⟩, ⟨some 58, .call 78 [.t 57], some (55, true)⟩, ⟨some 59, .not (.t 58), some (55, true)⟩, ⟨some 60, .pick (.t 55) (.t 59) (.c (.bool false)), some (51, false)⟩, ⟨some 61, .pick (.t 51) (.c (.bool true)) (.t 60), none⟩]) (.cond (.t 61) (.seq (.reg [⟨some 2, .mv (.c (.bool false)), none⟩]) .ret) .skip)) (.seq (.seq (.reg [⟨some 62, .fa 0 (.t 1), none⟩, ⟨some 63, .ld 1 false (.t 62), none⟩, ⟨some 64, .call 77 [.t 63, .c (.int .u8 70)], none⟩, ⟨some 65, .mv (.t 64), none⟩, ⟨some 66, .fa 0 (.t 1), some (65, true)⟩, ⟨some 67, .ld 1 false (.t 66), some (65, true)⟩, ⟨some 68, .call 77 [.t 67, .c (.int .u8 100)], some (65, true)⟩, ⟨some 69, .pick (.t 65) (.t 68) (.c (.bool false)), none⟩, ⟨some 70, .mv (.t 69), none⟩, ⟨some 71, .fa 7 (.t 1), some (70, true)⟩, ⟨some 72, .fa 0 (.t 71), some (70, true)⟩, ⟨some 73, .ld 1 false (.t 72), some (70, true)⟩, ⟨some 74, .fa 2 (.t 1), some (70, true)⟩, ⟨some 75, .ld 1 false (.t 74), some (70, true)⟩, ⟨some 76, .bin .neq (.t 73) (.t 75), some (70, true)⟩, ⟨some 77, .pick (.t 70) (.t 76) (.c (.bool false)), none⟩]) (.cond (.t 77) (.seq (.reg [⟨some 2, .mv (.c (.bool false)), none⟩]) .ret) .skip)) (.seq (.seq (.reg [⟨some 78, .fa 0 (.t 1), none⟩, ⟨some 79, .ld 1 false (.t 78), none⟩, ⟨some 80, .bin .eql (.t 79) (.c (.int .i64 2)), none⟩, ⟨some 81, .mv (.t 80), none⟩, ⟨some 82, .fa 12 (.t 1), some (81, true)⟩, ⟨some 83, .fa 0 (.t 82), some (81, true)⟩, ⟨some 84, .ld 1 false (.t 83), some (81, true)⟩, ⟨some 85, .call 75 [.t 84, .c (.int .i64 (-1099511627776)), .c (.int .i64 1099511627776)], some (81, true)⟩, ⟨some 86, .not (.t 85), some (81, true)⟩, ⟨some 87, .mv (.t 86), some (81, true)⟩, ⟨some 88, .fa 12 (.t 1), some (87, false)⟩, ⟨some 89, .fa 1 (.t 88), some (87, false)⟩, ⟨some 90, .ld 1 false (.t 89), some (87, false)⟩, ⟨some 91, .lenS (.t 90), some (87, false)⟩, ⟨some 92, .bin .gtr (.t 91) (.c (.int .i64 32)), some (87, false)⟩, ⟨some 93, .pick (.t 87) (.c (.bool true)) (.t 92), some (81, true)⟩, ⟨some 94, .pick (.t 81) (.t 93) (.c (.bool false)), none⟩]) (.cond (.t 94) (.seq (.reg [⟨some 2, .mv (.c (.bool false)), none⟩]) .ret) .skip)) (.seq (.seq (.reg [⟨some 95, .fa 0 (.t 1), none⟩, ⟨some 96, .ld 1 false (.t 95), none⟩, ⟨some 97, .call 77 [.t 96, .c (.int .u8 112)], none⟩, ⟨some 98, .mv (.t 97), none⟩, ⟨some 99, .fa 0 (.t 1), some (98, true)⟩, ⟨some 100, .ld 1 false (.t 99), some (98, true)⟩, ⟨some 101, .call 77 [.t 100, .c (.int .u8 86)], some (98, true)⟩, ⟨some 102, .pick (.t 98) (.t 101) (.c (.bool false)), none⟩, ⟨some 103, .mv (.t 102), none⟩, ⟨some 104, .fa 7 (.t 1), some (103, true)⟩, ⟨some 105, .ld 5 true (.t 104), some (103, true)⟩, ⟨some 106, .fa 12 (.t 1), some (103, true)⟩, ⟨some 107, .ld 2 true (.t 106), some (103, true)⟩, ⟨some 108, .call 79 [.t 105, .t 107], some (103, true)⟩, ⟨some 109, .not (.t 108), some (103, true)⟩, ⟨some 110, .pick (.t 103) (.t 109) (.c (.bool false)), none⟩]) (.cond (.t 110) (.seq (.reg [⟨some 2, .mv (.c (.bool false)), none⟩]) .ret) .skip)) (.seq (.reg [⟨some 111, .fa 0 (.t 1), none⟩, ⟨some 112, .ld 1 false (.t 111), none⟩, ⟨some 113, .call 77 [.t 112, .c (.int .u8 76)], none⟩, ⟨some 114, .not (.t 113), none⟩, ⟨some 115, .mv (.t 114), none⟩, ⟨some 116, .fa 1 (.t 1), some (115, false)⟩, ⟨some 117, .ld 1 false (.t 116), some (115, false)⟩, ⟨some 118, .fa 15 (.t 1), some (115, false)⟩, ⟨some 119, .ld 1 false (.t 118), some (115, false)⟩, ⟨some 120, .bld [.int .i64 0, .slice none 0 0] [(0, 1, .t 117), (1, 1, .t 119)], some (115, false)⟩, ⟨some 121, .call 66 [.t 120], some (115, false)⟩, ⟨some 122, .pick (.t 115) (.c (.bool true)) (.t 121), none⟩, ⟨some 2, .mv (.t 122), none⟩]) .ret))))))
def res : List RItem := [.t 2]
theorem ok : Option.bind Try.f34.body (cCode P Try.f34.ntmps) = some code := by kernel_rfl
theorem rok : cRes P Try.f34.results.toList = some res := by kernel_rfl
theorem intro {args : List AV} {T T2 : Tab} {r : AV} (ha : (Nat.ble args.length nt && Nat.ble T.length 4) = true) (h : Run P nt [.code code] (argEnv 0 args) T (RetQ res T T2 r)) : AC P id args T r T2 :=
  AC.introB Try.func34 ok rfl rok ha h
end R15_Right
namespace schema_Right
/-- instar/schema.Right -/
abbrev id : FuncId := 48
abbrev nt : Nat := 39
def code : ACode := .seq (.reg [⟨some 1, .box (.t 0), none⟩, ⟨some 2, .mv (.c (.bool false)), none⟩]) (.seq (.seq (.reg [⟨some 6, .fa 0 (.t 1), none⟩, ⟨some 7, .ld 1 false (.t 6), none⟩, ⟨some 8, .bin .lss (.t 7) (.c (.int .i64 1)), none⟩, ⟨some 9, .mv (.t 8), none⟩, ⟨some 10, .fa 0 (.t 1), some (9, false)⟩, ⟨some 11, .ld 1 false (.t 10), some (9, false)⟩, ⟨some 12, .bin .gtr (.t 11) (.c (.int .i64 65535)), some (9, false)⟩, ⟨some 13, .pick (.t 9) (.c (.bool true)) (.t 12), none⟩, ⟨some 14, .mv (.t 13), none⟩, ⟨some 15, .fa 1 (.t 1), some (14, false)⟩, ⟨some 16, .ld 1 false (.t 15), some (14, false)⟩, ⟨some 17, .len (.t 16), some (14, false)⟩, ⟨some 18, .bin .gtr (.t 17) (.c (.int .i64 8)), some (14, false)⟩, ⟨some 19, .pick (.t 14) (.c (.bool true)) (.t 18), none⟩]) (.cond (.t 19) (.seq (.reg [⟨some 2, .mv (.c (.bool false)), none⟩]) .ret) .skip)) (.seq (.reg [⟨some 3, .mv (.c (.int .i64 (-1))), none⟩]) (.seq (.seq (.reg [⟨some 20, .fa 1 (.t 1), none⟩, ⟨some 21, .ld 1 false (.t 20), none⟩, ⟨some 22, .len (.t 21), none⟩, ⟨some 23, .mv (.c (.int .i64 0)), none⟩]) (.block 0 (.loop (.seq (.reg [⟨some 24, .bin .lss (.t 23) (.t 22), none⟩]) (.seq (.cond (.t 24) .skip (.exit 0)) (.seq (.block 1 (.seq (.reg [⟨some 25, .ia 2 (.t 21) (.t 23), none⟩, ⟨some 26, .ld 2 true (.t 25), none⟩, ⟨some 5, .alloc [.int .i64 0, .slice none 0 0], none⟩, ⟨none, .st 2 (.t 5) (.t 26), none⟩]) (.seq (.seq (.reg [⟨some 27, .ld 2 true (.t 5), none⟩, ⟨some 28, .call 91 [.t 27], none⟩, ⟨some 29, .not (.t 28), none⟩, ⟨some 30, .mv (.t 29), none⟩, ⟨some 31, .fa 0 (.t 5), some (30, false)⟩, ⟨some 32, .ld 1 false (.t 31), some (30, false)⟩, ⟨some 33, .mv (.t 3), some (30, false)⟩, ⟨some 34, .bin .leq (.t 32) (.t 33), some (30, false)⟩, ⟨some 35, .pick (.t 30) (.c (.bool true)) (.t 34), none⟩]) (.cond (.t 35) (.seq (.reg [⟨some 2, .mv (.c (.bool false)), none⟩]) .ret) .skip)) (.reg [⟨some 36, .fa 0 (.t 5), none⟩, ⟨some 37, .ld 1 false (.t 36), none⟩, ⟨some 3, .mv (.t 37), none⟩])))) (.reg [⟨some 38, .bin .add (.t 23) (.c (.int .i64 1)), none⟩, ⟨some 23, .mv (.t 38), none⟩]))))))) (.seq (.reg [⟨some 2, .mv (.c (.bool true)), none⟩]) .ret))))
def res : List RItem := [.t 2]
theorem ok : Option.bind Try.f48.body (cCode P Try.f48.ntmps) = some code := by kernel_rfl
theorem rok : cRes P Try.f48.results.toList = some res := by kernel_rfl
theorem intro {args : List AV} {T T2 : Tab} {r : AV} (ha : (Nat.ble args.length nt && Nat.ble T.length 4) = true) (h : Run P nt [.code code] (argEnv 0 args) T (RetQ res T T2 r)) : AC P id args T r T2 :=
  AC.introB Try.func48 ok rfl rok ha h
end schema_Right
namespace step_Right
/-- instar/step.Right -/
abbrev id : FuncId := 49
abbrev nt : Nat := 29
def code : ACode := .seq (.reg [⟨some 1, .box (.t 0), none⟩, ⟨some 2, .mv (.c (.bool false)), none⟩]) (.seq (.reg [⟨some 6, .fa 0 (.t 1), none⟩, ⟨some 7, .ld 1 false (.t 6), none⟩, ⟨some 8, .call 92 [.t 7], none⟩, ⟨some 3, .mv (.t 8), none⟩]) (.seq (.seq (.reg [⟨some 9, .mv (.t 3), none⟩, ⟨some 10, .len (.t 9), none⟩, ⟨some 11, .mv (.c (.int .i64 0)), none⟩]) (.block 0 (.loop (.seq (.reg [⟨some 12, .bin .lss (.t 11) (.t 10), none⟩]) (.seq (.cond (.t 12) .skip (.exit 0)) (.seq (.block 1 (.seq (.reg [⟨some 13, .ia 1 (.t 9) (.t 11), none⟩, ⟨some 14, .ld 1 false (.t 13), none⟩, ⟨some 5, .mv (.t 14), none⟩]) (.seq (.reg [⟨some 15, .ld 16 true (.t 1), none⟩, ⟨some 16, .mv (.t 5), none⟩, ⟨some 17, .call 93 [.t 15, .t 16], none⟩, ⟨some 18, .not (.t 17), none⟩]) (.cond (.t 18) (.seq (.reg [⟨some 2, .mv (.c (.bool false)), none⟩]) .ret) .skip)))) (.reg [⟨some 19, .bin .add (.t 11) (.c (.int .i64 1)), none⟩, ⟨some 11, .mv (.t 19), none⟩]))))))) (.seq (.draw [⟨some 20, .mv (.t 3), none⟩, ⟨some 21, .len (.t 20), none⟩, ⟨some 22, .bin .gtr (.t 21) (.c (.int .i64 0)), none⟩, ⟨some 23, .mv (.t 22), none⟩, ⟨some 24, .ld 16 true (.t 1), some (23, true)⟩, ⟨some 25, .ld 16 true (.t 1), some (23, true)⟩, ⟨some 26, .call 94 [.t 25], some (23, true)⟩, ⟨some 27, .call 72 [.t 24, .t 26], some (23, true)⟩, ⟨some 28, .pick (.t 23) (.t 27) (.c (.bool false)), none⟩, ⟨some 2, .mv (.t 28), none⟩] [0, 1, 3, 7, 15, 15, 47, 127, 255, 511]) .ret)))
def res : List RItem := [.t 2]
theorem ok : Option.bind Try.f49.body (cCode P Try.f49.ntmps) = some code := by kernel_rfl
theorem rok : cRes P Try.f49.results.toList = some res := by kernel_rfl
theorem intro {args : List AV} {T T2 : Tab} {r : AV} (ha : (Nat.ble args.length nt && Nat.ble T.length 4) = true) (h : Run P nt [.code code] (argEnv 0 args) T (RetQ res T T2 r)) : AC P id args T r T2 :=
  AC.introB Try.func49 ok rfl rok ha h
end step_Right
namespace typing_copied
/-- instar/typing.copied -/
abbrev id : FuncId := 50
abbrev nt : Nat := 29
def code : ACode := .seq (.reg [⟨some 1, .box (.t 0), none⟩, ⟨some 2, .alloc [.int .i64 0, .slice none 0 0], none⟩]) (.seq (.reg [⟨some 6, .fa 0 (.t 1), none⟩, ⟨some 7, .ld 1 false (.t 6), none⟩, ⟨some 8, .bld [.int .i64 0, .slice none 0 0] [(0, 1, .t 7)], none⟩, ⟨some 3, .alloc [.int .i64 0, .slice none 0 0], none⟩, ⟨none, .st 2 (.t 3) (.t 8), none⟩]) (.seq (.seq (.reg [⟨some 9, .fa 1 (.t 1), none⟩, ⟨some 10, .ld 1 false (.t 9), none⟩, ⟨some 11, .len (.t 10), none⟩, ⟨some 12, .mv (.c (.int .i64 0)), none⟩]) (.block 0 (.loop (.seq (.reg [⟨some 13, .bin .lss (.t 12) (.t 11), none⟩]) (.seq (.cond (.t 13) .skip (.exit 0)) (.seq (.block 1 (.seq (.reg [⟨some 14, .ia 2 (.t 10) (.t 12), none⟩, ⟨some 15, .ld 2 true (.t 14), none⟩, ⟨some 5, .alloc [.int .i64 0, .slice none 0 0], none⟩, ⟨none, .st 2 (.t 5) (.t 15), none⟩]) (.draw [⟨some 16, .fa 1 (.t 3), none⟩, ⟨some 17, .ld 1 false (.t 16), none⟩, ⟨some 18, .fa 0 (.t 5), none⟩, ⟨some 19, .ld 1 false (.t 18), none⟩, ⟨some 20, .fa 1 (.t 5), none⟩, ⟨some 21, .ld 1 false (.t 20), none⟩, ⟨some 22, .call 53 [.t 21], none⟩, ⟨some 23, .bld [.int .i64 0, .slice none 0 0] [(0, 1, .t 19), (1, 1, .t 22)], none⟩, ⟨some 24, .bslF 2 [.t 23], none⟩, ⟨some 25, .app 2 32 (.t 17) (.t 24), none⟩, ⟨some 26, .fa 1 (.t 3), none⟩, ⟨none, .st 1 (.t 26) (.t 25), none⟩] [0, 1, 0, 4, 0, 16, 48, 124, 252, 511, 1023, 2047]))) (.reg [⟨some 27, .bin .add (.t 12) (.c (.int .i64 1)), none⟩, ⟨some 12, .mv (.t 27), none⟩]))))))) (.seq (.reg [⟨some 28, .ld 2 true (.t 3), none⟩, ⟨none, .st 2 (.t 2) (.t 28), none⟩]) .ret)))
def res : List RItem := [.cell 2 2 true]
theorem ok : Option.bind Try.f50.body (cCode P Try.f50.ntmps) = some code := by kernel_rfl
theorem rok : cRes P Try.f50.results.toList = some res := by kernel_rfl
theorem intro {args : List AV} {T T2 : Tab} {r : AV} (ha : (Nat.ble args.length nt && Nat.ble T.length 4) = true) (h : Run P nt [.code code] (argEnv 0 args) T (RetQ res T T2 r)) : AC P id args T r T2 :=
  AC.introB Try.func50 ok rfl rok ha h
end typing_copied
end Go.Proofs.Ytbpcjahjbkiofaa.Fn

