/- Part 2 of the proof of PairBack: A13, A14, A15, A16, A17, A18, A19, A20, A21, A22, A23, A24, A25, A26, A27, A28, A29, A30. -/
import Derived.Test.YtbpcjahjbkiofaaMPairBack0
import Derived.Lib.AppendZerosOnto
import Derived.Laws.Externs
set_option linter.unusedVariables false
set_option linter.unusedSimpArgs false
namespace Go.Proofs.Ytbpcjahjbkiofaa.AV
open Go

/-! ### Values brought to their heads -/
def norm0 (v : AV) (K : AV → Prop) : Prop := match v with
  | .top => K .top
  | .tt => K .tt
  | .ff => K .ff
  | .bool b => K (.bool b)
  | .int k n => K (.int k n)
  | .str s => K (.str s)
  | .list sz n f => K (.list sz n f)
  | .zsl => K .zsl
  | .row sz id ver off len => K (.row sz id ver off len)
  | .nilp => K .nilp
  | .ptr id ver e o => K (.ptr id ver e o)
  | .fptr c o => K (.fptr c o)
  | .func f c => K (.func f c)
  | .nilf => K .nilf
  | .nili => K .nili
  | .agg l => K (.agg l)
  | .tuple l => K (.tuple l)
  | .when ps x => K (.when ps x)

def normL (l : List AV) (K : List AV → Prop) : Prop := match l with
  | [] => K []
  | x :: r => norm0 x fun x' => normL r fun r' => K (x' :: r')

def norm1 (v : AV) (K : AV → Prop) : Prop := norm0 v fun v => match v with
  | .agg l => normL l fun l' => K (.agg l')
  | .fptr l o => normL l fun l' => K (.fptr l' o)
  | .func f l => normL l fun l' => K (.func f l')
  | v => K v

def normM (l : List AV) (K : List AV → Prop) : Prop := match l with
  | [] => K []
  | x :: r => norm1 x fun x' => normM r fun r' => K (x' :: r')

def norm (v : AV) (K : AV → Prop) : Prop := norm1 v fun v => match v with
  | .tuple l => normM l fun l' => K (.tuple l')
  | v => K v

theorem norm0_iff (v : AV) (K : AV → Prop) : norm0 v K ↔ K v := by cases v <;> exact Iff.rfl
theorem normL_iff : ∀ (l : List AV) (K : List AV → Prop), normL l K ↔ K l
  | [], K => Iff.rfl
  | x :: r, K => (norm0_iff x _).trans (normL_iff r _)
theorem norm1_iff (v : AV) (K : AV → Prop) : norm1 v K ↔ K v := by
  refine (norm0_iff v _).trans ?_
  cases v <;> first | exact Iff.rfl | exact normL_iff _ _
theorem normM_iff : ∀ (l : List AV) (K : List AV → Prop), normM l K ↔ K l
  | [], K => Iff.rfl
  | x :: r, K => (norm1_iff x _).trans (normM_iff r _)
theorem norm_iff (v : AV) (K : AV → Prop) : norm v K ↔ K v := by
  refine (norm1_iff v _).trans ?_
  cases v <;> first | exact Iff.rfl | exact normM_iff _ _

def normO (o : Ob) (K : Ob → Prop) : Prop := match o with
  | .fresh => K .fresh
  | .dead => K .dead
  | .box l => normL l fun l' => K (.box l')
  | .row sz n ver f => K (.row sz n ver f)
  | .cap id ver C => K (.cap id ver C)
theorem normO_iff (o : Ob) (K : Ob → Prop) : normO o K ↔ K o := by cases o <;> first | exact Iff.rfl | exact normL_iff _ _

def bindK (env : Env) (d : Option Nat) (v : AV) (K : Env → Prop) : Prop := match d with
  | none => K env
  | some n => K ((n, v) :: env)
theorem bindK_iff (env : Env) (d : Option Nat) (v : AV) (K : Env → Prop) : bindK env d v K ↔ K (bindE env d v) := by cases d <;> exact Iff.rfl

/-! Lists of numbers, and histories, brought to their whole form. -/
def natsK (l : List Nat) (K : List Nat → Prop) : Prop := match l with
  | [] => K []
  | x :: r => natsK r fun r' => K (x :: r')
theorem natsK_iff : ∀ (l : List Nat) (K : List Nat → Prop), natsK l K ↔ K l
  | [], K => Iff.rfl
  | x :: r, K => natsK_iff r fun r' => K (x :: r')
def optK (x : Option Nat) (K : Option Nat → Prop) : Prop := match x with
  | none => K none
  | some n => K (some n)
theorem optK_iff (x : Option Nat) (K : Option Nat → Prop) : optK x K ↔ K x := by cases x <;> exact Iff.rfl
def hfK (d : Option Nat) (rd fp : List Nat) (u : Option Nat) (K : HF → Prop) : Prop := optK d fun d => natsK rd fun rd => natsK fp fun fp => optK u fun u => K ⟨d, rd, fp, u⟩
theorem hfK_iff (d : Option Nat) (rd fp : List Nat) (u : Option Nat) (K : HF → Prop) : hfK d rd fp u K ↔ K ⟨d, rd, fp, u⟩ := by
  unfold hfK
  rw [optK_iff, natsK_iff, natsK_iff, optK_iff]
def happK (h : List HF) (x : HF) (K : List HF → Prop) : Prop := match h with
  | [] => K [x]
  | y :: r => happK r x fun r' => K (y :: r')
theorem happK_iff : ∀ (h : List HF) (x : HF) (K : List HF → Prop), happK h x K ↔ K (h ++ [x])
  | [], x, K => Iff.rfl
  | y :: r, x, K => happK_iff r x fun r' => K (y :: r')

def lenK (T : Tab) (K : Nat → Prop) : Prop := match T with
  | [] => K 0
  | [_] => K 1
  | [_, _] => K 2
  | [_, _, _] => K 3
  | [_, _, _, _] => K 4
  | [_, _, _, _, _] => K 5
  | [_, _, _, _, _, _] => K 6
  | [_, _, _, _, _, _, _] => K 7
  | [_, _, _, _, _, _, _, _] => K 8
  | [_, _, _, _, _, _, _, _, _] => K 9
  | [_, _, _, _, _, _, _, _, _, _] => K 10
  | [_, _, _, _, _, _, _, _, _, _, _] => K 11
  | [_, _, _, _, _, _, _, _, _, _, _, _] => K 12
  | T => K T.length
theorem lenK_iff (T : Tab) (K : Nat → Prop) : lenK T K ↔ K T.length := by unfold lenK; split <;> exact Iff.rfl

def tsetK (T : Tab) (n : Nat) (o : Ob) (K : Tab → Prop) : Prop := match T with
  | [] => match n with
    | 0 => K [o]
    | n + 1 => K (.fresh :: tset [] n o)
  | x :: r => match n with
    | 0 => K (o :: r)
    | n + 1 => tsetK r n o fun r' => K (x :: r')
theorem tsetK_iff : ∀ (T : Tab) (n : Nat) (o : Ob) (K : Tab → Prop), tsetK T n o K ↔ K (tset T n o)
  | [], 0, o, K => Iff.rfl
  | [], n + 1, o, K => Iff.rfl
  | x :: r, 0, o, K => Iff.rfl
  | x :: r, n + 1, o, K => tsetK_iff r n o _

def tupdK (T : Tab) (u : Option (Nat × Ob)) (K : Tab → Prop) : Prop := match u with
  | none => K T
  | some (id, o) => normO o fun o' => tsetK T id o' K
theorem tupdK_iff (T : Tab) (u : Option (Nat × Ob)) (K : Tab → Prop) : tupdK T u K ↔ K (tupd T u) := by
  cases u with
  | none => exact Iff.rfl
  | some p => exact (normO_iff p.2 fun o' => tsetK T p.1 o' K).trans (tsetK_iff T p.1 p.2 K)

/-! ### Operations -/

def isPick : AOp → Option (Opd × Opd × Opd)
  | .pick c a b => some (c, a, b)
  | _ => none
theorem isPick_spec {p : AOp} {c a b : Opd} (h : isPick p = some (c, a, b)) : p = .pick c a b := by
  cases p <;> simp only [isPick, Option.some.injEq, Prod.mk.injEq, reduceCtorEq] at h
  obtain ⟨rfl, rfl, rfl⟩ := h
  rfl

def wrapK (gs : List Bool) (v : AV) (K : AV → Prop) : Prop := match gs with
  | [] => K v
  | p :: r => K (.when (p :: r) v)
theorem wrapK_iff (gs : List Bool) (v : AV) (K : AV → Prop) : wrapK gs v K ↔ K (wrapW gs v) := by cases gs <;> exact Iff.rfl

/-- Operations, as far as they go straight on; then C, at what is left. -/
def runO (l : List AOper) (env : Env) (T : Tab) (acc : Obs) (C : List AOper → Env → Tab → Obs → Prop) : Prop := match l with
  | [] => C [] env T acc
  | o :: r => match gB o.guard env with
    | .unk => C (o :: r) env T acc
    | .no => bindK env o.dst .top fun e => runO r e T acc C
    | .yes gs => match isPick o.op with
      | some (c, a, b) => match pickW gs env c a b with
        | none => C (o :: r) env T acc
        | some (v, ob) => norm v fun v1 => wrapK gs v1 fun v2 => bindK env o.dst v2 fun e => runO r e T (oapp ob acc) C
      | none => match gs with
        | [] => lenK T fun nid => match opV o.op env T nid with
          | none => C (o :: r) env T acc
          | some (v, u) => norm v fun v1 => tupdK T u fun T1 => bindK env o.dst v1 fun e => runO r e T1 acc C
        | g :: gr => match opV o.op (stripE env env (slots o.op)) T 0 with
          | none => C (o :: r) env T acc
          | some (v, u) => match u with
            | some _ => C (o :: r) env T acc
            | none => norm v fun v1 => bindK env o.dst (.when (g :: gr) v1) fun e => runO r e T (oapp (stripOb (g :: gr) env (slots o.op)) acc) C

theorem Step1.straightN {P : Program} {nt : Nat} {o : AOper} {env : Env} {T : Tab} {v : AV} {u : Option (Nat × Ob)} {nid : Nat} (hf : tget T nid = .fresh) (hg : gB o.guard env = .yes []) (hv : opV o.op env T nid = some (v, u)) : Step1 P nt o env T v (tupd T u) := by
  refine ⟨fun mo i m hm hco G a w R K Qm hq => ?_⟩
  obtain ⟨h1, h2, h3, _⟩ := cOper_spec hco
  simp only [wpOp, hm, ((gB_spec R hco).2 _ hg).1 trivial, if_true]
  obtain ⟨hdef, hs, ok, mu, I, E⟩ := R
  obtain ⟨nx, x, w', ok', mu', hrun, hnx, N, hx⟩ := (Does.straight' hf hv).out h1 I E
  left
  unfold Oper.wp
  rw [hrun]
  have R' := Rel.put hdef hs I E N hx h3
  rcases hnx with rfl | ⟨rfl, rfl⟩
  · simp only [Oper.upon, h2]; exact hq _ _ R'
  · simp only [Oper.upon, h2]; exact hq _ _ R'

theorem Step1.straight {P : Program} {nt : Nat} {o : AOper} {env : Env} {T : Tab} {v : AV} {u : Option (Nat × Ob)} (hg : gB o.guard env = .yes []) (hv : opV o.op env T T.length = some (v, u)) : Step1 P nt o env T v (tupd T u) :=
  Step1.straightN (fresh_len T) hg hv

theorem Step1.W {P : Program} {nt : Nat} {o : AOper} {env : Env} {T : Tab} {gs : List Bool} {v : AV} {nid : Nat} (hg : gB o.guard env = .yes gs) (ho : OKs (stripOb gs env (slots o.op))) (hv : opV o.op (stripE env env (slots o.op)) T nid = some (v, none)) : Step1 P nt o env T (wrapW gs v) T :=
  Step1.doesW hg ho fun _ => Does.straight' (fresh_len T) (opV_none hv)

theorem runO_sound {P : Program} {nt : Nat} {K : Env → Tab → Prop} : ∀ (l : List AOper) (env : Env) (T : Tab) (acc : Obs), runO l env T acc (fun l' e t acc' => OKs acc' ∧ SO P nt l' e t K) → OKs acc ∧ SO P nt l env T K
  | [], env, T, acc, h => h
  | o :: r, env, T, acc, h => by
    simp only [runO] at h
    split at h
    · exact h
    · rename_i hg
      rw [bindK_iff] at h
      obtain ⟨h1, h2⟩ := runO_sound r _ _ _ h
      exact ⟨h1, SO.of_step1 (Step1.no hg) h2⟩
    · rename_i gs hg
      split at h
      · rename_i c a b hp
        split at h
        · exact h
        · rename_i v ob hw
          rw [norm_iff, wrapK_iff, bindK_iff] at h
          obtain ⟨h1, h2⟩ := runO_sound r _ _ _ h
          obtain ⟨o1, o2⟩ := h1.app
          exact ⟨o2, SO.of_step1 (Step1.pickW (isPick_spec hp) hg hw o1) h2⟩
      · split at h
        · rw [lenK_iff] at h
          split at h
          · exact h
          · rename_i v u hv
            rw [norm_iff, tupdK_iff, bindK_iff] at h
            obtain ⟨h1, h2⟩ := runO_sound r _ _ _ h
            exact ⟨h1, SO.of_step1 (Step1.straight hg hv) h2⟩
        · rename_i g gr
          split at h
          · exact h
          · rename_i v u hv
            split at h
            · exact h
            · rw [norm_iff, bindK_iff] at h
              obtain ⟨h1, h2⟩ := runO_sound r _ _ _ h
              obtain ⟨o1, o2⟩ := h1.app
              exact ⟨o2, SO.of_step1 (Step1.W hg o1 hv) h2⟩

theorem runO_mono {C C' : List AOper → Env → Tab → Obs → Prop} (hC : ∀ l e t o, C l e t o → C' l e t o) : ∀ (l : List AOper) (env : Env) (T : Tab) (acc : Obs), runO l env T acc C → runO l env T acc C'
  | [], env, T, acc, hc => hC _ _ _ _ hc
  | o :: r, env, T, acc, hc => by
    simp only [runO] at hc ⊢
    split at hc
    · exact hC _ _ _ _ hc
    · rw [bindK_iff] at hc ⊢
      exact runO_mono hC r _ _ _ hc
    · split at hc
      · split at hc
        · exact hC _ _ _ _ hc
        · rw [norm_iff, wrapK_iff, bindK_iff] at hc ⊢
          exact runO_mono hC r _ _ _ hc
      · split at hc
        · rw [lenK_iff] at hc ⊢
          split at hc
          · exact hC _ _ _ _ hc
          · rw [norm_iff, tupdK_iff, bindK_iff] at hc ⊢
            exact runO_mono hC r _ _ _ hc
        · split at hc
          · exact hC _ _ _ _ hc
          · split at hc
            · exact hC _ _ _ _ hc
            · rw [norm_iff, bindK_iff] at hc ⊢
              exact runO_mono hC r _ _ _ hc

/-- So in a region that leaves the order open. -/
def runD (l : List AOper) (bm : List Nat) (h : List HF) (env : Env) (T : Tab) (acc : Obs) (C : List AOper → List Nat → List HF → Env → Tab → Obs → Prop) : Prop := match l with
  | [] => C [] bm h env T acc
  | o :: r => match bm with
    | [] => C (o :: r) [] h env T acc
    | b :: bm => match gB o.guard env with
      | .unk => C (o :: r) (b :: bm) h env T acc
      | .no => hfK o.dst (gS o.guard) [] none fun x => match chkH b 0 h x with
        | false => C (o :: r) (b :: bm) h env T acc
        | true => happK h x fun h1 => bindK env o.dst .top fun e => runD r bm h1 e T acc C
      | .yes gs => match isPick o.op with
        | some (c, a, d) => match pickW gs env c a d with
          | none => C (o :: r) (b :: bm) h env T acc
          | some (v, ob) => hfK o.dst (lapp (gS o.guard) (slots o.op)) [] none fun x => match chkH b 0 h x with
            | false => C (o :: r) (b :: bm) h env T acc
            | true => norm v fun v1 => wrapK gs v1 fun v2 => happK h x fun h1 => bindK env o.dst v2 fun e => runD r bm h1 e T (oapp ob acc) C
        | none => match gs with
          | [] => lenK T fun nid => match opV o.op env T nid with
            | none => C (o :: r) (b :: bm) h env T acc
            | some (v, u) => hfK o.dst (lapp (gS o.guard) (slots o.op)) (fpU o.op env u) (ufst u) fun x => match chkH b 0 h x with
              | false => C (o :: r) (b :: bm) h env T acc
              | true => norm v fun v1 => tupdK T u fun T1 => happK h x fun h1 => bindK env o.dst v1 fun e => runD r bm h1 e T1 acc C
          | g :: gr => match opV o.op (stripE env env (slots o.op)) T 0 with
            | none => C (o :: r) (b :: bm) h env T acc
            | some (v, u) => match u with
              | some _ => C (o :: r) (b :: bm) h env T acc
              | none => hfK o.dst (lapp (gS o.guard) (slots o.op)) (fpIds o.op (stripE env env (slots o.op))) none fun x => match chkH b 0 h x with
                | false => C (o :: r) (b :: bm) h env T acc
                | true => norm v fun v1 => happK h x fun h1 => bindK env o.dst (.when (g :: gr) v1) fun e => runD r bm h1 e T (oapp (stripOb (g :: gr) env (slots o.op)) acc) C

theorem stable_straightY {P : Program} {nt : Nat} {o : AOper} {env : Env} {T : Tab} {v : AV} {u : Option (Nat × Ob)} (hg : gB o.guard env = .yes []) (hv : opV o.op env T T.length = some (v, u)) :
    Stable P nt o ⟨rdOf env (lapp (gS o.guard) (slots o.op)), fpOf T (fpU o.op env u), v, u⟩ := by
  refine ⟨fun env' T' he ht => ?_⟩
  rw [agE_rdOf] at he
  have h1 : gB o.guard env' = .yes [] := by rw [gB_congr fun n hn => he n (mem_lapp.2 (.inl hn))]; exact hg
  cases u with
  | none =>
    have : fpU o.op env none = fpIds o.op env := by unfold fpU; split <;> simp_all [uS]
    simp only [this] at ht
    rw [agT_fpOf] at ht
    have h2 : opV o.op env' T' T'.length = some (v, none) := by
      rw [opV_congr (T := T) (fun n hn => he n (mem_lapp.2 (.inr hn))) fun n hn => ht n hn]
      exact opV_none hv
    exact Step1.straight h1 h2
  | some p =>
    obtain ⟨i, ob⟩ := p
    rcases opV_u hv with ⟨rfl, hi⟩ | ⟨hi, hn⟩
    · have e : fpU o.op env (some (T.length, ob)) = [T.length] := by unfold fpU; rw [hi]; rfl
      simp only [e] at ht
      rw [agT_fpOf] at ht
      have h2 : opV o.op env' T' T.length = some (v, some (T.length, ob)) := by
        rw [opV_congr (T := T) (fun n hn => he n (mem_lapp.2 (.inr hn))) fun n hn => by rw [hi] at hn; simp at hn]
        exact hv
      exact Step1.straightN (by rw [ht T.length (by simp)]; exact fresh_len T) h1 h2
    · have e : fpU o.op env (some (i, ob)) = [i] := by unfold fpU; rw [hi]
      simp only [e] at ht
      rw [agT_fpOf] at ht
      have h2 : opV o.op env' T' T'.length = some (v, some (i, ob)) := by
        rw [opV_congr (T := T) (fun n hn => he n (mem_lapp.2 (.inr hn))) fun n hn' => by rw [hi] at hn'; exact ht n hn']
        exact hn _
      exact Step1.straight h1 h2

theorem runD_sound {P : Program} {nt : Nat} {K : Env → Tab → Prop} : ∀ (l : List AOper) (bm : List Nat) (h : List HF) (env : Env) (T : Tab) (acc : Obs), runD l bm h env T acc (fun l' b' h' e t acc' => OKs acc' ∧ DO P nt l' b' h' e t K) → OKs acc ∧ DO P nt l bm h env T K
  | [], bm, h, env, T, acc, hr => hr
  | o :: r, [], h, env, T, acc, hr => hr
  | o :: r, b :: bm, h, env, T, acc, hr => by
    simp only [runD] at hr
    split at hr
    · exact hr
    · rename_i hg
      rw [hfK_iff] at hr
      split at hr
      · exact hr
      · rename_i hc
        rw [happK_iff, bindK_iff] at hr
        obtain ⟨h1, h2⟩ := runD_sound r bm _ _ _ _ hr
        exact ⟨h1, DO.fact (fp := []) (u := none) (stable_no hg) hc h2⟩
    · rename_i gs hg
      split at hr
      · rename_i c a d hp
        split at hr
        · exact hr
        · rename_i v ob hw
          rw [hfK_iff] at hr
          split at hr
          · exact hr
          · rename_i hc
            rw [norm_iff, wrapK_iff, happK_iff, bindK_iff] at hr
            obtain ⟨h1, h2⟩ := runD_sound r bm _ _ _ _ hr
            obtain ⟨o1, o2⟩ := h1.app
            exact ⟨o2, DO.fact (fp := []) (u := none) (stable_pickW (isPick_spec hp) hg hw o1) hc h2⟩
      · split at hr
        · rw [lenK_iff] at hr
          split at hr
          · exact hr
          · rename_i v u hv
            rw [hfK_iff] at hr
            split at hr
            · exact hr
            · rename_i hc
              rw [norm_iff, tupdK_iff, happK_iff, bindK_iff] at hr
              obtain ⟨h1, h2⟩ := runD_sound r bm _ _ _ _ hr
              exact ⟨h1, DO.fact (stable_straightY hg hv) hc h2⟩
        · rename_i g gr
          split at hr
          · exact hr
          · rename_i v u hv
            split at hr
            · exact hr
            · rw [hfK_iff] at hr
              split at hr
              · exact hr
              · rename_i hc
                rw [norm_iff, happK_iff, bindK_iff] at hr
                obtain ⟨h1, h2⟩ := runD_sound r bm _ _ _ _ hr
                obtain ⟨o1, o2⟩ := h1.app
                exact ⟨o2, DO.fact (u := none) (stable_W hg o1 hv) hc h2⟩

theorem runD_mono {C C' : List AOper → List Nat → List HF → Env → Tab → Obs → Prop} (hC : ∀ l b h e t o, C l b h e t o → C' l b h e t o) : ∀ (l : List AOper) (bm : List Nat) (h : List HF) (env : Env) (T : Tab) (acc : Obs), runD l bm h env T acc C → runD l bm h env T acc C'
  | [], bm, h, env, T, acc, hc => hC _ _ _ _ _ _ hc
  | o :: r, [], h, env, T, acc, hc => hC _ _ _ _ _ _ hc
  | o :: r, b :: bm, h, env, T, acc, hc => by
    simp only [runD] at hc ⊢
    split at hc
    · exact hC _ _ _ _ _ _ hc
    · rw [hfK_iff] at hc ⊢
      split at hc
      · exact hC _ _ _ _ _ _ hc
      · rw [happK_iff, bindK_iff] at hc ⊢
        exact runD_mono hC r bm _ _ _ _ hc
    · split at hc
      · split at hc
        · exact hC _ _ _ _ _ _ hc
        · rw [hfK_iff] at hc ⊢
          split at hc
          · exact hC _ _ _ _ _ _ hc
          · rw [norm_iff, wrapK_iff, happK_iff, bindK_iff] at hc ⊢
            exact runD_mono hC r bm _ _ _ _ hc
      · split at hc
        · rw [lenK_iff] at hc ⊢
          split at hc
          · exact hC _ _ _ _ _ _ hc
          · rw [hfK_iff] at hc ⊢
            split at hc
            · exact hC _ _ _ _ _ _ hc
            · rw [norm_iff, tupdK_iff, happK_iff, bindK_iff] at hc ⊢
              exact runD_mono hC r bm _ _ _ _ hc
        · split at hc
          · exact hC _ _ _ _ _ _ hc
          · split at hc
            · exact hC _ _ _ _ _ _ hc
            · rw [hfK_iff] at hc ⊢
              split at hc
              · exact hC _ _ _ _ _ _ hc
              · rw [norm_iff, happK_iff, bindK_iff] at hc ⊢
                exact runD_mono hC r bm _ _ _ _ hc

/-! ### Codes -/
inductive AItem where
  | code (c : ACode)
  | ops (l : List AOper)
  | dops (l : List AOper) (bm : List Nat) (h : List HF)
  | blk (id : Nat)

def exitA (id : Nat) (k : List AItem) : Option (List AItem) := match k with
  | [] => none
  | .blk j :: k => bif Nat.beq j id then some k else exitA id k
  | _ :: k => exitA id k

section
variable {P : Program} {nt : Nat} {env : Env} {T : Tab} {Q : Post}

def thenQ (K : Env → Tab → Prop) (Q : Post) : Post := fun x e t => match x with
  | .normal => K e t
  | .exit id => Q (.exit id) e t
  | .ret => Q .ret e t

def contQ (P : Program) (nt : Nat) (Q : Post) : List AItem → Post
  | [] => Q
  | .code c :: k => thenQ (fun e t => SC P nt c e t (contQ P nt Q k)) (contQ P nt Q k)
  | .ops l :: k => thenQ (fun e t => SO P nt l e t fun e t => contQ P nt Q k .normal e t) (contQ P nt Q k)
  | .dops l bm h :: k => thenQ (fun e t => DO P nt l bm h e t fun e t => contQ P nt Q k .normal e t) (contQ P nt Q k)
  | .blk id :: k => blockQ id (contQ P nt Q k)

/-- What is left to do, from here. -/
structure Run (P : Program) (nt : Nat) (k : List AItem) (env : Env) (T : Tab) (Q : Post) : Prop where
  out : contQ P nt Q k .normal env T

theorem contQ_ret : ∀ (k : List AItem) (e : Env) (t : Tab), contQ P nt Q k .ret e t ↔ Q .ret e t
  | [], e, t => Iff.rfl
  | .code c :: k, e, t => contQ_ret k e t
  | .ops l :: k, e, t => contQ_ret k e t
  | .dops l bm h :: k, e, t => contQ_ret k e t
  | .blk id :: k, e, t => contQ_ret k e t

theorem contQ_exit {id : Nat} : ∀ (k k' : List AItem) (e : Env) (t : Tab), exitA id k = some k' → contQ P nt Q k' .normal e t → contQ P nt Q k (.exit id) e t
  | [], k', e, t, h, _ => by cases h
  | .code c :: k, k', e, t, h, hq => contQ_exit k k' e t h hq
  | .ops l :: k, k', e, t, h, hq => contQ_exit k k' e t h hq
  | .dops l bm h' :: k, k', e, t, h, hq => contQ_exit k k' e t h hq
  | .blk j :: k, k', e, t, h, hq => by
    simp only [exitA] at h
    show (if id = j then _ else _)
    cases hb : Nat.beq j id with
    | true =>
      rw [hb] at h
      cases h
      rw [if_pos (Nat.eq_of_beq_eq_true hb).symm]
      exact hq
    | false =>
      rw [hb, cond_false] at h
      rw [if_neg (fun e => by subst e; simp at hb)]
      exact contQ_exit k k' e t h hq

theorem Run.skip {k : List AItem} (h : Run P nt k env T Q) : Run P nt (.code .skip :: k) env T Q := ⟨SC.skip h.out⟩
theorem Run.blk {k : List AItem} {id : Nat} (h : Run P nt k env T Q) : Run P nt (.blk id :: k) env T Q := ⟨h.out⟩
theorem Run.nil_ops {k : List AItem} (h : Run P nt k env T Q) : Run P nt (.ops [] :: k) env T Q := ⟨SO.nil h.out⟩
theorem Run.reg {k : List AItem} {l : List AOper} (h : Run P nt (.ops l :: k) env T Q) : Run P nt (.code (.reg l) :: k) env T Q := ⟨SC.reg h.out⟩
theorem Run.seq {k : List AItem} {a b : ACode} (h : Run P nt (.code a :: .code b :: k) env T Q) : Run P nt (.code (.seq a b) :: k) env T Q :=
  ⟨SC.seq (SC.mono h.out fun x e t hx => by cases x <;> exact hx)⟩
theorem Run.block {k : List AItem} {a : ACode} {id : Nat} (h : Run P nt (.code a :: .blk id :: k) env T Q) : Run P nt (.code (.block id a) :: k) env T Q := ⟨SC.block h.out⟩
theorem Run.exit {k k' : List AItem} {id : Nat} (hk : exitA id k = some k') (h : Run P nt k' env T Q) : Run P nt (.code (.exit id) :: k) env T Q := ⟨SC.exit (contQ_exit k k' _ _ hk h.out)⟩
theorem Run.condB {k : List AItem} {x : Opd} {a b : ACode} {bb : Bool} (hb : boolOf (oval env x) = some bb) (h1 : bb = true → Run P nt (.code a :: k) env T Q) (h2 : bb = false → Run P nt (.code b :: k) env T Q) :
    Run P nt (.code (.cond x a b) :: k) env T Q := ⟨SC.cond hb (fun e => (h1 e).out) fun e => (h2 e).out⟩
theorem Run.draw {k : List AItem} {l : List AOper} {bm : List Nat} (h : Run P nt (.dops l bm [] :: k) env T Q) : Run P nt (.code (.draw l bm) :: k) env T Q := ⟨SC.draw' h.out⟩
theorem Run.dops_of {k : List AItem} {l : List AOper} {bm : List Nat} {h : List HF} (hd : DO P nt l bm h env T fun e t => contQ P nt Q k .normal e t) : Run P nt (.dops l bm h :: k) env T Q := ⟨hd⟩
theorem Run.ops_of {k : List AItem} {l : List AOper} (h : SO P nt l env T fun e t => contQ P nt Q k .normal e t) : Run P nt (.ops l :: k) env T Q := ⟨h⟩

/-- What is left, as far as it goes straight on; then C, at what is left then. -/
def runC (n : Nat) (k : List AItem) (env : Env) (T : Tab) (acc : Obs) (C : List AItem → Env → Tab → Obs → Prop) : Prop := match n with
  | 0 => C k env T acc
  | n + 1 => match k with
    | [] => C [] env T acc
    | .blk _ :: k => runC n k env T acc C
    | .ops l :: k => runO l env T acc fun l' e t acc => match l' with
      | [] => runC n k e t acc C
      | o :: r => C (.ops (o :: r) :: k) e t acc
    | .dops l bm h :: k => runD l bm h env T acc fun l' b' h' e t acc => match l' with
      | [] => match b' with
        | [] => runC n k e t acc C
        | x :: y => C (.dops [] (x :: y) h' :: k) e t acc
      | o :: r => C (.dops (o :: r) b' h' :: k) e t acc
    | .code c :: k => match c with
      | .skip => runC n k env T acc C
      | .reg l => runC n (.ops l :: k) env T acc C
      | .seq a b => runC n (.code a :: .code b :: k) env T acc C
      | .block id a => runC n (.code a :: .blk id :: k) env T acc C
      | .cond x a b => match oval env x with
        | .tt => runC n (.code a :: k) env T acc C
        | .ff => runC n (.code b :: k) env T acc C
        | _ => C (.code (.cond x a b) :: k) env T acc
      | .exit id => match exitA id k with
        | some k' => runC n k' env T acc C
        | none => C (.code (.exit id) :: k) env T acc
      | .loop a => C (.code (.loop a) :: k) env T acc
      | .draw l bm => runC n (.dops l bm [] :: k) env T acc C
      | .ret => C (.code .ret :: k) env T acc

theorem runC_soundA : ∀ (n : Nat) (k : List AItem) (env : Env) (T : Tab) (acc : Obs), runC n k env T acc (fun k' e t acc' => OKs acc' ∧ Run P nt k' e t Q) → OKs acc ∧ Run P nt k env T Q
  | 0, k, env, T, acc, h => h
  | n + 1, [], env, T, acc, h => h
  | n + 1, .blk _ :: k, env, T, acc, h => have ⟨h1, h2⟩ := runC_soundA n k env T acc h; ⟨h1, Run.blk h2⟩
  | n + 1, .ops l :: k, env, T, acc, h => by
    have := runO_sound (P := P) (nt := nt) (K := fun e t => contQ P nt Q k .normal e t) l env T acc (runO_mono ?_ l env T acc h)
    · exact ⟨this.1, Run.ops_of this.2⟩
    intro l' e t acc' hl
    cases l' with
    | nil =>
      obtain ⟨h1, h2⟩ := runC_soundA n k e t acc' hl
      exact ⟨h1, SO.nil h2.out⟩
    | cons o r => exact ⟨hl.1, hl.2.out⟩
  | n + 1, .dops l bm h' :: k, env, T, acc, h => by
    have := runD_sound (P := P) (nt := nt) (K := fun e t => contQ P nt Q k .normal e t) l bm h' env T acc (runD_mono ?_ l bm h' env T acc h)
    · exact ⟨this.1, Run.dops_of this.2⟩
    intro l' b' h' e t acc' hl
    cases l' with
    | nil =>
      cases b' with
      | nil =>
        obtain ⟨h1, h2⟩ := runC_soundA n k e t acc' hl
        exact ⟨h1, DO.nil h2.out⟩
      | cons x y => exact ⟨hl.1, hl.2.out⟩
    | cons o r => exact ⟨hl.1, hl.2.out⟩
  | n + 1, .code c :: k, env, T, acc, h => by
    cases c with
    | skip => obtain ⟨h1, h2⟩ := runC_soundA n _ _ _ _ h; exact ⟨h1, Run.skip h2⟩
    | reg l => obtain ⟨h1, h2⟩ := runC_soundA n _ _ _ _ h; exact ⟨h1, Run.reg h2⟩
    | seq a b => obtain ⟨h1, h2⟩ := runC_soundA n _ _ _ _ h; exact ⟨h1, Run.seq h2⟩
    | block id a => obtain ⟨h1, h2⟩ := runC_soundA n _ _ _ _ h; exact ⟨h1, Run.block h2⟩
    | cond x a b =>
      simp only [runC] at h
      split at h
      · rename_i hx
        obtain ⟨h1, h2⟩ := runC_soundA n _ _ _ _ h
        exact ⟨h1, Run.condB (bb := true) (by rw [hx]; rfl) (fun _ => h2) (fun e => by cases e)⟩
      · rename_i hx
        obtain ⟨h1, h2⟩ := runC_soundA n _ _ _ _ h
        exact ⟨h1, Run.condB (bb := false) (by rw [hx]; rfl) (fun e => by cases e) (fun _ => h2)⟩
      · exact h
    | exit id =>
      simp only [runC] at h
      split at h
      · rename_i k' hk
        obtain ⟨h1, h2⟩ := runC_soundA n _ _ _ _ h
        exact ⟨h1, Run.exit hk h2⟩
      · exact h
    | loop a => exact h
    | draw l bm => obtain ⟨h1, h2⟩ := runC_soundA n _ _ _ _ h; exact ⟨h1, Run.draw h2⟩
    | ret => exact h

theorem runC_mono {C C' : List AItem → Env → Tab → Obs → Prop} (hC : ∀ k e t o, C k e t o → C' k e t o) : ∀ (n : Nat) (k : List AItem) (env : Env) (T : Tab) (acc : Obs), runC n k env T acc C → runC n k env T acc C'
  | 0, k, env, T, acc, h => hC _ _ _ _ h
  | n + 1, [], env, T, acc, h => hC _ _ _ _ h
  | n + 1, .blk _ :: k, env, T, acc, h => runC_mono hC n k env T acc h
  | n + 1, .ops l :: k, env, T, acc, h => by
    refine runO_mono ?_ l env T acc h
    intro l' e t acc' hl
    cases l' with
    | nil => exact runC_mono hC n k e t acc' hl
    | cons o r => exact hC _ _ _ _ hl
  | n + 1, .dops l bm h' :: k, env, T, acc, h => by
    refine runD_mono ?_ l bm h' env T acc h
    intro l' b' h' e t acc' hl
    cases l' with
    | nil =>
      cases b' with
      | nil => exact runC_mono hC n k e t acc' hl
      | cons x y => exact hC _ _ _ _ hl
    | cons o r => exact hC _ _ _ _ hl
  | n + 1, .code c :: k, env, T, acc, h => by
    cases c with
    | skip => exact runC_mono hC n _ _ _ _ h
    | reg l => exact runC_mono hC n _ _ _ _ h
    | seq a b => exact runC_mono hC n _ _ _ _ h
    | block id a => exact runC_mono hC n _ _ _ _ h
    | cond x a b =>
      simp only [runC] at h ⊢
      split at h
      · exact runC_mono hC n _ _ _ _ h
      · exact runC_mono hC n _ _ _ _ h
      · exact hC _ _ _ _ h
    | exit id =>
      simp only [runC] at h ⊢
      split at h
      · exact runC_mono hC n _ _ _ _ h
      · exact hC _ _ _ _ h
    | loop a => exact hC _ _ _ _ h
    | draw l bm => exact runC_mono hC n _ _ _ _ h
    | ret => exact hC _ _ _ _ h

/-- **On.** What is computed here ends in a pair: that what was asked for on the way holds (by rfl), and what is left. -/
theorem runC_sound (n : Nat) (k : List AItem) (env : Env) (T : Tab) (h : runC n k env T [] (fun k' e t acc => obL acc = obR acc ∧ Run P nt k' e t Q)) : Run P nt k env T Q :=
  (runC_soundA n k env T [] (runC_mono (fun _ _ _ _ h => ⟨OKs.of h.1, h.2⟩) n k env T [] h)).2

/-! ### Events -/

theorem Wk.bool {n : Nat} {b : Bool} (h : eget env n = .bool b) : Wk env T ((n, tf b) :: env) T := by
  rintro G nt a w ⟨h1, h2, ok, mu, I, E⟩
  refine ⟨h1, h2, ok, mu, I, fun i => ?_⟩
  rw [eget_cons]
  split
  · rename_i e
    subst e
    have := E i
    rw [h] at this
    rw [rv_bool this]
    cases b
    · exact .ff _
    · exact .tt _
  · exact E i

theorem contQ_wk {env' : Env} {T' : Tab} (hk : Wk env T env' T') : ∀ (k : List AItem), k ≠ [] → (∀ q ∈ k, ∀ id, q ≠ .blk id) → (∀ q ∈ k, ∀ l bm h, q ≠ .dops l bm h) → contQ P nt Q k .normal env' T' → contQ P nt Q k .normal env T
  | [], h, _, _, _ => absurd rfl h
  | .code c :: k, _, _, _, h => SC.wk hk h
  | .ops l :: k, _, _, _, h => SO.wk hk h
  | .dops l bm h :: k, _, _, hd, _ => absurd rfl (hd _ (by simp) l bm h)
  | .blk id :: k, _, hb, _, _ => absurd rfl (hb _ (by simp) id)

theorem Run.wk_code {env' : Env} {T' : Tab} {c : ACode} {k : List AItem} (hk : Wk env T env' T') (h : Run P nt (.code c :: k) env' T' Q) : Run P nt (.code c :: k) env T Q := ⟨SC.wk hk h.out⟩
theorem Run.wk_ops {env' : Env} {T' : Tab} {l : List AOper} {k : List AItem} (hk : Wk env T env' T') (h : Run P nt (.ops l :: k) env' T' Q) : Run P nt (.ops l :: k) env T Q := ⟨SO.wk hk h.out⟩

/-- A test on what is not known. -/
theorem Run.cond {k : List AItem} {n : Nat} {a b : ACode} {bb : Bool} (hb : eget env n = .bool bb) (h1 : bb = true → Run P nt (.code a :: k) ((n, .tt) :: env) T Q) (h2 : bb = false → Run P nt (.code b :: k) ((n, .ff) :: env) T Q) :
    Run P nt (.code (.cond (.t n) a b) :: k) env T Q := by
  refine Run.condB (bb := bb) (by show boolOf (eget env n) = _; rw [hb]; rfl) (fun e => ?_) (fun e => ?_)
  · have := Wk.bool (T := T) hb
    rw [e] at this
    exact Run.wk_code this (h1 e)
  · have := Wk.bool (T := T) hb
    rw [e] at this
    exact Run.wk_code this (h2 e)

/-- A guard on what is not known. -/
theorem Run.guard {k : List AItem} {o : AOper} {r : List AOper} {n : Nat} {bb : Bool} (hb : eget env n = .bool bb) (h1 : bb = true → Run P nt (.ops (o :: r) :: k) ((n, .tt) :: env) T Q) (h2 : bb = false → Run P nt (.ops (o :: r) :: k) ((n, .ff) :: env) T Q) :
    Run P nt (.ops (o :: r) :: k) env T Q := by
  have := Wk.bool (T := T) hb
  cases bb with
  | true => exact Run.wk_ops this (h1 rfl)
  | false => exact Run.wk_ops this (h2 rfl)

theorem Run.does {k : List AItem} {o : AOper} {r : List AOper} {v : AV} {T' : Tab} (hw : wantB o.guard env = some true) (hv : Does P o.op env T v T') (h : Run P nt (.ops r :: k) (bindE env o.dst v) T' Q) : Run P nt (.ops (o :: r) :: k) env T Q :=
  ⟨SO.does hw hv h.out⟩

theorem Run.call {k : List AItem} {d : Option Nat} {g : Option (Nat × Bool)} {r : List AOper} {f : FuncId} {L : List Opd} {rv : AV} {T' : Tab} (hc : AC P f (vals env L) T rv T') (hw : wantB g env = some true) (h : Run P nt (.ops r :: k) (bindE env d rv) T' Q) :
    Run P nt (.ops (⟨d, .call f L, g⟩ :: r) :: k) env T Q := ⟨SO.call rfl hw hc h.out⟩

theorem Run.call0 {k : List AItem} {d : Option Nat} {g : Option (Nat × Bool)} {r : List AOper} {f : FuncId} {L : List Opd} {rv : AV} (hc : AC P f (vals env L) [] rv []) (ha : pureL (vals env L) = true) (hr : pureV rv = true) (hw : wantB g env = some true) (h : Run P nt (.ops r :: k) (bindE env d rv) T Q) :
    Run P nt (.ops (⟨d, .call f L, g⟩ :: r) :: k) env T Q := Run.call (hc.lift ha hr T) hw h

theorem Run.ret {k : List AItem} (h : Q .ret env T) : Run P nt (.code .ret :: k) env T Q := ⟨SC.ret ((contQ_ret k _ _).2 h)⟩

/-- The round of a loop. -/
def roundQ (P : Program) (nt : Nat) (Q : Post) (k : List AItem) (K : Env → Tab → Prop) : Post := fun x e t => match x with
  | .normal => K e t
  | .exit id => contQ P nt Q k (.exit id) e t
  | .ret => Q .ret e t

theorem Run.loop {k : List AItem} {a : ACode} {ι : Type} (S : ι → Env) (U : ι → Tab) (m : ι → Nat) (i0 : ι) (h0 : Wk env T (S i0) (U i0))
    (hr : ∀ i, Run P nt [.code a] (S i) (U i) (roundQ P nt Q k fun e t => ∃ j, m j < m i ∧ Wk e t (S j) (U j))) : Run P nt (.code (.loop a) :: k) env T Q := by
  refine ⟨SC.loop S U m i0 h0 fun i => SC.mono (hr i).out fun x e t h => ?_⟩
  cases x with
  | normal => exact h
  | exit id => exact h
  | ret => exact (contQ_ret k e t).2 h

theorem Run.nil (h : Q .normal env T) : Run P nt [] env T Q := ⟨h⟩

/-- An exit out of a round. -/
theorem roundQ_exit {k k' : List AItem} {K : Env → Tab → Prop} {id : Nat} {e : Env} {t : Tab} (hk : exitA id k = some k') (h : Run P nt k' e t Q) : roundQ P nt Q k K (.exit id) e t := contQ_exit k k' e t hk h.out

theorem Run.exit_round {k : List AItem} {id : Nat} (h : Q (.exit id) env T) : exitA id k = none → Run P nt (.code (.exit id) :: k) env T Q := fun hk => ⟨SC.exit (by
  induction k with
  | nil => exact h
  | cons x k ih =>
    cases x with
    | code c => exact ih hk
    | ops l => exact ih hk
    | dops l bm h => exact ih hk
    | blk j =>
      simp only [exitA] at hk
      cases hb : Nat.beq j id with
      | true => rw [hb] at hk; cases hk
      | false =>
        rw [hb, cond_false] at hk
        show (if id = j then _ else _)
        rw [if_neg (fun e => by subst e; simp at hb)]
        exact ih hk)⟩

end

/-! ### A function -/
inductive RItem where
  | t (n : Nat)
  | cell (n sz : Nat) (agg : Bool)

def cRes (P : Program) : List ResultVar → Option (List RItem)
  | [] => some []
  | .tmp n :: r => match cRes P r with
    | some l => some (.t n :: l)
    | none => none
  | .cell n t :: r => match P.info? t, P.underlying t, cRes P r with
    | some ti, some d, some l => some (.cell n ti.size (isAggB d) :: l)
    | _, _, _ => none

def resL (env : Env) (T : Tab) : List RItem → Option (List AV)
  | [] => some []
  | .t n :: r => match resL env T r with
    | some l => some (eget env n :: l)
    | none => none
  | .cell n sz agg :: r => match eget env n with
    | .ptr id _ _ o => match tget T id with
      | .box cells => match rdCells cells o sz agg, resL env T r with
        | some v, some l => some (v :: l)
        | _, _ => none
      | _ => none
    | _ => none

def resV : List AV → AV
  | [v] => v
  | l => .tuple l

def argEnv (k : Nat) : List AV → Env
  | [] => []
  | x :: r => (k, x) :: argEnv (k + 1) r

theorem eget_argEnv : ∀ (l : List AV) (k i : Nat), eget (argEnv k l) i = if k ≤ i then lget l (i - k) else .top
  | [], k, i => by
    have : lget [] (i - k) = .top := lget_ge [] _ (Nat.zero_le _)
    rw [this]
    simp [argEnv, eget]
  | x :: r, k, i => by
    rw [argEnv, eget_cons]
    by_cases h : i = k
    · subst h; simp [lget]
    · rw [if_neg h, eget_argEnv r (k + 1) i]
      by_cases h2 : k + 1 ≤ i
      · rw [if_pos h2, if_pos (by omega), show i - k = (i - (k + 1)) + 1 by omega]
        rfl
      · rw [if_neg h2, if_neg (by omega)]

/-- What a function's end has to show. -/
def FinT (t : Tab) (rv : AV) (T0 T' : Tab) (r : AV) : Prop :=
  ∀ (G : Ctx) (w : World) (ok : Nat → Prop) (mu : Nat → Option Nat) (v : Value), G.T0 = T0 → Inv G ok mu t w → RV w ok mu t false v rv → ∃ ok' mu', Inv G ok' mu' T' w ∧ RV w ok' mu' T' false v r

def RetQ (l : List RItem) (T0 T' : Tab) (r : AV) : Post := fun x e t => match x with
  | .exit _ => False
  | _ => ∃ rl, resL e t l = some rl ∧ FinT t (resV rl) T0 T' r

theorem FinT.pure {t : Tab} {rv r : AV} (hp : pureV rv = true) (hl : Le rv r) : FinT t rv [] [] r := fun G w ok mu v hT I hv =>
  ⟨ok, mu, { I with
    sep := fun i b _ hl => absurd hl tget_nil_live
    inj := fun i j b _ _ hl => absurd hl tget_nil_live
    lv := fun i b _ hl => absurd hl tget_nil_live
    obs := fun i => by rw [tget_nil]; trivial
    cmp := fun id hid => by rw [hT, tget_nil] at hid; exact absurd rfl hid },
   hl _ _ _ _ _ _ (((hv.pure hp).mono (fun b hb => ⟨hb, rfl⟩) (fun e => by cases e)).thaw)⟩

theorem Inv.toNext {w0 w : World} {ok0 ok : Nat → Prop} {mu0 mu : Nat → Option Nat} {T0 T : Tab} (I : Inv ⟨w0, ok0, liveB mu0 T0, mu0, T0⟩ ok mu T w) : Next ok0 ok mu0 mu T0 T w0 w where
  os := I.os
  tape := I.tape
  output := I.output
  size := I.size
  keep b hb h := I.keep b hb fun ⟨i, hi, hl⟩ => h i hi hl
  compat := I.cmp
  okL := I.ok0
  okR b hb := ⟨(I.okB b hb).1, (I.okB b hb).2⟩
  live i b hi hl := ⟨I.sep i b hi hl, I.lv i b hi hl⟩
  inj := I.inj
  obs := I.obs

theorem run_resL {P : Program} {G : Ctx} {w : World} {ok : Nat → Prop} {mu : Nat → Option Nat} {T : Tab} {env : Env} {a : Act} (I : Inv G ok mu T w) (E : EnvOK w ok mu T env a.tmps) : ∀ (rs : List ResultVar) (l : List RItem) (rl : List AV), cRes P rs = some l → resL env T l = some rl →
    ∃ vs : List Value, (rs.mapM (fun x : ResultVar => match x with
      | .tmp t => (pure (a.tmps.getD t undef) : Sem Value)
      | .cell q t => do loadVar t (← asAddr (a.tmps.getD q undef)))).run P w = .ok vs w ∧ vs.length = rl.length ∧ ∀ j, j < rl.length → RV w ok mu T false (vs.getD j undef) (lget rl j)
  | [], l, rl, h1, h2 => by
    simp only [cRes, Option.some.injEq] at h1
    subst h1
    simp only [resL, Option.some.injEq] at h2
    subst h2
    exact ⟨[], rfl, rfl, fun j hj => by simp at hj⟩
  | .tmp n :: rs, l, rl, h1, h2 => by
    simp only [cRes] at h1
    split at h1
    · rename_i l' hl'
      cases h1
      simp only [resL] at h2
      split at h2
      · rename_i rl' hrl'
        cases h2
        obtain ⟨vs, e1, e2, e3⟩ := run_resL I E rs l' rl' hl' hrl'
        refine ⟨a.tmps.getD n undef :: vs, ?_, by simp [e2], fun j hj => ?_⟩
        · rw [List.mapM_cons]
          simp only [Sem.run_bind, Sem.run_pure, Result.andThen_ok, e1]
        · cases j with
          | zero => exact E n
          | succ j => exact e3 j (by simpa using hj)
      · cases h2
    · cases h1
  | .cell n t :: rs, l, rl, h1, h2 => by
    simp only [cRes] at h1
    split at h1
    · rename_i ti d l' hi hd hl'
      cases h1
      simp only [resL] at h2
      split at h2
      · rename_i id ver e k hX
        split at h2
        · rename_i cells hT
          split at h2
          · rename_i v rl' hrd hrl'
            cases h2
            obtain ⟨vs, e1, e2, e3⟩ := run_resL I E rs l' rl' hl' hrl'
            have rn := E n
            rw [hX] at rn
            obtain ⟨h0, hbx, _⟩ := rv_ptr rn
            obtain ⟨_, b, hm, hval⟩ := hbx cells hT
            have hob := I.obs id
            rw [hT] at hob
            obtain ⟨b', c, ty, g1, g2, g3, g4, g5⟩ := hob
            rw [hm] at g1
            cases g1
            have hload : ∃ x, (loadVar t ⟨b, k, none⟩).run P w = .ok x w ∧ RV w ok mu T false x v := by
              unfold rdCells rdRow at hrd
              cases ha : isAggB d with
              | true =>
                rw [ha] at hrd
                simp only [cond_eq_ite, Nat.ble_eq] at hrd
                split at hrd
                · rename_i hle
                  cases hrd
                  refine ⟨_, run_loadVar_agg hi hd ha (f := fun j => c.getD (k + j) undef) (fun j hj => cell_of_heap g2 (by omega)), ?_⟩
                  refine .agg _ _ _ (by simp [lextr_length]) (fun j hj => ?_) fun j hj => ?_
                  · rw [lextr_length] at hj
                    rw [getD_range _ _ _ hj]
                    exact g4 _ (by omega)
                  · rw [lextr_length] at hj
                    rw [getD_range _ _ _ hj, lget_lextr _ _ _ _ hj]
                    exact g5 _ (by omega)
                · cases hrd
              | false =>
                rw [ha] at hrd
                simp only [cond_eq_ite, Nat.blt_eq] at hrd
                split at hrd
                · rename_i hle
                  cases hrd
                  exact ⟨_, run_loadVar_one hd ha (cell_of_heap g2 (by omega)), g5 _ hle⟩
                · cases hrd
            obtain ⟨x, hx1, hx2⟩ := hload
            refine ⟨x :: vs, ?_, by simp [e2], fun j hj => ?_⟩
            · rw [List.mapM_cons]
              have ha : (asAddr (a.tmps.getD n undef)).run P w = .ok ⟨b, k, none⟩ w := by rw [hval]; rfl
              simp only [Sem.run_bind, ha, Result.andThen_ok, hx1, e1, Sem.run_pure]
            · cases j with
              | zero => exact hx2
              | succ j => exact e3 j (by simpa using hj)
          · cases h2
        · cases h2
      · cases h2
    · cases h1

theorem run_results {P : Program} {G : Ctx} {w : World} {ok : Nat → Prop} {mu : Nat → Option Nat} {T : Tab} {env : Env} {a : Act} {fn : Func} {l : List RItem} {rl : List AV} (I : Inv G ok mu T w) (E : EnvOK w ok mu T env a.tmps)
    (h1 : cRes P fn.results.toList = some l) (h2 : resL env T l = some rl) : ∃ v, (results fn a.tmps).run P w = .ok v w ∧ RV w ok mu T false v (resV rl) := by
  obtain ⟨vs, e1, e2, e3⟩ := run_resL I E _ _ _ h1 h2
  have e1' : (fn.results.mapM (fun x : ResultVar => match x with
      | .tmp t => (pure (a.tmps.getD t undef) : Sem Value)
      | .cell q t => do loadVar t (← asAddr (a.tmps.getD q undef)))).run P w = .ok vs.toArray w := by
    rw [Array.mapM_eq_mapM_toList, Sem.run_map, e1]
    rfl
  refine ⟨if h : vs.toArray.size = 1 then vs.toArray[0] else .tuple vs.toArray, ?_, ?_⟩
  · have e0 : (results fn a.tmps).run P w = ((fn.results.mapM (fun x : ResultVar => match x with
      | .tmp t => (pure (a.tmps.getD t undef) : Sem Value)
      | .cell q t => do loadVar t (← asAddr (a.tmps.getD q undef)))).run P w).andThen fun vs w => .ok (if h : vs.size = 1 then vs[0] else .tuple vs) w := by
      unfold results
      simp only [Sem.run_bind]
      rfl
    rw [e0, e1']
    rfl
  · cases rl with
    | nil =>
      obtain rfl : vs = [] := by simpa using e2
      exact .tuple _ _ _ rfl fun j hj => by simp at hj
    | cons x r =>
      cases r with
      | nil =>
        obtain ⟨v0, rfl⟩ : ∃ v0, vs = [v0] := by
          match vs, e2 with
          | [v0], _ => exact ⟨v0, rfl⟩
        exact e3 0 (by simp)
      | cons y r =>
        have hn : ¬ vs.toArray.size = 1 := by simp [e2]
        rw [dif_neg hn]
        refine .tuple _ _ _ (by simpa using e2) fun j hj => ?_
        have := e3 j hj
        rw [← getD_toList]
        exact this

/-- **A contract out of the run of a function's code.** -/
theorem AC.intro {P : Program} {f : FuncId} {fn : Func} {m : Code} {c : ACode} {nt : Nat} {l : List RItem} {args : List AV} {T T' : Tab} {r : AV} (hf : P.funcs[f]? = some fn) (hb : fn.body = some m) (hnt : fn.ntmps = nt) (hc : cCode P nt m = some c)
    (hr : cRes P fn.results.toList = some l) (ha : args.length ≤ nt) (hT : T.length ≤ 4) (h : Run P nt [.code c] (argEnv 0 args) T (RetQ l T T' r)) : AC P f args T r T' := by
  refine ⟨fun w ok mu I vs h1 h2 => calls_of_wp hf hb ?_⟩
  have hcode : SC P nt c (argEnv 0 args) T (RetQ l T T' r) := SC.mono h.out fun x e t hx => by cases x <;> exact hx
  have hsz : (vs ++ Array.replicate (nt - vs.size) undef).size = nt := by simp; omega
  have R : Rel ⟨w, ok, liveB mu T, mu, T⟩ nt (argEnv 0 args) T { tmps := vs ++ Array.replicate (fn.ntmps - vs.size) undef, defers := [] } w := by
    refine ⟨⟨rfl, hT⟩, by rw [hnt]; exact hsz, ok, mu, I, fun i => ?_⟩
    rw [eget_argEnv, if_pos (Nat.zero_le _), Nat.sub_zero]
    by_cases hi : i < args.length
    · have : (vs ++ Array.replicate (fn.ntmps - vs.size) undef).getD i undef = vs.getD i undef := by
        rw [Array.getD_eq_getD_getElem?, Array.getElem?_append, if_pos (by omega), ← Array.getD_eq_getD_getElem?]
      show RV w ok mu T false ((vs ++ Array.replicate (fn.ntmps - vs.size) undef).getD i undef) _
      rw [this]
      exact h2 i hi
    · rw [lget_ge _ _ (by omega)]
      exact .top _ _
  refine wp_mono (hcode.out m hc _ _ w R) ?_
  rintro e a' w' ⟨ax, env', t, rfl, ⟨hdef, _, ok', mu', I', E'⟩, hq⟩
  have fin : ∀ rl, resL env' t l = some rl → FinT t (resV rl) T T' r → a'.defers = [] ∧ ∃ v, (results fn a'.tmps).run P w' = .ok v w' ∧
      ∃ v_1 ok' mu', Ending.returned v = .returned v_1 ∧ Go.Proofs.Ytbpcjahjbkiofaa.AV.Next ok ok' mu mu' T T' w w' ∧ RV w' ok' mu' T' false v_1 r := by
    intro rl h3 h4
    obtain ⟨v, e1, e2⟩ := run_results I' E' hr h3
    obtain ⟨ok2, mu2, I2, hv2⟩ := h4 _ _ _ _ _ rfl I' e2
    exact ⟨hdef.1, v, e1, v, ok2, mu2, rfl, I2.toNext, hv2⟩
  cases ax with
  | exit id => exact hq.elim
  | normal => obtain ⟨rl, h3, h4⟩ := hq; exact fin rl h3 h4
  | ret => obtain ⟨rl, h3, h4⟩ := hq; exact fin rl h3 h4

theorem AC.introB {P : Program} {f : FuncId} {fn : Func} {c : ACode} {nt : Nat} {l : List RItem} {args : List AV} {T T' : Tab} {r : AV} (hf : P.funcs[f]? = some fn) (hc : Option.bind fn.body (cCode P fn.ntmps) = some c) (hnt : fn.ntmps = nt)
    (hr : cRes P fn.results.toList = some l) (ha : (Nat.ble args.length nt && Nat.ble T.length 4) = true) (h : Run P nt [.code c] (argEnv 0 args) T (RetQ l T T' r)) : AC P f args T r T' := by
  cases hb : fn.body with
  | none => rw [hb] at hc; cases hc
  | some m =>
    rw [hb, hnt] at hc
    simp only [Bool.and_eq_true, Nat.ble_eq] at ha
    exact AC.intro hf hb hnt hc hr ha.1 ha.2 h

end Go.Proofs.Ytbpcjahjbkiofaa.AV

set_option linter.unusedVariables false
set_option linter.unusedSimpArgs false
namespace Go.Proofs.Ytbpcjahjbkiofaa.AV
open Go

section
variable {P : Program} {env : Env} {T : Tab}

theorem cOp_ia {o : Oper} {sz : Nat} {X Y : Opd} (h : cOp P o = some (.ia sz X Y)) : ∃ t e ti x y, o.op = .indexAddr t x y ∧ P.underlying t = some (.slice e) ∧ P.info? e = some ti ∧ ti.size = sz ∧ 0 < sz ∧ opd x = some X ∧ opd y = some Y := by
  unfold cOp at h
  split at h
  all_goals try (exfalso; first
    | exact map_no h (fun z e => by cases e)
    | (unfold cBin at h; (repeat' split at h) <;> cases h; done)
    | (unfold cCall at h; (repeat' split at h) <;> cases h; done)
    | ((repeat' split at h) <;> cases h; done)
    | cases h)
  rename_i t x y hop
  split at h
  · split at h
    · split at h <;> cases h
    · cases h
  · rename_i e a b hd hx hy
    split at h
    · rename_i ti hi
      split at h
      · rename_i h0
        cases h
        rw [Nat.blt_eq] at h0
        exact ⟨t, e, ti, x, y, hop, hd, hi, rfl, h0, hx, hy⟩
      · cases h
    · cases h
  · cases h

theorem cOp_iaA {o : Oper} {n sz : Nat} {X Y : Opd} (h : cOp P o = some (.iaA n sz X Y)) : ∃ t e ti x y, o.op = .indexAddr t x y ∧ P.underlying t = some (.array n e) ∧ P.info? e = some ti ∧ ti.size = sz ∧ 0 < sz ∧ 1 < n ∧ opd x = some X ∧ opd y = some Y := by
  unfold cOp at h
  split at h
  all_goals try (exfalso; first
    | exact map_no h (fun z e => by cases e)
    | (unfold cBin at h; (repeat' split at h) <;> cases h; done)
    | (unfold cCall at h; (repeat' split at h) <;> cases h; done)
    | ((repeat' split at h) <;> cases h; done)
    | cases h)
  rename_i t x y hop
  split at h
  · rename_i n' e a b hd hx hy
    split at h
    · rename_i ti hi
      split at h
      · rename_i h0
        cases h
        simp only [Bool.and_eq_true, Nat.blt_eq] at h0
        exact ⟨t, e, ti, x, y, hop, hd, hi, rfl, h0.2, h0.1, hx, hy⟩
      · cases h
    · cases h
  · split at h
    · split at h <;> cases h
    · cases h
  · cases h

theorem run_ia {w : World} {o : Oper} {a : Act} {t e : TypeId} {ti : TypeInfo} {x y : Operand} {b off len cap : Nat} {k : IntKind} {i : Int} (hop : o.op = .indexAddr t x y) (hd : P.underlying t = some (.slice e)) (hi : P.info? e = some ti)
    (hx : a.eval x = .slice (some ⟨b, off, none⟩) len cap) (hy : a.eval y = .int k i) (h0 : 0 ≤ i) (h1 : i < len) : (execOp a.eval o).run P w = .ok (.value (.pointer (some ⟨b, off + i.toNat * ti.size, none⟩))) w := by
  have hc : 0 ≤ i ∧ i < (len : Int) := ⟨h0, h1⟩
  simp [execOp, hop, Instr.indexAt, hx, hy, asIntOf, run_underlying hd, hc, run_sizeOf hi, add_at]

theorem Does.ia {sz n : Nat} {X Y : Opd} {f : Nat → List AV} {sz' : Nat} {k : IntKind} {i : Int} (hx : oval env X = .list sz' n f) (hs : Nat.beq sz sz' = true) (hy : oval env Y = .int k i) (h0 : 0 ≤ i) (h1 : i < n) :
    Does P (.ia sz X Y) env T (.fptr (f i.toNat) 0) T := by
  refine ⟨fun {G w ok mu a o} hc I E => ?_⟩
  obtain rfl : sz = sz' := Nat.eq_of_beq_eq_true hs
  obtain ⟨t, e, ti, x, y, hop, hd, hi, hsz, hsz0, hxo, hyo⟩ := cOp_ia hc
  have rx := opd_rv E hxo
  have ry := opd_rv E hyo
  rw [hx] at rx
  rw [hy] at ry
  obtain ⟨A, cap, cv, hval, hn, hcap, _, ha, hl, h1', hv⟩ := rv_list rx
  have hi' : i.toNat < n := by omega
  obtain ⟨b, off, rfl, hb, hcell⟩ := ha (by omega)
  refine Did.pure (x := .pointer (some ⟨b, off + i.toNat * ti.size, none⟩)) I (run_ia hop hd hi hval (rv_int ry) h0 h1) ?_
  rw [hsz]
  have := RV.fptr (w := w) (ok := ok) (mu := mu) (T := T) false b (off + i.toNat * sz) 0 (f i.toNat) (cv i.toNat) hb (Nat.zero_le _)
    (fun j hj => by rw [hl _ hi'] at hj; have := hcell i.toNat j hi' hj; rwa [← Nat.add_assoc] at this)
    (fun j hj => by rw [hl _ hi'] at hj; exact h1' _ _ hi' hj) (fun j hj => by rw [hl _ hi'] at hj; exact hv _ _ hi' hj)
  simpa using this

theorem Does.iaRow {sz : Nat} {X Y : Opd} {sz' id ver off len n cv : Nat} {f : Nat → List AV} {k : IntKind} {i : Int} (hx : oval env X = .row sz' id ver off len) (hT : tget T id = .row sz' n cv f) (hver : Nat.beq ver cv = true) (hs : Nat.beq sz sz' = true) (hy : oval env Y = .int k i) (h0 : 0 ≤ i) (h1 : i < len) :
    Does P (.ia sz X Y) env T (.ptr id ver (off + i.toNat) 0) T := by
  refine ⟨fun {G w ok mu a o} hc I E => ?_⟩
  obtain rfl : sz = sz' := Nat.eq_of_beq_eq_true hs
  obtain rfl : ver = cv := Nat.eq_of_beq_eq_true hver
  obtain ⟨t, e, ti, x, y, hop, hd, hi, hsz, hsz0, hxo, hyo⟩ := cOp_ia hc
  have rx := opd_rv E hxo
  have ry := opd_rv E hyo
  rw [hx] at rx
  rw [hy] at ry
  obtain ⟨q1, q2, q3⟩ := rv_row rx
  obtain ⟨_, q4⟩ := q3 sz n ver f hT
  obtain ⟨_, hle, hsl⟩ := q4 rfl
  have hlen : 0 < len := by omega
  unfold SliceAt at hsl
  cases hm : mu id with
  | none => rw [hm] at hsl; omega
  | some b =>
    rw [hm] at hsl
    obtain ⟨cap, hval, _, _⟩ := hsl
    refine Did.pure (x := .pointer (some ⟨b, off * sz + i.toNat * ti.size, none⟩)) I (run_ia hop hd hi hval (rv_int ry) h0 h1) ?_
    refine .ptr _ _ _ _ _ rfl ⟨q1, fun cells e => absurd e (q2 cells), fun sz'' n' cv' f' e' => ?_⟩
    rw [hT] at e'
    cases e'
    exact ⟨Nat.le_refl _, fun _ => ⟨by omega, b, hm, by rw [hsz, Nat.add_zero, Nat.add_mul]⟩⟩

theorem Does.iaArr {n sz : Nat} {X Y : Opd} {id ver m cv : Nat} {f : Nat → List AV} {k : IntKind} {i : Int} (hx : oval env X = .ptr id ver 0 0) (hT : tget T id = .row sz m cv f) (hver : Nat.beq ver cv = true) (hm : Nat.ble n m = true) (hy : oval env Y = .int k i) (h0 : 0 ≤ i) (h1 : i < n) :
    Does P (.iaA n sz X Y) env T (.ptr id ver i.toNat 0) T := by
  refine ⟨fun {G w ok mu a o} hc I E => ?_⟩
  obtain rfl : ver = cv := Nat.eq_of_beq_eq_true hver
  rw [Nat.ble_eq] at hm
  obtain ⟨t, e, ti, x, y, hop, hd, hi, hsz, hsz0, hn1, hxo, hyo⟩ := cOp_iaA hc
  have rx := opd_rv E hxo
  have ry := opd_rv E hyo
  rw [hx] at rx
  rw [hy] at ry
  obtain ⟨q1, q2, q3⟩ := rv_ptr rx
  obtain ⟨_, q4⟩ := q3 sz m ver f hT
  obtain ⟨hlt, b, hmu, hval⟩ := q4 rfl
  have hc2 : 0 ≤ i ∧ i < (n : Int) := ⟨h0, h1⟩
  refine Did.pure (x := .pointer (some ⟨b, 0 * sz + 0 + i.toNat * ti.size, none⟩)) I ?_ ?_
  · have hn1' : ¬ n ≤ 1 := by omega
    simp [execOp, hop, Instr.indexAt, hval, rv_int ry, asIntOf, run_underlying hd, hc2, run_sizeOf hi, add_at, Instr.sureAddr]
  · refine .ptr _ _ _ _ _ rfl ⟨q1, fun cells e => ?_, fun sz'' n' cv' f' e' => ?_⟩
    · rw [hT] at e; cases e
    · rw [hT] at e'
      cases e'
      exact ⟨Nat.le_refl _, fun _ => ⟨by omega, b, hmu, by rw [hsz]; simp⟩⟩

end
end Go.Proofs.Ytbpcjahjbkiofaa.AV

set_option linter.unusedVariables false
set_option linter.unusedSimpArgs false
namespace Go.Proofs.Ytbpcjahjbkiofaa.AV
open Go

section
variable {P : Program} {nt : Nat} {env : Env} {T : Tab} {Q : Post}

/-- What goes on from here. -/
abbrev Goes (P : Program) (nt : Nat) (Q : Post) (k : List AItem) (env : Env) (T : Tab) : Prop := runC 400 k env T [] (fun k' e t acc => obL acc = obR acc ∧ Run P nt k' e t Q)

theorem Goes.run {k : List AItem} (h : Goes P nt Q k env T) : Run P nt k env T Q := runC_sound _ _ _ _ h

theorem Run.condC {k : List AItem} {n : Nat} {a b : ACode} {bb : Bool} (hb : eget env n = .bool bb) (h1 : bb = true → Goes P nt Q (.code a :: k) ((n, .tt) :: env) T) (h2 : bb = false → Goes P nt Q (.code b :: k) ((n, .ff) :: env) T) :
    Run P nt (.code (.cond (.t n) a b) :: k) env T Q := Run.cond hb (fun h => (h1 h).run) fun h => (h2 h).run

/-- The end of a function that hands nothing of its own out. -/
def retL (env : Env) (T : Tab) (l : List RItem) (r : AV) : Prop := match resL env T l with
  | none => False
  | some rl => norm (resV rl) fun v => pureV v = true ∧ Le v r
theorem retL_spec {l : List RItem} {r : AV} (h : retL env T l r) : RetQ l [] [] r .ret env T := by
  unfold retL at h
  split at h
  · exact h.elim
  · rename_i rl hl
    rw [norm_iff] at h
    exact ⟨rl, hl, FinT.pure h.1 h.2⟩

theorem Run.retP {k : List AItem} {l : List RItem} {r : AV} (h : retL env T l r) : Run P nt (.code .ret :: k) env T (RetQ l [] [] r) :=
  Run.ret (retL_spec h)

/-! In a loop's round. -/
theorem Run.retR {k k0 : List AItem} {K : Env → Tab → Prop} {l : List RItem} {r : AV} (h : retL env T l r) : Run P nt (.code .ret :: k) env T (roundQ P nt (RetQ l [] [] r) k0 K) :=
  Run.ret (retL_spec h)
theorem Run.exitR {k k0 k1 : List AItem} {K : Env → Tab → Prop} {id : Nat} (hn : exitA id k = none) (hk : exitA id k0 = some k1) (h : Goes P nt Q k1 env T) : Run P nt (.code (.exit id) :: k) env T (roundQ P nt Q k0 K) :=
  Run.exit_round (roundQ_exit hk h.run) hn
theorem Run.endR {k0 : List AItem} {K : Env → Tab → Prop} (h : K env T) : Run P nt [] env T (roundQ P nt Q k0 K) := Run.nil h

/-- A loop: a state for each index. -/
theorem Run.loopC {k : List AItem} {a : ACode} {ι : Type} (S : ι → Env) (U : ι → Tab) (m : ι → Nat) (i0 : ι) (h0 : Wk env T (S i0) (U i0))
    (hr : ∀ i, Goes P nt (roundQ P nt Q k fun e t => ∃ j, m j < m i ∧ Wk e t (S j) (U j)) [.code a] (S i) (U i)) : Run P nt (.code (.loop a) :: k) env T Q :=
  Run.loop S U m i0 h0 fun i => (hr i).run

/-- The same, where the index is known to be such. -/
theorem Run.loopN {k : List AItem} {a : ACode} {ι : Type} (I : ι → Prop) (S : ι → Env) (U : ι → Tab) (m : ι → Nat) (i0 : ι) (hi : I i0) (h0 : Wk env T (S i0) (U i0))
    (hr : ∀ i, I i → Goes P nt (roundQ P nt Q k fun e t => ∃ j, I j ∧ m j < m i ∧ Wk e t (S j) (U j)) [.code a] (S i) (U i)) : Run P nt (.code (.loop a) :: k) env T Q := by
  refine Run.loop (ι := {i : ι // I i}) (fun i => S i.1) (fun i => U i.1) (fun i => m i.1) ⟨i0, hi⟩ h0 fun i => ?_
  have h := (hr i.1 i.2).run
  refine ⟨SC.mono h.out fun x e t hx => ?_⟩
  cases x with
  | normal => obtain ⟨j, h1, h2, h3⟩ := hx; exact ⟨⟨j, h1⟩, h2, h3⟩
  | exit id => exact hx
  | ret => exact hx

/-- A call whose contract asks for no object: where its guard holds. -/
theorem SO.callW {o : AOper} {r : List AOper} {K : Env → Tab → Prop} {gs : List Bool} {f : FuncId} {L : List Opd} {rv : AV} (hop : o.op = .call f L) (hg : gB o.guard env = .yes gs) (ho : OKs (stripOb gs env (opdsS L)))
    (hc : AllT gs → AC P f (vals (stripE env env (opdsS L)) L) [] rv []) (ha : pureL (vals (stripE env env (opdsS L)) L) = true) (hr : pureV rv = true) (k : SO P nt r (bindE env o.dst (wrapW gs rv)) T K) : SO P nt (o :: r) env T K :=
  SO.of_step1 (Step1.callW hop hg ho fun h => (hc h).lift ha hr T) k

theorem Run.callC {k : List AItem} {d : Option Nat} {g : Option (Nat × Bool)} {r : List AOper} {gs : List Bool} {f : FuncId} {L : List Opd} {rv : AV} {av : List AV} (hv : vals (stripE env env (opdsS L)) L = av) (hg : gB g env = .yes gs) (ho : obL (stripOb gs env (opdsS L)) = obR (stripOb gs env (opdsS L)))
    (hc : AllT gs → AC P f av [] rv []) (ha : pureL av = true) (hr : pureV rv = true) (h : norm rv fun rv => wrapK gs rv fun rv => bindK env d rv fun e => Goes P nt Q (.ops r :: k) e T) :
    Run P nt (.ops (⟨d, .call f L, g⟩ :: r) :: k) env T Q := by
  subst hv
  rw [norm_iff, wrapK_iff, bindK_iff] at h
  exact ⟨SO.callW rfl hg (OKs.of ho) hc ha hr (Goes.run h).out⟩

theorem Run.callD {k : List AItem} {d : Option Nat} {g : Option (Nat × Bool)} {r : List AOper} {b : Nat} {bm : List Nat} {hh : List HF} {gs : List Bool} {f : FuncId} {L : List Opd} {rv : AV} {av : List AV} (hv : vals (stripE env env (opdsS L)) L = av) (hg : gB g env = .yes gs) (ho : obL (stripOb gs env (opdsS L)) = obR (stripOb gs env (opdsS L)))
    (hc : AllT gs → AC P f av [] rv []) (ha : pureL av = true) (hr : pureV rv = true) (hk : chkH b 0 hh ⟨d, lapp (gS g) (opdsS L), [], none⟩ = true)
    (h : norm rv fun rv => wrapK gs rv fun rv => happK hh ⟨d, lapp (gS g) (opdsS L), [], none⟩ fun h1 => bindK env d rv fun e => Goes P nt Q (.dops r bm h1 :: k) e T) :
    Run P nt (.dops (⟨d, .call f L, g⟩ :: r) (b :: bm) hh :: k) env T Q := by
  subst hv
  rw [norm_iff, wrapK_iff, happK_iff, bindK_iff] at h
  exact ⟨DO.fact (fp := []) (u := none) (stable_callW hg (OKs.of ho) hc ha hr) hk (Goes.run h).out⟩

/-- An element of a list. -/
theorem Run.iaC {k : List AItem} {d : Option Nat} {g : Option (Nat × Bool)} {r : List AOper} {gs : List Bool} {sz sz' n : Nat} {X Y : Opd} {f : Nat → List AV} {ik : IntKind} {i : Int} (hg : gB g env = .yes gs) (hx : oval (stripE env env (slots (.ia sz X Y))) X = .list sz' n f) (hs : Nat.beq sz sz' = true)
    (hy : oval (stripE env env (slots (.ia sz X Y))) Y = .int ik i) (ho : obL (stripOb gs env (slots (.ia sz X Y))) = obR (stripOb gs env (slots (.ia sz X Y)))) (hi : AllT gs → 0 ≤ i ∧ i < n)
    (h : normL (f i.toNat) fun c => wrapK gs (.fptr c 0) fun v => bindK env d v fun e => Goes P nt Q (.ops r :: k) e T) :
    Run P nt (.ops (⟨d, .ia sz X Y, g⟩ :: r) :: k) env T Q := by
  rw [normL_iff, wrapK_iff, bindK_iff] at h
  exact ⟨SO.of_step1 (Step1.doesW (o := ⟨d, .ia sz X Y, g⟩) hg (OKs.of ho) fun hp => Does.ia hx hs hy (hi hp).1 (hi hp).2) (Goes.run h).out⟩

theorem Run.iaD {k : List AItem} {d : Option Nat} {g : Option (Nat × Bool)} {r : List AOper} {b : Nat} {bm : List Nat} {hh : List HF} {gs : List Bool} {sz sz' n : Nat} {X Y : Opd} {f : Nat → List AV} {ik : IntKind} {i : Int} (hg : gB g env = .yes gs) (hx : oval (stripE env env (slots (.ia sz X Y))) X = .list sz' n f) (hs : Nat.beq sz sz' = true)
    (hy : oval (stripE env env (slots (.ia sz X Y))) Y = .int ik i) (ho : obL (stripOb gs env (slots (.ia sz X Y))) = obR (stripOb gs env (slots (.ia sz X Y)))) (hi : AllT gs → 0 ≤ i ∧ i < n)
    (hk : chkH b 0 hh ⟨d, lapp (gS g) (slots (.ia sz X Y)), [], none⟩ = true)
    (h : normL (f i.toNat) fun c => wrapK gs (.fptr c 0) fun v => happK hh ⟨d, lapp (gS g) (slots (.ia sz X Y)), [], none⟩ fun h1 => bindK env d v fun e => Goes P nt Q (.dops r bm h1 :: k) e T) :
    Run P nt (.dops (⟨d, .ia sz X Y, g⟩ :: r) (b :: bm) hh :: k) env T Q := by
  rw [normL_iff, wrapK_iff, happK_iff, bindK_iff] at h
  refine ⟨DO.fact (fp := []) (u := none) ⟨fun env' T' he ht => ?_⟩ hk (Goes.run h).out⟩
  rw [agE_rdOf] at he
  have hsl : ∀ n ∈ slots (.ia sz X Y), eget env' n = eget env n := fun n hn => he n (mem_lapp.2 (.inr hn))
  have hst := stripE_congr hsl
  refine Step1.doesW (o := ⟨d, .ia sz X Y, g⟩) (ns := slots (.ia sz X Y)) (by rw [show gB (AOper.guard ⟨d, .ia sz X Y, g⟩) env' = gB g env from gB_congr fun n hn => he n (mem_lapp.2 (.inl hn))]; exact hg) (by rw [stripOb_congr hsl]; exact OKs.of ho) fun hp => ?_
  have ex : oval (stripE env' env' (slots (.ia sz X Y))) X = .list sz' n f := by
    rw [oval_congr fun n hn => hst n (mem_lapp.2 (.inl hn))]; exact hx
  have ey : oval (stripE env' env' (slots (.ia sz X Y))) Y = .int ik i := by
    rw [oval_congr fun n hn => hst n (mem_lapp.2 (.inr hn))]; exact hy
  exact Does.ia ex hs ey (hi hp).1 (hi hp).2

/-! ### Knowing less of a state -/

/-- Slot by slot: a state that says of some slots what the other one lets one say. -/
theorem Wk.ofEnv {env' : Env} (h : ∀ p ∈ env', Le (eget env p.1) p.2) : Wk env T env' T := by
  rintro G nt a w ⟨h1, h2, ok, mu, I, E⟩
  refine ⟨h1, h2, ok, mu, I, fun i => ?_⟩
  have : ∀ (l : Env), (∀ p ∈ l, Le (eget env p.1) p.2) → RV w ok mu T false (a.tmps.getD i undef) (eget l i) := by
    intro l
    induction l with
    | nil => intro _; exact .top _ _
    | cons p r ih =>
      intro h
      obtain ⟨n, v⟩ := p
      rw [eget_cons]
      by_cases e : i = n
      · subst e
        rw [if_pos rfl]
        exact h (i, v) (by simp) _ _ _ _ _ _ (E i)
      · rw [if_neg e]
        exact ih fun q hq => h q (List.mem_cons_of_mem _ hq)
  exact this env' h

theorem Wk.nil : Wk env T [] T := Wk.ofEnv fun p hp => by simp at hp
theorem Wk.cons {env' : Env} {n : Nat} {v : AV} (h : Le (eget env n) v) (k : ∀ p ∈ env', Le (eget env p.1) p.2) : ∀ p ∈ (n, v) :: env', Le (eget env p.1) p.2 := fun p hp => by
  rcases List.mem_cons.1 hp with rfl | hp
  · exact h
  · exact k p hp
theorem Wk.done : ∀ p ∈ ([] : Env), Le (eget env p.1) p.2 := fun p hp => by simp at hp

/-- A list's length is no greater than any may be. -/
theorem Run.lenle {k : List AItem} {l : List AOper} {n sz m : Nat} {f : Nat → List AV} (hx : eget env n = .list sz m f) (h : m ≤ maxLen → Run P nt (.ops l :: k) env T Q) : Run P nt (.ops l :: k) env T Q := by
  refine ⟨⟨fun mo i hc G a w R => ?_⟩⟩
  have hm : m ≤ maxLen := by
    obtain ⟨_, _, ok, mu, I, E⟩ := R
    have := E n
    rw [hx] at this
    obtain ⟨_, cap, _, _, h1, h2, _⟩ := rv_list this
    omega
  exact (h hm).out.out mo i hc G a w R
theorem Run.lenleC {k : List AItem} {c : ACode} {n sz m : Nat} {f : Nat → List AV} (hx : eget env n = .list sz m f) (h : m ≤ maxLen → Run P nt (.code c :: k) env T Q) : Run P nt (.code c :: k) env T Q := by
  refine ⟨⟨fun mc hc G a w R => ?_⟩⟩
  have hm : m ≤ maxLen := by
    obtain ⟨_, _, ok, mu, I, E⟩ := R
    have := E n
    rw [hx] at this
    obtain ⟨_, cap, _, _, h1, h2, _⟩ := rv_list this
    omega
  exact (h hm).out.out mc hc G a w R

end
end Go.Proofs.Ytbpcjahjbkiofaa.AV

set_option linter.unusedVariables false
set_option linter.unusedSimpArgs false
namespace Go.Proofs.Ytbpcjahjbkiofaa.AV
open Go

section
variable {P : Program} {w : World}

/-! ### The machine's append -/

theorem run_first {i m : Nat} {A : Option Addr} {C : Nat} {news : List Value} (hl : news.length = m * i) (hA : 0 < m → ∃ a, A = some a ∧ ∀ j u, news[j]? = some u → w.cell? (a.add j) = some u) :
    (Builtin.firstCells i m (.slice A m C)).run P w = .ok news.toArray w := by
  by_cases hm : 0 < m
  · obtain ⟨a, rfl, h⟩ := hA hm
    exact run_firstCells_some w i m a m C news hl h
  · obtain rfl : m = 0 := by omega
    have : news = [] := List.eq_nil_of_length_eq_zero (by simpa using hl)
    subst this
    cases A with
    | none => simp [Builtin.firstCells]
    | some a => exact run_firstCells_some w i 0 a 0 C [] (by simp) (by simp)

theorem run_app_none {t ty e : TypeId} {i : TypeInfo} (ht : P.underlying t = some (.slice e)) (hi : P.info? e = some i) (a A : Option Addr) (C : Nat) :
    (Builtin.append_ #[t, t] ty #[.slice a 0 0, .slice A 0 C]).run P w = .ok (.slice a 0 0) w := by
  have hf : (Builtin.firstCells i.size 0 (.slice A 0 C)).run P w = .ok #[] w := by
    cases A with
    | none => simp [Builtin.firstCells]
    | some b => exact run_firstCells_some w i.size 0 b 0 C [] (by simp) (by simp)
  cases a with
  | none => simp [Builtin.append_, run_underlying ht, sizeOf, typeInfo, hi, Builtin.lenOf, hf]
  | some b => simp [Builtin.append_, run_underlying ht, sizeOf, typeInfo, hi, Builtin.lenOf, hf, storeCells]

theorem run_app_in {t ty e e' : TypeId} {i : TypeInfo} (ht : P.underlying t = some (.slice e)) (hi : P.info? e = some i) (g n cap : Nat) (cur : Array Value) (hg : w.heap[g]? = some (.cells cur e' (0, 0)))
    (A : Option Addr) (m C : Nat) (news : List Value) (hl : news.length = m * i.size) (hA : 0 < m → ∃ a, A = some a ∧ ∀ j u, news[j]? = some u → w.cell? (a.add j) = some u) (h1 : ∀ u ∈ news, u.oneCell' = true)
    (hroom : n + m ≤ cap) (hfit : n * i.size + news.length ≤ cur.size) :
    (Builtin.append_ #[t, t] ty #[.slice (some ⟨g, 0, none⟩) n cap, .slice A m C]).run P w =
      .ok (.slice (some ⟨g, 0, none⟩) (n + m) cap) (w.setRow g (cur.toList.take (n * i.size) ++ news ++ cur.toList.drop (n * i.size + news.length)).toArray) := by
  have hf := run_first (P := P) (C := C) hl hA
  have hst := run_storeCells_at P g (n * i.size) e' news 0 cur w hg (by simpa using hfit) h1
  simp only [Nat.add_zero] at hst
  simp [Builtin.append_, run_underlying ht, sizeOf, typeInfo, hi, Builtin.lenOf, hroom, hf, Addr.add_lit, hst]

theorem zeroCells_one {z : Array Value} (h : ∀ u ∈ z.toList, u.oneCell' = true) (hz : 0 < z.size) (k : Nat) : ∀ u ∈ (Builtin.zeroCells z k).toList, u.oneCell' = true := by
  intro u hu
  simp only [Builtin.zeroCells, Array.toList_map, List.mem_map] at hu
  obtain ⟨i, _, rfl⟩ := hu
  have hi : i % z.size < z.size := Nat.mod_lt _ hz
  rw [getElem!_pos z _ hi]
  exact h _ (by simp)

theorem plain_ones {z : Array Value} (h : z.toList.all plainV = true) : ∀ u ∈ z.toList, u.oneCell' = true := fun u hu => plainV_oneCell (List.all_eq_true.1 h u hu)

/-- Cells one by one. -/
theorem one_all {l : List Value} (h : ∀ u ∈ l, u.oneCell' = true) {C sz : Nat} (hl : l.length = C * sz) : ∀ i o, i < C → o < sz → (l.toArray.getD (i * sz + o) undef).oneCell' = true := fun i o hi ho => by
  have hlt : i * sz + o < l.length := by
    rw [hl]
    have := Nat.mul_le_mul_right sz (show i + 1 ≤ C by omega)
    rw [Nat.add_mul, Nat.one_mul] at this
    omega
  have e : l.toArray.getD (i * sz + o) undef = l[i * sz + o] := by simp [List.getElem?_eq_getElem hlt]
  rw [e]
  exact h _ (List.getElem_mem hlt)

theorem all_one {c : Array Value} {C sz : Nat} (hs : 0 < sz) (hc : c.size = C * sz) (h : ∀ i o, i < C → o < sz → (c.getD (i * sz + o) undef).oneCell' = true) : ∀ u ∈ c.toList, u.oneCell' = true := by
  intro u hu
  obtain ⟨j, hj, rfl⟩ := List.mem_iff_getElem.1 hu
  simp only [Array.length_toList] at hj
  have h1 : j / sz < C := (Nat.div_lt_iff_lt_mul hs).2 (by rw [← hc]; exact hj)
  have h2 := h (j / sz) (j % sz) h1 (Nat.mod_lt _ hs)
  have h3 : j / sz * sz + j % sz = j := by rw [Nat.mul_comm]; exact Nat.div_add_mod j sz
  rw [h3] at h2
  simpa [hj] using h2

/-- A new block: what was there, what comes, and zeros. -/
theorem run_app_new {t ty e : TypeId} {i : TypeInfo} {z : Value} (ht : P.underlying t = some (.slice e)) (hi : P.info? e = some i) (hz : i.zero = some z) (hzs : z.cells.size = i.size) (hz1 : ∀ u ∈ z.cells.toList, u.oneCell' = true) (hi0 : 0 < i.size)
    (B : Option Addr) (n cap : Nat) (olds : List Value) (hlo : olds.length = n * i.size) (hB : 0 < n → ∃ b, B = some b ∧ ∀ j u, olds[j]? = some u → w.cell? (b.add j) = some u)
    (A : Option Addr) (m C : Nat) (news : List Value) (hl : news.length = m * i.size) (hA : 0 < m → ∃ a, A = some a ∧ ∀ j u, news[j]? = some u → w.cell? (a.add j) = some u)
    (hg : cap < n + m) (hm : n + m ≤ maxLen) (hb : (n + m) * i.bytes ≤ 140737488355328) :
    ∃ cap' rest, n + m ≤ cap' ∧ cap' ≤ maxLen ∧ ((olds ++ news ++ rest).length = cap' * i.size ∧ ∀ u ∈ rest, u.oneCell' = true) ∧
    (Builtin.append_ #[t, t] ty #[.slice B n cap, .slice A m C]).run P w = .ok (.slice (some ⟨w.heap.size, 0, none⟩) (n + m) cap') (w.drew.alloc (.cells (olds ++ news ++ rest).toArray e)) := by
  have hge := grownCap_ge w (n + m) cap e
  have hle := grownCap_le_maxLen w (n + m) cap e hm
  refine ⟨grownCap w (n + m) cap e, (Builtin.zeroCells z.cells (grownCap w (n + m) cap e - (n + m))).toList, hge, hle, ⟨?_, zeroCells_one hz1 (by omega) _⟩, ?_⟩
  · simp only [List.length_append, hlo, hl, Array.length_toList, size_zeroCells, hzs, ← Nat.add_mul]
    congr 1
    omega
  · have hfit := growslice_fits hg hb
    have hn : ¬ (n + m ≤ cap) := by omega
    have h63' : ¬ (9223372036854775807 < ((n : Int) + (m : Int))) := by simp only [maxLen] at hm; omega
    have hfit' : ¬ (281474976710656 < Builtin.nextslicecap (n + m) cap * i.bytes) := by omega
    have hf2 : (Builtin.firstCells i.size m (.slice A m C)).run P w.drew = .ok news.toArray w.drew := run_first hl (by simpa using hA)
    have hf1 : (Builtin.firstCells i.size n (.slice B n cap)).run P w.drew = .ok olds.toArray w.drew := by
      by_cases h0 : 0 < n
      · obtain ⟨b, rfl, h⟩ := hB h0
        exact run_firstCells_some w.drew i.size n b n cap olds hlo (by simpa using h)
      · obtain rfl : n = 0 := by omega
        have : olds = [] := List.eq_nil_of_length_eq_zero (by simpa using hlo)
        subst this
        cases B with
        | none => simp [Builtin.firstCells]
        | some b => exact run_firstCells_some w.drew i.size 0 b 0 cap [] (by simp) (by simp)
    simp [Builtin.append_, run_underlying ht, sizeOf, typeInfo, zeroValue, hi, hz, Builtin.lenOf, hn, h63', hfit', Question.forced, hf1, hf2, newRow, grownCap]
    congr 2
    apply Array.ext'
    simp

end

/-! ### A row gets a new block -/

theorem Next.renew {G : Ctx} {ok : Nat → Prop} {mu : Nat → Option Nat} {T : Tab} {w : World} (I : Inv G ok mu T w) {id sz n cv n' cv' : Nat} {f f' : Nat → List AV} (ht : tget T id = .row sz n cv f) (hv : cv < cv') (c : Array Value) (e : TypeId)
    (hob : ∀ (w' : World) (mu' : Nat → Option Nat) (T' : Tab), w' = w.alloc (.cells c e) → mu' = muSet mu id (some w.heap.size) → T' = tset T id (.row sz n' cv' f') →
      (∀ v x, RV w ok mu T true v x → RV w' ok mu' T' true v x) → mu' id = some w.heap.size → w'.heap[w.heap.size]? = some (.cells c e (0, 0)) → ObOK w' ok mu' T' id (.row sz n' cv' f')) :
    Next ok ok mu (muSet mu id (some w.heap.size)) T (tset T id (.row sz n' cv' f')) w (w.alloc (.cells c e)) := by
  have hC : Compat w (w.alloc (.cells c e)) mu (muSet mu id (some w.heap.size)) T (tset T id (.row sz n' cv' f')) := by
    intro i hi
    by_cases hne : i = id
    · subst hne
      rw [tget_tset_same]
      refine ⟨fun h => (by cases h), fun cells h => (by cases h), fun sz2 n2 cv2 f2 h => ?_⟩
      cases h
      exact ⟨n, cv, f, ht, Nat.le_of_lt hv, fun e => by omega⟩
    · rw [tget_tset_ne _ _ _ _ hne, muSet_ne _ _ _ hne]
      refine ⟨hi, fun cells e => ⟨⟨cells, e⟩, rfl⟩, fun sz n cv f e => ⟨n, cv, f, e, Nat.le_refl _, fun _ => ⟨Nat.le_refl _, rfl, fun b hb => ?_⟩⟩⟩
      unfold capOf
      rw [heap_alloc_lt w _ (I.mu_lt i b hb (by rw [e]; trivial))]
  have hw : ∀ b, ok b → ok b ∧ (w.alloc (.cells c e)).heap[b]? = w.heap[b]? := fun b hb => ⟨hb, heap_alloc_lt w _ (I.okB b hb).1⟩
  refine ⟨rfl, rfl, rfl, by simp, fun b hb _ => heap_alloc_lt w _ hb, hC, fun _ h => h, fun b hb => ⟨by have := (I.okB b hb).1; simp; omega, .inl hb⟩, ?_, ?_, ?_⟩
  · intro i b hi hli
    by_cases h : i = id
    · subst h
      rw [muSet_same] at hi
      cases hi
      exact ⟨fun h => by have := (I.okB _ h).1; omega, .inr (Nat.le_refl _)⟩
    · rw [muSet_ne _ _ _ h] at hi
      rw [tget_tset_ne _ _ _ _ h] at hli
      exact ⟨I.sep i b hi hli, .inl ⟨i, hi, hli⟩⟩
  · intro i j b hi hj hli hlj
    by_cases h : i = id
    · by_cases h' : j = id
      · omega
      · subst h
        rw [muSet_same] at hi
        rw [muSet_ne _ _ _ h'] at hj
        rw [tget_tset_ne _ _ _ _ h'] at hlj
        cases hi
        have := I.mu_lt j _ hj hlj
        omega
    · rw [muSet_ne _ _ _ h] at hi
      rw [tget_tset_ne _ _ _ _ h] at hli
      by_cases h' : j = id
      · subst h'
        rw [muSet_same] at hj
        cases hj
        have := I.mu_lt i _ hi hli
        omega
      · rw [muSet_ne _ _ _ h'] at hj
        rw [tget_tset_ne _ _ _ _ h'] at hlj
        exact I.inj i j b hi hj hli hlj
  · intro i
    by_cases h : i = id
    · subst h
      rw [tget_tset_same]
      exact hob _ _ _ rfl rfl rfl (fun v x hx => hx.mono hw fun e => by cases e) (muSet_same _ _ _) (heap_alloc_new w _)
    · rw [tget_tset_ne _ _ _ _ h]
      exact (I.obs i).mono hw hC (muSet_ne _ _ _ h) fun b hb hl' => heap_alloc_lt w _ (I.mu_lt i b hb hl')

theorem Next.trans {G : Ctx} {ok ok' ok'' : Nat → Prop} {mu mu' mu'' : Nat → Option Nat} {T T' T'' : Tab} {w w' w'' : World} (I : Inv G ok mu T w) (h : Next ok ok' mu mu' T T' w w') (k : Next ok' ok'' mu' mu'' T' T'' w' w'') :
    Next ok ok'' mu mu'' T T'' w w'' := ((I.base.next h).next k).toNext

/-! ### What comes: the elements of a slice -/

/-- A slice's elements: so many, of such size, as such abstract values; and the machine's cells, one after the other. -/
def Src (w : World) (ok : Nat → Prop) (mu : Nat → Option Nat) (T : Tab) (v : Value) (sz m : Nat) (g : Nat → List AV) : Prop :=
  ∃ (A : Option Addr) (C : Nat) (news : List Value), v = .slice A m C ∧ news.length = m * sz ∧ (0 < m → ∃ a, A = some a ∧ ∀ j u, news[j]? = some u → w.cell? (a.add j) = some u) ∧ (∀ u ∈ news, u.oneCell' = true) ∧
    (∀ i, i < m → (g i).length = sz) ∧ ∀ i o, i < m → o < sz → RV w ok mu T true (news.getD (i * sz + o) undef) (lget (g i) o)

theorem add_none (b off j : Nat) : (⟨b, off, none⟩ : Addr).add j = ⟨b, off + j, none⟩ := by unfold Addr.add; split <;> simp_all

theorem src_mk {w : World} {ok : Nat → Prop} {mu : Nat → Option Nat} {T : Tab} {sz m : Nat} {g : Nat → List AV} {A : Option Addr} {C : Nat} (hs : 0 < sz) (cv : Nat → Nat → Value) (ha : 0 < m → ∃ b off, A = some ⟨b, off, none⟩ ∧ ∀ i o, i < m → o < sz → w.cell? ⟨b, off + (i * sz + o), none⟩ = some (cv i o))
    (hl : ∀ i, i < m → (g i).length = sz) (h1 : ∀ i o, i < m → o < sz → (cv i o).oneCell' = true) (hv : ∀ i o, i < m → o < sz → RV w ok mu T true (cv i o) (lget (g i) o)) : Src w ok mu T (.slice A m C) sz m g := by
  have hdm : ∀ j, j < m * sz → j / sz < m ∧ j % sz < sz ∧ (j / sz) * sz + j % sz = j := fun j hj =>
    ⟨(Nat.div_lt_iff_lt_mul hs).2 hj, Nat.mod_lt _ hs, by rw [Nat.mul_comm]; exact Nat.div_add_mod j sz⟩
  refine ⟨A, C, (List.range (m * sz)).map fun k => cv (k / sz) (k % sz), rfl, by simp, fun hm => ?_, fun u hu => ?_, hl, fun i o hi ho => ?_⟩
  · obtain ⟨b, off, rfl, hc⟩ := ha hm
    refine ⟨_, rfl, fun j u hu => ?_⟩
    rw [List.getElem?_map] at hu
    by_cases hj : j < m * sz
    · rw [List.getElem?_range hj] at hu
      simp only [Option.map_some, Option.some.injEq] at hu
      subst hu
      obtain ⟨q1, q2, q3⟩ := hdm j hj
      rw [add_none]
      have := hc (j / sz) (j % sz) q1 q2
      rwa [q3] at this
    · rw [List.getElem?_eq_none (by simp; omega)] at hu
      cases hu
  · rw [List.mem_map] at hu
    obtain ⟨j, hj, rfl⟩ := hu
    rw [List.mem_range] at hj
    obtain ⟨q1, q2, _⟩ := hdm j hj
    exact h1 _ _ q1 q2
  · have hlt : i * sz + o < m * sz := by
      have := Nat.mul_le_mul_right sz (show i + 1 ≤ m by omega)
      rw [Nat.add_mul, Nat.one_mul] at this
      omega
    have e : ((List.range (m * sz)).map fun k => cv (k / sz) (k % sz)).getD (i * sz + o) undef = cv i o := by
      rw [List.getD_eq_getElem?_getD, List.getElem?_map, List.getElem?_range hlt]
      simp only [Option.map_some, Option.getD_some]
      have e1 : (i * sz + o) / sz = i := by rw [Nat.mul_comm, Nat.mul_add_div hs, Nat.div_eq_of_lt ho, Nat.add_zero]
      have e2 : (i * sz + o) % sz = o := by rw [Nat.mul_comm, Nat.mul_add_mod, Nat.mod_eq_of_lt ho]
      rw [e1, e2]
    rw [e]
    exact hv i o hi ho

def srcV (T : Tab) : AV → Option (Nat × Nat × (Nat → List AV))
  | .list sz m g => some (sz, m, g)
  | .row sz id ver off len => match tget T id with
    | .row _ _ cv f => bif Nat.beq ver cv then some (sz, len, fun i => f (off + i)) else none
    | _ => none
  | _ => none

theorem srcV_src {G : Ctx} {w : World} {ok : Nat → Prop} {mu : Nat → Option Nat} {T : Tab} (I : Inv G ok mu T w) {v : Value} {y : AV} {sz m : Nat} {g : Nat → List AV} (h : RV w ok mu T false v y) (hy : srcV T y = some (sz, m, g)) : Src w ok mu T v sz m g ∧ 0 < sz := by
  unfold srcV at hy
  split at hy
  · cases hy
    obtain ⟨A, cap, cv, rfl, hn, hc, hs, ha, hl, h1, hv⟩ := rv_list h
    refine ⟨src_mk hs cv (fun hm => ?_) hl h1 hv, hs⟩
    obtain ⟨b, off, e, _, hcell⟩ := ha hm
    exact ⟨b, off, e, hcell⟩
  · rename_i sz' id ver off len
    split at hy
    · rename_i sz2 n cv f hT
      cases hver : Nat.beq ver cv with
      | false => rw [hver] at hy; cases hy
      | true =>
        rw [hver, cond_true] at hy
        simp only [Option.some.injEq, Prod.mk.injEq] at hy
        obtain ⟨rfl, rfl, rfl⟩ := hy
        obtain ⟨q1, q2, q3⟩ := rv_row h
        obtain ⟨_, q4⟩ := q3 sz2 n cv f hT
        obtain ⟨rfl, hle, hsl⟩ := q4 (Nat.eq_of_beq_eq_true hver)
        have hob := I.obs id
        rw [hT] at hob
        obtain ⟨g1, g2, g3⟩ := hob
        unfold SliceAt at hsl
        cases hm : mu id with
        | none =>
          rw [hm] at hsl
          obtain ⟨rfl, rfl, A, rfl⟩ := hsl
          exact ⟨src_mk g1 (fun _ _ => undef) (fun h => absurd h (Nat.lt_irrefl _)) (fun i hi => absurd hi (Nat.not_lt_zero _)) (fun i _ hi => absurd hi (Nat.not_lt_zero _)) (fun i _ hi => absurd hi (Nat.not_lt_zero _)), g1⟩
        | some b =>
          rw [hm] at hsl g3
          obtain ⟨cap, rfl, hcap, hlc⟩ := hsl
          obtain ⟨c, e, Cc, k1, k2, k3, k4, k5, k6⟩ := g3
          refine ⟨src_mk g1 (fun i o => c.getD ((off + i) * sz2 + o) undef) (fun _ => ⟨b, off * sz2, rfl, fun i o hi ho => ?_⟩) (fun i hi => g2 _ (by omega)) (fun i o hi ho => k5 _ _ (by omega) ho) (fun i o hi ho => k6 _ _ (by omega) ho), g1⟩
          have hlt : (off + i) * sz2 + o < c.size := by
            rw [k2]
            have := Nat.mul_le_mul_right sz2 (show off + i + 1 ≤ Cc by omega)
            rw [Nat.add_mul, Nat.one_mul] at this
            omega
          have : off * sz2 + (i * sz2 + o) = (off + i) * sz2 + o := by rw [Nat.add_mul]; omega
          rw [this]
          exact cell_of_heap k1 hlt
    · cases hy
  · cases hy
end Go.Proofs.Ytbpcjahjbkiofaa.AV

set_option linter.unusedVariables false
set_option linter.unusedSimpArgs false
namespace Go.Proofs.Ytbpcjahjbkiofaa.AV
open Go

section
variable {P : Program}

theorem cOp_app {o : Oper} {sz bytes : Nat} {X Y : Opd} (h : cOp P o = some (.app sz bytes X Y)) : ∃ (c : Call) (t e : TypeId) (ti : TypeInfo) (z : Value) (x y : Operand), o.op = .call c ∧ c.callee = .builtin .append ∧ c.args = #[x, y] ∧ c.argTypes = #[t, t] ∧ P.underlying t = some (.slice e) ∧ P.info? e = some ti ∧ ti.zero = some z ∧ z.cells.size = ti.size ∧
    0 < ti.size ∧ ti.size = sz ∧ ti.bytes = bytes ∧ opd x = some X ∧ opd y = some Y ∧ ∀ u ∈ z.cells.toList, u.oneCell' = true := by
  have key : ∃ c, o.op = .call c ∧ cCall P c o.type = some (.app sz bytes X Y) := by
    unfold cOp at h
    split at h
    all_goals try (rename_i c hop; exact ⟨c, hop, h⟩)
    all_goals exfalso
    all_goals first
      | exact map_no h (fun z e => by cases e)
      | (unfold cBin at h; (repeat' split at h) <;> cases h; done)
      | ((repeat' split at h) <;> cases h; done)
      | cases h
  obtain ⟨c, hop, h⟩ := key
  · unfold cCall at h
    split at h
    case h_4 hb =>
      split at h
      · rename_i x y t u ha ht
        split at h
        · rename_i A B e e2 hx hy hd hd2
          split at h
          · rename_i ti hi
            split at h
            · rename_i z hz
              split at h
              · rename_i hc
                cases h
                simp only [Bool.and_eq_true, beq_iff_eq, Nat.blt_eq] at hc
                obtain ⟨⟨⟨h1, h2⟩, rfl⟩, h4⟩ := hc
                exact ⟨c, t, e, ti, z, x, y, hop, hb, by rw [← ha], by rw [← ht], hd, hi, hz, h1, h2, rfl, rfl, hx, hy, plain_ones h4⟩
              · cases h
            · cases h
          · cases h
        all_goals (repeat' split at h) <;> cases h
      · cases h
    all_goals (repeat' split at h) <;> cases h

theorem exec_app {w : World} {o : Oper} {a : Act} {c : Call} {t : TypeId} {x y : Operand} {v' : Value} {w' : World} (hop : o.op = .call c) (hb : c.callee = .builtin .append) (ea : c.args = #[x, y]) (et : c.argTypes = #[t, t])
    (h : (Builtin.append_ #[t, t] o.type #[a.eval x, a.eval y]).run P w = .ok v' w') : (execOp a.eval o).run P w = .ok (.value v') w' := by
  simp [execOp, hop, resolve, hb, ea, et, invoke, builtin, h]

def srcS (T : Tab) (sz : Nat) (y : AV) : Option (Nat × Nat × (Nat → List AV)) := match y with
  | .zsl => some (sz, 0, fun _ => [])
  | y => srcV T y

theorem srcS_src {G : Ctx} {w : World} {ok : Nat → Prop} {mu : Nat → Option Nat} {T : Tab} (I : Inv G ok mu T w) {v : Value} {y : AV} {sz0 sz m : Nat} {g : Nat → List AV} (h0 : 0 < sz0) (h : RV w ok mu T false v y) (hy : srcS T sz0 y = some (sz, m, g)) : Src w ok mu T v sz m g := by
  unfold srcS at hy
  split at hy
  · cases hy
    obtain ⟨A, rfl⟩ := rv_zsl h
    exact src_mk h0 (fun _ _ => undef) (fun h => absurd h (Nat.lt_irrefl _)) (fun i hi => absurd hi (Nat.not_lt_zero _)) (fun i _ hi => absurd hi (Nat.not_lt_zero _)) (fun i _ hi => absurd hi (Nat.not_lt_zero _))
  · exact (srcV_src I h hy).1

/-- One after the other. -/
def fapp (n : Nat) (f g : Nat → List AV) : Nat → List AV := fun i => bif Nat.blt i n then f i else g (i - n)

section
variable {w : World} {ok : Nat → Prop} {mu : Nat → Option Nat} {T : Tab}

theorem fapp_lt {n i : Nat} {f g : Nat → List AV} (h : i < n) : fapp n f g i = f i := by
  have : Nat.blt i n = true := by rw [Nat.blt_eq]; exact h
  simp [fapp, this]
theorem fapp_ge {n i : Nat} {f g : Nat → List AV} (h : n ≤ i) : fapp n f g i = g (i - n) := by
  have : Nat.blt i n = false := by
    cases hb : Nat.blt i n
    · rfl
    · rw [Nat.blt_eq] at hb; omega
  simp [fapp, this]

theorem getD_arr (l : List Value) (k : Nat) : l.toArray.getD k undef = l.getD k undef := by simp [List.getD_eq_getElem?_getD]

/-- The cells of olds, news and what is left. -/
theorem cells_cat {sz n m : Nat} {olds news rest : List Value} {f g : Nat → List AV} (hlo : olds.length = n * sz) (hln : news.length = m * sz)
    (p : Value → AV → Prop) (ho : ∀ i o, i < n → o < sz → p (olds.getD (i * sz + o) undef) (lget (f i) o)) (hn : ∀ i o, i < m → o < sz → p (news.getD (i * sz + o) undef) (lget (g i) o)) :
    ∀ i o, i < n + m → o < sz → p ((olds ++ news ++ rest).toArray.getD (i * sz + o) undef) (lget (fapp n f g i) o) := by
  intro i o hi hoz
  rw [getD_arr]
  have hlt : i * sz + o < (n + m) * sz := by
    have := Nat.mul_le_mul_right sz (show i + 1 ≤ n + m by omega)
    rw [Nat.add_mul, Nat.one_mul] at this
    omega
  rw [Nat.add_mul] at hlt
  rw [List.getD_eq_getElem?_getD, List.getElem?_append_left (by simp; omega)]
  by_cases h : i < n
  · rw [fapp_lt h]
    have h2 : i * sz + o < n * sz := by
      have := Nat.mul_le_mul_right sz (show i + 1 ≤ n by omega)
      rw [Nat.add_mul, Nat.one_mul] at this
      omega
    rw [List.getElem?_append_left (by omega), ← List.getD_eq_getElem?_getD]
    exact ho i o h hoz
  · rw [fapp_ge (by omega)]
    have h2 : n * sz ≤ i * sz := Nat.mul_le_mul_right sz (by omega)
    rw [List.getElem?_append_right (by omega), hlo, ← List.getD_eq_getElem?_getD]
    have := hn (i - n) o (by omega) hoz
    rwa [Nat.sub_mul, show i * sz - n * sz + o = i * sz + o - n * sz by omega] at this

theorem oneCell_news {sz m : Nat} {news : List Value} (hln : news.length = m * sz) (h1 : ∀ u ∈ news, u.oneCell' = true) : ∀ i o, i < m → o < sz → (news.getD (i * sz + o) undef).oneCell' = true := fun i o hi ho => by
  have hlt : i * sz + o < news.length := by
    have := Nat.mul_le_mul_right sz (show i + 1 ≤ m by omega)
    rw [Nat.add_mul, Nat.one_mul] at this
    omega
  rw [List.getD_eq_getElem?_getD, List.getElem?_eq_getElem hlt]
  exact h1 _ (List.getElem_mem hlt)

end

/-- A row of no cells, in no block. -/
theorem Next.virt {G : Ctx} {ok : Nat → Prop} {mu : Nat → Option Nat} {T : Tab} {w : World} (I : Inv G ok mu T w) {id sz ver : Nat} {f : Nat → List AV} (hs : 0 < sz)
    (ht : tget T id = .fresh ∨ ∃ n cv g, tget T id = .row sz n cv g ∧ cv < ver) : Next ok ok mu (muSet mu id none) T (tset T id (.row sz 0 ver f)) w w := by
  have hC : Compat w w mu (muSet mu id none) T (tset T id (.row sz 0 ver f)) := by
    intro i hi
    by_cases hne : i = id
    · subst hne
      rw [tget_tset_same]
      refine ⟨fun h => (by cases h), fun cells h => (by cases h), fun sz2 n2 cv2 f2 h => ?_⟩
      cases h
      rcases ht with ht | ⟨n, cv, g, ht, hv⟩
      · exact absurd ht hi
      · exact ⟨n, cv, g, ht, Nat.le_of_lt hv, fun e => by omega⟩
    · rw [tget_tset_ne _ _ _ _ hne, muSet_ne _ _ _ hne]
      exact ⟨hi, fun cells e => ⟨⟨cells, e⟩, rfl⟩, fun sz n cv f e => ⟨n, cv, f, e, Nat.le_refl _, fun _ => ⟨Nat.le_refl _, rfl, fun b hb => rfl⟩⟩⟩
  have hw : ∀ b, ok b → ok b ∧ w.heap[b]? = w.heap[b]? := fun b hb => ⟨hb, rfl⟩
  refine ⟨rfl, rfl, rfl, Nat.le_refl _, fun b hb _ => rfl, hC, fun _ h => h, fun b hb => ⟨(I.okB b hb).1, .inl hb⟩, ?_, ?_, ?_⟩
  · intro i b hi hli
    by_cases h : i = id
    · subst h; rw [muSet_same] at hi; cases hi
    · rw [muSet_ne _ _ _ h] at hi
      rw [tget_tset_ne _ _ _ _ h] at hli
      exact ⟨I.sep i b hi hli, .inl ⟨i, hi, hli⟩⟩
  · intro i j b hi hj hli hlj
    by_cases h : i = id
    · subst h; rw [muSet_same] at hi; cases hi
    · by_cases h' : j = id
      · subst h'; rw [muSet_same] at hj; cases hj
      · rw [muSet_ne _ _ _ h] at hi
        rw [muSet_ne _ _ _ h'] at hj
        rw [tget_tset_ne _ _ _ _ h] at hli
        rw [tget_tset_ne _ _ _ _ h'] at hlj
        exact I.inj i j b hi hj hli hlj
  · intro i
    by_cases h : i = id
    · subst h
      rw [tget_tset_same]
      refine ⟨hs, fun i hi => absurd hi (Nat.not_lt_zero _), ?_⟩
      rw [muSet_same]
    · rw [tget_tset_ne _ _ _ _ h]
      exact (I.obs i).mono hw hC (muSet_ne _ _ _ h) fun b hb hl' => rfl

theorem rv_row_new {w : World} {ok : Nat → Prop} {mu : Nat → Option Nat} {T : Tab} {id sz n ver cap b : Nat} {f : Nat → List AV} (hm : mu id = some b) (hT : tget T id = .row sz n ver f) (hc : cap * sz = capOf w b) (hn : n ≤ cap) :
    RV w ok mu T false (.slice (some ⟨b, 0, none⟩) n cap) (.row sz id ver 0 n) := by
  refine .row _ _ _ _ _ _ ⟨_, _, rfl⟩ ⟨(by rw [hT]; exact fun h => (by cases h)), fun cells e => (by rw [hT] at e; cases e), fun sz2 n2 cv f2 e => ?_⟩
  rw [hT] at e
  cases e
  refine ⟨Nat.le_refl _, fun _ => ⟨rfl, by omega, ?_⟩⟩
  unfold SliceAt
  rw [hm]
  exact ⟨cap, by simp, by rw [Nat.zero_add]; exact hc, hn⟩

theorem rv_row_virt {w : World} {ok : Nat → Prop} {mu : Nat → Option Nat} {T : Tab} {id sz ver : Nat} {f : Nat → List AV} (a : Option Addr) (hm : mu id = none) (hT : tget T id = .row sz 0 ver f) : RV w ok mu T false (.slice a 0 0) (.row sz id ver 0 0) := by
  refine .row _ _ _ _ _ _ ⟨_, _, rfl⟩ ⟨(by rw [hT]; exact fun h => (by cases h)), fun cells e => (by rw [hT] at e; cases e), fun sz2 n2 cv f2 e => ?_⟩
  rw [hT] at e
  cases e
  refine ⟨Nat.le_refl _, fun _ => ⟨rfl, by omega, ?_⟩⟩
  unfold SliceAt
  rw [hm]
  exact ⟨rfl, rfl, a, rfl⟩

/-- Append to what has no cells: a row of one's own. -/
theorem Does.appZ {env : Env} {T : Tab} {sz bytes m nid : Nat} {X Y : Opd} {g : Nat → List AV} (hf : tget T nid = .fresh) (hx : oval env X = .zsl) (hy : srcS T sz (oval env Y) = some (sz, m, g)) (hm : m ≤ maxLen) (hb : m * bytes ≤ 140737488355328) :
    Does P (.app sz bytes X Y) env T (.row sz nid 0 0 m) (tset T nid (.row sz m 0 g)) := by
  refine ⟨fun {G w ok mu a o} hc I E => ?_⟩
  obtain ⟨c, t, e, ti, z, x, y, hop, hcal, ea, et, hd, hi, hz, hzs, h0, rfl, rfl, hxo, hyo, hz1⟩ := cOp_app hc
  have rx := opd_rv E hxo
  have ry := opd_rv E hyo
  rw [hx] at rx
  obtain ⟨A0, hval⟩ := rv_zsl rx
  obtain ⟨A, C, news, hyv, hln, hA, h1, hl, hrv⟩ := srcS_src I h0 ry hy
  by_cases hm0 : m = 0
  · subst hm0
    refine ⟨_, .slice A0 0 0, w, ok, muSet mu nid none, exec_app hop hcal ea et (by rw [hval, hyv]; exact run_app_none hd hi A0 A C), .inl rfl, Next.virt I h0 (.inl hf), ?_⟩
    exact rv_row_virt A0 (muSet_same _ _ _) (tget_tset_same _ _ _)
  · obtain ⟨cap, rest, k1, k2, ⟨k3, k3r⟩, k4⟩ := run_app_new (P := P) (w := w) (ty := o.type) hd hi hz hzs hz1 h0 A0 0 0 [] (by simp) (fun h => absurd h (Nat.lt_irrefl _)) A m C news hln hA (by omega) (by omega) (by rwa [Nat.zero_add])
    rw [Nat.zero_add] at k1 k4
    simp only [List.nil_append] at k3 k4
    have N1 : Go.Proofs.Ytbpcjahjbkiofaa.AV.Next ok ok mu mu T T w w.drew := Next.same I rfl rfl rfl rfl
    have I1 := I.next N1
    have hsz : (news ++ rest).toArray.size = cap * ti.size := by simpa using k3
    have N2 := Next.alloc I1 hf (news ++ rest).toArray e (.row ti.size m 0 g) trivial fun w' mu' T' ew em eT hrv' hmu hheap => by
      refine ⟨h0, hl, ?_⟩
      rw [hmu]
      refine ⟨_, e, cap, hheap, hsz, by omega, k2, fun i o hi' ho => ?_, fun i o hi' ho => ?_⟩
      · exact one_all (l := news ++ rest) (fun u hu => (List.mem_append.1 hu).elim (h1 u) (k3r u)) (by simpa using hsz) i o hi' ho
      · have := cells_cat (n := 0) (m := m) (olds := []) (rest := rest) (f := g) (g := g) (by simp) hln (fun v x => RV w ok mu T true v x) (fun i o h => absurd h (Nat.not_lt_zero _)) hrv i o (by omega) ho
        rw [fapp_ge (Nat.zero_le _), Nat.sub_zero] at this
        simp only [List.nil_append] at this
        exact hrv' _ _ _ (N1.rv I this)
    refine ⟨_, _, _, ok, _, exec_app hop hcal ea et (by rw [hval, hyv]; exact k4), .inl rfl, N1.trans I N2, ?_⟩
    refine rv_row_new (muSet_same _ _ _) (tget_tset_same _ _ _) ?_ k1
    unfold capOf
    rw [show (w.drew.alloc (.cells (news ++ rest).toArray e)).heap[w.heap.size]? = some (.cells (news ++ rest).toArray e (0, 0)) from heap_alloc_new w.drew _]
    exact hsz.symm

/-- Append to a whole row of one's own. -/
theorem Does.appR {env : Env} {T : Tab} {sz bytes id ver n m : Nat} {X Y : Opd} {f g : Nat → List AV} (hx : oval env X = .row sz id ver 0 n) (hT : tget T id = .row sz n ver f) (hy : srcS T sz (oval env Y) = some (sz, m, g)) (hm : n + m ≤ maxLen) (hb : (n + m) * bytes ≤ 140737488355328) :
    Does P (.app sz bytes X Y) env T (.row sz id (ver + 1) 0 (n + m)) (tset T id (.row sz (n + m) (ver + 1) (fapp n f g))) := by
  refine ⟨fun {G w ok mu a o} hc I E => ?_⟩
  obtain ⟨c, t, e, ti, z, x, y, hop, hcal, ea, et, hd, hi, hz, hzs, h0, rfl, rfl, hxo, hyo, hz1⟩ := cOp_app hc
  have rx := opd_rv E hxo
  have ry := opd_rv E hyo
  rw [hx] at rx
  obtain ⟨A, C, news, hyv, hln, hA, h1, hl, hrv⟩ := srcS_src I h0 ry hy
  obtain ⟨q1, q2, q3⟩ := rv_row rx
  obtain ⟨_, q4⟩ := q3 _ n ver f hT
  obtain ⟨_, hle, hsl⟩ := q4 rfl
  have hob := I.obs id
  rw [hT] at hob
  obtain ⟨_, g2, g3⟩ := hob
  have hlf : ∀ i, i < n + m → (fapp n f g i).length = ti.size := fun i hi' => by
    by_cases h : i < n
    · rw [fapp_lt h]; exact g2 i h
    · rw [fapp_ge (by omega)]; exact hl _ (by omega)
  have N1 : Go.Proofs.Ytbpcjahjbkiofaa.AV.Next ok ok mu mu T T w w.drew := Next.same I rfl rfl rfl rfl
  have I1 := I.next N1
  -- a new block
  have fresh : ∀ (B : Option Addr) (cap0 : Nat) (olds : List Value), olds.length = n * ti.size → (0 < n → ∃ b, B = some b ∧ ∀ j u, olds[j]? = some u → w.cell? (b.add j) = some u) →
      (∀ u ∈ olds, u.oneCell' = true) → (∀ i o, i < n → o < ti.size → RV w ok mu T true (olds.getD (i * ti.size + o) undef) (lget (f i) o)) → cap0 < n + m → a.eval x = .slice B n cap0 →
      DidT P o a w ok mu T (.row ti.size id (ver + 1) 0 (n + m)) (tset T id (.row ti.size (n + m) (ver + 1) (fapp n f g))) := by
    intro B cap0 olds hlo hB ho1 hor hlt hval
    obtain ⟨cap, rest, k1, k2, ⟨k3, k3r⟩, k4⟩ := run_app_new (P := P) (w := w) (ty := o.type) hd hi hz hzs hz1 h0 B n cap0 olds hlo hB A m C news hln hA hlt hm hb
    have hsz : (olds ++ news ++ rest).toArray.size = cap * ti.size := by simpa using k3
    have N2 := Next.renew I1 hT (Nat.lt_succ_self ver) (olds ++ news ++ rest).toArray e (n' := n + m) (f' := fapp n f g) fun w' mu' T' ew em eT hrv' hmu hheap => by
      refine ⟨h0, hlf, ?_⟩
      rw [hmu]
      refine ⟨_, e, cap, hheap, hsz, k1, k2, fun i o hi' ho => ?_, fun i o hi' ho => ?_⟩
      · exact one_all (l := olds ++ news ++ rest) (fun u hu => (List.mem_append.1 hu).elim (fun h => (List.mem_append.1 h).elim (ho1 u) (h1 u)) (k3r u)) (by simpa using hsz) i o hi' ho
      · have := cells_cat (rest := rest) (f := f) (g := g) hlo hln (fun v x => RV w ok mu T true v x) hor hrv i o hi' ho
        exact hrv' _ _ (N1.rv I this)
    refine ⟨_, _, _, ok, _, exec_app hop hcal ea et (by rw [hval, hyv]; exact k4), .inl rfl, N1.trans I N2, ?_⟩
    refine rv_row_new (muSet_same _ _ _) (tget_tset_same _ _ _) ?_ k1
    unfold capOf
    rw [show (w.drew.alloc (.cells (olds ++ news ++ rest).toArray e)).heap[w.heap.size]? = some (.cells (olds ++ news ++ rest).toArray e (0, 0)) from heap_alloc_new w.drew _]
    exact hsz.symm
  unfold SliceAt at hsl
  cases hmu : mu id with
  | none =>
    rw [hmu] at hsl g3
    obtain ⟨_, rfl, A0, hval⟩ := hsl
    by_cases hm0 : m = 0
    · subst hm0
      have N3 : Go.Proofs.Ytbpcjahjbkiofaa.AV.Next ok ok mu (muSet mu id none) T (tset T id (.row ti.size 0 (ver + 1) (fapp 0 f g))) w w := Next.virt I h0 (.inr ⟨0, ver, f, hT, Nat.lt_succ_self _⟩)
      refine ⟨_, .slice A0 0 0, w, ok, muSet mu id none, exec_app hop hcal ea et (by rw [hval, hyv]; exact run_app_none hd hi A0 A C), .inl rfl, N3, ?_⟩
      exact rv_row_virt A0 (muSet_same _ _ _) (tget_tset_same _ _ _)
    · exact fresh A0 0 [] (by simp) (fun h => absurd h (Nat.lt_irrefl _)) (fun u h => by simp at h) (fun i _ h => absurd h (Nat.not_lt_zero _)) (by omega) hval
  | some b =>
    rw [hmu] at hsl g3
    obtain ⟨cap, hval, hcap, hnc⟩ := hsl
    obtain ⟨cur, e', Cc, k1, k2, k3, k4, k5, k6⟩ := g3
    rw [Nat.zero_mul] at hval
    have hcs : cap * ti.size = cur.size := by
      rw [Nat.zero_add] at hcap
      rw [hcap]
      unfold capOf
      rw [k1]
    have hbl : b < w.heap.size := (Array.getElem?_eq_some_iff.1 k1).1
    have hns : n * ti.size ≤ cur.size := by rw [← hcs]; exact Nat.mul_le_mul_right _ hnc
    let olds := cur.toList.take (n * ti.size)
    have hlo : olds.length = n * ti.size := by simp [olds]; omega
    have hcur := all_one h0 k2 k5
    have ho1 : ∀ u ∈ olds, u.oneCell' = true := fun u hu => hcur u (List.mem_of_mem_take hu)
    have hog : ∀ i o, i < n → o < ti.size → olds.getD (i * ti.size + o) undef = cur.getD (i * ti.size + o) undef := fun i o hi' ho => by
      have hlt : i * ti.size + o < n * ti.size := by
        have := Nat.mul_le_mul_right ti.size (show i + 1 ≤ n by omega)
        rw [Nat.add_mul, Nat.one_mul] at this
        omega
      rw [List.getD_eq_getElem?_getD, List.getElem?_take, if_pos hlt, ← List.getD_eq_getElem?_getD, getD_toList]
    by_cases hroom : n + m ≤ cap
    · have hfit : n * ti.size + news.length ≤ cur.size := by rw [hln, ← hcs, ← Nat.add_mul]; exact Nat.mul_le_mul_right _ hroom
      have hrun := run_app_in (P := P) (w := w) (ty := o.type) hd hi b n cap cur k1 A m C news hln hA h1 hroom hfit
      let c' := (olds ++ news ++ cur.toList.drop (n * ti.size + news.length)).toArray
      have hsz : c'.size = cur.size := by
        simp only [c', List.size_toArray, List.length_append, hlo, List.length_drop, Array.length_toList]
        omega
      have hset : (w.setRow b c').heap[b]? = some (.cells c' e' (0, 0)) := setRow_heap w b cur c' e' _ k1
      have hk : ∀ k, k ≠ b → (w.setRow b c').heap[k]? = w.heap[k]? := fun k hk => setRow_other w b k _ hk
      have hcap' : capOf (w.setRow b c') b = capOf w b := by unfold capOf; rw [hset, k1]; exact hsz
      have N := Next.write I hmu (by rw [hT]; trivial) (.row ti.size (n + m) (ver + 1) (fapp n f g)) trivial (w' := w.setRow b c') rfl rfl rfl (by simp) hk hcap' (fun cells h => (by cases h))
        (fun sz2 n2 cv2 f2 h => by cases h; exact ⟨n, ver, f, hT, Nat.le_succ _, Nat.le_add_right _ _⟩) fun T' eT hrv' => by
          refine ⟨h0, hlf, ?_⟩
          rw [hmu]
          have hCc : Cc = cap := Nat.eq_of_mul_eq_mul_right h0 (by rw [← k2, hcs])
          refine ⟨c', e', cap, hset, by rw [hsz, hcs], hroom, by omega, fun i o hi' ho => ?_, fun i o hi' ho => ?_⟩
          · exact one_all (l := olds ++ news ++ cur.toList.drop (n * ti.size + news.length)) (fun u hu => (List.mem_append.1 hu).elim (fun h => (List.mem_append.1 h).elim (ho1 u) (h1 u)) (fun h => hcur u (List.mem_of_mem_drop h))) (by have := hsz; simp only [c', List.size_toArray] at this; rw [this, hcs]) i o hi' ho
          · exact hrv' _ _ _ (cells_cat (f := f) (g := g) hlo hln (fun v x => RV w ok mu T true v x) (fun i o hi'' ho' => by rw [hog i o hi'' ho']; exact k6 i o hi'' ho') hrv i o hi' ho)
      refine ⟨_, _, _, ok, mu, exec_app hop hcal ea et (by rw [hval, hyv]; exact hrun), .inl rfl, N, ?_⟩
      exact rv_row_new hmu (tget_tset_same _ _ _) (by rw [hcap', ← hcap, Nat.zero_add]) hroom
    · refine fresh (some ⟨b, 0, none⟩) cap olds hlo (fun _ => ⟨_, rfl, fun j u hu => ?_⟩) ho1 (fun i o hi' ho => by rw [hog i o hi' ho]; exact k6 i o hi' ho) (by omega) hval
      rw [add_none, Nat.zero_add]
      have hj : j < n * ti.size := by rw [← hlo]; exact (List.getElem?_eq_some_iff.1 hu).1
      have hu' : cur.getD j undef = u := by
        rw [← getD_toList, List.getD_eq_getElem?_getD]
        have : olds[j]? = cur.toList[j]? := by simp only [olds]; rw [List.getElem?_take, if_pos hj]
        rw [← this, hu]
        rfl
      rw [cell_of_heap k1 (by omega), hu']

end
end Go.Proofs.Ytbpcjahjbkiofaa.AV

set_option linter.unusedVariables false
set_option linter.unusedSimpArgs false
namespace Go.Proofs.Ytbpcjahjbkiofaa.AV
open Go

/-! ### Freezing -/

def frz (T : Tab) (v : AV) : AV := match v with
  | .row sz id ver off len => match tget T id with
    | .row _ _ cv f => bif Nat.beq ver cv then .list sz len (fun i => f (off + i)) else .top
    | _ => .top
  | v => v
def frzL (T : Tab) (l : List AV) : List AV := match l with
  | [] => []
  | x :: r => frz T x :: frzL T r
def frz1 (T : Tab) (v : AV) : AV := match v with
  | .agg l => .agg (frzL T l)
  | v => frz T v
def frzM (T : Tab) (l : List AV) : List AV := match l with
  | [] => []
  | x :: r => frz1 T x :: frzM T r
def frzT (T : Tab) (v : AV) : AV := match v with
  | .tuple l => .tuple (frzM T l)
  | v => frz1 T v

theorem frzL_length (T : Tab) : ∀ l : List AV, (frzL T l).length = l.length
  | [] => rfl
  | x :: r => by show (frzL T r).length + 1 = _; rw [frzL_length T r]; rfl
theorem frzM_length (T : Tab) : ∀ l : List AV, (frzM T l).length = l.length
  | [] => rfl
  | x :: r => by show (frzM T r).length + 1 = _; rw [frzM_length T r]; rfl
theorem lget_frzL (T : Tab) : ∀ (l : List AV) (j : Nat), j < l.length → lget (frzL T l) j = frz T (lget l j)
  | [], j, h => by simp at h
  | x :: r, 0, _ => rfl
  | x :: r, j + 1, h => by show lget (frzL T r) j = _; rw [lget_frzL T r j (by simpa using h)]; rfl
theorem lget_frzM (T : Tab) : ∀ (l : List AV) (j : Nat), j < l.length → lget (frzM T l) j = frz1 T (lget l j)
  | [], j, h => by simp at h
  | x :: r, 0, _ => rfl
  | x :: r, j + 1, h => by show lget (frzM T r) j = _; rw [lget_frzM T r j (by simpa using h)]; rfl

/-- What may be read, and the blocks of all rows. -/
def okRow (ok : Nat → Prop) (mu : Nat → Option Nat) (T : Tab) (b : Nat) : Prop := ok b ∨ ∃ i, mu i = some b ∧ (tget T i).live

section
variable {G : Ctx} {w : World} {ok : Nat → Prop} {mu : Nat → Option Nat} {T : Tab}

theorem RV.wider {z : Bool} {v : Value} {x : AV} (h : RV w ok mu T z v x) : RV w (okRow ok mu T) mu T z v x :=
  h.mono (fun b hb => ⟨.inl hb, rfl⟩) fun _ => Compat.refl _ _ _

theorem RV.frz (I : Inv G ok mu T w) {v : Value} {x : AV} (h : RV w ok mu T false v x) : RV w (okRow ok mu T) mu T false v (frz T x) := by
  unfold AV.frz
  split
  · rename_i sz id ver off len
    split
    · rename_i sz2 n cv f hT
      cases hver : Nat.beq ver cv with
      | false => exact .top _ _
      | true =>
        rw [cond_true]
        obtain ⟨q1, q2, q3⟩ := rv_row h
        obtain ⟨_, q4⟩ := q3 sz2 n cv f hT
        obtain ⟨rfl, hle, hsl⟩ := q4 (Nat.eq_of_beq_eq_true hver)
        have hob := I.obs id
        rw [hT] at hob
        obtain ⟨g1, g2, g3⟩ := hob
        unfold SliceAt at hsl
        cases hm : mu id with
        | none =>
          rw [hm] at hsl
          obtain ⟨rfl, rfl, A, rfl⟩ := hsl
          exact .list _ A 0 sz2 0 _ (fun _ _ => undef) (Nat.le_refl _) (by unfold maxLen; omega) g1 (fun h => absurd h (Nat.lt_irrefl _)) (fun i hi => absurd hi (Nat.not_lt_zero _)) (fun i _ hi => absurd hi (Nat.not_lt_zero _)) fun i _ hi => absurd hi (Nat.not_lt_zero _)
        | some b =>
          rw [hm] at hsl g3
          obtain ⟨cap, rfl, hcap, hlc⟩ := hsl
          obtain ⟨c, e, Cc, k1, k2, k3, k4, k5, k6⟩ := g3
          have hcc : off + cap = Cc := by
            unfold capOf at hcap
            rw [k1] at hcap
            exact Nat.eq_of_mul_eq_mul_right g1 (hcap.trans k2)
          refine .list _ _ cap sz2 len _ (fun i o => c.getD ((off + i) * sz2 + o) undef) hlc (by omega) g1 (fun _ => ⟨b, off * sz2, rfl, .inr ⟨id, hm, by rw [hT]; trivial⟩, fun i o hi ho => ?_⟩) (fun i hi => g2 _ (by omega)) (fun i o hi ho => k5 _ _ (by omega) ho) fun i o hi ho => (k6 _ _ (by omega) ho).wider
          have hlt : (off + i) * sz2 + o < c.size := by
            rw [k2]
            have := Nat.mul_le_mul_right sz2 (show off + i + 1 ≤ Cc by omega)
            rw [Nat.add_mul, Nat.one_mul] at this
            omega
          have : off * sz2 + (i * sz2 + o) = (off + i) * sz2 + o := by rw [Nat.add_mul]; omega
          rw [this]
          exact cell_of_heap k1 hlt
    · exact .top _ _
  · exact h.wider

theorem RV.frz1 (I : Inv G ok mu T w) {v : Value} {x : AV} (h : RV w ok mu T false v x) : RV w (okRow ok mu T) mu T false v (frz1 T x) := by
  unfold AV.frz1
  split
  · rename_i l
    obtain ⟨cs, rfl, hs, h1, hr⟩ := rv_agg h
    refine .agg _ _ _ (by rw [frzL_length]; exact hs) (fun j hj => h1 j (by rw [frzL_length] at hj; exact hj)) fun j hj => ?_
    rw [frzL_length] at hj
    rw [lget_frzL _ _ _ hj]
    exact (hr j hj).frz I
  · exact h.frz I

theorem RV.frzT (I : Inv G ok mu T w) {v : Value} {x : AV} (h : RV w ok mu T false v x) : RV w (okRow ok mu T) mu T false v (frzT T x) := by
  unfold AV.frzT
  split
  · rename_i l
    obtain ⟨cs, rfl, hs, hr⟩ := rv_tuple h
    refine .tuple _ _ _ (by rw [frzM_length]; exact hs) fun j hj => ?_
    rw [frzM_length] at hj
    rw [lget_frzM _ _ _ hj]
    exact (hr j hj).frz1 I
  · exact h.frz1 I

theorem okRow_lt (I : Inv G ok mu T w) : ∀ b, okRow ok mu T b → b < w.heap.size ∧ (G.ok0 b ∨ G.live0 b ∨ G.w0.heap.size ≤ b) := fun b hb => by
  rcases hb with h | ⟨i, hi, hl⟩
  · exact I.okB b h
  · exact ⟨I.mu_lt i b hi hl, .inr (I.lv i b hi hl)⟩
end

theorem FinT.frz {t : Tab} {rv r : AV} (hp : pureV (frzT t rv) = true) (hl : Le (frzT t rv) r) : FinT t rv [] [] r := fun G w ok mu v hT I hv =>
  ⟨okRow ok mu t, mu, { I with
    okB := okRow_lt I
    ok0 := fun b hb => .inl (I.ok0 b hb)
    sep := fun i b _ hl => absurd hl tget_nil_live
    inj := fun i j b _ _ hl => absurd hl tget_nil_live
    lv := fun i b _ hl => absurd hl tget_nil_live
    obs := fun i => by rw [tget_nil]; trivial
    cmp := fun id hid => by rw [hT, tget_nil] at hid; exact absurd rfl hid },
   hl _ _ _ _ _ _ ((((hv.frzT I).pure hp).mono (fun b hb => ⟨hb, rfl⟩) (fun e => by cases e)).thaw)⟩

/-! ### Results that hold no reference -/
def scal : AV → Bool
  | .tt | .ff | .bool _ | .int _ _ | .str _ | .nilp | .nilf | .nili | .zsl | .top => true
  | _ => false
def scalL : List AV → Bool
  | [] => true
  | x :: r => scal x && scalL r
def scal1 : AV → Bool
  | .agg l => scalL l
  | x => scal x
def scalM : List AV → Bool
  | [] => true
  | x :: r => scal1 x && scalM r
def scalT : AV → Bool
  | .tuple l => scalM l
  | x => scal1 x

theorem scalL_get : ∀ (l : List AV) (j : Nat), scalL l = true → scal (lget l j) = true
  | [], _, _ => by unfold lget; rfl
  | x :: r, 0, h => by simp only [scalL, Bool.and_eq_true] at h; exact h.1
  | x :: r, j + 1, h => by simp only [scalL, Bool.and_eq_true] at h; exact scalL_get r j h.2
theorem scalM_get : ∀ (l : List AV) (j : Nat), scalM l = true → scal1 (lget l j) = true
  | [], _, _ => by unfold lget; rfl
  | x :: r, 0, h => by simp only [scalM, Bool.and_eq_true] at h; exact h.1
  | x :: r, j + 1, h => by simp only [scalM, Bool.and_eq_true] at h; exact scalM_get r j h.2

section
variable {w w' : World} {ok ok' : Nat → Prop} {mu mu' : Nat → Option Nat} {T T' : Tab} {z z' : Bool} {v : Value} {x : AV}
theorem RV.scal (h : RV w ok mu T z v x) (hx : scal x = true) : RV w' ok' mu' T' z' v x := by
  cases h <;> simp only [AV.scal, reduceCtorEq, Bool.false_eq_true] at hx
  all_goals first
    | exact .top _ _
    | exact .tt _
    | exact .ff _
    | exact .bool _ _
    | exact .int _ _ _
    | exact .str _ _
    | exact .zsl _ _
    | exact .nilp _
    | exact .nilf _
    | exact .nili _
theorem RV.scal1 (h : RV w ok mu T z v x) (hx : scal1 x = true) : RV w' ok' mu' T' z' v x := by
  unfold AV.scal1 at hx
  split at hx
  · obtain ⟨cs, rfl, hs, h1, hr⟩ := rv_agg h
    exact .agg _ _ _ hs h1 fun j hj => (hr j hj).scal (scalL_get _ _ hx)
  · exact h.scal hx
theorem RV.scalT (h : RV w ok mu T z v x) (hx : scalT x = true) : RV w' ok' mu' T' z' v x := by
  unfold AV.scalT at hx
  split at hx
  · obtain ⟨cs, rfl, hs, hr⟩ := rv_tuple h
    exact .tuple _ _ _ hs fun j hj => (hr j hj).scal1 (scalM_get _ _ hx)
  · exact h.scal1 hx
end

/-- Rows may be lent to a call that hands nothing of them out. -/
theorem AC.borrow {P : Program} {f : FuncId} {args : List AV} {r : AV} {T : Tab} (h : AC P f (frzM T args) [] r []) (ha : pureL (frzM T args) = true) (hr : scalT r = true) : AC P f args T r T := by
  refine ⟨fun w ok mu I vs h1 h2 => ?_⟩
  refine (h.out w (okRow ok mu T) mu (Inv.empty mu fun b hb => (okRow_lt I b hb).1) vs (by rw [frzM_length]; exact h1) fun j hj => ?_).mono ?_
  · rw [frzM_length] at hj
    have e := lget_frzM T args j hj
    have := ((h2 j hj).frz1 I)
    rw [← e] at this
    exact ((this.pure (pureL_get _ _ ha)).mono (z := true) (fun b hb => ⟨hb, rfl⟩) (fun e => by cases e)).thaw
  · rintro e w' ⟨v, ok', mu', he, N, hv⟩
    have hkeep : ∀ b, b < w.heap.size → w'.heap[b]? = w.heap[b]? := fun b hb => N.keep b hb fun i _ => tget_nil_live
    have hlv : ∀ i b, mu i = some b → (tget T i).live → b < w.heap.size := I.mu_lt
    have hC : Compat w w' mu mu T T := fun id hid => ⟨hid, fun cells e => ⟨⟨cells, e⟩, rfl⟩, fun sz n cv f e => ⟨n, cv, f, e, Nat.le_refl _, fun _ => ⟨Nat.le_refl _, rfl, fun b hb => by
      unfold capOf; rw [hkeep b (hlv id b hb (by rw [e]; trivial))]⟩⟩⟩
    have hw : ∀ b, ok b → ok b ∧ w'.heap[b]? = w.heap[b]? := fun b hb => ⟨hb, hkeep b (I.okB b hb).1⟩
    refine ⟨v, ok, mu, he, ⟨N.os, N.tape, N.output, N.size, fun b hb _ => hkeep b hb, hC, fun _ h => h, fun b hb => ⟨Nat.lt_of_lt_of_le (I.okB b hb).1 N.size, .inl hb⟩, fun i b hi hl => ⟨I.sep i b hi hl, .inl ⟨i, hi, hl⟩⟩, I.inj, fun i => ?_⟩, hv.scalT hr⟩
    exact (I.obs i).mono hw hC rfl fun b hb hl => hkeep b (hlv i b hb hl)

end Go.Proofs.Ytbpcjahjbkiofaa.AV

set_option linter.unusedVariables false
set_option linter.unusedSimpArgs false
namespace Go.Proofs.Ytbpcjahjbkiofaa.AV
open Go

section
variable {P : Program}

theorem cOp_sl {o : Oper} {sz : Nat} {X : Opd} {lo hi mx : Option Opd} (h : cOp P o = some (.sl sz X lo hi mx)) : ∃ (t e : TypeId) (ti : TypeInfo) (x : Operand) (l r m : Option Operand), o.op = .slice t x l r m ∧ P.underlying t = some (.slice e) ∧ P.info? e = some ti ∧ 0 < ti.size ∧ ti.size = sz ∧ opd x = some X ∧ opdO l = some lo ∧ opdO r = some hi ∧ opdO m = some mx := by
  unfold cOp at h
  split at h
  all_goals try (exfalso; first
    | exact map_no h (fun z e => by cases e)
    | (unfold cBin at h; (repeat' split at h) <;> cases h; done)
    | (unfold cCall at h; (repeat' split at h) <;> cases h; done)
    | ((repeat' split at h) <;> cases h; done)
    | cases h)
  rename_i t x l r m hop
  split at h
  · rename_i e A B C D hd hx hl hr hm
    split at h
    · rename_i ti hi
      split at h
      · rename_i h0
        cases h
        rw [Nat.blt_eq] at h0
        exact ⟨t, e, ti, x, l, r, m, hop, hd, hi, h0, rfl, hx, hl, hr, hm⟩
      · cases h
    · cases h
  · cases h
  · cases h

/-- A bound of a part. -/
def bndV (env : Env) (d : Int) : Option Opd → Option Int
  | none => some d
  | some y => match oval env y with
    | .int _ i => some i
    | _ => none

theorem bnd_rv {w : World} {ok : Nat → Prop} {mu : Nat → Option Nat} {T : Tab} {env : Env} {a : Act} (E : EnvOK w ok mu T env a.tmps) {l : Option Operand} {L : Option Opd} {d i : Int} (h : opdO l = some L) (hb : bndV env d L = some i) :
    (l = none ∧ i = d) ∨ ∃ x k, l = some x ∧ a.eval x = .int k i := by
  cases l with
  | none =>
    simp only [opdO, Option.some.injEq] at h
    subst h
    simp only [bndV, Option.some.injEq] at hb
    exact .inl ⟨rfl, hb.symm⟩
  | some x =>
    simp only [opdO] at h
    split at h
    · rename_i X hx
      cases h
      simp only [bndV] at hb
      split at hb
      · rename_i k j hX
        cases hb
        have := opd_rv E hx
        rw [hX] at this
        exact .inr ⟨x, k, rfl, rv_int this⟩
      · cases hb
    · cases h

theorem run_sl {w : World} {o : Oper} {a : Act} {t e : TypeId} {ti : TypeInfo} {x : Operand} {l r : Option Operand} {A : Option Addr} {len cap : Nat} {i j : Int} (hop : o.op = .slice t x l r none) (hd : P.underlying t = some (.slice e)) (hi : P.info? e = some ti)
    (hx : a.eval x = .slice A len cap) (hl : (l = none ∧ i = 0) ∨ ∃ x k, l = some x ∧ a.eval x = .int k i) (hr : (r = none ∧ j = len) ∨ ∃ x k, r = some x ∧ a.eval x = .int k j) (h0 : 0 ≤ i) (h1 : i ≤ j) (h2 : j ≤ cap) :
    (execOp a.eval o).run P w = .ok (.value (.slice (if cap = i.toNat then A else A.map (·.add (i.toNat * ti.size))) (j.toNat - i.toNat) (cap - i.toNat))) w := by
  have c1 : 0 ≤ j ∧ j ≤ (cap : Int) := ⟨by omega, h2⟩
  have c2 : 0 ≤ i ∧ i ≤ j := ⟨h0, h1⟩
  have c3 : i ≤ ((j.toNat : Nat) : Int) := by omega
  have c4 : max j 0 = j := by omega
  rcases hl with ⟨rfl, rfl⟩ | ⟨xl, kl, rfl, hxl⟩
  · rcases hr with ⟨rfl, rfl⟩ | ⟨xr, kr, rfl, hxr⟩
    · simp [execOp, hop, Instr.sliceAt, Instr.slice, hx, run_underlying hd, run_sizeOf hi, Instr.sliceBounds]
    · simp [execOp, hop, Instr.sliceAt, Instr.slice, hx, hxr, run_underlying hd, run_sizeOf hi, Instr.sliceBounds, Instr.sliceBound, asIntOf, c1]
  · rcases hr with ⟨rfl, rfl⟩ | ⟨xr, kr, rfl, hxr⟩
    · simp [execOp, hop, Instr.sliceAt, Instr.slice, hx, hxl, run_underlying hd, run_sizeOf hi, Instr.sliceBounds, Instr.sliceBound, asIntOf, c2]
    · simp [execOp, hop, Instr.sliceAt, Instr.slice, hx, hxl, hxr, run_underlying hd, run_sizeOf hi, Instr.sliceBounds, Instr.sliceBound, asIntOf, c1, c2, c3, c4]

theorem Does.slL {env : Env} {T : Tab} {sz n : Nat} {X : Opd} {lo hi : Option Opd} {f : Nat → List AV} {i j : Int} (hx : oval env X = .list sz n f) (hl : bndV env 0 lo = some i) (hh : bndV env n hi = some j) (h0 : 0 ≤ i) (h1 : i ≤ j) (h2 : j ≤ n) :
    Does P (.sl sz X lo hi none) env T (.list sz (j.toNat - i.toNat) (fun k => f (i.toNat + k))) T := by
  refine ⟨fun {G w ok mu a o} hc I E => ?_⟩
  obtain ⟨t, e, ti, x, l, r, m, hop, hd, hti, hs, rfl, hxo, hlo, hro, hmo⟩ := cOp_sl hc
  obtain rfl : m = none := by
    cases m with
    | none => rfl
    | some y => simp only [opdO] at hmo; split at hmo <;> cases hmo
  have rx := opd_rv E hxo
  rw [hx] at rx
  obtain ⟨A, cap, cv, hval, hn, hcap, _, ha, hlen, h1', hv⟩ := rv_list rx
  refine Did.pure I (run_sl hop hd hti hval (bnd_rv E hlo hl) (bnd_rv E hro hh) h0 h1 (by omega)) ?_
  refine .list _ _ _ _ _ _ (fun k o => cv (i.toNat + k) o) (by omega) (by omega) hs (fun hp => ?_) (fun k hk => hlen _ (by omega)) (fun k o hk ho => h1' _ _ (by omega) ho) fun k o hk ho => hv _ _ (by omega) ho
  obtain ⟨b, off, rfl, hb, hcell⟩ := ha (by omega)
  refine ⟨b, off + i.toNat * ti.size, ?_, hb, fun k o hk ho => ?_⟩
  · rw [if_neg (by omega)]
    simp [add_none]
  · have := hcell (i.toNat + k) o (by omega) ho
    rw [Nat.add_mul] at this
    rw [show off + i.toNat * ti.size + (k * ti.size + o) = off + (i.toNat * ti.size + k * ti.size + o) by omega]
    exact this

theorem Does.slZ {env : Env} {T : Tab} {sz : Nat} {X : Opd} {lo hi : Option Opd} {i j : Int} (hx : oval env X = .zsl) (hl : bndV env 0 lo = some i) (hh : bndV env 0 hi = some j) (h0 : i = 0) (h1 : j = 0) :
    Does P (.sl sz X lo hi none) env T .zsl T := by
  refine ⟨fun {G w ok mu a o} hc I E => ?_⟩
  obtain ⟨t, e, ti, x, l, r, m, hop, hd, hti, hs, rfl, hxo, hlo, hro, hmo⟩ := cOp_sl hc
  obtain rfl : m = none := by
    cases m with
    | none => rfl
    | some y => simp only [opdO] at hmo; split at hmo <;> cases hmo
  subst h0
  subst h1
  have rx := opd_rv E hxo
  rw [hx] at rx
  obtain ⟨A, hval⟩ := rv_zsl rx
  refine Did.pure I (run_sl hop hd hti hval (bnd_rv E hlo hl) (bnd_rv E hro hh) (Int.le_refl _) (Int.le_refl _) (Int.le_refl _)) ?_
  exact .zsl _ _

/-- A part of a row of one's own. -/
theorem Does.slR {env : Env} {T : Tab} {sz id ver off len n cv : Nat} {X : Opd} {lo hi : Option Opd} {f : Nat → List AV} {i j : Int} (hx : oval env X = .row sz id ver off len) (hT : tget T id = .row sz n cv f) (hver : Nat.beq ver cv = true) (hl : bndV env 0 lo = some i) (hh : bndV env len hi = some j) (h0 : 0 ≤ i) (h1 : i < j ∨ i = 0) (h2 : i ≤ j) (h3 : j ≤ len) :
    Does P (.sl sz X lo hi none) env T (.row sz id ver (off + i.toNat) (j.toNat - i.toNat)) T := by
  refine ⟨fun {G w ok mu a o} hc I E => ?_⟩
  obtain ⟨t, e, ti, x, l, r, m, hop, hd, hti, hs, rfl, hxo, hlo, hro, hmo⟩ := cOp_sl hc
  obtain rfl : m = none := by
    cases m with
    | none => rfl
    | some y => simp only [opdO] at hmo; split at hmo <;> cases hmo
  have rx := opd_rv E hxo
  rw [hx] at rx
  obtain ⟨q1, q2, q3⟩ := rv_row rx
  obtain ⟨_, q4⟩ := q3 _ n cv f hT
  obtain ⟨_, hle, hsl⟩ := q4 (Nat.eq_of_beq_eq_true hver)
  have mk : ∀ v, (∃ A C, v = .slice A (j.toNat - i.toNat) C) → SliceAt w mu id ti.size (off + i.toNat) (j.toNat - i.toNat) v → RV w ok mu T false v (.row ti.size id ver (off + i.toNat) (j.toNat - i.toNat)) := fun v h1v hv => by
    refine .row _ _ _ _ _ _ h1v ⟨q1, q2, fun sz2 n2 cv2 f2 e2 => ?_⟩
    rw [hT] at e2
    cases e2
    exact ⟨Nat.le_of_eq (Nat.eq_of_beq_eq_true hver), fun _ => ⟨rfl, by omega, hv⟩⟩
  unfold SliceAt at hsl
  cases hm : mu id with
  | none =>
    rw [hm] at hsl
    obtain ⟨rfl, rfl, A, hval⟩ := hsl
    obtain rfl : i = 0 := by omega
    obtain rfl : j = 0 := by omega
    refine Did.pure I (run_sl hop hd hti hval (bnd_rv E hlo hl) (bnd_rv E hro hh) (Int.le_refl _) (Int.le_refl _) (Int.le_refl _)) (mk _ ⟨_, _, rfl⟩ ?_)
    unfold SliceAt
    rw [hm]
    exact ⟨rfl, rfl, A, rfl⟩
  | some b =>
    rw [hm] at hsl
    obtain ⟨cap, hval, hcap, hlc⟩ := hsl
    refine Did.pure I (run_sl hop hd hti hval (bnd_rv E hlo hl) (bnd_rv E hro hh) h0 h2 (by omega)) (mk _ ⟨_, _, rfl⟩ ?_)
    unfold SliceAt
    rw [hm]
    refine ⟨cap - i.toNat, ?_, ?_, by omega⟩
    · by_cases hc0 : cap = i.toNat
      · have : i = 0 := by omega
        subst this
        simp at hc0
        subst hc0
        simp
      · rw [if_neg hc0]
        simp [add_none, Nat.add_mul]
    · rw [← hcap]
      congr 1
      omega

end

section
variable {P : Program} {nt : Nat} {env : Env} {T : Tab} {Q : Post}

/-! ### Events -/

/-- Any operation that changes no object. -/
theorem Run.doesC {k : List AItem} {d : Option Nat} {p : AOp} {g : Option (Nat × Bool)} {r : List AOper} {gs : List Bool} {v : AV} (hg : gB g env = .yes gs) (ho : obL (stripOb gs env (slots p)) = obR (stripOb gs env (slots p))) (hv : AllT gs → Does P p (stripE env env (slots p)) T v T)
    (h : norm v fun v => wrapK gs v fun v => bindK env d v fun e => Goes P nt Q (.ops r :: k) e T) : Run P nt (.ops (⟨d, p, g⟩ :: r) :: k) env T Q := by
  rw [norm_iff, wrapK_iff, bindK_iff] at h
  exact ⟨SO.of_step1 (Step1.doesW (o := ⟨d, p, g⟩) hg (OKs.of ho) hv) (Goes.run h).out⟩

/-- Any operation, where its guard is known to hold; what it leaves is an update. -/
theorem Run.doesT {k : List AItem} {d : Option Nat} {p : AOp} {g : Option (Nat × Bool)} {r : List AOper} {v : AV} {id : Nat} {ob : Ob} (hg : gB g env = .yes []) (hv : Does P p env T v (tset T id ob))
    (h : norm v fun v => tupdK T (some (id, ob)) fun T1 => bindK env d v fun e => Goes P nt Q (.ops r :: k) e T1) : Run P nt (.ops (⟨d, p, g⟩ :: r) :: k) env T Q := by
  rw [norm_iff, tupdK_iff, bindK_iff] at h
  refine ⟨SO.of_step1 (v := v) (T' := tset T id ob) ?_ (Goes.run h).out⟩
  refine ⟨fun mo i m hm hco G a w R K Qm hq => ?_⟩
  obtain ⟨h1, h2, h3, _⟩ := cOper_spec hco
  simp only [wpOp, hm, ((gB_spec R hco).2 _ hg).1 trivial, if_true]
  obtain ⟨hdef, hs, ok, mu, I, E⟩ := R
  obtain ⟨nx, x, w', ok', mu', hrun, hnx, N, hx⟩ := hv.out h1 I E
  left
  unfold Oper.wp
  rw [hrun]
  have R' := Rel.put hdef hs I E N hx h3
  rcases hnx with rfl | ⟨rfl, rfl⟩
  · simp only [Oper.upon, h2]; exact hq _ _ R'
  · simp only [Oper.upon, h2]; exact hq _ _ R'

/-- A call that is lent rows, and gives no reference. -/
theorem Run.callB {k : List AItem} {d : Option Nat} {g : Option (Nat × Bool)} {r : List AOper} {gs : List Bool} {f : FuncId} {L : List Opd} {rv : AV} {av : List AV} (hv : frzM T (vals (stripE env env (opdsS L)) L) = av) (hg : gB g env = .yes gs) (ho : obL (stripOb gs env (opdsS L)) = obR (stripOb gs env (opdsS L)))
    (hc : AllT gs → AC P f av [] rv []) (ha : pureL av = true) (hr : scalT rv = true) (h : norm rv fun rv => wrapK gs rv fun rv => bindK env d rv fun e => Goes P nt Q (.ops r :: k) e T) :
    Run P nt (.ops (⟨d, .call f L, g⟩ :: r) :: k) env T Q := by
  subst hv
  rw [norm_iff, wrapK_iff, bindK_iff] at h
  exact ⟨SO.of_step1 (Step1.callW (o := ⟨d, .call f L, g⟩) rfl hg (OKs.of ho) fun hp => (hc hp).borrow ha hr) (Goes.run h).out⟩

/-- The end of a function that hands out rows of its own: they are frozen. -/
def retF (env : Env) (T : Tab) (l : List RItem) (r : AV) : Prop := match resL env T l with
  | none => False
  | some rl => norm (frzT T (resV rl)) fun v => pureV v = true ∧ Le v r
theorem retF_spec {l : List RItem} {r : AV} (h : retF env T l r) : RetQ l [] [] r .ret env T := by
  unfold retF at h
  split at h
  · exact h.elim
  · rename_i rl hl
    rw [norm_iff] at h
    exact ⟨rl, hl, FinT.frz h.1 h.2⟩
theorem Run.retZ {k : List AItem} {l : List RItem} {r : AV} (h : retF env T l r) : Run P nt (.code .ret :: k) env T (RetQ l [] [] r) := Run.ret (retF_spec h)
theorem Run.retZR {k k0 : List AItem} {K : Env → Tab → Prop} {l : List RItem} {r : AV} (h : retF env T l r) : Run P nt (.code .ret :: k) env T (roundQ P nt (RetQ l [] [] r) k0 K) := Run.ret (retF_spec h)

end
end Go.Proofs.Ytbpcjahjbkiofaa.AV

set_option linter.unusedVariables false
set_option linter.unusedSimpArgs false
namespace Go.Proofs.Ytbpcjahjbkiofaa.AV
open Go

section
variable {P : Program} {nt : Nat} {env : Env} {T : Tab} {Q : Post}

theorem cOp_eqNil {o : Oper} {n : Bool} {X : Opd} (h : cOp P o = some (.eqNil n X)) : ∃ (op : BinOp) (t t' e : TypeId) (x y : Operand), o.op = .binOp op t x y t' ∧ isNegE op = some n ∧ opd x = some X ∧ opd y = some (.c (.slice none 0 0)) ∧ P.underlying t = some (.slice e) := by
  unfold cOp at h
  split at h
  all_goals try (exfalso; first
    | exact map_no h (fun z e => by cases e)
    | (unfold cCall at h; (repeat' split at h) <;> cases h; done)
    | ((repeat' split at h) <;> cases h; done)
    | cases h; done)
  rename_i op t x y t' hop
  unfold cBin at h
  split at h
  · rename_i A B d hx hy hd
    split at h
    · split at h
      · split at h <;> cases h
      · cases h
    · split at h
      · split at h <;> cases h
      · cases h
    · rename_i e
      split at h
      · rename_i n' hn
        cases h
        exact ⟨op, t, t', e, x, y, hop, hn, hx, hy, hd⟩
      · cases h
    · split at h <;> cases h
    · cases h
    · split at h <;> cases h
    · split at h <;> cases h
    · cases h
  · cases h

theorem opd_snil {a : Act} {y : Operand} (h : opd y = some (.c (.slice none 0 0))) : a.eval y = .slice none 0 0 := by
  cases y <;> simp only [opd, Option.some.injEq, reduceCtorEq, Opd.c.injEq] at h
  subst h; rfl

theorem run_eqNil {w : World} {o : Oper} {a : Act} {op : BinOp} {n : Bool} {t t' e : TypeId} {x y : Operand} {A : Option Addr} {m C : Nat} (hop : o.op = .binOp op t x y t') (hn : isNegE op = some n) (hd : P.underlying t = some (.slice e)) (hx : a.eval x = .slice A m C) (hy : a.eval y = .slice none 0 0) :
    (execOp a.eval o).run P w = .ok (.value (.bool (negB n A.isNone))) w := by
  refine run_exec_bin hop ?_ ?_
  · rw [hx, hy]; unfold eqGuard; cases op <;> simp
  · rw [hx, hy]
    refine run_eqOp hn ?_ (fun _ _ h => by cases h) (fun _ _ h => by cases h) (fun _ _ _ h => by cases h) (fun _ h => by cases h)
    have : ∀ d, (Op.equalIn (d + 1) t (.slice A m C) (.slice none 0 0)).run P w = .ok A.isNone w := fun d => by
      cases A <;> simp only [Op.equalIn, Sem.run_bind, run_underlying hd, Result.andThen_ok, Sem.run_pure] <;> rfl
    exact this 9999

/-- Is a slice nil? Not one with elements. -/
theorem Run.eqNilC {k : List AItem} {d : Option Nat} {neg : Bool} {X : Opd} {g : Option (Nat × Bool)} {r : List AOper} {sz m : Nat} {f : Nat → List AV} (hg : gB g env = .yes []) (hx : oval env X = .list sz m f)
    (h : ∀ b : Bool, (b = true → m = 0) → bindK env d (.bool (negB neg b)) fun e => Goes P nt Q (.ops r :: k) e T) : Run P nt (.ops (⟨d, .eqNil neg X, g⟩ :: r) :: k) env T Q := by
  refine ⟨⟨fun mo i hc G a w R Qm hq => ?_⟩⟩
  have R0 := R
  obtain ⟨mm, hm, hi, hco, hcr⟩ := drop_cons hc
  obtain ⟨h1, h2, h3, _⟩ := cOper_spec hco
  obtain ⟨op, t, t', e, x, y, hop, hn, hxo, hyo, hd⟩ := cOp_eqNil h1
  obtain ⟨_, _, ok, mu, I, E⟩ := R
  have rx := opd_rv E hxo
  rw [hx] at rx
  obtain ⟨A, cap, cv, hval, hle, hcap, _, ha, _⟩ := rv_list rx
  have hb : A.isNone = true → m = 0 := fun hA => by
    rcases Nat.eq_zero_or_pos m with h0 | h0
    · exact h0
    · obtain ⟨b, off, rfl, _⟩ := ha h0
      cases hA
  have hk := h A.isNone hb
  rw [bindK_iff] at hk
  have hrun := run_eqNil (P := P) (w := w) hop hn hd hval (opd_snil hyo)
  rw [range_drop _ _ hi, wpOps_cons]
  simp only [wpOp, hm, ((gB_spec R0 hco).2 _ hg).1 trivial, if_true]
  left
  unfold Oper.wp
  rw [hrun]
  simp only [Oper.upon, h2]
  obtain ⟨hdef, hs, _⟩ := R0
  exact (Goes.run hk).out.out mo (i + 1) hcr G _ _ (Rel.put hdef hs I E (Next.same I rfl rfl rfl rfl) (.bool _ _) h3) Qm hq

/-! ### Where the order is open -/

theorem gB_some {g : Option (Nat × Bool)} {env' : Env} {gs : List Bool} {p : AOp} (he : ∀ n ∈ lapp (gS g) (slots p), eget env' n = eget env n) (hg : gB g env = .yes gs) : gB g env' = .yes gs := by
  rw [gB_congr fun n hn => he n (mem_lapp.2 (.inl hn))]; exact hg

theorem Run.doesD {k : List AItem} {d : Option Nat} {p : AOp} {g : Option (Nat × Bool)} {r : List AOper} {b : Nat} {bm : List Nat} {hh : List HF} {gs : List Bool} {v : AV} (ids : List Nat) (hg : gB g env = .yes gs) (ho : obL (stripOb gs env (slots p)) = obR (stripOb gs env (slots p)))
    (hv : AllT gs → ∀ env' T', (∀ n ∈ slots p, eget env' n = eget (stripE env env (slots p)) n) → (∀ i ∈ ids, tget T' i = tget T i) → Does P p env' T' v T') (hk : chkH b 0 hh ⟨d, lapp (gS g) (slots p), ids, none⟩ = true)
    (h : norm v fun v => wrapK gs v fun v => happK hh ⟨d, lapp (gS g) (slots p), ids, none⟩ fun h1 => bindK env d v fun e => Goes P nt Q (.dops r bm h1 :: k) e T) : Run P nt (.dops (⟨d, p, g⟩ :: r) (b :: bm) hh :: k) env T Q := by
  rw [norm_iff, wrapK_iff, happK_iff, bindK_iff] at h
  refine ⟨DO.fact (fp := ids) (u := none) ⟨fun env' T' he ht => ?_⟩ hk (Goes.run h).out⟩
  rw [agE_rdOf] at he
  rw [agT_fpOf] at ht
  have hsl : ∀ n ∈ slots p, eget env' n = eget env n := fun n hn => he n (mem_lapp.2 (.inr hn))
  exact Step1.doesW (o := ⟨d, p, g⟩) (ns := slots p) (gB_some he hg) (by rw [stripOb_congr hsl]; exact OKs.of ho) fun hp => hv hp _ _ (stripE_congr hsl) ht

theorem Run.doesDT {k : List AItem} {d : Option Nat} {p : AOp} {g : Option (Nat × Bool)} {r : List AOper} {b : Nat} {bm : List Nat} {hh : List HF} {v : AV} {id : Nat} {ob : Ob} (ids : List Nat) (hg : gB g env = .yes [])
    (hv : ∀ env' T', (∀ n ∈ slots p, eget env' n = eget env n) → (∀ i ∈ ids, tget T' i = tget T i) → Does P p env' T' v (tset T' id ob)) (hk : chkH b 0 hh ⟨d, lapp (gS g) (slots p), ids, some id⟩ = true)
    (h : norm v fun v => tupdK T (some (id, ob)) fun T1 => happK hh ⟨d, lapp (gS g) (slots p), ids, some id⟩ fun h1 => bindK env d v fun e => Goes P nt Q (.dops r bm h1 :: k) e T1) : Run P nt (.dops (⟨d, p, g⟩ :: r) (b :: bm) hh :: k) env T Q := by
  rw [norm_iff, tupdK_iff, happK_iff, bindK_iff] at h
  refine ⟨DO.fact (fp := ids) (u := some (id, ob)) ⟨fun env' T' he ht => ?_⟩ hk (Goes.run h).out⟩
  rw [agE_rdOf] at he
  rw [agT_fpOf] at ht
  refine ⟨fun mo i m hm hco G a w R K Qm hq => ?_⟩
  obtain ⟨h1, h2, h3, _⟩ := cOper_spec hco
  simp only [wpOp, hm, ((gB_spec R hco).2 _ (gB_some he hg)).1 trivial, if_true]
  obtain ⟨hdef, hs, ok, mu, I, E⟩ := R
  obtain ⟨nx, x, w', ok', mu', hrun, hnx, N, hx⟩ := (hv env' T' (fun n hn => he n (mem_lapp.2 (.inr hn))) ht).out h1 I E
  left
  unfold Oper.wp
  rw [hrun]
  have R' := Rel.put hdef hs I E N hx h3
  rcases hnx with rfl | ⟨rfl, rfl⟩
  · simp only [Oper.upon, h2]; exact hq _ _ R'
  · simp only [Oper.upon, h2]; exact hq _ _ R'

theorem srcS_congr {T' : Tab} {sz : Nat} {y : AV} (h : ∀ i ∈ idOf y, tget T' i = tget T i) : srcS T' sz y = srcS T sz y := by
  cases y with
  | row sz' id ver off len => simp only [srcS, srcV, h id (by simp [idOf])]
  | _ => rfl

theorem bndV_congr {env' : Env} {d : Int} {l : Option Opd} (h : ∀ n ∈ opdOS l, eget env' n = eget env n) : bndV env' d l = bndV env d l := by
  cases l with
  | none => rfl
  | some x => simp only [bndV, oval_congr (x := x) h]

/-- Append, where the order is open: to a row of one's own. -/
theorem Run.appRD {k : List AItem} {d : Option Nat} {g : Option (Nat × Bool)} {r : List AOper} {bb : Nat} {bm : List Nat} {hh : List HF} {sz bytes id ver n m : Nat} {X Y : Opd} {f f2 : Nat → List AV} (hg : gB g env = .yes []) (hx : oval env X = .row sz id ver 0 n) (hT : tget T id = .row sz n ver f)
    (hy : srcS T sz (oval env Y) = some (sz, m, f2)) (hm : n + m ≤ maxLen) (hb : (n + m) * bytes ≤ 140737488355328) (hk : chkH bb 0 hh ⟨d, lapp (gS g) (slots (.app sz bytes X Y)), id :: idOf (oval env Y), some id⟩ = true)
    (h : norm (.row sz id (ver + 1) 0 (n + m)) fun v => tupdK T (some (id, .row sz (n + m) (ver + 1) (fapp n f f2))) fun T1 => happK hh ⟨d, lapp (gS g) (slots (.app sz bytes X Y)), id :: idOf (oval env Y), some id⟩ fun h1 => bindK env d v fun e => Goes P nt Q (.dops r bm h1 :: k) e T1) :
    Run P nt (.dops (⟨d, .app sz bytes X Y, g⟩ :: r) (bb :: bm) hh :: k) env T Q := by
  refine Run.doesDT (id :: idOf (oval env Y)) hg (fun env' T' he ht => ?_) hk h
  have ex : oval env' X = oval env X := oval_congr fun n hn => he n (mem_lapp.2 (.inl hn))
  have ey : oval env' Y = oval env Y := oval_congr fun n hn => he n (mem_lapp.2 (.inr hn))
  exact Does.appR (by rw [ex]; exact hx) (by rw [ht id (by simp)]; exact hT) (by rw [ey, srcS_congr fun i hi => ht i (List.mem_cons_of_mem _ hi)]; exact hy) hm hb

theorem Run.slLD {k : List AItem} {d : Option Nat} {g : Option (Nat × Bool)} {r : List AOper} {bb : Nat} {bm : List Nat} {hh : List HF} {sz n : Nat} {X : Opd} {lo hi : Option Opd} {f : Nat → List AV} {i j : Int} (hg : gB g env = .yes []) (hx : oval env X = .list sz n f) (hl : bndV env 0 lo = some i) (hh' : bndV env n hi = some j) (h0 : 0 ≤ i) (h1 : i ≤ j) (h2 : j ≤ n)
    (hk : chkH bb 0 hh ⟨d, lapp (gS g) (slots (.sl sz X lo hi none)), [], none⟩ = true)
    (h : happK hh ⟨d, lapp (gS g) (slots (.sl sz X lo hi none)), [], none⟩ fun h1 => bindK env d (.list sz (j.toNat - i.toNat) (fun k => f (i.toNat + k))) fun e => Goes P nt Q (.dops r bm h1 :: k) e T) :
    Run P nt (.dops (⟨d, .sl sz X lo hi none, g⟩ :: r) (bb :: bm) hh :: k) env T Q := by
  rw [happK_iff, bindK_iff] at h
  refine ⟨DO.fact (fp := []) (u := none) (v := .list sz (j.toNat - i.toNat) (fun k => f (i.toNat + k))) ⟨fun env' T' he ht => ?_⟩ hk (Goes.run h).out⟩
  rw [agE_rdOf] at he
  have hsl : ∀ n ∈ slots (.sl sz X lo hi none), eget env' n = eget env n := fun n hn => he n (mem_lapp.2 (.inr hn))
  have ex : oval env' X = oval env X := oval_congr fun n hn => hsl n (mem_lapp.2 (.inl hn))
  have el : bndV env' 0 lo = bndV env 0 lo := bndV_congr fun n hn => hsl n (mem_lapp.2 (.inr (mem_lapp.2 (.inl hn))))
  have eh : bndV env' n hi = bndV env n hi := bndV_congr fun n hn => hsl n (mem_lapp.2 (.inr (mem_lapp.2 (.inr (mem_lapp.2 (.inl hn))))))
  have hd := Does.slL (P := P) (T := T') (hx := by rw [ex]; exact hx) (hl := by rw [el]; exact hl) (hh := by rw [eh]; exact hh') h0 h1 h2
  refine ⟨fun mo i m hm hco G a w R K Qm hq => ?_⟩
  obtain ⟨q1, q2, q3, _⟩ := cOper_spec hco
  simp only [wpOp, hm, ((gB_spec R hco).2 _ (gB_some (p := .sl sz X lo hi none) he hg)).1 trivial, if_true]
  obtain ⟨hdef, hs, ok, mu, I, E⟩ := R
  obtain ⟨nx, x, w', ok', mu', hrun, hnx, N, hx'⟩ := hd.out q1 I E
  left
  unfold Oper.wp
  rw [hrun]
  have R' := Rel.put hdef hs I E N hx' q3
  rcases hnx with rfl | ⟨rfl, rfl⟩
  · simp only [Oper.upon, q2]; exact hq _ _ R'
  · simp only [Oper.upon, q2]; exact hq _ _ R'

end
end Go.Proofs.Ytbpcjahjbkiofaa.AV

set_option linter.unusedVariables false
set_option linter.unusedSimpArgs false
namespace Go.Proofs.Ytbpcjahjbkiofaa.AV
open Go

section
variable {P : Program} {nt : Nat} {env : Env} {T : Tab} {Q : Post}

theorem Does.slN {sz n i j : Nat} {X : Opd} {lo hi : Option Opd} {f : Nat → List AV} {x y : Int} (hx : oval env X = .list sz n f) (hl : bndV env 0 lo = some x) (hh : bndV env n hi = some y) (ex : x = (i : Int)) (ey : y = (j : Int)) (h1 : i ≤ j) (h2 : j ≤ n) :
    Does P (.sl sz X lo hi none) env T (.list sz (j - i) (fun k => f (i + k))) T := by
  subst ex
  subst ey
  exact Does.slL hx hl hh (by omega) (by omega) (by omega)

theorem Does.slRN {sz id ver off len n cv i j : Nat} {X : Opd} {lo hi : Option Opd} {f : Nat → List AV} {x y : Int} (hx : oval env X = .row sz id ver off len) (hT : tget T id = .row sz n cv f) (hver : Nat.beq ver cv = true) (hl : bndV env 0 lo = some x) (hh : bndV env len hi = some y) (ex : x = (i : Int)) (ey : y = (j : Int))
    (h1 : i < j ∨ i = 0) (h2 : i ≤ j) (h3 : j ≤ len) : Does P (.sl sz X lo hi none) env T (.row sz id ver (off + i) (j - i)) T := by
  subst ex
  subst ey
  exact Does.slR hx hT hver hl hh (by omega) (by omega) (by omega) (by omega)

theorem Run.slND {k : List AItem} {d : Option Nat} {g : Option (Nat × Bool)} {r : List AOper} {bb : Nat} {bm : List Nat} {hh : List HF} {sz n i j : Nat} {X : Opd} {lo hi : Option Opd} {f : Nat → List AV} {x y : Int} (hg : gB g env = .yes []) (hx : oval env X = .list sz n f) (hl : bndV env 0 lo = some x) (hh' : bndV env n hi = some y) (ex : x = (i : Int)) (ey : y = (j : Int)) (h1 : i ≤ j) (h2 : j ≤ n)
    (hk : chkH bb 0 hh ⟨d, lapp (gS g) (slots (.sl sz X lo hi none)), [], none⟩ = true)
    (h : happK hh ⟨d, lapp (gS g) (slots (.sl sz X lo hi none)), [], none⟩ fun h1 => bindK env d (.list sz (j - i) (fun k => f (i + k))) fun e => Goes P nt Q (.dops r bm h1 :: k) e T) :
    Run P nt (.dops (⟨d, .sl sz X lo hi none, g⟩ :: r) (bb :: bm) hh :: k) env T Q := by
  subst ex
  subst ey
  exact Run.slLD hg hx hl hh' (by omega) (by omega) (by omega) hk h

theorem Run.appZD {k : List AItem} {d : Option Nat} {g : Option (Nat × Bool)} {r : List AOper} {bb : Nat} {bm : List Nat} {hh : List HF} {sz bytes nid m : Nat} {X Y : Opd} {f2 : Nat → List AV} (hg : gB g env = .yes []) (hf : tget T nid = .fresh) (hx : oval env X = .zsl)
    (hy : srcS T sz (oval env Y) = some (sz, m, f2)) (hm : m ≤ maxLen) (hb : m * bytes ≤ 140737488355328) (hk : chkH bb 0 hh ⟨d, lapp (gS g) (slots (.app sz bytes X Y)), nid :: idOf (oval env Y), some nid⟩ = true)
    (h : norm (.row sz nid 0 0 m) fun v => tupdK T (some (nid, .row sz m 0 f2)) fun T1 => happK hh ⟨d, lapp (gS g) (slots (.app sz bytes X Y)), nid :: idOf (oval env Y), some nid⟩ fun h1 => bindK env d v fun e => Goes P nt Q (.dops r bm h1 :: k) e T1) :
    Run P nt (.dops (⟨d, .app sz bytes X Y, g⟩ :: r) (bb :: bm) hh :: k) env T Q := by
  refine Run.doesDT (nid :: idOf (oval env Y)) hg (fun env' T' he ht => ?_) hk h
  have ex : oval env' X = oval env X := oval_congr fun n hn => he n (mem_lapp.2 (.inl hn))
  have ey : oval env' Y = oval env Y := oval_congr fun n hn => he n (mem_lapp.2 (.inr hn))
  exact Does.appZ (by rw [ht nid (by simp)]; exact hf) (by rw [ex]; exact hx) (by rw [ey, srcS_congr fun i hi => ht i (List.mem_cons_of_mem _ hi)]; exact hy) hm hb

end
end Go.Proofs.Ytbpcjahjbkiofaa.AV

set_option linter.unusedVariables false
set_option linter.unusedSimpArgs false
namespace Go.Proofs.Ytbpcjahjbkiofaa.AV
open Go

section
variable {P : Program} {env : Env} {T : Tab}

theorem cOp_bin {o : Oper} {op : BinOp} {X Y : Opd} (h : cOp P o = some (.bin op X Y)) : ∃ (t t' : TypeId) (x y : Operand), o.op = .binOp op t x y t' ∧ opd x = some X ∧ opd y = some Y := by
  unfold cOp at h
  split at h
  all_goals try (exfalso; first
    | exact map_no h (fun z e => by cases e)
    | (unfold cCall at h; (repeat' split at h) <;> cases h; done)
    | ((repeat' split at h) <;> cases h; done)
    | cases h; done)
  rename_i op t x y t' hop
  unfold cBin at h
  split at h
  · rename_i A B d hx hy hd
    split at h
    · split at h
      · split at h <;> cases h
      · cases h
    · split at h
      · split at h <;> cases h
      · cases h
    · split at h <;> cases h
    · split at h <;> cases h
    · cases h
      exact ⟨t, t', x, y, hop, hx, hy⟩
    · split at h <;> cases h
    · split at h <;> cases h
    · cases h
  · cases h

theorem Does.binI {op : BinOp} {X Y : Opd} {k j : IntKind} {a b r : Int} (hx : oval env X = .int k a) (hy : oval env Y = .int j b) (hr : ∀ (t : TypeId) (w : World), (Go.binOp op t (.int k a) (.int j b)).run P w = .ok (.int k r) w) (hne : op ≠ .eql ∧ op ≠ .neq) :
    Does P (.bin op X Y) env T (.int k r) T := by
  refine ⟨fun {G w ok mu ac o} hc I E => ?_⟩
  obtain ⟨t, t', x, y, hop, hxo, hyo⟩ := cOp_bin hc
  have rx := opd_rv E hxo
  have ry := opd_rv E hyo
  rw [hx] at rx
  rw [hy] at ry
  refine Did.pure (x := .int k r) I (run_exec_bin hop ?_ ?_) (.int _ _ _)
  · rw [rv_int rx, rv_int ry]
    unfold eqGuard
    cases op <;> simp
  · rw [rv_int rx, rv_int ry]
    exact hr t w

theorem Does.shr {X Y : Opd} {k j : IntKind} {a b : Int} (hx : oval env X = .int k a) (hy : oval env Y = .int j b) (h0 : 0 ≤ b) : Does P (.bin .shr X Y) env T (.int k (a.fdiv (2 ^ min b.toNat k.bits))) T := by
  refine Does.binI hx hy (fun t w => ?_) (by simp)
  have : ¬ b < 0 := by omega
  simp [Go.binOp, Op.shift, this]
theorem Does.shl {X Y : Opd} {k j : IntKind} {a b : Int} (hx : oval env X = .int k a) (hy : oval env Y = .int j b) (h0 : 0 ≤ b) : Does P (.bin .shl X Y) env T (.int k (k.wrap (a * 2 ^ min b.toNat k.bits))) T := by
  refine Does.binI hx hy (fun t w => ?_) (by simp)
  have : ¬ b < 0 := by omega
  simp [Go.binOp, Op.shift, this]
theorem Does.quo {X Y : Opd} {k : IntKind} {a b : Int} (hx : oval env X = .int k a) (hy : oval env Y = .int k b) (h0 : b ≠ 0) : Does P (.bin .quo X Y) env T (.int k (k.wrap (a.tdiv b))) T := by
  refine Does.binI hx hy (fun t w => ?_) (by simp)
  simp [Go.binOp, Op.intDiv, h0]
theorem Does.rem {X Y : Opd} {k : IntKind} {a b : Int} (hx : oval env X = .int k a) (hy : oval env Y = .int k b) (h0 : b ≠ 0) : Does P (.bin .rem X Y) env T (.int k (a.tmod b)) T := by
  refine Does.binI hx hy (fun t w => ?_) (by simp)
  simp [Go.binOp, Op.intDiv, h0]

end
end Go.Proofs.Ytbpcjahjbkiofaa.AV

set_option linter.unusedVariables false
set_option linter.unusedSimpArgs false
namespace Go.Proofs.Ytbpcjahjbkiofaa.AV
open Go

def low0 (n : Nat) : AV → Bool
  | .ptr id _ _ _ => Nat.blt id n
  | .row _ id _ _ _ => Nat.blt id n
  | .func _ l => match l with
    | [] => true
    | _ => false
  | .agg _ => false
  | .tuple _ => false
  | .when _ _ => false
  | _ => true
def lowL (n : Nat) : List AV → Bool
  | [] => true
  | x :: r => low0 n x && lowL n r
def low (n : Nat) : AV → Bool
  | .agg l => lowL n l
  | .func _ l => lowL n l
  | .when _ x => low0 n x
  | x => low0 n x
def lowE (n : Nat) : Env → Bool
  | [] => true
  | (_, x) :: r => low n x && lowE n r
def lowO (n : Nat) : Ob → Bool
  | .box l => lowL n l
  | .cap k _ _ => Nat.blt k n
  | _ => true
def lowT (n m : Nat) (T : Tab) : Bool := match m with
  | 0 => true
  | m + 1 => match T with
    | [] => true
    | o :: r => lowO n o && lowT n m r
def takeT (n : Nat) (T : Tab) : Tab := match n with
  | 0 => []
  | n + 1 => match T with
    | [] => []
    | o :: r => o :: takeT n r

theorem tget_takeT : ∀ (n : Nat) (T : Tab) (i : Nat), tget (takeT n T) i = if i < n then tget T i else .fresh
  | 0, T, i => by simp [takeT, tget_nil]
  | n + 1, [], i => by simp [takeT, tget_nil]
  | n + 1, o :: r, 0 => by simp [takeT, tget]
  | n + 1, o :: r, i + 1 => by
    show tget (takeT n r) i = _
    rw [tget_takeT n r i]
    simp [tget]

theorem lowT_get : ∀ (n m : Nat) (T : Tab) (i : Nat), lowT n m T = true → i < m → lowO n (tget T i) = true
  | n, 0, T, i, _, h => absurd h (Nat.not_lt_zero _)
  | n, m + 1, [], i, _, _ => by rw [tget_nil]; rfl
  | n, m + 1, o :: r, 0, h, _ => by simp only [lowT, Bool.and_eq_true] at h; exact h.1
  | n, m + 1, o :: r, i + 1, h, hi => by simp only [lowT, Bool.and_eq_true] at h; exact lowT_get n m r i h.2 (by omega)

theorem lowL_get (n : Nat) : ∀ (l : List AV) (j : Nat), lowL n l = true → low0 n (lget l j) = true
  | [], _, _ => by unfold lget; rfl
  | x :: r, 0, h => by simp only [lowL, Bool.and_eq_true] at h; exact h.1
  | x :: r, j + 1, h => by simp only [lowL, Bool.and_eq_true] at h; exact lowL_get n r j h.2

section
variable {w : World} {ok : Nat → Prop} {mu : Nat → Option Nat} {T : Tab} {n : Nat}

theorem RV.low0 {z : Bool} {v : Value} {x : AV} (h : RV w ok mu T z v x) (hx : low0 n x = true) : RV w ok mu (takeT n T) z v x := by
  have hw : ∀ b, ok b → ok b ∧ w.heap[b]? = w.heap[b]? := fun b h => ⟨h, rfl⟩
  cases h with
  | top => exact .top _ _
  | tt => exact .tt _
  | ff => exact .ff _
  | bool => exact .bool _ _
  | int => exact .int _ _ _
  | str => exact .str _ _
  | list _ a cap sz n f cv hn hc hs ha hl h1 hv => exact .list _ a cap sz n f cv hn hc hs ha hl h1 fun i o hi ho => (hv i o hi ho).mono hw fun e => by cases e
  | zsl => exact .zsl _ _
  | nilp => exact .nilp _
  | nilf => exact .nilf _
  | nili => exact .nili _
  | fptr _ b off o cells cv hb ho hc h1 hv => exact .fptr _ b off o cells cv hb ho hc h1 fun j hj => (hv j hj).mono hw fun e => by cases e
  | func _ f cs l hs hv =>
    cases l with
    | nil => exact .func _ f cs [] hs fun j hj => by simp at hj
    | cons => simp [AV.low0] at hx
  | agg => simp [AV.low0] at hx
  | tuple => simp [AV.low0] at hx
  | when => simp [AV.low0] at hx
  | row _ sz id ver off len hone h =>
    simp only [AV.low0, Nat.blt_eq] at hx
    refine .row _ _ _ _ _ _ hone ?_
    unfold RowRef at h ⊢
    rw [tget_takeT, if_pos hx]
    exact h
  | ptr _ id ver e o hone h =>
    simp only [AV.low0, Nat.blt_eq] at hx
    refine .ptr _ _ _ _ _ hone ?_
    unfold PtrRef at h ⊢
    rw [tget_takeT, if_pos hx]
    exact h

theorem RV.low {z : Bool} {v : Value} {x : AV} (h : RV w ok mu T z v x) (hx : low n x = true) : RV w ok mu (takeT n T) z v x := by
  unfold AV.low at hx
  split at hx
  · obtain ⟨cs, rfl, hs, h1, hr⟩ := rv_agg h
    exact .agg _ _ _ hs h1 fun j hj => (hr j hj).low0 (lowL_get n _ _ hx)
  · obtain ⟨cs, rfl, hs, hr⟩ := rv_func h
    exact .func _ _ _ _ hs fun j hj => (hr j hj).low0 (lowL_get n _ _ hx)
  · obtain ⟨h1, h2⟩ := rv_when h
    exact .when _ _ _ _ (fun hp => (h1 hp).low0 hx) h2
  · exact h.low0 hx
end

/-- Slot by slot less, and only the first objects kept. -/
theorem Wk.cut {env env' : Env} {T T' : Tab} (n : Nat) (h1 : Nat.ble 4 n = true) (ht : lowT n n T = true) (e : takeT n T = T') (hl : lowE n env' = true) (h : ∀ p ∈ env', Le (eget env p.1) p.2) : Wk env T env' T' := by
  intro G nt a w R
  obtain ⟨⟨hd, hG⟩, h2, ok, mu, I, E⟩ := Wk.ofEnv h G nt a w R
  subst e
  rw [Nat.ble_eq] at h1
  have hlt : ∀ i, (tget (takeT n T) i).live → i < n ∧ tget (takeT n T) i = tget T i := fun i hi => by
    rw [tget_takeT] at hi ⊢
    split at hi
    · rename_i h; exact ⟨h, by rw [if_pos h]⟩
    · exact hi.elim
  refine ⟨⟨hd, hG⟩, h2, ok, mu, { I with
    sep := fun i b hi hl => I.sep i b hi ((hlt i hl).2 ▸ hl)
    inj := fun i j b hi hj hli hlj => I.inj i j b hi hj ((hlt i hli).2 ▸ hli) ((hlt j hlj).2 ▸ hlj)
    lv := fun i b hi hl => I.lv i b hi ((hlt i hl).2 ▸ hl)
    obs := fun i => ?_
    cmp := fun id hid => ?_ }, fun i => ?_⟩
  · rw [tget_takeT]
    by_cases hi : i < n
    · rw [if_pos hi]
      have ho := I.obs i
      have hlow := lowT_get n n T i ht hi
      revert ho hlow
      cases tget T i with
      | fresh => intro _ _; trivial
      | dead => intro _ _; trivial
      | cap k v C =>
        intro ho hlow
        simp only [lowO, Nat.blt_eq] at hlow
        obtain ⟨q1, q2⟩ := ho
        refine ⟨by rw [tget_takeT, if_pos hlow]; exact q1, fun sz m cv f e => ?_⟩
        rw [tget_takeT, if_pos hlow] at e
        exact q2 sz m cv f e
      | box cells =>
        intro ho hlow
        obtain ⟨b, c, e, q1, q2, q3, q4, q5⟩ := ho
        exact ⟨b, c, e, q1, q2, q3, q4, fun j hj => (q5 j hj).low0 (lowL_get n _ _ hlow)⟩
      | row sz m ver f =>
        intro ho _
        obtain ⟨q1, q2, q3⟩ := ho
        refine ⟨q1, q2, ?_⟩
        cases hm : mu i with
        | none => rw [hm] at q3; exact q3
        | some b =>
          rw [hm] at q3
          obtain ⟨c, e, C, k1, k2, k3, k4, k5, k6⟩ := q3
          exact ⟨c, e, C, k1, k2, k3, k4, k5, fun i o hi ho => (k6 i o hi ho).mono (fun b h => ⟨h, rfl⟩) fun e => by cases e⟩
    · rw [if_neg hi]; trivial
  · have hid' : id < n := by
      rcases Nat.lt_or_ge id G.T0.length with h | h
      · omega
      · exact absurd (tget_ge _ _ h) hid
    have := I.cmp id hid
    rw [tget_takeT, if_pos hid']
    exact this
  · have : ∀ (l : Env), lowE n l = true → low n (eget l i) = true := by
      intro l
      induction l with
      | nil => intro _; rfl
      | cons p r ih =>
        intro h
        obtain ⟨m, v⟩ := p
        simp only [lowE, Bool.and_eq_true] at h
        rw [eget_cons]
        split
        · exact h.1
        · exact ih h.2
    exact (E i).low (this _ hl)

end Go.Proofs.Ytbpcjahjbkiofaa.AV

set_option linter.unusedVariables false
set_option linter.unusedSimpArgs false
namespace Go.Proofs.Ytbpcjahjbkiofaa.AV
open Go

def LeOb : Ob → Ob → Prop
  | .fresh, o => o = .fresh ∨ o = .dead
  | .cap k v C, o => o = .cap k v C ∨ o = .dead
  | .dead, o => o = .dead
  | .box l, o => match o with
    | .box m => LeL l m
    | .dead => True
    | _ => False
  | .row sz n ver f, o => match o with
    | .row sz2 n2 ver2 g => sz = sz2 ∧ n = n2 ∧ ver = ver2 ∧ ∀ i, i < n → LeL (f i) (g i)
    | .dead => True
    | _ => False

theorem LeOb.refl (o : Ob) : LeOb o o := by
  cases o with
  | fresh => exact .inl rfl
  | dead => rfl
  | cap => exact .inl rfl
  | box l => exact LeL.refl l
  | row sz n ver f => exact ⟨rfl, rfl, rfl, fun i _ => LeL.refl _⟩

theorem Wk.tab {env : Env} {T T' : Tab} (h : ∀ i, LeOb (tget T i) (tget T' i)) : Wk env T env T' := by
  rintro G nt a w ⟨h1, h2, ok, mu, I, E⟩
  have hC : Compat w w mu mu T T' := by
    intro id hid
    have hi := h id
    revert hi hid
    cases tget T id with
    | fresh => intro hid _; exact absurd rfl hid
    | dead =>
      intro _ hi
      have : tget T' id = .dead := hi
      rw [this]
      exact ⟨fun e => (by cases e), fun cells e => (by cases e), fun _ _ _ _ e => (by cases e)⟩
    | cap k v C =>
      intro _ hi
      have : tget T' id = .cap k v C ∨ tget T' id = .dead := hi
      rcases this with h | h <;> rw [h] <;> exact ⟨fun e => (by cases e), fun cells e => (by cases e), fun _ _ _ _ e => (by cases e)⟩
    | box l =>
      intro _ hi
      cases ho : tget T' id with
      | cap => rw [ho] at hi; exact hi.elim
      | fresh => rw [ho] at hi; exact hi.elim
      | dead => exact ⟨fun e => (by cases e), fun cells e => (by cases e), fun _ _ _ _ e => (by cases e)⟩
      | box m => exact ⟨fun e => (by cases e), fun cells e => ⟨⟨l, rfl⟩, rfl⟩, fun _ _ _ _ e => (by cases e)⟩
      | row => rw [ho] at hi; exact hi.elim
    | row sz n ver f =>
      intro _ hi
      cases ho : tget T' id with
      | fresh => rw [ho] at hi; exact hi.elim
      | dead => exact ⟨fun e => (by cases e), fun cells e => (by cases e), fun _ _ _ _ e => (by cases e)⟩
      | box m => rw [ho] at hi; exact hi.elim
      | cap => rw [ho] at hi; exact hi.elim
      | row sz2 n2 ver2 g =>
        rw [ho] at hi
        obtain ⟨rfl, rfl, rfl, _⟩ := hi
        refine ⟨fun e => (by cases e), fun cells e => (by cases e), fun _ _ _ _ e => ?_⟩
        cases e
        exact ⟨n, ver, f, rfl, Nat.le_refl _, fun _ => ⟨Nat.le_refl _, rfl, fun _ _ => rfl⟩⟩
  have hlive : ∀ i, (tget T' i).live → (tget T i).live := by
    intro i hl
    have hi := h i
    revert hi
    cases tget T i with
    | fresh => intro hi; have : tget T' i = .fresh ∨ tget T' i = .dead := hi; rcases this with h | h <;> rw [h] at hl <;> exact hl
    | cap k v C => intro hi; have : tget T' i = .cap k v C ∨ tget T' i = .dead := hi; rcases this with h | h <;> rw [h] at hl <;> exact hl
    | dead => intro hi; have : tget T' i = .dead := hi; rw [this] at hl; exact hl
    | box l => intro _; trivial
    | row => intro _; trivial
  have hw : ∀ b, ok b → ok b ∧ w.heap[b]? = w.heap[b]? := fun b hb => ⟨hb, rfl⟩
  have N : Go.Proofs.Ytbpcjahjbkiofaa.AV.Next ok ok mu mu T T' w w := by
    refine ⟨rfl, rfl, rfl, Nat.le_refl _, fun _ _ _ => rfl, hC, fun _ h => h, fun b hb => ⟨(I.okB b hb).1, .inl hb⟩, fun i b hi hl => ⟨I.sep i b hi (hlive i hl), .inl ⟨i, hi, hlive i hl⟩⟩, fun i j b hi hj hli hlj => I.inj i j b hi hj (hlive i hli) (hlive j hlj), fun i => ?_⟩
    have hi := h i
    have ho := I.obs i
    revert hi ho
    cases tget T i with
    | fresh => intro hi _; have : tget T' i = .fresh ∨ tget T' i = .dead := hi; rcases this with h | h <;> rw [h] <;> trivial
    | cap k v C =>
      intro hi ho
      have : tget T' i = .cap k v C ∨ tget T' i = .dead := hi
      rcases this with h | h
      · rw [h]; exact ho.mono hw hC rfl fun _ _ _ => rfl
      · rw [h]; trivial
    | dead => intro hi _; have : tget T' i = .dead := hi; rw [this]; trivial
    | box l =>
      intro hi ho
      cases hq : tget T' i with
      | fresh => trivial
      | dead => trivial
      | row => rw [hq] at hi; exact hi.elim
      | cap => rw [hq] at hi; exact hi.elim
      | box m =>
        rw [hq] at hi
        obtain ⟨b, c, e, q1, q2, q3, q4, q5⟩ := ho
        refine ⟨b, c, e, q1, q2, q3.trans hi.1, fun j hj => q4 j (by rw [hi.1]; exact hj), fun j hj => ?_⟩
        have hj' : j < l.length := by rw [hi.1]; exact hj
        exact (hi.2 j hj' _ _ _ _ _ _ (q5 j hj')).mono hw fun _ => hC
    | row sz n ver f =>
      intro hi ho
      cases hq : tget T' i with
      | fresh => trivial
      | dead => trivial
      | box => rw [hq] at hi; exact hi.elim
      | cap => rw [hq] at hi; exact hi.elim
      | row sz2 n2 ver2 g =>
        rw [hq] at hi
        obtain ⟨rfl, rfl, rfl, hle⟩ := hi
        obtain ⟨q1, q2, q3⟩ := ho
        refine ⟨q1, fun j hj => by rw [← (hle j hj).1]; exact q2 j hj, ?_⟩
        cases hm : mu i with
        | none => rw [hm] at q3; exact q3
        | some b =>
          rw [hm] at q3
          obtain ⟨c, e, C, k1, k2, k3, k4, k5, k6⟩ := q3
          exact ⟨c, e, C, k1, k2, k3, k4, k5, fun j o hj ho => ((hle j hj).2 o (by rw [q2 j hj]; exact ho) _ _ _ _ _ _ (k6 j o hj ho)).mono hw fun e => by cases e⟩
  exact ⟨h1, h2, ok, mu, I.next N, N.env I E⟩

theorem Wk.trans {e1 e2 e3 : Env} {t1 t2 t3 : Tab} (h : Wk e1 t1 e2 t2) (k : Wk e2 t2 e3 t3) : Wk e1 t1 e3 t3 := fun G nt a w R => k G nt a w (h G nt a w R)

end Go.Proofs.Ytbpcjahjbkiofaa.AV

set_option linter.unusedVariables false
set_option linter.unusedSimpArgs false
namespace Go.Proofs.Ytbpcjahjbkiofaa.AV
open Go

/-- The first object's number becomes k. -/
def renP (k : Nat) : AV → AV
  | .ptr id ver e o => match id with
    | 0 => .ptr k ver e o
    | _ => .top
  | .row _ _ _ _ _ => .top
  | x => x
def renPL (k : Nat) : List AV → List AV
  | [] => []
  | x :: r => renP k x :: renPL k r
def ren0 (k : Nat) : AV → AV
  | .func f l => .func f (renPL k l)
  | x => renP k x
def renL (k : Nat) : List AV → List AV
  | [] => []
  | x :: r => ren0 k x :: renL k r

theorem renPL_length (k : Nat) : ∀ l : List AV, (renPL k l).length = l.length
  | [] => rfl
  | x :: r => by show (renPL k r).length + 1 = _; rw [renPL_length k r]; rfl
theorem lget_renPL (k : Nat) : ∀ (l : List AV) (j : Nat), lget (renPL k l) j = renP k (lget l j)
  | [], j => by rw [show renPL k [] = [] from rfl, lget_ge [] j (Nat.zero_le _)]; rfl
  | x :: r, 0 => rfl
  | x :: r, j + 1 => by show lget (renPL k r) j = _; rw [lget_renPL k r j]; rfl
theorem renL_length (k : Nat) : ∀ l : List AV, (renL k l).length = l.length
  | [] => rfl
  | x :: r => by show (renL k r).length + 1 = _; rw [renL_length k r]; rfl
theorem lget_renL (k : Nat) : ∀ (l : List AV) (j : Nat), lget (renL k l) j = ren0 k (lget l j)
  | [], j => by rw [show renL k [] = [] from rfl, lget_ge [] j (Nat.zero_le _)]; rfl
  | x :: r, 0 => rfl
  | x :: r, j + 1 => by show lget (renL k r) j = _; rw [lget_renL k r j]; rfl

/-- A pointer to the first object, or a value without references. -/
def oneP : AV → Bool
  | .ptr id _ _ _ => Nat.beq id 0
  | x => pureV x
def onePL : List AV → Bool
  | [] => true
  | x :: r => oneP x && onePL r
def one0 : AV → Bool
  | .func _ l => onePL l
  | x => oneP x
theorem onePL_get : ∀ (l : List AV) (j : Nat), onePL l = true → oneP (lget l j) = true
  | [], _, _ => by unfold lget; rfl
  | x :: r, 0, h => by simp only [onePL, Bool.and_eq_true] at h; exact h.1
  | x :: r, j + 1, h => by simp only [onePL, Bool.and_eq_true] at h; exact onePL_get r j h.2
def one0L : List AV → Bool
  | [] => true
  | x :: r => one0 x && one0L r
theorem one0L_get : ∀ (l : List AV) (j : Nat), one0L l = true → one0 (lget l j) = true
  | [], _, _ => by unfold lget; rfl
  | x :: r, 0, h => by simp only [one0L, Bool.and_eq_true] at h; exact h.1
  | x :: r, j + 1, h => by simp only [one0L, Bool.and_eq_true] at h; exact one0L_get r j h.2

section
variable {w : World} {ok : Nat → Prop} {mu : Nat → Option Nat} {T : Tab} {k : Nat} {cells : List AV}

def mu1 (mu : Nat → Option Nat) (k : Nat) : Nat → Option Nat := fun i => if i = 0 then mu k else none

theorem RV.foldP {v : Value} {x : AV} (hk : tget T k = .box cells) (h : RV w ok mu T false v (renP k x)) (hx : oneP x = true) : RV w ok (mu1 mu k) [.box cells] false v x := by
  cases x with
  | ptr id ver e o =>
    simp only [oneP] at hx
    obtain rfl := Nat.eq_of_beq_eq_true hx
    have hp := rv_ptr (show RV w ok mu T false v (.ptr k ver e o) from h)
    have hone : v.oneCell' = true := by
      have h' : RV w ok mu T false v (.ptr k ver e o) := h
      cases h'; assumption
    obtain ⟨q1, q2, q3⟩ := hp
    obtain ⟨q4, b, q5, q6⟩ := q2 cells hk
    refine .ptr _ _ _ _ _ hone ⟨fun e => (by cases e), fun c hc => ⟨q4, b, by simp [mu1, q5], q6⟩, fun _ _ _ _ e => (by cases e)⟩
  | row => simp [oneP, pureV, noRef] at hx
  | _ => exact (((show RV w ok mu T false v _ from h).pure hx).mono (fun b hb => ⟨hb, rfl⟩) (fun e => by cases e)).thaw

theorem RV.fold {v : Value} {x : AV} (hk : tget T k = .box cells) (h : RV w ok mu T false v (ren0 k x)) (hx : one0 x = true) : RV w ok (mu1 mu k) [.box cells] false v x := by
  cases x with
  | func f l =>
    obtain ⟨cs, rfl, hs, hr⟩ := rv_func (show RV w ok mu T false v (.func f (renPL k l)) from h)
    rw [renPL_length] at hs hr
    refine .func _ _ _ _ hs fun j hj => RV.foldP hk ?_ (onePL_get _ _ hx)
    have := hr j hj
    rwa [lget_renPL] at this
  | _ => exact RV.foldP hk h hx

theorem live_one {o : Ob} {i : Nat} (h : (tget [o] i).live) : i = 0 := by
  cases i with
  | zero => rfl
  | succ i => exact absurd h (by show ¬ (tget [] i).live; rw [tget_nil]; exact fun h => h)

theorem AC.frame {P : Program} {f : FuncId} {args : List AV} {r : AV} {cells' : List AV} (h : AC P f args [.box cells] r [.box cells']) (ha : one0L args = true) (hr : one0 r = true) (hc : noRefs cells = true) (hc' : noRefs cells' = true) (hk : tget T k = .box cells) :
    AC P f (renL k args) T (ren0 k r) (tset T k (.box cells')) := by
  refine ⟨fun w ok mu I vs h1 h2 => ?_⟩
  have hkl : (tget T k).live := by rw [hk]; trivial
  have I1 : Inv ⟨w, ok, liveB (mu1 mu k) [.box cells], mu1 mu k, [.box cells]⟩ ok (mu1 mu k) [.box cells] w := by
    refine ⟨rfl, rfl, rfl, Nat.le_refl _, fun _ _ _ => rfl, fun b hb => ⟨(I.okB b hb).1, .inl hb⟩, fun _ h => h, fun i b hi hl => ?_, fun i j b _ _ hl hl' => (live_one hl).trans (live_one hl').symm, fun i b hi hl => .inl ⟨i, hi, hl⟩, fun i => ?_, Compat.refl _ _ _⟩
    · obtain rfl := live_one hl
      exact I.sep k b (by simpa [mu1] using hi) hkl
    · cases i with
      | zero =>
        have ho := I.obs k
        rw [hk] at ho
        obtain ⟨b, c, e, q1, q2, q3, q4, q5⟩ := ho
        exact ⟨b, c, e, by simp [mu1, q1], q2, q3, q4, fun j hj => (((q5 j hj).freeze (noRefs_get _ _ hc)).mono (fun b hb => ⟨hb, rfl⟩) (fun e => by cases e)).thaw⟩
      | succ i => show ObOK _ _ _ _ _ (tget [] i); rw [tget_nil]; trivial
  refine (h.out w ok (mu1 mu k) I1 vs (by rw [h1, renL_length]) fun j hj => ?_).mono ?_
  · refine RV.fold hk ?_ (one0L_get _ _ ha)
    have := h2 j (by rw [renL_length]; exact hj)
    rwa [lget_renL] at this
  · rintro e w' ⟨v, ok', mu', he, N, hv⟩
    have hmk : mu' 0 = mu k := by
      have := (N.compat 0 (fun e => by cases e)).2.1 cells' rfl
      rw [this.2]
      simp [mu1]
    have hne : ∀ i b, mu i = some b → (tget T i).live → i ≠ k → w'.heap[b]? = w.heap[b]? := fun i b hi hl hik => by
      refine N.keep b (I.mu_lt i b hi hl) fun j hj hlj => ?_
      obtain rfl := live_one hlj
      exact hik (I.inj i k b hi (by simpa [mu1] using hj) hl hkl)
    have hmu : ∀ i, muSet mu k (mu' 0) i = mu i := fun i => by
      by_cases h : i = k
      · subst h; rw [muSet_same, hmk]
      · rw [muSet_ne _ _ _ h]
    have hC : Compat w w' mu mu T (tset T k (.box cells')) := by
      intro id hid
      by_cases h : id = k
      · subst h
        rw [tget_tset_same]
        exact ⟨fun e => (by cases e), fun c _ => ⟨⟨cells, hk⟩, rfl⟩, fun _ _ _ _ e => (by cases e)⟩
      · rw [tget_tset_ne _ _ _ _ h]
        exact ⟨hid, fun c e => ⟨⟨c, e⟩, rfl⟩, fun sz n cv f e => ⟨n, cv, f, e, Nat.le_refl _, fun _ => ⟨Nat.le_refl _, rfl, fun b hb => by unfold capOf; rw [hne id b hb (by rw [e]; trivial) h]⟩⟩⟩
    have hw : ∀ b, ok b → ok' b ∧ w'.heap[b]? = w.heap[b]? := fun b hb => ⟨N.okL b hb, N.keep b (I.okB b hb).1 fun i hi hl => by
      obtain rfl := live_one hl
      exact I.sep k b (by simpa [mu1] using hi) hkl hb⟩
    have hliveT : ∀ i, (tget (tset T k (.box cells')) i).live → (tget T i).live := fun i hl => by
      by_cases h : i = k
      · subst h; exact hkl
      · rwa [tget_tset_ne _ _ _ _ h] at hl
    refine ⟨v, ok', mu, he, ⟨N.os, N.tape, N.output, N.size, fun b hb hnl => ?_, hC, N.okL, fun b hb => ?_, fun i b hi hl => ⟨fun hok => ?_, .inl ⟨i, hi, hliveT i hl⟩⟩, fun i j b hi hj hli hlj => I.inj i j b hi hj (hliveT i hli) (hliveT j hlj), fun i => ?_⟩, ?_⟩
    · exact N.keep b hb fun i hi hl => by
        obtain rfl := live_one hl
        exact hnl k (by simpa [mu1] using hi) hkl
    · obtain ⟨q1, q2⟩ := N.okR b hb
      refine ⟨q1, ?_⟩
      rcases q2 with q | ⟨i, hi, hl⟩ | q
      · exact .inl q
      · obtain rfl := live_one hl
        exact .inr (.inl ⟨k, by simpa [mu1] using hi, hkl⟩)
      · exact .inr (.inr q)
    · by_cases h : i = k
      · subst h
        exact (N.live 0 b (by rw [hmk]; exact hi) (by trivial)).1 hok
      · rcases (N.okR b hok).2 with q | ⟨j, hj, hl'⟩ | q
        · exact I.sep i b hi (hliveT i hl) q
        · obtain rfl := live_one hl'
          exact h (I.inj i k b hi (by simpa [mu1] using hj) (hliveT i hl) hkl)
        · have := I.mu_lt i b hi (hliveT i hl)
          omega
    · by_cases h : i = k
      · subst h
        rw [tget_tset_same]
        have ho := N.obs 0
        obtain ⟨b, c, e, q1, q2, q3, q4, q5⟩ := ho
        exact ⟨b, c, e, by rw [← hmk]; exact q1, q2, q3, q4, fun j hj => (((q5 j hj).freeze (noRefs_get _ _ hc')).mono (fun b hb => ⟨hb, rfl⟩) (fun e => by cases e)).thaw⟩
      · rw [tget_tset_ne _ _ _ _ h]
        exact (I.obs i).mono hw hC rfl fun b hb hl => hne i b hb hl h
    · have unf : ∀ (u : Value) (x : AV), RV w' ok' mu' [.box cells'] false u x → oneP x = true → RV w' ok' mu (tset T k (.box cells')) false u (renP k x) := by
        intro u x hu hx
        cases x with
        | ptr id ver e o =>
          simp only [oneP] at hx
          obtain rfl := Nat.eq_of_beq_eq_true hx
          have hone : u.oneCell' = true := by cases hu; assumption
          obtain ⟨q1, q2, q3⟩ := rv_ptr hu
          obtain ⟨q4, b, q5, q6⟩ := q2 cells' rfl
          refine .ptr _ _ _ _ _ hone ⟨(by rw [tget_tset_same]; exact fun e => (by cases e)), fun c hc => ⟨q4, b, by rw [← hmk]; exact q5, q6⟩, fun _ _ _ _ e => ?_⟩
          rw [tget_tset_same] at e
          cases e
        | row => simp [oneP, pureV, noRef] at hx
        | _ => exact ((hu.pure hx).mono (fun b hb => ⟨hb, rfl⟩) (fun e => by cases e)).thaw
      cases r with
      | func f l =>
        obtain ⟨cs, rfl, hs, hrr⟩ := rv_func hv
        refine .func _ _ _ _ (by rw [renPL_length]; exact hs) fun j hj => ?_
        rw [renPL_length] at hj
        rw [lget_renPL]
        exact unf _ _ (hrr j hj) (onePL_get _ _ hr)
      | _ => exact unf _ _ hv hr
end

end Go.Proofs.Ytbpcjahjbkiofaa.AV

set_option linter.unusedVariables false
set_option linter.unusedSimpArgs false
namespace Go.Proofs.Ytbpcjahjbkiofaa.AV
open Go

theorem FinT.cut {t T0 T' : Tab} {rv r : AV} (h0 : T0.length ≤ 1) (ht : lowT 1 1 t = true) (e : takeT 1 t = T') (hl : low 1 rv = true) (hr : Le rv r) : FinT t rv T0 T' r := by
  intro G w ok mu v hT I hv
  subst e
  have hlt : ∀ i, (tget (takeT 1 t) i).live → i < 1 ∧ tget (takeT 1 t) i = tget t i := fun i hi => by
    rw [tget_takeT] at hi ⊢
    split at hi
    · rename_i h; exact ⟨h, by rw [if_pos h]⟩
    · exact hi.elim
  refine ⟨ok, mu, { I with
    sep := fun i b hi hl => I.sep i b hi ((hlt i hl).2 ▸ hl)
    inj := fun i j b hi hj hli hlj => I.inj i j b hi hj ((hlt i hli).2 ▸ hli) ((hlt j hlj).2 ▸ hlj)
    lv := fun i b hi hl => I.lv i b hi ((hlt i hl).2 ▸ hl)
    obs := fun i => ?_
    cmp := fun id hid => ?_ }, hr _ _ _ _ _ _ (hv.low hl)⟩
  · rw [tget_takeT]
    by_cases hi : i < 1
    · rw [if_pos hi]
      have ho := I.obs i
      have hlow := lowT_get 1 1 t i ht hi
      revert ho hlow
      cases tget t i with
      | fresh => intro _ _; trivial
      | dead => intro _ _; trivial
      | cap k v C =>
        intro ho hlow
        simp only [lowO, Nat.blt_eq] at hlow
        obtain ⟨q1, q2⟩ := ho
        refine ⟨by rw [tget_takeT, if_pos hlow]; exact q1, fun sz m cv f e => ?_⟩
        rw [tget_takeT, if_pos hlow] at e
        exact q2 sz m cv f e
      | box cells =>
        intro ho hlow
        obtain ⟨b, c, e, q1, q2, q3, q4, q5⟩ := ho
        exact ⟨b, c, e, q1, q2, q3, q4, fun j hj => (q5 j hj).low0 (lowL_get 1 _ _ hlow)⟩
      | row sz m ver f =>
        intro ho _
        obtain ⟨q1, q2, q3⟩ := ho
        refine ⟨q1, q2, ?_⟩
        cases hm : mu i with
        | none => rw [hm] at q3; exact q3
        | some b =>
          rw [hm] at q3
          obtain ⟨c, e, C, k1, k2, k3, k4, k5, k6⟩ := q3
          exact ⟨c, e, C, k1, k2, k3, k4, k5, fun i o hi ho => (k6 i o hi ho).mono (fun b h => ⟨h, rfl⟩) fun e => by cases e⟩
    · rw [if_neg hi]; trivial
  · have hid' : id < 1 := by
      rcases Nat.lt_or_ge id T0.length with h | h
      · omega
      · rw [hT] at hid
        exact absurd (tget_ge _ _ h) hid
    have := I.cmp id hid
    rw [tget_takeT, if_pos hid']
    exact this

/-- The end of a function that was handed one object: what it is now, and the result. -/
def ret1 (env : Env) (t : Tab) (l : List RItem) (ob : Ob) (r : AV) : Prop := match resL env t l with
  | none => False
  | some rl => norm (resV rl) fun v => (low 1 v && lowT 1 1 t) = true ∧ takeT 1 t = [ob] ∧ Le v r
theorem ret1_spec {P : Program} {nt : Nat} {env : Env} {t : Tab} {l : List RItem} {ob0 ob : Ob} {r : AV} (h : ret1 env t l ob r) : RetQ l [ob0] [ob] r .ret env t := by
  unfold ret1 at h
  split at h
  · exact h.elim
  · rename_i rl hl
    rw [norm_iff] at h
    obtain ⟨h1, h2, h3⟩ := h
    simp only [Bool.and_eq_true] at h1
    exact ⟨rl, hl, FinT.cut (Nat.le_refl _) h1.2 h2 h1.1 h3⟩

section
variable {P : Program} {nt : Nat} {env : Env} {T : Tab} {Q : Post}
theorem Run.ret1 {k : List AItem} {l : List RItem} {ob0 ob : Ob} {r : AV} (h : AV.ret1 env T l ob r) : Run P nt (.code .ret :: k) env T (RetQ l [ob0] [ob] r) := Run.ret (ret1_spec (P := P) (nt := nt) h)
theorem Run.ret1R {k k0 : List AItem} {K : Env → Tab → Prop} {l : List RItem} {ob0 ob : Ob} {r : AV} (h : AV.ret1 env T l ob r) : Run P nt (.code .ret :: k) env T (roundQ P nt (RetQ l [ob0] [ob] r) k0 K) := Run.ret (ret1_spec (P := P) (nt := nt) h)

/-- A call that is handed one box by a pointer, in a plain region; its guard is known to hold. -/
theorem Run.callF {k : List AItem} {d : Option Nat} {g : Option (Nat × Bool)} {r : List AOper} {f : FuncId} {L : List Opd} {rv : AV} {args : List AV} (id : Nat) {cells cells' : List AV} (hv : vals env L = renL id args) (hg : gB g env = .yes [])
    (hc : AC P f args [.box cells] rv [.box cells']) (hk : tget T id = .box cells) (ha : (one0L args && (one0 rv && (noRefs cells && noRefs cells'))) = true)
    (h : norm (ren0 id rv) fun rv => tupdK T (some (id, .box cells')) fun T1 => bindK env d rv fun e => Goes P nt Q (.ops r :: k) e T1) :
    Run P nt (.ops (⟨d, .call f L, g⟩ :: r) :: k) env T Q := by
  rw [norm_iff, tupdK_iff, bindK_iff] at h
  simp only [Bool.and_eq_true] at ha
  have hac := hc.frame ha.1 ha.2.1 ha.2.2.1 ha.2.2.2 hk
  refine ⟨SO.of_step1 (v := ren0 id rv) (T' := tset T id (.box cells')) ?_ (Goes.run h).out⟩
  refine ⟨fun mo i m hm hco G a w R K Qm hq => ?_⟩
  obtain ⟨h1, h2, h3, _⟩ := cOper_spec hco
  simp only [wpOp, hm, ((gB_spec R hco).2 _ hg).1 trivial, if_true]
  obtain ⟨hdef, hs, ok, mu, I, E⟩ := R
  obtain ⟨c, hop, hcal, hargs, fn, hfn, hb, hn⟩ := cOp_call h1
  obtain ⟨a1, a2⟩ := args_rv E hargs
  left
  unfold Oper.wp
  have hrun : (execOp a.eval m).run P w = .ok (.enter f (c.args.map a.eval)) w := by
    have := run_callFunc (P := P) (w := w) hfn hb hn (c.args.map a.eval)
    simp [execOp, hop, resolve, hcal, Act.eval, Deferred.ofValue, invoke, this]
  rw [hrun, Oper.upon_enter]
  refine (hac.out w ok mu I.base (c.args.map a.eval) (by rw [a1, hv]) (by rw [← hv]; exact a2)).mono ?_
  rintro e w' ⟨v, ok', mu', rfl, N, hv⟩
  have R' := Rel.put hdef hs I E N hv h3
  simp only [h2]
  exact hq _ _ R'
end

end Go.Proofs.Ytbpcjahjbkiofaa.AV

set_option linter.unusedVariables false
set_option linter.unusedSimpArgs false
namespace Go.Proofs.Ytbpcjahjbkiofaa.AV
open Go

section
variable {P : Program}

theorem cCall_of {o : Oper} {p : AOp} (h : cOp P o = some p) (hp : match p with | .cap _ | .copy .. | .clr .. | .ovl .. | .appz .. => True | _ => False) : ∃ c, o.op = .call c ∧ cCall P c o.type = some p := by
  unfold cOp at h
  split at h
  all_goals try (rename_i c hop; exact ⟨c, hop, h⟩)
  all_goals exfalso
  all_goals (cases p <;> first | exact hp.elim | skip)
  all_goals first
    | exact map_no h (fun z e => by cases e)
    | (unfold cBin at h; (repeat' split at h) <;> cases h; done)
    | ((repeat' split at h) <;> cases h; done)
    | cases h

theorem cOp_cap {o : Oper} {X : Opd} (h : cOp P o = some (.cap X)) : ∃ (c : Call) (t e : TypeId) (x : Operand), o.op = .call c ∧ c.callee = .builtin .cap ∧ c.args = #[x] ∧ c.argTypes = #[t] ∧ P.underlying t = some (.slice e) ∧ opd x = some X := by
  obtain ⟨c, hop, h⟩ := cCall_of h trivial
  unfold cCall at h
  split at h
  case h_7 hb =>
    split at h
    · rename_i x t ha ht
      split at h
      · rename_i A e hx hd
        cases h
        exact ⟨c, t, e, x, hop, hb, by rw [← ha], by rw [← ht], hd, hx⟩
      · cases h
    · cases h
  all_goals (repeat' split at h) <;> cases h

theorem cOp_copy {o : Oper} {sz : Nat} {X Y : Opd} (h : cOp P o = some (.copy sz X Y)) : ∃ (c : Call) (t e : TypeId) (ti : TypeInfo) (x y : Operand), o.op = .call c ∧ c.callee = .builtin .copy ∧ c.args = #[x, y] ∧ c.argTypes = #[t, t] ∧ P.underlying t = some (.slice e) ∧ P.info? e = some ti ∧ 0 < ti.size ∧ ti.size = sz ∧
    opd x = some X ∧ opd y = some Y := by
  obtain ⟨c, hop, h⟩ := cCall_of h trivial
  unfold cCall at h
  split at h
  case h_8 hb =>
    split at h
    · rename_i x y t u ha ht
      split at h
      · rename_i A B e e2 hx hy hd hd2
        split at h
        · rename_i ti hi
          split at h
          · rename_i hc
            cases h
            simp only [Bool.and_eq_true, beq_iff_eq, Nat.blt_eq] at hc
            obtain ⟨h1, rfl⟩ := hc
            exact ⟨c, t, e, ti, x, y, hop, hb, by rw [← ha], by rw [← ht], hd, hi, h1, rfl, hx, hy⟩
          · cases h
        · cases h
      · cases h
    · cases h
  all_goals (repeat' split at h) <;> cases h

theorem cOp_clr {o : Oper} {sz : Nat} {zs : List Value} {X : Opd} (h : cOp P o = some (.clr sz zs X)) : ∃ (c : Call) (t e : TypeId) (ti : TypeInfo) (z : Value) (x : Operand), o.op = .call c ∧ c.callee = .builtin .clear ∧ c.args = #[x] ∧ c.argTypes = #[t] ∧ P.underlying t = some (.slice e) ∧ P.info? e = some ti ∧ ti.zero = some z ∧
    z.cells.size = ti.size ∧ 0 < ti.size ∧ ti.size = sz ∧ zs = z.cells.toList ∧ zs.all plainV = true ∧ opd x = some X := by
  obtain ⟨c, hop, h⟩ := cCall_of h trivial
  unfold cCall at h
  split at h
  case h_9 hb =>
    split at h
    · rename_i x t ha ht
      split at h
      · rename_i A e hx hd
        split at h
        · rename_i ti hi
          split at h
          · rename_i z hz
            split at h
            · rename_i hc
              cases h
              simp only [Bool.and_eq_true, beq_iff_eq, Nat.blt_eq] at hc
              obtain ⟨⟨h1, h2⟩, h3⟩ := hc
              exact ⟨c, t, e, ti, z, x, hop, hb, by rw [← ha], by rw [← ht], hd, hi, hz, h1, h2, rfl, rfl, h3, hx⟩
            · cases h
          · cases h
        · cases h
      · cases h
    · cases h
  all_goals (repeat' split at h) <;> cases h

theorem opds_two {l : List Operand} {X Y : Opd} (h : opds l = some [X, Y]) : ∃ x y, l = [x, y] ∧ opd x = some X ∧ opd y = some Y := by
  obtain ⟨h1, h2⟩ := opds_get h
  match l, h1 with
  | [x, y], _ => exact ⟨x, y, rfl, by simpa using h2 0 (by simp), by simpa using h2 1 (by simp)⟩

theorem cOp_ovl {o : Oper} {f : FuncId} {X Y : Opd} (h : cOp P o = some (.ovl f X Y)) : ∃ (c : Call) (x y : Operand), o.op = .call c ∧ c.callee = .value (.func f) ∧ c.args = #[x, y] ∧ opd x = some X ∧ opd y = some Y := by
  obtain ⟨c, hop, h⟩ := cCall_of h trivial
  unfold cCall at h
  split at h
  · rename_i f' hf
    split at h
    · rename_i l fn hl hfn
      split at h
      · cases h
      · split at h
        · rename_i A B
          split at h
          · cases h
            have hl2 := opds_two hl
            obtain ⟨x, y, e1, e2, e3⟩ := hl2
            exact ⟨c, x, y, hop, hf, by rw [← e1], e2, e3⟩
          · cases h
        · cases h
    · cases h
  all_goals (repeat' split at h) <;> cases h

theorem cOp_appz {o : Oper} {sz bytes : Nat} {zs : List Value} {X Y : Opd} (h : cOp P o = some (.appz sz bytes zs X Y)) : ∃ (c : Call) (t u e : TypeId) (k : IntKind) (ti : TypeInfo) (z : Value) (x y : Operand), o.op = .call c ∧ c.callee = .builtin .append ∧ c.args = #[x, y] ∧ c.argTypes = #[t, u] ∧ P.underlying t = some (.slice e) ∧ P.underlying u = some (.int k) ∧ P.info? e = some ti ∧ ti.zero = some z ∧
    z.cells.size = ti.size ∧ 0 < ti.size ∧ ti.size = sz ∧ ti.bytes = bytes ∧ zs = z.cells.toList ∧ zs.all plainV = true ∧ opd x = some X ∧ opd y = some Y := by
  obtain ⟨c, hop, h⟩ := cCall_of h trivial
  unfold cCall at h
  split at h
  case h_4 hb =>
    split at h
    · rename_i x y t u ha ht
      split at h
      · (repeat' split at h) <;> cases h
      · (repeat' split at h) <;> cases h
      · rename_i A B e k hx hy hd hd2
        split at h
        · rename_i ti hi
          split at h
          · rename_i z hz
            split at h
            · rename_i hc
              cases h
              simp only [Bool.and_eq_true, beq_iff_eq, Nat.blt_eq] at hc
              obtain ⟨⟨h1, h2⟩, h3⟩ := hc
              exact ⟨c, t, u, e, k, ti, z, x, y, hop, hb, by rw [← ha], by rw [← ht], hd, hd2, hi, hz, h1, h2, rfl, rfl, rfl, h3, hx, hy⟩
            · cases h
          · cases h
        · cases h
      · cases h
    · cases h
  all_goals (repeat' split at h) <;> cases h

/-! ### A row's block -/

/-- What is known of a whole row of one's own, in its block. -/
theorem row_block {G : Ctx} {w : World} {ok : Nat → Prop} {mu : Nat → Option Nat} {T : Tab} (I : Inv G ok mu T w) {id sz n ver : Nat} {f : Nat → List AV} (hT : tget T id = .row sz n ver f) {b : Nat} (hm : mu id = some b) :
    0 < sz ∧ (∀ i, i < n → (f i).length = sz) ∧ ∃ c e C, w.heap[b]? = some (.cells c e (0, 0)) ∧ c.size = C * sz ∧ n ≤ C ∧ C ≤ maxLen ∧ capOf w b = C * sz ∧ (∀ u ∈ c.toList, u.oneCell' = true) ∧
      ∀ i o, i < n → o < sz → RV w ok mu T true (c.getD (i * sz + o) undef) (lget (f i) o) := by
  have ho := I.obs id
  rw [hT] at ho
  obtain ⟨h0, h1, h2⟩ := ho
  rw [hm] at h2
  obtain ⟨c, e, C, k1, k2, k3, k4, k5, k6⟩ := h2
  exact ⟨h0, h1, c, e, C, k1, k2, k3, k4, by unfold capOf; rw [k1]; exact k2, all_one h0 k2 k5, k6⟩

/-- Cells put into a row of one's own. -/
def fput (o k : Nat) (g f : Nat → List AV) : Nat → List AV := fun i => if o ≤ i ∧ i < o + k then g (i - o) else f i

theorem splice_rows {c : Array Value} {sz C : Nat} (hc : c.size = C * sz) {o k : Nat} {vs : List Value} (hv : vs.length = k * sz) (hk : o + k ≤ C) {i j : Nat} (hi : i < C) (hj : j < sz) :
    (splice c (o * sz) vs).getD (i * sz + j) undef = if o ≤ i ∧ i < o + k then vs.getD ((i - o) * sz + j) undef else c.getD (i * sz + j) undef := by
  have hle : o * sz + vs.length ≤ c.size := by rw [hv, hc, ← Nat.add_mul]; exact Nat.mul_le_mul_right _ hk
  rw [splice_get _ _ _ hle]
  have e1 : (o * sz ≤ i * sz + j ∧ i * sz + j < o * sz + vs.length) ↔ (o ≤ i ∧ i < o + k) := by
    rw [hv, ← Nat.add_mul]
    constructor
    · rintro ⟨q1, q2⟩
      refine ⟨?_, ?_⟩
      · rcases Nat.lt_or_ge i o with h | h
        · have := Nat.mul_le_mul_right sz (show i + 1 ≤ o by omega)
          rw [Nat.add_mul, Nat.one_mul] at this
          omega
        · exact h
      · rcases Nat.lt_or_ge i (o + k) with h | h
        · exact h
        · have := Nat.mul_le_mul_right sz h
          omega
    · rintro ⟨q1, q2⟩
      have h1 := Nat.mul_le_mul_right sz q1
      have h2 := Nat.mul_le_mul_right sz (show i + 1 ≤ o + k by omega)
      rw [Nat.add_mul i 1, Nat.one_mul] at h2
      omega
  by_cases h : o ≤ i ∧ i < o + k
  · rw [if_pos (e1.2 h), if_pos h, Nat.sub_mul]
    have := Nat.mul_le_mul_right sz h.1
    rw [show i * sz + j - o * sz = i * sz - o * sz + j by omega]
  · rw [if_neg (fun q => h (e1.1 q)), if_neg h]

theorem splice_mem {c : Array Value} {k : Nat} {vs : List Value} {p : Value → Prop} (h1 : ∀ u ∈ c.toList, p u) (h2 : ∀ u ∈ vs, p u) : ∀ u ∈ (splice c k vs).toList, p u := by
  intro u hu
  simp only [splice, List.mem_append] at hu
  rcases hu with (h | h) | h
  · exact h1 u (List.mem_of_mem_take h)
  · exact h2 u h
  · exact h1 u (List.mem_of_mem_drop h)

theorem mem_one {c : Array Value} (h : ∀ u ∈ c.toList, u.oneCell' = true) {j : Nat} (hj : j < c.size) : (c.getD j undef).oneCell' = true := by
  have e : c.getD j undef = c[j] := by simp [hj]
  rw [e]
  exact h _ (by simp)

/-- Rows of cells written into a row of one's own, in its block. -/
theorem Next.put {G : Ctx} {w : World} {ok : Nat → Prop} {mu : Nat → Option Nat} {T : Tab} (I : Inv G ok mu T w) {id sz n ver : Nat} {f : Nat → List AV} (hT : tget T id = .row sz n ver f) {b : Nat} (hm : mu id = some b) {c : Array Value} {e : TypeId} (hb : w.heap[b]? = some (.cells c e (0, 0)))
    {o k : Nat} {g : Nat → List AV} {vs : List Value} (hv : vs.length = k * sz) (hk : o + k ≤ n) (h1 : ∀ u ∈ vs, u.oneCell' = true) (hl : ∀ i, i < k → (g i).length = sz) (hr : ∀ i j, i < k → j < sz → RV w ok mu T true (vs.getD (i * sz + j) undef) (lget (g i) j)) :
    Go.Proofs.Ytbpcjahjbkiofaa.AV.Next ok ok mu mu T (tset T id (.row sz n ver (fput o k g f))) w (w.setRow b (splice c (o * sz) vs)) := by
  obtain ⟨h0, hfl, c', e', C, k1, k2, k3, k4, k5, k6, k7⟩ := row_block I hT hm
  rw [hb] at k1
  cases k1
  have hle : o * sz + vs.length ≤ c.size := by rw [hv, k2, ← Nat.add_mul]; exact Nat.mul_le_mul_right _ (by omega)
  have hsz := splice_size c (o * sz) vs hle
  refine Next.write I hm (by rw [hT]; trivial) _ trivial rfl rfl rfl (setRow_size _ _ _) (fun q hq => setRow_ne _ _ _ _ hq) (capOf_setRow hb hsz) (fun _ e => by cases e) (fun _ _ _ _ e => by cases e; exact ⟨n, ver, f, hT, Nat.le_refl _, Nat.le_refl _⟩) ?_
  intro T' eT hrv
  refine ⟨h0, fun i hi => ?_, ?_⟩
  · unfold fput
    split
    · exact hl _ (by omega)
    · exact hfl i hi
  rw [hm]
  have hone := splice_mem (k := o * sz) k6 h1
  refine ⟨_, e, C, setRow_at hb, by rw [hsz]; exact k2, k3, k4, fun i j hi hj => ?_, fun i j hi hj => ?_⟩
  · refine mem_one hone ?_
    rw [hsz, k2]
    have := Nat.mul_le_mul_right sz (show i + 1 ≤ C by omega)
    rw [Nat.add_mul, Nat.one_mul] at this
    omega
  · rw [splice_rows k2 hv (by omega) (by omega) hj]
    unfold fput
    split
    · rename_i hc
      exact hrv _ _ _ (hr _ _ (by omega) hj)
    · exact hrv _ _ _ (k7 i j hi hj)

theorem run_stores {w : World} {b o : Nat} {c : Array Value} {e : TypeId} {vs : List Value} (hb : w.heap[b]? = some (.cells c e (0, 0))) (hle : o + vs.length ≤ c.size) (h1 : ∀ u ∈ vs, u.oneCell' = true) :
    (storeCells ⟨b, o, none⟩ vs).run P w = .ok () (w.setRow b (splice c o vs)) := by
  have := run_storeCells_at P b o e vs 0 c w hb (by simpa using hle) h1
  simpa [splice] using this

/-- The value of a row of one's own. -/
theorem row_addr {G : Ctx} {w : World} {ok : Nat → Prop} {mu : Nat → Option Nat} {T : Tab} (I : Inv G ok mu T w) {v : Value} {sz id ver off len sz' n cv : Nat} {f : Nat → List AV} (h : RV w ok mu T false v (.row sz id ver off len)) (hT : tget T id = .row sz' n cv f) (hver : ver = cv) :
    sz' = sz ∧ off + len ≤ n ∧ ((mu id = none ∧ off = 0 ∧ len = 0 ∧ n = 0 ∧ ∃ A, v = .slice A 0 0) ∨ ∃ b cap, mu id = some b ∧ v = .slice (some ⟨b, off * sz, none⟩) len cap ∧ (off + cap) * sz = capOf w b ∧ len ≤ cap) := by
  obtain ⟨q1, q2, q3⟩ := rv_row h
  obtain ⟨_, q4⟩ := q3 _ n cv f hT
  obtain ⟨e, hle, hsl⟩ := q4 hver
  refine ⟨e, hle, ?_⟩
  unfold SliceAt at hsl
  cases hm : mu id with
  | none =>
    rw [hm] at hsl
    obtain ⟨e1, e2, A, e3⟩ := hsl
    have ho := I.obs id
    rw [hT] at ho
    obtain ⟨_, _, h2⟩ := ho
    rw [hm] at h2
    exact .inl ⟨rfl, e1, e2, h2, A, e3⟩
  | some b =>
    rw [hm] at hsl
    obtain ⟨cap, e1, e2, e3⟩ := hsl
    exact .inr ⟨b, cap, rfl, e1, e2, e3⟩

variable {env : Env} {T : Tab}

/-- A part of a row of one's own, up to all of its elements. -/
theorem Does.slRX {sz id ver off len n cv i j : Nat} {X : Opd} {lo hi : Option Opd} {f : Nat → List AV} {x y : Int} (hx : oval env X = .row sz id ver off len) (hT : tget T id = .row sz n cv f) (hver : Nat.beq ver cv = true) (hl : bndV env 0 lo = some x) (hh : bndV env len hi = some y) (ex : x = (i : Int)) (ey : y = (j : Int))
    (h1 : i < j ∨ i = 0) (h2 : i ≤ j) (h3 : off + j ≤ n) : Does P (.sl sz X lo hi none) env T (.row sz id ver (off + i) (j - i)) T := by
  refine ⟨fun {G w ok mu a o} hc I E => ?_⟩
  obtain ⟨t, e, ti, x', l, r, m, hop, hd, hti, hs, rfl, hxo, hlo, hro, hmo⟩ := cOp_sl hc
  obtain rfl : m = none := by
    cases m with
    | none => rfl
    | some y => simp only [opdO] at hmo; split at hmo <;> cases hmo
  subst ex
  subst ey
  have rx := opd_rv E hxo
  rw [hx] at rx
  have rx0 := rx
  have hv := Nat.eq_of_beq_eq_true hver
  obtain ⟨q1, q2, _⟩ := rv_row rx
  obtain ⟨_, hle, hcase⟩ := row_addr I rx hT hv
  have mk : ∀ v, (∃ A C, v = .slice A (j - i) C) → SliceAt w mu id ti.size (off + i) (j - i) v → RV w ok mu T false v (.row ti.size id ver (off + i) (j - i)) := fun v h1v hsv => by
    refine .row _ _ _ _ _ _ h1v ⟨q1, q2, fun sz2 n2 cv2 f2 e2 => ?_⟩
    rw [hT] at e2
    cases e2
    exact ⟨Nat.le_of_eq hv, fun _ => ⟨by assumption, by omega, hsv⟩⟩
  rcases hcase with ⟨hm, rfl, rfl, rfl, A, hval⟩ | ⟨b, cap, hm, hval, hcap, hlc⟩
  · obtain rfl : j = 0 := by omega
    obtain rfl : i = 0 := by omega
    refine Did.pure I (run_sl hop hd hti hval (bnd_rv E hlo hl) (bnd_rv E hro hh) (Int.le_refl _) (Int.le_refl _) (Int.le_refl _)) (mk _ ⟨_, _, rfl⟩ ?_)
    unfold SliceAt
    rw [hm]
    exact ⟨rfl, rfl, A, rfl⟩
  · obtain ⟨h0, _, c, e', C, k1, k2, k3, k4, k5, _⟩ := row_block I hT hm
    have hCc : off + cap = C := Nat.eq_of_mul_eq_mul_right h0 (by rw [← k5]; simp_all)
    refine Did.pure I (run_sl hop hd hti hval (bnd_rv E hlo hl) (bnd_rv E hro hh) (by omega) (by omega) (by omega)) (mk _ ⟨_, _, rfl⟩ ?_)
    unfold SliceAt
    rw [hm]
    refine ⟨cap - i, ?_, ?_, by omega⟩
    · by_cases hc0 : cap = i
      · obtain rfl : i = 0 := by omega
        subst hc0
        simp
      · rw [if_neg (by simpa using hc0)]
        simp [add_none, Nat.add_mul]
    · rw [← hcap]
      congr 1
      omega

/-- An empty part of a row of one's own. -/
theorem Does.slRE {sz id ver off len n cv i j : Nat} {X : Opd} {lo hi : Option Opd} {f : Nat → List AV} {x y : Int} (hx : oval env X = .row sz id ver off len) (hT : tget T id = .row sz n cv f) (hver : Nat.beq ver cv = true) (hl : bndV env 0 lo = some x) (hh : bndV env len hi = some y) (ex : x = (i : Int)) (ey : y = (j : Int))
    (h1 : i = j) (h3 : off + j ≤ n) : Does P (.sl sz X lo hi none) env T (.list sz 0 fun _ => []) T := by
  refine ⟨fun {G w ok mu a o} hc I E => ?_⟩
  obtain ⟨t, e, ti, x', l, r, m, hop, hd, hti, hs, rfl, hxo, hlo, hro, hmo⟩ := cOp_sl hc
  obtain rfl : m = none := by
    cases m with
    | none => rfl
    | some y => simp only [opdO] at hmo; split at hmo <;> cases hmo
  subst ex
  subst ey
  subst h1
  have rx := opd_rv E hxo
  rw [hx] at rx
  obtain ⟨_, hle, hcase⟩ := row_addr I rx hT (Nat.eq_of_beq_eq_true hver)
  rcases hcase with ⟨hm, rfl, rfl, rfl, A, hval⟩ | ⟨b, cap, hm, hval, hcap, hlc⟩
  · obtain rfl : i = 0 := by omega
    refine Did.pure I (run_sl hop hd hti hval (bnd_rv E hlo hl) (bnd_rv E hro hh) (Int.le_refl _) (Int.le_refl _) (Int.le_refl _)) ?_
    exact .list _ _ _ _ _ _ (fun _ _ => undef) (by simp) (by simp [maxLen]) hs (fun h => absurd h (Nat.lt_irrefl _)) (fun i hi => absurd hi (Nat.not_lt_zero _)) (fun i _ hi => absurd hi (Nat.not_lt_zero _)) (fun i _ hi => absurd hi (Nat.not_lt_zero _))
  · obtain ⟨h0, _, c, e', C, k1, k2, k3, k4, k5, _⟩ := row_block I hT hm
    have hCc : off + cap = C := Nat.eq_of_mul_eq_mul_right h0 (by rw [← k5]; simp_all)
    refine Did.pure I (run_sl hop hd hti hval (bnd_rv E hlo hl) (bnd_rv E hro hh) (by omega) (by omega) (by omega)) ?_
    rw [Nat.sub_self]
    exact .list _ _ _ _ _ _ (fun _ _ => undef) (by simp) (by simp; omega) hs (fun h => absurd h (Nat.lt_irrefl _)) (fun i hi => absurd hi (Nat.not_lt_zero _)) (fun i _ hi => absurd hi (Nat.not_lt_zero _)) (fun i _ hi => absurd hi (Nat.not_lt_zero _))

/-- Three bounds: asked for the check alone. -/
theorem Does.slR3 {sz id ver off len n cv i j q : Nat} {X Z : Opd} {lo hi : Option Opd} {f : Nat → List AV} {x y z : Int} {kz : IntKind} (hx : oval env X = .row sz id ver off len) (hT : tget T id = .row sz n cv f) (hver : Nat.beq ver cv = true) (hl : bndV env 0 lo = some x) (hh : bndV env len hi = some y) (hhi : hi ≠ none) (hz : oval env Z = .int kz z) (ex : x = (i : Int)) (ey : y = (j : Int)) (ez : z = (q : Int))
    (h1 : i ≤ j) (h2 : j ≤ q) (h3 : q ≤ len) : Does P (.sl sz X lo hi (some Z)) env T .top T := by
  refine ⟨fun {G w ok mu a o} hc I E => ?_⟩
  obtain ⟨t, e, ti, x', l, r, m, hop, hd, hti, hs, rfl, hxo, hlo, hro, hmo⟩ := cOp_sl hc
  obtain ⟨zo, rfl, hzo⟩ : ∃ zo, m = some zo ∧ opd zo = some Z := by
    cases m with
    | none => simp [opdO] at hmo
    | some y =>
      simp only [opdO] at hmo
      split at hmo
      · rename_i Y hY; cases hmo; exact ⟨y, rfl, hY⟩
      · cases hmo
  subst ex
  subst ey
  subst ez
  have rx := opd_rv E hxo
  rw [hx] at rx
  obtain ⟨A, cap, hval⟩ := rv_rowV rx
  have hcap : len ≤ cap := by
    obtain ⟨_, hle, hcase⟩ := row_addr I rx hT (Nat.eq_of_beq_eq_true hver)
    rcases hcase with ⟨_, _, h, _⟩ | ⟨b, cap', _, hval', _, h⟩
    · omega
    · rw [hval] at hval'; cases hval'; exact h
  have rz := opd_rv E hzo
  rw [hz] at rz
  have hzv := rv_int rz
  have b1 := bnd_rv E hlo hl
  have b2 := bnd_rv E hro hh
  have hr : ∃ xr kr, r = some xr ∧ a.eval xr = .int kr j := by
    rcases b2 with ⟨rfl, _⟩ | h
    · exfalso
      simp only [opdO, Option.some.injEq] at hro
      exact hhi hro.symm
    · exact h
  obtain ⟨xr, kr, rfl, hxr⟩ := hr
  refine Did.pure (x := .slice (if q = i then A else A.map (·.add (i * ti.size))) (j - i) (q - i)) I ?_ (.top _ _)
  have c0 : (q : Int) ≤ (cap : Int) := by omega
  have c1 : (j : Int) ≤ (q : Int) := by omega
  have c2 : (i : Int) ≤ (j : Int) := by omega
  rcases b1 with ⟨rfl, h0⟩ | ⟨xl, kl, rfl, hxl⟩
  · obtain rfl : i = 0 := by omega
    simp [execOp, hop, Instr.sliceAt, Instr.slice, hval, hzv, hxr, run_underlying hd, run_sizeOf hti, Instr.sliceBounds, Instr.sliceBound, asIntOf, c0, c1, c2, h1, h2, (show q ≤ cap by omega)]
  · simp [execOp, hop, Instr.sliceAt, Instr.slice, hval, hzv, hxr, hxl, run_underlying hd, run_sizeOf hti, Instr.sliceBounds, Instr.sliceBound, asIntOf, c0, c1, c2, h1, h2, (show q ≤ cap by omega)]

/-! ### Copies and clears -/

theorem src_take {w : World} {ok : Nat → Prop} {mu : Nat → Option Nat} {v : Value} {sz m k : Nat} {g : Nat → List AV} (h : Src w ok mu T v sz m g) (hk : k ≤ m) :
    ∃ (A : Option Addr) (C : Nat) (vs : List Value), v = .slice A m C ∧ vs.length = k * sz ∧ (Builtin.firstCells sz k v).run P w = .ok vs.toArray w ∧ (∀ u ∈ vs, u.oneCell' = true) ∧ (∀ i, i < k → (g i).length = sz) ∧
      ∀ i o, i < k → o < sz → RV w ok mu T true (vs.getD (i * sz + o) undef) (lget (g i) o) := by
  obtain ⟨A, C, news, rfl, hl, hA, h1, hg, hr⟩ := h
  have hle : k * sz ≤ m * sz := Nat.mul_le_mul_right _ hk
  have hlen : (news.take (k * sz)).length = k * sz := by rw [List.length_take, hl]; omega
  refine ⟨A, C, news.take (k * sz), rfl, hlen, ?_, fun u hu => h1 u (List.mem_of_mem_take hu), fun i hi => hg i (by omega), fun i o hi ho => ?_⟩
  · by_cases hk0 : 0 < k
    · obtain ⟨a, rfl, ha⟩ := hA (by omega)
      refine run_firstCells_some w sz k a m C _ hlen fun j u hu => ha j u ?_
      rw [List.getElem?_take] at hu
      split at hu
      · exact hu
      · cases hu
    · obtain rfl : k = 0 := by omega
      cases A with
      | none => simp [Builtin.firstCells]
      | some a => exact run_firstCells_some w sz 0 a m C _ hlen (by simp)
  · have := Nat.mul_le_mul_right sz (show i + 1 ≤ k by omega)
    rw [Nat.add_mul, Nat.one_mul] at this
    rw [List.getD_eq_getElem?_getD, List.getElem?_take, if_pos (by omega), ← List.getD_eq_getElem?_getD]
    exact hr i o (by omega) ho

theorem exec_app2 {w : World} {o : Oper} {a : Act} {c : Call} {t u : TypeId} {x y : Operand} {v' : Value} {w' : World} (hop : o.op = .call c) (hb : c.callee = .builtin .append) (ea : c.args = #[x, y]) (et : c.argTypes = #[t, u])
    (h : (Builtin.append_ #[t, u] o.type #[a.eval x, a.eval y]).run P w = .ok v' w') : (execOp a.eval o).run P w = .ok (.value v') w' := by
  simp [execOp, hop, resolve, hb, ea, et, invoke, builtin, h]
theorem exec_copy {w : World} {o : Oper} {a : Act} {c : Call} {t u : TypeId} {x y : Operand} {v' : Value} {w' : World} (hop : o.op = .call c) (hb : c.callee = .builtin .copy) (ea : c.args = #[x, y]) (et : c.argTypes = #[t, u])
    (h : (Builtin.copy_ #[t, u] o.type #[a.eval x, a.eval y]).run P w = .ok v' w') : (execOp a.eval o).run P w = .ok (.value v') w' := by
  simp [execOp, hop, resolve, hb, ea, et, invoke, builtin, h]
theorem exec_clear {w : World} {o : Oper} {a : Act} {c : Call} {t : TypeId} {x : Operand} {v' : Value} {w' : World} (hop : o.op = .call c) (hb : c.callee = .builtin .clear) (ea : c.args = #[x]) (et : c.argTypes = #[t])
    (h : (Builtin.clear_ #[t] o.type #[a.eval x]).run P w = .ok v' w') : (execOp a.eval o).run P w = .ok (.value v') w' := by
  simp [execOp, hop, resolve, hb, ea, et, invoke, builtin, h]
theorem exec_cap {w : World} {o : Oper} {a : Act} {c : Call} {t : TypeId} {x : Operand} {v' : Value} {w' : World} (hop : o.op = .call c) (hb : c.callee = .builtin .cap) (ea : c.args = #[x]) (et : c.argTypes = #[t])
    (h : (Builtin.cap_ #[t] o.type #[a.eval x]).run P w = .ok v' w') : (execOp a.eval o).run P w = .ok (.value v') w' := by
  simp [execOp, hop, resolve, hb, ea, et, invoke, builtin, h]

/-- Copy into a part of a row of one's own. -/
theorem Does.copy {sz id ver off len n cv m : Nat} {X Y : Opd} {f g : Nat → List AV} (hx : oval env X = .row sz id ver off len) (hT : tget T id = .row sz n cv f) (hver : Nat.beq ver cv = true) (h0 : 0 < len) (hy : srcS T sz (oval env Y) = some (sz, m, g)) :
    Does P (.copy sz X Y) env T (.int .i64 (min m len : Nat)) (tset T id (.row sz n cv (fput off (min m len) g f))) := by
  refine ⟨fun {G w ok mu a o} hc I E => ?_⟩
  obtain ⟨c, t, e, ti, x, y, hop, hcal, ea, et, hd, hi, hs, rfl, hxo, hyo⟩ := cOp_copy hc
  have rx := opd_rv E hxo
  have ry := opd_rv E hyo
  rw [hx] at rx
  obtain ⟨_, hle, hcase⟩ := row_addr I rx hT (Nat.eq_of_beq_eq_true hver)
  obtain ⟨A, C, vs, hyv, hvl, hf, h1, hgl, hr⟩ := src_take (P := P) (k := min m len) (srcS_src I hs ry hy) (Nat.min_le_left _ _)
  rcases hcase with ⟨_, _, hl, _⟩ | ⟨b, cap, hm, hval, hcap, hlc⟩
  · omega
  · obtain ⟨_, _, c', e', C', k1, k2, k3, k4, k5, _⟩ := row_block I hT hm
    have hbd : off * ti.size + vs.length ≤ c'.size := by
      rw [hvl, k2, ← Nat.add_mul]
      exact Nat.mul_le_mul_right _ (by omega)
    have hrun : (Builtin.copy_ #[t, t] o.type #[a.eval x, a.eval y]).run P w = .ok (.int .i64 (min m len : Nat)) (w.setRow b (splice c' (off * ti.size) vs)) := by
      have hst := run_stores (P := P) k1 hbd h1
      rw [hyv] at hf ⊢
      rw [hval]
      have e1 : Nat.min m len = min m len := rfl
      simp [Builtin.copy_, run_underlying hd, Builtin.lenOf, run_sizeOf hi, e1, hf, hst, goInt]
    refine ⟨_, _, _, ok, mu, exec_copy hop hcal ea et hrun, .inl rfl, Next.put I hT hm k1 hvl (by omega) h1 hgl hr, .int _ _ _⟩

/-- Zeros into a part of a row of one's own. -/
theorem Does.clr {sz id ver off len n cv : Nat} {zs : List Value} {X : Opd} {f : Nat → List AV} (hx : oval env X = .row sz id ver off len) (hT : tget T id = .row sz n cv f) (hver : Nat.beq ver cv = true) (h0 : 0 < len) :
    Does P (.clr sz zs X) env T .top (tset T id (.row sz n cv (fput off len (fun _ => zs.map ofV) f))) := by
  refine ⟨fun {G w ok mu a o} hc I E => ?_⟩
  obtain ⟨c, t, e, ti, z, x, hop, hcal, ea, et, hd, hi, hz, hzs, hs, rfl, rfl, hpl, hxo⟩ := cOp_clr hc
  have rx := opd_rv E hxo
  rw [hx] at rx
  obtain ⟨_, hle, hcase⟩ := row_addr I rx hT (Nat.eq_of_beq_eq_true hver)
  rcases hcase with ⟨_, _, hl, _⟩ | ⟨b, cap, hm, hval, hcap, hlc⟩
  · omega
  · obtain ⟨_, _, c', e', C', k1, k2, k3, k4, k5, _⟩ := row_block I hT hm
    have hvl : (Builtin.zeroCells z.cells len).toList.length = len * ti.size := by simp [size_zeroCells, hzs]
    have h1 := zeroCells_one (plain_ones hpl) (by omega) len
    have hbd : off * ti.size + (Builtin.zeroCells z.cells len).toList.length ≤ c'.size := by
      rw [hvl, k2, ← Nat.add_mul]
      exact Nat.mul_le_mul_right _ (by omega)
    have hrun : (Builtin.clear_ #[t] o.type #[a.eval x]).run P w = .ok (.tuple #[]) (w.setRow b (splice c' (off * ti.size) (Builtin.zeroCells z.cells len).toList)) := by
      have hst := run_stores (P := P) k1 hbd h1
      rw [hval]
      obtain ⟨len', rfl⟩ : ∃ q, len = q + 1 := ⟨len - 1, by omega⟩
      simp [Builtin.clear_, run_underlying hd, run_zeroValue hi hz, hst]
    refine ⟨_, _, _, ok, mu, exec_clear hop hcal ea et hrun, .inl rfl, Next.put I hT hm k1 hvl (by omega) h1 (fun i _ => by simp [hzs]) (fun i j hi' hj => ?_), .top _ _⟩
    have hlt : i * ti.size + j < len * ti.size := by
      have := Nat.mul_le_mul_right ti.size (show i + 1 ≤ len by omega)
      rw [Nat.add_mul, Nat.one_mul] at this
      omega
    have e1 : (Builtin.zeroCells z.cells len).toList.getD (i * ti.size + j) undef = z.cells.toList.getD j undef := by
      have hmod : (i * ti.size + j) % ti.size = j := by rw [Nat.mul_comm, Nat.mul_add_mod, Nat.mod_eq_of_lt hj]
      simp [Builtin.zeroCells, hzs, List.getD_eq_getElem?_getD, hlt, hmod, hj]
    rw [e1, lget_map _ _ _ (by simp; omega)]
    exact ofV_rv _ _

/-- Nothing to clear. -/
theorem Does.clrE {sz : Nat} {sz' : Nat} {zs : List Value} {X : Opd} {f : Nat → List AV} (hx : oval env X = .list sz' 0 f) : Does P (.clr sz zs X) env T .top T := by
  refine ⟨fun {G w ok mu a o} hc I E => ?_⟩
  obtain ⟨c, t, e, ti, z, x, hop, hcal, ea, et, hd, hi, hz, hzs, hs, rfl, rfl, hpl, hxo⟩ := cOp_clr hc
  have rx := opd_rv E hxo
  rw [hx] at rx
  obtain ⟨A, cap, cv, hval, _⟩ := rv_list rx
  refine Did.pure (x := .tuple #[]) I (exec_clear hop hcal ea et ?_) (.top _ _)
  rw [hval]
  cases A <;> simp [Builtin.clear_, run_underlying hd]

/-! ### Appends -/

/-- Append to a part of a row of one's own, where the row goes on. -/
theorem Does.appIn {sz bytes id ver i m n cv : Nat} {X Y : Opd} {f g : Nat → List AV} (hx : oval env X = .row sz id ver 0 i) (hT : tget T id = .row sz n cv f) (hver : Nat.beq ver cv = true) (hy : srcS T sz (oval env Y) = some (sz, m, g)) (hm : i + m ≤ n) :
    Does P (.app sz bytes X Y) env T (.row sz id ver 0 (i + m)) (tset T id (.row sz n cv (fput i m g f))) := by
  refine ⟨fun {G w ok mu a o} hc I E => ?_⟩
  obtain ⟨c, t, e, ti, z, x, y, hop, hcal, ea, et, hd, hi, hz, hzs, h0, rfl, rfl, hxo, hyo, hz1⟩ := cOp_app hc
  have rx := opd_rv E hxo
  have ry := opd_rv E hyo
  rw [hx] at rx
  have hv := Nat.eq_of_beq_eq_true hver
  obtain ⟨q1, q2, _⟩ := rv_row rx
  obtain ⟨_, hle, hcase⟩ := row_addr I rx hT hv
  obtain ⟨A, C, news, hyv, hln, hA, h1, hgl, hr⟩ := srcS_src I h0 ry hy
  rcases hcase with ⟨hmu, _, rfl, rfl, A0, hval⟩ | ⟨b, cap, hmu, hval, hcap, hlc⟩
  · obtain rfl : m = 0 := by omega
    refine ⟨_, .slice A0 0 0, w, ok, mu, exec_app hop hcal ea et (by rw [hval, hyv]; exact run_app_none hd hi A0 A C), .inl rfl, ?_, ?_⟩
    · have hw : ∀ b, ok b → ok b ∧ w.heap[b]? = w.heap[b]? := fun b hb => ⟨hb, rfl⟩
      have hC : Compat w w mu mu T (tset T id (.row ti.size 0 cv (fput 0 0 g f))) := by
        intro j hj
        by_cases hne : j = id
        · subst hne
          rw [tget_tset_same]
          exact ⟨fun h => (by cases h), fun cells h => (by cases h), fun sz2 n2 cv2 f2 h => by cases h; exact ⟨_, _, _, hT, Nat.le_refl _, fun _ => ⟨Nat.le_refl _, rfl, fun _ _ => rfl⟩⟩⟩
        · rw [tget_tset_ne _ _ _ _ hne]
          exact ⟨hj, fun cells e => ⟨⟨cells, e⟩, rfl⟩, fun sz n cv f e => ⟨n, cv, f, e, Nat.le_refl _, fun _ => ⟨Nat.le_refl _, rfl, fun b hb => rfl⟩⟩⟩
      have hlive : ∀ j, (tget (tset T id (.row ti.size 0 cv (fput 0 0 g f))) j).live → (tget T j).live := fun j hl => by
        by_cases hne : j = id
        · subst hne; rw [hT]; trivial
        · rwa [tget_tset_ne _ _ _ _ hne] at hl
      refine ⟨rfl, rfl, rfl, Nat.le_refl _, fun b hb _ => rfl, hC, fun _ h => h, fun b hb => ⟨(I.okB b hb).1, .inl hb⟩, fun j b hi' hl => ⟨I.sep j b hi' (hlive j hl), .inl ⟨j, hi', hlive j hl⟩⟩, fun j k b hj hk hlj hlk => I.inj j k b hj hk (hlive j hlj) (hlive k hlk), fun j => ?_⟩
      by_cases hne : j = id
      · subst hne
        rw [tget_tset_same]
        refine ⟨h0, fun i hi => absurd hi (Nat.not_lt_zero _), ?_⟩
        rw [hmu]
      · rw [tget_tset_ne _ _ _ _ hne]
        exact (I.obs j).mono hw hC rfl fun b hb hl' => rfl
    · refine .row _ _ _ _ _ _ ⟨_, _, rfl⟩ ⟨(by rw [tget_tset_same]; exact fun h => (by cases h)), fun cells e => (by rw [tget_tset_same] at e; cases e), fun sz2 n2 cv2 f2 e => ?_⟩
      rw [tget_tset_same] at e
      cases e
      refine ⟨Nat.le_of_eq hv, fun _ => ⟨rfl, by omega, ?_⟩⟩
      unfold SliceAt
      rw [hmu]
      exact ⟨rfl, rfl, A0, rfl⟩
  · obtain ⟨_, _, c', e', C', k1, k2, k3, k4, k5, _⟩ := row_block I hT hmu
    have hCc : cap = C' := by
      have := Nat.eq_of_mul_eq_mul_right h0 (show (0 + cap) * ti.size = C' * ti.size by rw [← k5]; simp_all)
      omega
    have hbd : i * ti.size + news.length ≤ c'.size := by
      rw [hln, k2, ← Nat.add_mul]
      exact Nat.mul_le_mul_right _ (by omega)
    rw [Nat.zero_mul] at hval
    have hrun := run_app_in (P := P) (w := w) (ty := o.type) hd hi b i cap c' k1 A m C news hln hA h1 (by omega) hbd
    refine ⟨_, _, _, ok, mu, exec_app hop hcal ea et (by rw [hval, hyv]; exact hrun), .inl rfl, Next.put (o := i) I hT hmu k1 hln hm h1 hgl hr, ?_⟩
    refine .row _ _ _ _ _ _ ⟨_, _, rfl⟩ ⟨(by rw [tget_tset_same]; exact fun h => (by cases h)), fun cells e => (by rw [tget_tset_same] at e; cases e), fun sz2 n2 cv2 f2 e => ?_⟩
    rw [tget_tset_same] at e
    cases e
    refine ⟨Nat.le_of_eq hv, fun _ => ⟨rfl, by omega, ?_⟩⟩
    unfold SliceAt
    rw [hmu]
    refine ⟨cap, by simp, ?_, by omega⟩
    have : capOf (w.setRow b (splice c' (i * ti.size) news)) b = capOf w b := capOf_setRow k1 (splice_size _ _ _ hbd)
    show (0 + cap) * ti.size = capOf (w.setRow b (splice c' (i * ti.size) news)) b
    rw [this]
    exact hcap

/-- What the capacity of a row is. -/
theorem cap_of {G : Ctx} {w : World} {ok : Nat → Prop} {mu : Nat → Option Nat} {T : Tab} (I : Inv G ok mu T w) {v : Value} {sz id ver off len n cv cid C : Nat} {f : Nat → List AV} (h : RV w ok mu T false v (.row sz id ver off len)) (hT : tget T id = .row sz n cv f) (hver : ver = cv) (hC : tget T cid = .cap id cv C) :
    ∃ A cap, v = .slice A len cap ∧ off + cap = C := by
  have ho := I.obs cid
  rw [hC] at ho
  obtain ⟨_, ho2⟩ := ho
  obtain ⟨_, ho3⟩ := ho2 sz n cv f hT
  have ho4 := ho3 rfl
  obtain ⟨_, hle, hcase⟩ := row_addr I h hT hver
  rcases hcase with ⟨hmu, rfl, rfl, rfl, A0, hval⟩ | ⟨b, cap, hmu, hval, hcap, hlc⟩
  · rw [hmu] at ho4
    have ho4 : C = 0 := ho4
    exact ⟨_, _, hval, by omega⟩
  · rw [hmu] at ho4
    have ho4 : capOf w b = C * sz := ho4
    obtain ⟨h0, _⟩ := row_block I hT hmu
    exact ⟨_, _, hval, Nat.eq_of_mul_eq_mul_right h0 (by rw [hcap, ho4])⟩

theorem Does.cap {sz id ver len n cv cid C : Nat} {X : Opd} {f : Nat → List AV} (hx : oval env X = .row sz id ver 0 len) (hT : tget T id = .row sz n cv f) (hver : Nat.beq ver cv = true) (hC : tget T cid = .cap id cv C) :
    Does P (.cap X) env T (.int .i64 (C : Nat)) T := by
  refine ⟨fun {G w ok mu a o} hc I E => ?_⟩
  obtain ⟨c, t, e, x, hop, hcal, ea, et, hd, hxo⟩ := cOp_cap hc
  have rx := opd_rv E hxo
  rw [hx] at rx
  obtain ⟨A, cap, hval, hcap⟩ := cap_of I rx hT (Nat.eq_of_beq_eq_true hver) hC
  refine Did.pure (x := .int .i64 (C : Nat)) I (exec_cap hop hcal ea et ?_) (.int _ _ _)
  rw [hval]
  have : cap = C := by omega
  subst this
  simp [Builtin.cap_, run_underlying hd, goInt]

/-- Into a new block, as there is no room: a row of its own. -/
theorem did_appNew {G : Ctx} {w : World} {ok : Nat → Prop} {mu : Nat → Option Nat} {a : Act} {o : Oper} (I : Inv G ok mu T w) {nid sz m i : Nat} {f g : Nat → List AV} {e : TypeId} {olds news rest : List Value} {cap : Nat} (hf : tget T nid = .fresh) (h0 : 0 < sz) (hlo : olds.length = i * sz) (hln : news.length = m * sz) (ho1 : ∀ u ∈ olds, u.oneCell' = true) (h1 : ∀ u ∈ news, u.oneCell' = true) (hr1 : ∀ u ∈ rest, u.oneCell' = true)
    (hfl : ∀ j, j < i → (f j).length = sz) (hgl : ∀ j, j < m → (g j).length = sz) (hof : ∀ j q, j < i → q < sz → RV w ok mu T true (olds.getD (j * sz + q) undef) (lget (f j) q)) (hng : ∀ j q, j < m → q < sz → RV w ok mu T true (news.getD (j * sz + q) undef) (lget (g j) q))
    (k1 : i + m ≤ cap) (k2 : cap ≤ maxLen) (k3 : (olds ++ news ++ rest).length = cap * sz) (hrun : (execOp a.eval o).run P w = .ok (.value (.slice (some ⟨w.heap.size, 0, none⟩) (i + m) cap)) (w.drew.alloc (.cells (olds ++ news ++ rest).toArray e))) :
    DidT P o a w ok mu T (.row sz nid 0 0 (i + m)) (tset T nid (.row sz (i + m) 0 (fapp i f g))) := by
  have N1 : Go.Proofs.Ytbpcjahjbkiofaa.AV.Next ok ok mu mu T T w w.drew := Next.same I rfl rfl rfl rfl
  have I1 := I.next N1
  have hsz : (olds ++ news ++ rest).toArray.size = cap * sz := by simpa using k3
  have N2 := Next.alloc I1 hf (olds ++ news ++ rest).toArray e (.row sz (i + m) 0 (fapp i f g)) trivial fun w' mu' T' ew em eT hrv' hmu hheap => by
    refine ⟨h0, fun j hj => ?_, ?_⟩
    · by_cases h : j < i
      · rw [fapp_lt h]; exact hfl j h
      · rw [fapp_ge (by omega)]; exact hgl _ (by omega)
    rw [hmu]
    refine ⟨_, e, cap, hheap, hsz, k1, k2, fun j q hj hq => ?_, fun j q hj hq => ?_⟩
    · exact one_all (l := olds ++ news ++ rest) (fun u hu => (List.mem_append.1 hu).elim (fun h => (List.mem_append.1 h).elim (ho1 u) (h1 u)) (hr1 u)) k3 j q hj hq
    · have := cells_cat (rest := rest) (f := f) (g := g) hlo hln (fun v x => RV w ok mu T true v x) hof hng j q hj hq
      exact hrv' _ _ _ (N1.rv I this)
  refine ⟨_, _, _, ok, _, hrun, .inl rfl, N1.trans I N2, ?_⟩
  refine rv_row_new (muSet_same _ _ _) (tget_tset_same _ _ _) ?_ k1
  unfold capOf
  rw [show (w.drew.alloc (.cells (olds ++ news ++ rest).toArray e)).heap[w.heap.size]? = some (.cells (olds ++ news ++ rest).toArray e (0, 0)) from heap_alloc_new w.drew _]
  exact hsz.symm

/-- The first cells of a row of one's own. -/
theorem row_first {G : Ctx} {w : World} {ok : Nat → Prop} {mu : Nat → Option Nat} {T : Tab} (I : Inv G ok mu T w) {v : Value} {sz id ver i n cv : Nat} {f : Nat → List AV} (h : RV w ok mu T false v (.row sz id ver 0 i)) (hT : tget T id = .row sz n cv f) (hver : ver = cv) :
    0 < sz ∧ Src w ok mu T v sz i f := by
  have hs := srcV_src I h (show srcV T (.row sz id ver 0 i) = some (sz, i, fun j => f (0 + j)) by
    simp only [srcV, hT, hver]
    simp)
  refine ⟨hs.2, ?_⟩
  have : (fun j => f (0 + j)) = f := by funext j; rw [Nat.zero_add]
  rw [← this]
  exact hs.1

theorem Does.appNew {nid sz bytes id ver i m n cv cid C : Nat} {X Y : Opd} {f g : Nat → List AV} (hf : tget T nid = .fresh) (hx : oval env X = .row sz id ver 0 i) (hT : tget T id = .row sz n cv f) (hver : Nat.beq ver cv = true) (hC : tget T cid = .cap id cv C) (hy : srcS T sz (oval env Y) = some (sz, m, g)) (hlt : C < i + m) (hm : i + m ≤ maxLen) (hb : (i + m) * bytes ≤ 140737488355328) :
    Does P (.app sz bytes X Y) env T (.row sz nid 0 0 (i + m)) (tset T nid (.row sz (i + m) 0 (fapp i f g))) := by
  refine ⟨fun {G w ok mu a o} hc I E => ?_⟩
  obtain ⟨c, t, e, ti, z, x, y, hop, hcal, ea, et, hd, hi, hz, hzs, h0, rfl, rfl, hxo, hyo, hz1⟩ := cOp_app hc
  have rx := opd_rv E hxo
  have ry := opd_rv E hyo
  rw [hx] at rx
  obtain ⟨A0, cap0, hval0, hcap0⟩ := cap_of I rx hT (Nat.eq_of_beq_eq_true hver) hC
  obtain ⟨A, Cc, news, hyv, hln, hA, h1, hgl, hr⟩ := srcS_src I h0 ry hy
  obtain ⟨_, A2, C2, olds, hval, hlo, hB, ho1, hfl, hof⟩ := row_first I rx hT (Nat.eq_of_beq_eq_true hver)
  rw [hval0] at hval
  cases hval
  obtain ⟨cap, rest, k1, k2, ⟨k3, k3r⟩, k4⟩ := run_app_new (P := P) (w := w) (ty := o.type) hd hi hz hzs hz1 h0 A0 i cap0 olds hlo hB A m Cc news hln hA (by omega) hm hb
  exact did_appNew I hf h0 hlo hln ho1 h1 k3r hfl hgl hof hr k1 k2 k3 (exec_app hop hcal ea et (by rw [hval0, hyv]; exact k4))

/-- Zeros behind a part of a row of one's own: in a new block, as there is no room. -/
theorem Does.appzNew {nid sz bytes id ver i m n cv cid C : Nat} {zs : List Value} {X Y : Opd} {f : Nat → List AV} {ky : IntKind} {y : Int} (hf : tget T nid = .fresh) (hx : oval env X = .row sz id ver 0 i) (hT : tget T id = .row sz n cv f) (hver : Nat.beq ver cv = true) (hC : tget T cid = .cap id cv C) (hy : oval env Y = .int ky y) (ey : y = (m : Int)) (hm0 : 0 < m) (hlt : C < i + m) (hm : i + m ≤ maxLen) (hb : (i + m) * bytes ≤ 140737488355328) :
    Does P (.appz sz bytes zs X Y) env T (.row sz nid 0 0 (i + m)) (tset T nid (.row sz (i + m) 0 (fapp i f (fun _ => zs.map ofV)))) := by
  refine ⟨fun {G w ok mu a o} hc I E => ?_⟩
  obtain ⟨c, t, u, e, kk, ti, z, x, yo, hop, hcal, ea, et, hd, hdu, hi, hz, hzs, h0, rfl, rfl, rfl, hpl, hxo, hyo⟩ := cOp_appz hc
  subst ey
  have rx := opd_rv E hxo
  have ry := opd_rv E hyo
  rw [hx] at rx
  rw [hy] at ry
  have hyv := rv_int ry
  obtain ⟨A0, cap0, hval0, hcap0⟩ := cap_of I rx hT (Nat.eq_of_beq_eq_true hver) hC
  obtain ⟨_, A2, C2, olds, hval, hlo, hB, ho1, hfl, hof⟩ := row_first I rx hT (Nat.eq_of_beq_eq_true hver)
  rw [hval0] at hval
  cases hval
  have hold : (Builtin.firstCells ti.size i (.slice A0 i cap0)).run P w.drew = .ok olds.toArray w.drew := run_first hlo (by simpa using hB)
  have hfit := growslice_fits (show cap0 < i + m by omega) hb
  have hle48 : m * ti.bytes ≤ 281474976710656 := by
    have := Nat.mul_le_mul_right ti.bytes (show m ≤ i + m by omega)
    omega
  have hrun := Go.Lib.run_append_grow_zeros (P := P) w t u o.type e ti z ky kk hd hdu hi hz A0 i cap0 olds hold m hm0 h0 (by omega) (by simp only [maxLen] at hm; omega) hle48 (by omega)
  have hge := grownCap_ge w (i + m) cap0 e
  have hcm := grownCap_le_maxLen w (i + m) cap0 e hm
  have hzl : ∀ q, (Builtin.zeroCells z.cells q).toList.length = q * ti.size := fun q => by simp [size_zeroCells, hzs]
  refine did_appNew (e := e) (olds := olds) (news := (Builtin.zeroCells z.cells m).toList) (rest := (Builtin.zeroCells z.cells (grownCap w (i + m) cap0 e - (i + m))).toList) I hf h0 hlo (hzl m) ho1 (zeroCells_one (plain_ones hpl) (by omega) _) (zeroCells_one (plain_ones hpl) (by omega) _) hfl (fun j _ => by simp [hzs]) hof (fun j q hj hq => ?_) hge hcm ?_ ?_
  · have hlt : j * ti.size + q < m * ti.size := by
      have := Nat.mul_le_mul_right ti.size (show j + 1 ≤ m by omega)
      rw [Nat.add_mul, Nat.one_mul] at this
      omega
    have e1 : (Builtin.zeroCells z.cells m).toList.getD (j * ti.size + q) undef = z.cells.toList.getD q undef := by
      have hmod : (j * ti.size + q) % ti.size = q := by rw [Nat.mul_comm, Nat.mul_add_mod, Nat.mod_eq_of_lt hq]
      simp [Builtin.zeroCells, hzs, List.getD_eq_getElem?_getD, hlt, hmod, hq]
    rw [e1, lget_map _ _ _ (by simp; omega)]
    exact ofV_rv _ _
  · rw [List.length_append, List.length_append, hlo, hzl, hzl, ← Nat.add_mul, ← Nat.add_mul]
    congr 1
    omega
  · refine exec_app2 hop hcal ea et ?_
    rw [hval0, hyv]
    show (Builtin.append_ #[t, u] o.type #[.slice A0 i cap0, .int ky m]).run P w = _
    rw [hrun]
    congr 3
    simp

/-- Do a list, and a part of a row of one's own, share memory? No. -/
theorem run_ovl {w : World} {e : TypeId} {tS : TypeId} {ti : TypeInfo} (ht : P.underlying tS = some (.slice e)) (hi : P.info? e = some ti) {rt : Array TypeId} {a b : Nat} {oa ob la ca lb cb : Nat} (hne : a ≠ b) {xa xb : Array Value} {ea eb : TypeId} {fa : Nat × Nat} (ha : w.heap[a]? = some (.cells xa ea fa)) (hb : w.heap[b]? = some (.cells xb eb (0, 0))) (hxb : xb.size ≠ 0) (hxa : xa.size ≠ 0) :
    (Extern.SlicesOverlaps.overlaps #[tS, tS] rt #[.slice (some ⟨a, oa, none⟩) la ca, .slice (some ⟨b, ob, none⟩) lb cb]).run P w = .ok (.bool false) w ∧
    (Extern.SlicesOverlaps.overlaps #[tS, tS] rt #[.slice (some ⟨b, ob, none⟩) lb cb, .slice (some ⟨a, oa, none⟩) la ca]).run P w = .ok (.bool false) w := by
  have hnb : (a != b) = true := by simpa using hne
  have hnb' : (a == b) = false := by simpa using hne
  have hnc : (b != a) = true := by simpa using fun h => hne h.symm
  have hnc' : (b == a) = false := by simpa using fun h => hne h.symm
  have sa : w.shape? a = some (ea, xa.size) := by simp [World.shape?, ha]
  have sb : w.shape? b = some (eb, xb.size) := by simp [World.shape?, hb]
  have fb : ∀ q, w.frozen? ⟨b, q, none⟩ = false := fun q => by simp [World.frozen?, hb]
  obtain ⟨na, hna⟩ : ∃ q, xa.size = q + 1 := ⟨xa.size - 1, by omega⟩
  obtain ⟨nb, hnbz⟩ : ∃ q, xb.size = q + 1 := ⟨xb.size - 1, by omega⟩
  rw [hna] at sa
  rw [hnbz] at sb
  constructor
  · change Sem.run P (α := Value) (do
      let some t := (#[tS, tS] : Array TypeId)[0]? | stuck "slices.overlaps: no parameter types"
      let .slice elem ← underlying t | stuck "slices.overlaps: slice type expected"
      let size ← sizeOf elem
      match (some ⟨a, oa, none⟩ : Option Addr), (some ⟨b, ob, none⟩ : Option Addr) with
      | some a, some b =>
        if la = 0 ∨ lb = 0 ∨ size = 0 then pure (Value.bool false)
        else if a.block != b.block && (← frozen a) && (← frozen b) then unsupported .addressObserved
        else do
          if a.block != b.block then do
            noView a; noView b
            if ← mayBeOne a b then return Value.bool ((← choose (.extern "sameAddr.stringBytes" 2)) == 1)
          pure (Value.bool (a.block == b.block && a.off < b.off + lb * size && b.off < a.off + la * size))
      | _, _ => pure (Value.bool false)) w = _
    by_cases h0 : la = 0 ∨ lb = 0 ∨ ti.size = 0
    · simp [run_underlying ht, run_sizeOf hi, h0]
    · cases hfa : w.frozen? ⟨a, oa, none⟩ <;> cases hfe : w.frozen? ⟨a, na + 1, none⟩ <;> simp [run_underlying ht, run_sizeOf hi, h0, hnb, hnb', frozen, noView, Go.viewAt, mayBeOne, stringish, shape, Sem.run, sa, sb, hfa, hfe, fb]
  · change Sem.run P (α := Value) (do
      let some t := (#[tS, tS] : Array TypeId)[0]? | stuck "slices.overlaps: no parameter types"
      let .slice elem ← underlying t | stuck "slices.overlaps: slice type expected"
      let size ← sizeOf elem
      match (some ⟨b, ob, none⟩ : Option Addr), (some ⟨a, oa, none⟩ : Option Addr) with
      | some a, some b =>
        if lb = 0 ∨ la = 0 ∨ size = 0 then pure (Value.bool false)
        else if a.block != b.block && (← frozen a) && (← frozen b) then unsupported .addressObserved
        else do
          if a.block != b.block then do
            noView a; noView b
            if ← mayBeOne a b then return Value.bool ((← choose (.extern "sameAddr.stringBytes" 2)) == 1)
          pure (Value.bool (a.block == b.block && a.off < b.off + la * size && b.off < a.off + lb * size))
      | _, _ => pure (Value.bool false)) w = _
    by_cases h0 : lb = 0 ∨ la = 0 ∨ ti.size = 0
    · simp [run_underlying ht, run_sizeOf hi, h0]
    · cases hfa : w.frozen? ⟨a, oa, none⟩ <;> cases hfe : w.frozen? ⟨a, na + 1, none⟩ <;> simp [run_underlying ht, run_sizeOf hi, h0, hnc, hnc', frozen, noView, Go.viewAt, mayBeOne, stringish, shape, Sem.run, sa, sb, hfa, hfe, fb]

/-- What is asked of slices.overlaps at a program. -/
structure OvlOK (P : Program) (f : FuncId) (sz : Nat) : Prop where
  out : ∃ fn tS e ti rt, P.funcs[f]? = some fn ∧ (fn.name == "runtime.NumGoroutine") = false ∧ fn.body.isNone = true ∧ Extern.findNext fn = none ∧ Extern.find fn = some (Extern.SlicesOverlaps.overlaps #[tS, tS] rt) ∧ P.underlying tS = some (.slice e) ∧ P.info? e = some ti ∧ ti.size = sz

theorem exec_ovl {w : World} {o : Oper} {a : Act} {f : FuncId} {c : Call} {x y : Operand} {fn : Func} {tS : TypeId} {rt : Array TypeId} {b : Bool} (hop : o.op = .call c) (hcal : c.callee = .value (.func f)) (ea : c.args = #[x, y])
    (hf : P.funcs[f]? = some fn) (hn : (fn.name == "runtime.NumGoroutine") = false) (hb : fn.body.isNone = true) (hx : Extern.findNext fn = none) (he : Extern.find fn = some (Extern.SlicesOverlaps.overlaps #[tS, tS] rt))
    (h : (Extern.SlicesOverlaps.overlaps #[tS, tS] rt #[a.eval x, a.eval y]).run P w = .ok (.bool b) w) : (execOp a.eval o).run P w = .ok (.value (.bool b)) w := by
  have h' : (Extern.SlicesOverlaps.overlaps #[tS, tS] rt (c.args.map a.eval)).run P w = .ok (.bool b) w := by rw [ea]; simpa using h
  have := run_callFunc_extern hf hn hb hx he (c.args.map a.eval) w
  rw [h'] at this
  simp [execOp, hop, resolve, hcal, Act.eval, Deferred.ofValue, invoke, this]

theorem Does.ovlLR {f : FuncId} {sz id ver off len n cv m : Nat} {X Y : Opd} {g g2 : Nat → List AV} (hP : OvlOK P f sz) (hx : oval env X = .list sz m g) (hy : oval env Y = .row sz id ver off len) (hT : tget T id = .row sz n cv g2) (hver : Nat.beq ver cv = true) :
    Does P (.ovl f X Y) env T .ff T ∧ Does P (.ovl f Y X) env T .ff T := by
  have key : ∀ {G : Ctx} {w : World} {ok : Nat → Prop} {mu : Nat → Option Nat} {a : Act} (x y : Operand) (tS e : TypeId) (ti : TypeInfo) (rt : Array TypeId), P.underlying tS = some (.slice e) → P.info? e = some ti → ti.size = sz → Inv G ok mu T w → EnvOK w ok mu T env a.tmps → opd x = some X → opd y = some Y →
      (Extern.SlicesOverlaps.overlaps #[tS, tS] rt #[a.eval x, a.eval y]).run P w = .ok (.bool false) w ∧ (Extern.SlicesOverlaps.overlaps #[tS, tS] rt #[a.eval y, a.eval x]).run P w = .ok (.bool false) w := by
    intro G w ok mu a x y tS e ti rt ht hi hs I E hxo hyo
    have rx := opd_rv E hxo
    have ry := opd_rv E hyo
    rw [hx] at rx
    rw [hy] at ry
    obtain ⟨A, cap, cvv, hval, hn, hcap, hsz, ha, _, _, _⟩ := rv_list rx
    obtain ⟨_, hle, hcase⟩ := row_addr I ry hT (Nat.eq_of_beq_eq_true hver)
    have none1 : ∀ (A B : Option Addr) (la ca lb cb : Nat), la = 0 ∨ lb = 0 → (Extern.SlicesOverlaps.overlaps #[tS, tS] rt #[.slice A la ca, .slice B lb cb]).run P w = .ok (.bool false) w := by
      intro A B la ca lb cb h
      change Sem.run P (α := Value) (do
        let some t := (#[tS, tS] : Array TypeId)[0]? | stuck "slices.overlaps: no parameter types"
        let .slice elem ← underlying t | stuck "slices.overlaps: slice type expected"
        let size ← sizeOf elem
        match A, B with
        | some a, some b =>
          if la = 0 ∨ lb = 0 ∨ size = 0 then pure (Value.bool false)
          else if a.block != b.block && (← frozen a) && (← frozen b) then unsupported .addressObserved
          else do
            if a.block != b.block then do
              noView a; noView b
              if ← mayBeOne a b then return Value.bool ((← choose (.extern "sameAddr.stringBytes" 2)) == 1)
            pure (Value.bool (a.block == b.block && a.off < b.off + lb * size && b.off < a.off + la * size))
        | _, _ => pure (Value.bool false)) w = _
      have h3 : la = 0 ∨ lb = 0 ∨ ti.size = 0 := by omega
      cases A <;> cases B <;> simp [run_underlying ht, run_sizeOf hi, h3]
    by_cases hm0 : m = 0
    · rcases hcase with ⟨_, _, rfl, _, A0, hv⟩ | ⟨b, cap', hmu, hv, _, _⟩
      · rw [hval, hv]; exact ⟨none1 _ _ _ _ _ _ (.inl hm0), none1 _ _ _ _ _ _ (.inr hm0)⟩
      · rw [hval, hv]; exact ⟨none1 _ _ _ _ _ _ (.inl hm0), none1 _ _ _ _ _ _ (.inr hm0)⟩
    by_cases hl0 : len = 0
    · rcases hcase with ⟨_, _, rfl, _, A0, hv⟩ | ⟨b, cap', hmu, hv, _, _⟩
      · rw [hval, hv]; exact ⟨none1 _ _ _ _ _ _ (.inr rfl), none1 _ _ _ _ _ _ (.inl rfl)⟩
      · rw [hval, hv]; exact ⟨none1 _ _ _ _ _ _ (.inr hl0), none1 _ _ _ _ _ _ (.inl hl0)⟩
    rcases hcase with ⟨_, _, h, _⟩ | ⟨b, cap', hmu, hv, hcp, hlc⟩
    · omega
    obtain ⟨a', off', rfl, hok, hcell⟩ := ha (by omega)
    obtain ⟨h0, _, c', e', C', k1, k2, k3, k4, k5, _⟩ := row_block I hT hmu
    have hne : a' ≠ b := fun h => I.sep id b hmu (by rw [hT]; trivial) (h ▸ hok)
    have hc0 := hcell 0 0 (by omega) hsz
    obtain ⟨xa, ea, fa, hxa, hsa⟩ : ∃ xa ea fa, w.heap[a']? = some (.cells xa ea fa) ∧ xa.size ≠ 0 := by
      unfold World.cell? at hc0
      cases hh : w.heap[a']? with
      | none => simp [hh] at hc0
      | some ob =>
        cases ob with
        | cells xa ea fa =>
          refine ⟨xa, ea, fa, rfl, fun h => ?_⟩
          simp [hh] at hc0
          have : xa = #[] := Array.eq_empty_of_size_eq_zero h
          subst this
          simp at hc0
        | _ => simp [hh] at hc0
    rw [hval, hv]
    refine run_ovl ht hi hne hxa k1 ?_ hsa
    rw [k2]
    exact Nat.mul_ne_zero (by omega) (by omega)
  obtain ⟨fn, tS, e, ti, rt, p1, p2, p3, p4, p5, p6, p7, p8⟩ := hP.out
  constructor
  · refine ⟨fun {G w ok mu a o} hc I E => ?_⟩
    obtain ⟨c, x, y, hop, hcal, ea, hxo, hyo⟩ := cOp_ovl hc
    exact Did.pure I (exec_ovl hop hcal ea p1 p2 p3 p4 p5 (key x y tS e ti rt p6 p7 p8 I E hxo hyo).1) (.ff _)
  · refine ⟨fun {G w ok mu a o} hc I E => ?_⟩
    obtain ⟨c, x, y, hop, hcal, ea, hxo, hyo⟩ := cOp_ovl hc
    exact Did.pure I (exec_ovl hop hcal ea p1 p2 p3 p4 p5 (key y x tS e ti rt p6 p7 p8 I E hyo hxo).2) (.ff _)
end
end Go.Proofs.Ytbpcjahjbkiofaa.AV

set_option linter.unusedVariables false
set_option linter.unusedSimpArgs false
namespace Go.Proofs.Ytbpcjahjbkiofaa.AV
open Go

/-! ### Other numbers -/
def mS (s : List Nat) : AV → AV
  | .ptr id ver e o => .ptr (nthN s id) ver e o
  | .row sz id ver off len => .row sz (nthN s id) ver off len
  | x => x
def mSL (s : List Nat) : List AV → List AV
  | [] => []
  | x :: r => mS s x :: mSL s r
def m1 (s : List Nat) : AV → AV
  | .agg l => .agg (mSL s l)
  | .func f l => .func f (mSL s l)
  | x => mS s x
def m1L (s : List Nat) : List AV → List AV
  | [] => []
  | x :: r => m1 s x :: m1L s r
def mV (s : List Nat) : AV → AV
  | .tuple l => .tuple (m1L s l)
  | x => m1 s x
def mO (s : List Nat) : Ob → Ob
  | .box l => .box (m1L s l)
  | .cap id v C => .cap (nthN s id) v C
  | o => o
def mOs (s : List Nat) : Tab → Tab
  | [] => []
  | o :: r => mO s o :: mOs s r

def kS (k : Nat) : AV → Bool
  | .ptr id _ _ _ => Nat.blt id k
  | .row _ id _ _ _ => Nat.blt id k
  | x => noRef x
def kSL (k : Nat) : List AV → Bool
  | [] => true
  | x :: r => kS k x && kSL k r
def k1 (k : Nat) : AV → Bool
  | .agg l => kSL k l
  | .func _ l => kSL k l
  | x => kS k x
def k1L (k : Nat) : List AV → Bool
  | [] => true
  | x :: r => k1 k x && k1L k r
def kV (k : Nat) : AV → Bool
  | .tuple l => k1L k l
  | x => k1 k x
def kO (k : Nat) : Ob → Bool
  | .box l => k1L k l
  | .cap id _ _ => Nat.blt id k
  | _ => true
def kOs (k : Nat) : Tab → Bool
  | [] => true
  | o :: r => kO k o && kOs k r

theorem mSL_length (s : List Nat) : ∀ l : List AV, (mSL s l).length = l.length
  | [] => rfl
  | x :: r => by show (mSL s r).length + 1 = _; rw [mSL_length s r]; rfl
theorem m1L_length (s : List Nat) : ∀ l : List AV, (m1L s l).length = l.length
  | [] => rfl
  | x :: r => by show (m1L s r).length + 1 = _; rw [m1L_length s r]; rfl
theorem mOs_length (s : List Nat) : ∀ l : Tab, (mOs s l).length = l.length
  | [] => rfl
  | x :: r => by show (mOs s r).length + 1 = _; rw [mOs_length s r]; rfl
theorem lget_mSL (s : List Nat) : ∀ (l : List AV) (j : Nat), lget (mSL s l) j = mS s (lget l j)
  | [], j => by rw [show mSL s [] = [] from rfl, lget_ge [] j (Nat.zero_le _)]; rfl
  | x :: r, 0 => rfl
  | x :: r, j + 1 => by show lget (mSL s r) j = _; rw [lget_mSL s r j]; rfl
theorem lget_m1L (s : List Nat) : ∀ (l : List AV) (j : Nat), lget (m1L s l) j = m1 s (lget l j)
  | [], j => by rw [show m1L s [] = [] from rfl, lget_ge [] j (Nat.zero_le _)]; rfl
  | x :: r, 0 => rfl
  | x :: r, j + 1 => by show lget (m1L s r) j = _; rw [lget_m1L s r j]; rfl
theorem tget_mOs (s : List Nat) : ∀ (l : Tab) (j : Nat), tget (mOs s l) j = mO s (tget l j)
  | [], j => by rw [show mOs s [] = [] from rfl, tget_nil]; rfl
  | x :: r, 0 => rfl
  | x :: r, j + 1 => by show tget (mOs s r) j = _; rw [tget_mOs s r j]; rfl
theorem kSL_get (k : Nat) : ∀ (l : List AV) (j : Nat), kSL k l = true → kS k (lget l j) = true
  | [], _, _ => by unfold lget; rfl
  | x :: r, 0, h => by simp only [kSL, Bool.and_eq_true] at h; exact h.1
  | x :: r, j + 1, h => by simp only [kSL, Bool.and_eq_true] at h; exact kSL_get k r j h.2
theorem k1L_get (k : Nat) : ∀ (l : List AV) (j : Nat), k1L k l = true → k1 k (lget l j) = true
  | [], _, _ => by unfold lget; rfl
  | x :: r, 0, h => by simp only [k1L, Bool.and_eq_true] at h; exact h.1
  | x :: r, j + 1, h => by simp only [k1L, Bool.and_eq_true] at h; exact k1L_get k r j h.2
theorem kOs_get (k : Nat) : ∀ (l : Tab) (j : Nat), kOs k l = true → kO k (tget l j) = true
  | [], _, _ => by rw [tget_nil]; rfl
  | x :: r, 0, h => by simp only [kOs, Bool.and_eq_true] at h; exact h.1
  | x :: r, j + 1, h => by simp only [kOs, Bool.and_eq_true] at h; exact kOs_get k r j h.2

theorem mO_fresh {s : List Nat} {o : Ob} (h : mO s o = .fresh) : o = .fresh := by cases o <;> simp [mO] at h ⊢
theorem mO_box {s : List Nat} {o : Ob} {c : List AV} (h : mO s o = .box c) : ∃ c0, o = .box c0 ∧ c = m1L s c0 := by
  cases o <;> simp [mO] at h
  exact ⟨_, rfl, h.symm⟩
theorem mO_row {s : List Nat} {o : Ob} {sz n v : Nat} {f : Nat → List AV} (h : mO s o = .row sz n v f) : o = .row sz n v f := by
  cases o <;> simp [mO] at h ⊢
  exact h
theorem mO_live {s : List Nat} {o : Ob} : (mO s o).live ↔ o.live := by cases o <;> exact Iff.rfl

/-! ### One table within another one -/
structure Emb (k : Nat) (s : List Nat) (T0 T : Tab) (mu0 mu : Nat → Option Nat) : Prop where
  tab : ∀ i, i < k → tget T (nthN s i) = mO s (tget T0 i)
  mus : ∀ i, i < k → mu (nthN s i) = mu0 i

section
variable {w : World} {ok : Nat → Prop} {mu0 mu : Nat → Option Nat} {T0 T : Tab} {k : Nat} {s : List Nat}

theorem RV.any {v : Value} {x : AV} {mu mu' : Nat → Option Nat} {T T' : Tab} {z : Bool} (h : RV w ok mu T z v x) (hx : noRef x = true) : RV w ok mu' T' false v x :=
  ((h.freeze hx).mono (fun b hb => ⟨hb, rfl⟩) (fun e => by cases e)).thaw

theorem Emb.foldS (E : Emb k s T0 T mu0 mu) {v : Value} {x : AV} (h : RV w ok mu T false v (mS s x)) (hx : kS k x = true) : RV w ok mu0 T0 false v x := by
  cases x with
  | ptr id ver e o =>
    simp only [kS, Nat.blt_eq] at hx
    have h' : RV w ok mu T false v (.ptr (nthN s id) ver e o) := h
    have hone : v.oneCell' = true := by cases h'; assumption
    obtain ⟨q1, q2, q3⟩ := rv_ptr h'
    have ht := E.tab id hx
    refine .ptr _ _ _ _ _ hone ⟨fun e => q1 (by rw [ht, e]; rfl), fun c hc => ?_, fun sz n cv f hr => ?_⟩
    · obtain ⟨a1, b, a2, a3⟩ := q2 _ (by rw [ht, hc]; rfl)
      exact ⟨a1, b, by rw [← E.mus id hx]; exact a2, a3⟩
    · obtain ⟨a0, a1⟩ := q3 sz n cv f (by rw [ht, hr]; rfl)
      refine ⟨a0, fun hv => ?_⟩
      obtain ⟨a2, b, a3, a4⟩ := a1 hv
      exact ⟨a2, b, by rw [← E.mus id hx]; exact a3, a4⟩
  | row sz id ver off len =>
    simp only [kS, Nat.blt_eq] at hx
    have h' : RV w ok mu T false v (.row sz (nthN s id) ver off len) := h
    obtain ⟨q1, q2, q3⟩ := rv_row h'
    have ht := E.tab id hx
    refine .row _ _ _ _ _ _ (rv_rowV h') ⟨fun e => q1 (by rw [ht, e]; rfl), fun c hc => q2 _ (by rw [ht, hc]; rfl), fun sz' n cv f hr => ?_⟩
    obtain ⟨a0, a1⟩ := q3 sz' n cv f (by rw [ht, hr]; rfl)
    refine ⟨a0, fun hv => ?_⟩
    obtain ⟨a2, a3, a4⟩ := a1 hv
    refine ⟨a2, a3, ?_⟩
    unfold SliceAt at a4 ⊢
    rwa [← E.mus id hx]
  | _ => exact RV.any (show RV w ok mu T false v _ from h) hx

theorem Emb.unfS (E : Emb k s T0 T mu0 mu) {v : Value} {x : AV} (h : RV w ok mu0 T0 false v x) (hx : kS k x = true) : RV w ok mu T false v (mS s x) := by
  cases x with
  | ptr id ver e o =>
    simp only [kS, Nat.blt_eq] at hx
    have hone : v.oneCell' = true := by cases h; assumption
    obtain ⟨q1, q2, q3⟩ := rv_ptr h
    have ht := E.tab id hx
    refine .ptr _ _ _ _ _ hone ⟨fun e => q1 (mO_fresh (s := s) (by rw [← ht]; exact e)), fun c hc => ?_, fun sz n cv f hr => ?_⟩
    · rw [ht] at hc
      obtain ⟨c0, hc0, _⟩ := mO_box hc
      obtain ⟨a1, b, a2, a3⟩ := q2 _ hc0
      exact ⟨a1, b, by rw [E.mus id hx]; exact a2, a3⟩
    · rw [ht] at hr
      obtain ⟨a0, a1⟩ := q3 sz n cv f (mO_row hr)
      refine ⟨a0, fun hv => ?_⟩
      obtain ⟨a2, b, a3, a4⟩ := a1 hv
      exact ⟨a2, b, by rw [E.mus id hx]; exact a3, a4⟩
  | row sz id ver off len =>
    simp only [kS, Nat.blt_eq] at hx
    obtain ⟨q1, q2, q3⟩ := rv_row h
    have ht := E.tab id hx
    refine .row _ _ _ _ _ _ (rv_rowV h) ⟨fun e => q1 (mO_fresh (s := s) (by rw [← ht]; exact e)), fun c hc => ?_, fun sz' n cv f hr => ?_⟩
    · rw [ht] at hc
      obtain ⟨c0, hc0, _⟩ := mO_box hc
      exact q2 _ hc0
    rw [ht] at hr
    obtain ⟨a0, a1⟩ := q3 sz' n cv f (mO_row hr)
    refine ⟨a0, fun hv => ?_⟩
    obtain ⟨a2, a3, a4⟩ := a1 hv
    refine ⟨a2, a3, ?_⟩
    unfold SliceAt at a4 ⊢
    rwa [E.mus id hx]
  | _ => exact RV.any (show RV w ok mu0 T0 false v _ from h) hx

theorem Emb.fold1 (E : Emb k s T0 T mu0 mu) {v : Value} {x : AV} (h : RV w ok mu T false v (m1 s x)) (hx : k1 k x = true) : RV w ok mu0 T0 false v x := by
  cases x with
  | agg l =>
    obtain ⟨cs, rfl, hs, h1, hr⟩ := rv_agg (show RV w ok mu T false v (.agg (mSL s l)) from h)
    rw [mSL_length] at hs h1 hr
    exact .agg _ _ _ hs h1 fun j hj => E.foldS (by have := hr j hj; rwa [lget_mSL] at this) (kSL_get _ _ _ hx)
  | func f l =>
    obtain ⟨cs, rfl, hs, hr⟩ := rv_func (show RV w ok mu T false v (.func f (mSL s l)) from h)
    rw [mSL_length] at hs hr
    exact .func _ _ _ _ hs fun j hj => E.foldS (by have := hr j hj; rwa [lget_mSL] at this) (kSL_get _ _ _ hx)
  | _ => exact E.foldS h hx
theorem Emb.unf1 (E : Emb k s T0 T mu0 mu) {v : Value} {x : AV} (h : RV w ok mu0 T0 false v x) (hx : k1 k x = true) : RV w ok mu T false v (m1 s x) := by
  cases x with
  | agg l =>
    obtain ⟨cs, rfl, hs, h1, hr⟩ := rv_agg h
    exact .agg _ _ _ (by rw [mSL_length]; exact hs) (fun j hj => h1 j (by rwa [mSL_length] at hj)) fun j hj => by
      rw [mSL_length] at hj
      rw [lget_mSL]
      exact E.unfS (hr j hj) (kSL_get _ _ _ hx)
  | func f l =>
    obtain ⟨cs, rfl, hs, hr⟩ := rv_func h
    exact .func _ _ _ _ (by rw [mSL_length]; exact hs) fun j hj => by
      rw [mSL_length] at hj
      rw [lget_mSL]
      exact E.unfS (hr j hj) (kSL_get _ _ _ hx)
  | _ => exact E.unfS h hx
theorem Emb.fold (E : Emb k s T0 T mu0 mu) {v : Value} {x : AV} (h : RV w ok mu T false v (mV s x)) (hx : kV k x = true) : RV w ok mu0 T0 false v x := by
  cases x with
  | tuple l =>
    obtain ⟨cs, rfl, hs, hr⟩ := rv_tuple (show RV w ok mu T false v (.tuple (m1L s l)) from h)
    rw [m1L_length] at hs hr
    exact .tuple _ _ _ hs fun j hj => E.fold1 (by have := hr j hj; rwa [lget_m1L] at this) (k1L_get _ _ _ hx)
  | _ => exact E.fold1 h hx
theorem Emb.unf (E : Emb k s T0 T mu0 mu) {v : Value} {x : AV} (h : RV w ok mu0 T0 false v x) (hx : kV k x = true) : RV w ok mu T false v (mV s x) := by
  cases x with
  | tuple l =>
    obtain ⟨cs, rfl, hs, hr⟩ := rv_tuple h
    exact .tuple _ _ _ (by rw [m1L_length]; exact hs) fun j hj => by
      rw [m1L_length] at hj
      rw [lget_m1L]
      exact E.unf1 (hr j hj) (k1L_get _ _ _ hx)
  | _ => exact E.unf1 h hx

theorem Emb.foldO (E : Emb k s T0 T mu0 mu) {i : Nat} (hi : i < k) {o : Ob} (h : ObOK w ok mu T (nthN s i) (mO s o)) (hk : kO k o = true) : ObOK w ok mu0 T0 i o := by
  cases o with
  | fresh => trivial
  | dead => trivial
  | box l =>
    obtain ⟨b, c, e, q1, q2, q3, q4, q5⟩ := h
    rw [m1L_length] at q3 q4 q5
    exact ⟨b, c, e, by rw [← E.mus i hi]; exact q1, q2, q3, q4, fun j hj => E.fold1 (by have := q5 j hj; rwa [lget_m1L] at this) (k1L_get _ _ _ hk)⟩
  | row sz n v f =>
    obtain ⟨q1, q2, q3⟩ := h
    refine ⟨q1, q2, ?_⟩
    rw [← E.mus i hi]
    cases hm : mu (nthN s i) with
    | none => rw [hm] at q3; exact q3
    | some b =>
      rw [hm] at q3
      obtain ⟨c, e, C, a1, a2, a3, a4, a5, a6⟩ := q3
      exact ⟨c, e, C, a1, a2, a3, a4, a5, fun i o hi ho => (a6 i o hi ho).mono (fun b h => ⟨h, rfl⟩) fun e => by cases e⟩
  | cap id v C =>
    simp only [kO, Nat.blt_eq] at hk
    obtain ⟨q1, q2⟩ := h
    have ht := E.tab id hk
    refine ⟨fun e => q1 (by rw [ht, e]; rfl), fun sz n cv f hr => ?_⟩
    have := q2 sz n cv f (by rw [ht, hr]; rfl)
    rwa [E.mus id hk] at this

theorem Emb.unfO (E : Emb k s T0 T mu0 mu) {i : Nat} (hi : i < k) {o : Ob} (h : ObOK w ok mu0 T0 i o) (hk : kO k o = true) : ObOK w ok mu T (nthN s i) (mO s o) := by
  cases o with
  | fresh => trivial
  | dead => trivial
  | box l =>
    obtain ⟨b, c, e, q1, q2, q3, q4, q5⟩ := h
    refine ⟨b, c, e, by rw [E.mus i hi]; exact q1, q2, by rw [m1L_length]; exact q3, fun j hj => q4 j (by rwa [m1L_length] at hj), fun j hj => ?_⟩
    rw [m1L_length] at hj
    rw [lget_m1L]
    exact E.unf1 (q5 j hj) (k1L_get _ _ _ hk)
  | row sz n v f =>
    obtain ⟨q1, q2, q3⟩ := h
    refine ⟨q1, q2, ?_⟩
    rw [E.mus i hi]
    cases hm : mu0 i with
    | none => rw [hm] at q3; exact q3
    | some b =>
      rw [hm] at q3
      obtain ⟨c, e, C, a1, a2, a3, a4, a5, a6⟩ := q3
      exact ⟨c, e, C, a1, a2, a3, a4, a5, fun i o hi ho => (a6 i o hi ho).mono (fun b h => ⟨h, rfl⟩) fun e => by cases e⟩
  | cap id v C =>
    simp only [kO, Nat.blt_eq] at hk
    obtain ⟨q1, q2⟩ := h
    have ht := E.tab id hk
    refine ⟨fun e => q1 (mO_fresh (s := s) (by rw [← ht]; exact e)), fun sz n cv f hr => ?_⟩
    have hr' : tget T (nthN s id) = .row sz n cv f := hr
    rw [ht] at hr'
    have := q2 sz n cv f (mO_row hr')
    rwa [E.mus id hk]
end

/-! ### Tables put together -/
def fnd (s : List Nat) (j : Nat) : Option Nat := match s with
  | [] => none
  | x :: r => bif Nat.beq x j then some 0 else match fnd r j with
    | some i => some (i + 1)
    | none => none
theorem fnd_some : ∀ {s : List Nat} {j i : Nat}, fnd s j = some i → i < s.length ∧ nthN s i = j
  | [], j, i, h => by simp [fnd] at h
  | x :: r, j, i, h => by
    simp only [fnd] at h
    cases hb : Nat.beq x j with
    | true =>
      rw [hb, cond_true] at h
      cases h
      exact ⟨by simp, Nat.eq_of_beq_eq_true hb⟩
    | false =>
      rw [hb, cond_false] at h
      split at h
      · rename_i i' hi
        cases h
        obtain ⟨h1, h2⟩ := fnd_some hi
        exact ⟨by simpa using h1, h2⟩
      · cases h
theorem fnd_none : ∀ {s : List Nat} {j : Nat}, fnd s j = none → ∀ i, i < s.length → nthN s i ≠ j
  | [], j, h, i, hi => by simp at hi
  | x :: r, j, h, i, hi => by
    simp only [fnd] at h
    cases hb : Nat.beq x j with
    | true => rw [hb, cond_true] at h; cases h
    | false =>
      rw [hb, cond_false] at h
      split at h
      · cases h
      · rename_i hn
        cases i with
        | zero => intro e; have : x = j := e; subst this; simp at hb
        | succ i => exact fnd_none hn i (by simpa using hi)
/-- No number twice. -/
def ndB : List Nat → Bool
  | [] => true
  | x :: r => notIn (some x) r && ndB r
theorem nthN_mem : ∀ (r : List Nat) (i : Nat), i < r.length → nthN r i ∈ r
  | [], i, h => by simp at h
  | x :: r, 0, _ => by simp [nthN]
  | x :: r, i + 1, h => List.mem_cons_of_mem _ (nthN_mem r i (by simpa using h))
theorem fnd_nth : ∀ {s : List Nat} {i : Nat}, ndB s = true → i < s.length → fnd s (nthN s i) = some i
  | [], i, _, h => by simp at h
  | x :: r, 0, _, _ => by simp [fnd, nthN]
  | x :: r, i + 1, hn, h => by
    simp only [ndB, Bool.and_eq_true] at hn
    have hi : i < r.length := by simpa using h
    have hne : Nat.beq x (nthN r i) = false := by
      cases hb : Nat.beq x (nthN r i)
      · rfl
      · exact absurd (Nat.eq_of_beq_eq_true hb ▸ nthN_mem r i hi) (notIn_spec hn.1)
    show (bif Nat.beq x (nthN r i) then some 0 else match fnd r (nthN r i) with | some i => some (i + 1) | none => none) = _
    rw [hne, cond_false, fnd_nth hn.2 hi]

def tputs (s : List Nat) (os : Tab) (T : Tab) : Tab := match s with
  | [] => T
  | j :: r => match os with
    | [] => T
    | o :: os => tset (tputs r os T) j o
theorem tget_tputs : ∀ (s : List Nat) (os : Tab) (T : Tab) (j : Nat), s.length = os.length → tget (tputs s os T) j = match fnd s j with | some i => tget os i | none => tget T j
  | [], os, T, j, h => rfl
  | x :: r, [], T, j, h => by simp at h
  | x :: r, o :: os, T, j, h => by
    show tget (tset (tputs r os T) x o) j = _
    rw [tget_tset, tget_tputs r os T j (by simpa using h)]
    by_cases e : j = x
    · subst e; simp [fnd, tget]
    · have hb : Nat.beq x j = false := by
        cases hb : Nat.beq x j
        · rfl
        · exact absurd (Nat.eq_of_beq_eq_true hb).symm e
      rw [if_neg e]
      simp only [fnd, hb, cond_false]
      cases fnd r j <;> rfl

/-- The caller's objects are what the contract asks for; those behind them are new. -/
def okT (ss s : List Nat) (T0 T : Tab) : Prop := match s with
  | [] => True
  | j :: r => match T0 with
    | [] => tget T j = .fresh ∧ okT ss r [] T
    | o :: T0 => tget T j = mO ss o ∧ okT ss r T0 T
theorem okT_get {ss : List Nat} : ∀ {s : List Nat} {T0 T : Tab}, okT ss s T0 T → ∀ i, i < s.length → tget T (nthN s i) = mO ss (tget T0 i)
  | [], T0, T, h, i, hi => by simp at hi
  | j :: r, [], T, h, i, hi => by
    cases i with
    | zero => rw [tget_nil]; exact h.1
    | succ i => have := okT_get (s := r) (T0 := []) h.2 i (by simpa using hi); rw [tget_nil] at this ⊢; exact this
  | j :: r, o :: T0, T, h, i, hi => by
    cases i with
    | zero => exact h.1
    | succ i => exact okT_get (s := r) (T0 := T0) h.2 i (by simpa using hi)

def mL (s : List Nat) : List AV → List AV
  | [] => []
  | x :: r => mV s x :: mL s r
def kL (k : Nat) : List AV → Bool
  | [] => true
  | x :: r => kV k x && kL k r
theorem mL_length (s : List Nat) : ∀ l : List AV, (mL s l).length = l.length
  | [] => rfl
  | x :: r => by show (mL s r).length + 1 = _; rw [mL_length s r]; rfl
theorem lget_mL (s : List Nat) : ∀ (l : List AV) (j : Nat), lget (mL s l) j = mV s (lget l j)
  | [], j => by rw [show mL s [] = [] from rfl, lget_ge [] j (Nat.zero_le _)]; rfl
  | x :: r, 0 => rfl
  | x :: r, j + 1 => by show lget (mL s r) j = _; rw [lget_mL s r j]; rfl
theorem kL_get (k : Nat) : ∀ (l : List AV) (j : Nat), kL k l = true → kV k (lget l j) = true
  | [], _, _ => by unfold lget; rfl
  | x :: r, 0, h => by simp only [kL, Bool.and_eq_true] at h; exact h.1
  | x :: r, j + 1, h => by simp only [kL, Bool.and_eq_true] at h; exact kL_get k r j h.2

/-- All that is asked, as one Bool. -/
def okG (s : List Nat) (args : List AV) (T0 : Tab) (r : AV) (T1 : Tab) : Bool :=
  Nat.beq s.length T1.length && (ndB s && (kL s.length args && (kOs s.length T0 && (kV s.length r && (kOs s.length T1 && Nat.ble T0.length s.length)))))

theorem AC.frameG {P : Program} {f : FuncId} {args : List AV} {T0 T1 T : Tab} {r : AV} (h : AC P f args T0 r T1) (s : List Nat) (hg : okG s args T0 r T1 = true) (hT : okT s s T0 T) :
    AC P f (mL s args) T (mV s r) (tputs s (mOs s T1) T) := by
  simp only [okG, Bool.and_eq_true, Nat.ble_eq, Nat.beq_eq] at hg
  obtain ⟨hlen, hnd, ha, h0, hr, h1, hle⟩ := hg
  have hTab := okT_get hT
  have hst : ∀ i j, i < s.length → j < s.length → nthN s i = nthN s j → i = j := fun i j hi hj e => by
    have e1 := fnd_nth hnd hi
    have e2 := fnd_nth hnd hj
    rw [e, e2] at e1
    cases e1; rfl
  refine ⟨fun w ok mu I vs hv1 hv2 => ?_⟩
  let mu0 : Nat → Option Nat := fun i => if i < s.length then mu (nthN s i) else none
  have hmu0 : ∀ {i b}, mu0 i = some b → i < s.length ∧ mu (nthN s i) = some b := fun {i b} h => by
    simp only [mu0] at h
    split at h
    · exact ⟨by assumption, h⟩
    · cases h
  have E0 : Emb s.length s T0 T mu0 mu := ⟨hTab, fun i hi => by simp [mu0, hi]⟩
  have hlv : ∀ i, i < s.length → ((tget T (nthN s i)).live ↔ (tget T0 i).live) := fun i hi => by rw [hTab i hi]; exact mO_live
  have I0 : Inv ⟨w, ok, liveB mu0 T0, mu0, T0⟩ ok mu0 T0 w := by
    refine ⟨rfl, rfl, rfl, Nat.le_refl _, fun _ _ _ => rfl, fun b hb => ⟨(I.okB b hb).1, .inl hb⟩, fun _ h => h, fun i b hi hl => ?_, fun i j b hi hj hl hl' => ?_, fun i b hi hl => .inl ⟨i, hi, hl⟩, fun i => ?_, Compat.refl _ _ _⟩
    · obtain ⟨q1, q2⟩ := hmu0 hi
      exact I.sep _ b q2 ((hlv i q1).2 hl)
    · obtain ⟨q1, q2⟩ := hmu0 hi
      obtain ⟨p1, p2⟩ := hmu0 hj
      exact hst i j q1 p1 (I.inj _ _ b q2 p2 ((hlv i q1).2 hl) ((hlv j p1).2 hl'))
    · by_cases hi : i < s.length
      · have ho := I.obs (nthN s i)
        rw [hTab i hi] at ho
        exact E0.foldO hi ho (kOs_get _ _ _ h0)
      · rw [tget_ge T0 i (by omega)]; trivial
  refine (h.out w ok mu0 I0 vs (by rw [hv1, mL_length]) fun j hj => ?_).mono ?_
  · have := hv2 j (by rw [mL_length]; exact hj)
    rw [lget_mL] at this
    exact E0.fold this (kL_get _ _ _ ha)
  · rintro e w' ⟨v, ok', mu2, he, N, hv⟩
    let mu' : Nat → Option Nat := fun j => match fnd s j with
      | some i => mu2 i
      | none => mu j
    let T' : Tab := tputs s (mOs s T1) T
    have hT' : ∀ j, tget T' j = match fnd s j with | some i => mO s (tget T1 i) | none => tget T j := fun j => by
      show tget (tputs s (mOs s T1) T) j = _
      rw [tget_tputs s _ T j (by rw [mOs_length]; exact hlen)]
      cases fnd s j with
      | none => rfl
      | some i => exact tget_mOs s T1 i
    have E1 : Emb s.length s T1 T' mu2 mu' := ⟨fun i hi => by rw [hT', fnd_nth hnd hi], fun i hi => by simp only [mu', fnd_nth hnd hi]⟩
    have hmuN : ∀ j, fnd s j = none → mu' j = mu j ∧ tget T' j = tget T j := fun j hj => ⟨by simp only [mu', hj], by rw [hT', hj]⟩
    have hmuS : ∀ j i, fnd s j = some i → mu' j = mu2 i ∧ tget T' j = mO s (tget T1 i) ∧ i < s.length ∧ nthN s i = j := fun j i hj => ⟨by simp only [mu', hj], by rw [hT', hj], (fnd_some hj).1, (fnd_some hj).2⟩
    -- blocks of the caller's other objects stay
    have hkeep : ∀ j b, mu j = some b → (tget T j).live → fnd s j = none → w'.heap[b]? = w.heap[b]? := fun j b hj hl hn => by
      refine N.keep b (I.mu_lt j b hj hl) fun i hi hli => ?_
      obtain ⟨q1, q2⟩ := hmu0 hi
      have := I.inj j _ b hj q2 hl ((hlv i q1).2 hli)
      exact fnd_none hn i q1 this.symm
    have hC : Compat w w' mu mu' T T' := by
      intro j hj
      cases hf : fnd s j with
      | none =>
        obtain ⟨e1, e2⟩ := hmuN j hf
        rw [e1, e2]
        exact ⟨hj, fun c e => ⟨⟨c, e⟩, rfl⟩, fun sz n cv g e => ⟨n, cv, g, e, Nat.le_refl _, fun _ => ⟨Nat.le_refl _, rfl, fun b hb => by unfold capOf; rw [hkeep j b hb (by rw [e]; trivial) hf]⟩⟩⟩
      | some i =>
        obtain ⟨e1, e2, hi, rfl⟩ := hmuS j i hf
        rw [e1, e2]
        have hne : tget T0 i ≠ .fresh := fun e => hj (by rw [hTab i hi, e]; rfl)
        obtain ⟨c1, c2, c3⟩ := N.compat i hne
        have hm0 : mu0 i = mu (nthN s i) := by simp [mu0, hi]
        refine ⟨fun e => c1 (mO_fresh e), fun c e => ?_, fun sz n cv g e => ?_⟩
        · obtain ⟨c0, hc0, _⟩ := mO_box e
          obtain ⟨⟨cc, hcc⟩, hm⟩ := c2 _ hc0
          exact ⟨⟨_, by rw [hTab i hi, hcc]; rfl⟩, by rw [hm, hm0]⟩
        · obtain ⟨n0, cv0, g0, a1, a2, a3⟩ := c3 sz n cv g (mO_row e)
          refine ⟨n0, cv0, g0, by rw [hTab i hi, a1]; rfl, a2, fun ec => ?_⟩
          obtain ⟨b1, b2, b3⟩ := a3 ec
          exact ⟨b1, by rw [b2, hm0], fun b hb => b3 b (by rw [hm0]; exact hb)⟩
    have hw : ∀ b, ok b → ok' b ∧ w'.heap[b]? = w.heap[b]? := fun b hb => ⟨N.okL b hb, N.keep b (I.okB b hb).1 fun i hi hl => by
      obtain ⟨q1, q2⟩ := hmu0 hi
      exact I.sep _ b q2 ((hlv i q1).2 hl) hb⟩
    have hin : ∀ i b, mu2 i = some b → (tget T1 i).live → i < s.length := fun i b _ hl => by
      rcases Nat.lt_or_ge i s.length with h | h
      · exact h
      · rw [tget_ge T1 i (by omega)] at hl; exact hl.elim
    -- a block of the callee's: the caller's, or new
    have hfrom : ∀ i b, mu2 i = some b → (tget T1 i).live → ¬ ok' b ∧ ((∃ j, mu j = some b ∧ (tget T j).live ∧ ∃ q, q < s.length ∧ nthN s q = j) ∨ w.heap.size ≤ b) := fun i b hi hl => by
      obtain ⟨q1, q2⟩ := N.live i b hi hl
      refine ⟨q1, ?_⟩
      rcases q2 with ⟨j, hj, hlj⟩ | q
      · obtain ⟨p1, p2⟩ := hmu0 hj
        exact .inl ⟨nthN s j, p2, (hlv j p1).2 hlj, j, p1, rfl⟩
      · exact .inr q
    have hother : ∀ i j b, mu2 i = some b → (tget T1 i).live → mu j = some b → (tget T j).live → fnd s j = none → False := fun i j b hi hl hj hlj hn => by
      rcases (hfrom i b hi hl).2 with ⟨q, hq, hlq, p, hp, rfl⟩ | q
      · have := I.inj j _ b hj hq hlj hlq
        exact fnd_none hn p hp this.symm
      · have := I.mu_lt j b hj hlj
        omega
    refine ⟨v, ok', mu', he, ⟨N.os, N.tape, N.output, N.size, fun b hb hnl => ?_, hC, N.okL, fun b hb => ?_, fun j b hj hl => ?_, fun i j b hi hj hli hlj => ?_, fun j => ?_⟩, E1.unf hv hr⟩
    · exact N.keep b hb fun i hi hl => by
        obtain ⟨q1, q2⟩ := hmu0 hi
        exact hnl _ q2 ((hlv i q1).2 hl)
    · obtain ⟨q1, q2⟩ := N.okR b hb
      refine ⟨q1, ?_⟩
      rcases q2 with q | ⟨i, hi, hl⟩ | q
      · exact .inl q
      · obtain ⟨p1, p2⟩ := hmu0 hi
        exact .inr (.inl ⟨_, p2, (hlv i p1).2 hl⟩)
      · exact .inr (.inr q)
    · cases hf : fnd s j with
      | none =>
        obtain ⟨e1, e2⟩ := hmuN j hf
        rw [e1] at hj
        rw [e2] at hl
        refine ⟨fun hok => ?_, .inl ⟨j, hj, hl⟩⟩
        rcases (N.okR b hok).2 with q | ⟨i, hi, hli⟩ | q
        · exact I.sep j b hj hl q
        · obtain ⟨p1, p2⟩ := hmu0 hi
          exact fnd_none hf i p1 (I.inj j _ b hj p2 hl ((hlv i p1).2 hli)).symm
        · have := I.mu_lt j b hj hl
          omega
      | some i =>
        obtain ⟨e1, e2, hi, _⟩ := hmuS j i hf
        rw [e1] at hj
        rw [e2, mO_live] at hl
        obtain ⟨q1, q2⟩ := hfrom i b hj hl
        refine ⟨q1, ?_⟩
        rcases q2 with ⟨q, hq, hlq, _⟩ | q
        · exact .inl ⟨q, hq, hlq⟩
        · exact .inr q
    · cases hfi : fnd s i with
      | none =>
        obtain ⟨e1, e2⟩ := hmuN i hfi
        rw [e1] at hi
        rw [e2] at hli
        cases hfj : fnd s j with
        | none =>
          obtain ⟨d1, d2⟩ := hmuN j hfj
          rw [d1] at hj
          rw [d2] at hlj
          exact I.inj i j b hi hj hli hlj
        | some q =>
          obtain ⟨d1, d2, _⟩ := hmuS j q hfj
          rw [d1] at hj
          rw [d2, mO_live] at hlj
          exact (hother q i b hj hlj hi hli hfi).elim
      | some p =>
        obtain ⟨e1, e2, _, hpi⟩ := hmuS i p hfi
        rw [e1] at hi
        rw [e2, mO_live] at hli
        cases hfj : fnd s j with
        | none =>
          obtain ⟨d1, d2⟩ := hmuN j hfj
          rw [d1] at hj
          rw [d2] at hlj
          exact (hother p j b hi hli hj hlj hfj).elim
        | some q =>
          obtain ⟨d1, d2, _, hqj⟩ := hmuS j q hfj
          rw [d1] at hj
          rw [d2, mO_live] at hlj
          have := N.inj p q b hi hj hli hlj
          rw [← hpi, ← hqj, this]
    · show ObOK w' ok' mu' T' j (tget T' j)
      cases hf : fnd s j with
      | none =>
        obtain ⟨e1, e2⟩ := hmuN j hf
        rw [e2]
        exact (I.obs j).mono hw hC e1 fun b hb hl => hkeep j b hb hl hf
      | some i =>
        obtain ⟨e1, e2, hi, rfl⟩ := hmuS j i hf
        rw [e2]
        exact E1.unfO hi (N.obs i) (kOs_get _ _ _ h1)

end Go.Proofs.Ytbpcjahjbkiofaa.AV

set_option linter.unusedVariables false
set_option linter.unusedSimpArgs false
namespace Go.Proofs.Ytbpcjahjbkiofaa.AV
open Go

/-- Nothing happens but that the table is told otherwise. -/
theorem Next.retab {G : Ctx} {ok ok' : Nat → Prop} {mu mu' : Nat → Option Nat} {T T' : Tab} {w : World} (I : Inv G ok mu T w) (hC : Compat w w mu mu' T T') (hL : ∀ b, ok b → ok' b) (hR : ∀ b, ok' b → ok b ∨ ∃ i, mu i = some b ∧ (tget T i).live)
    (hl : ∀ i b, mu' i = some b → (tget T' i).live → ¬ ok' b ∧ ∃ j, mu j = some b ∧ (tget T j).live) (hi : ∀ i j b, mu' i = some b → mu' j = some b → (tget T' i).live → (tget T' j).live → i = j) (ho : ∀ i, ObOK w ok' mu' T' i (tget T' i)) :
    Go.Proofs.Ytbpcjahjbkiofaa.AV.Next ok ok' mu mu' T T' w w :=
  ⟨rfl, rfl, rfl, Nat.le_refl _, fun _ _ _ => rfl, hC, hL, fun b hb => by
    rcases hR b hb with h | ⟨i, h1, h2⟩
    · exact ⟨(I.okB b h).1, .inl h⟩
    · exact ⟨I.mu_lt i b h1 h2, .inr (.inl ⟨i, h1, h2⟩)⟩, fun i b h1 h2 => ⟨(hl i b h1 h2).1, .inl (hl i b h1 h2).2⟩, hi, ho⟩

theorem Rel.next {G : Ctx} {nt : Nat} {env : Env} {T T' : Tab} {a : Act} {w : World} (h : ∀ (ok : Nat → Prop) (mu : Nat → Option Nat), Inv G ok mu T w → ∃ ok' mu', Go.Proofs.Ytbpcjahjbkiofaa.AV.Next ok ok' mu mu' T T' w w) (R : Rel G nt env T a w) : Rel G nt env T' a w := by
  obtain ⟨h1, h2, ok, mu, I, E⟩ := R
  obtain ⟨ok', mu', N⟩ := h ok mu I
  exact ⟨h1, h2, ok', mu', I.next N, N.env I E⟩

/-! ### The capacity of a row -/
def fext (n sz : Nat) (f : Nat → List AV) : Nat → List AV := fun i => if i < n then f i else List.replicate sz .top

theorem lget_replicate (k : Nat) : ∀ (n : Nat), lget (List.replicate n AV.top) k = .top := by
  intro n
  induction n generalizing k with
  | zero => exact lget_ge [] k (Nat.zero_le _)
  | succ n ih => cases k with
    | zero => rfl
    | succ k => exact ih k

theorem Rel.capW {G : Ctx} {nt : Nat} {env : Env} {T : Tab} {a : Act} {w : World} (R : Rel G nt env T a w) {id sz n ver nid : Nat} {f : Nat → List AV} (hT : tget T id = .row sz n ver f) (hf : tget T nid = .fresh) :
    ∃ C, n ≤ C ∧ C ≤ maxLen ∧ Rel G nt env (tset (tset T id (.row sz C ver (fext n sz f))) nid (.cap id ver C)) a w := by
  obtain ⟨h1, h2, ok, mu, I, E⟩ := R
  have hne : nid ≠ id := fun e => by rw [e, hT] at hf; cases hf
  have ho := I.obs id
  rw [hT] at ho
  obtain ⟨g1, g2, g3⟩ := ho
  have key : ∃ C, n ≤ C ∧ C ≤ maxLen ∧ (∀ T', tget T' id = .row sz C ver (fext n sz f) → ObOK w ok mu T' id (.row sz C ver (fext n sz f))) ∧ (match mu id with | none => C = 0 | some b => capOf w b = C * sz) := by
    cases hm : mu id with
    | none =>
      rw [hm] at g3
      subst g3
      refine ⟨0, Nat.le_refl _, by simp [maxLen], fun T' _ => ⟨g1, fun i hi => absurd hi (Nat.not_lt_zero _), ?_⟩, rfl⟩
      rw [hm]
    | some b =>
      rw [hm] at g3
      obtain ⟨c, e, C, k1, k2, k3, k4, k5, k6⟩ := g3
      refine ⟨C, k3, k4, fun T' _ => ⟨g1, fun i hi => ?_, ?_⟩, by show capOf w b = C * sz; unfold capOf; rw [k1]; exact k2⟩
      · unfold fext
        split
        · exact g2 i (by assumption)
        · simp
      · rw [hm]
        refine ⟨c, e, C, k1, k2, Nat.le_refl _, k4, k5, fun i o hi ho => ?_⟩
        unfold fext
        split
        · rename_i hlt
          exact (k6 i o hlt ho).mono (fun b h => ⟨h, rfl⟩) fun e => by cases e
        · rw [lget_replicate]; exact .top _ _
  obtain ⟨C, hnC, hCm, hob, hcap⟩ := key
  refine ⟨C, hnC, hCm, ?_⟩
  have hT' : ∀ j, tget (tset (tset T id (.row sz C ver (fext n sz f))) nid (.cap id ver C)) j = if j = nid then .cap id ver C else if j = id then .row sz C ver (fext n sz f) else tget T j := fun j => by rw [tget_tset, tget_tset]
  have hCo : Compat w w mu mu T (tset (tset T id (.row sz C ver (fext n sz f))) nid (.cap id ver C)) := by
    intro j hj
    rw [hT']
    by_cases e1 : j = nid
    · rw [e1] at hj; exact absurd hf hj
    rw [if_neg e1]
    by_cases e2 : j = id
    · subst e2
      rw [if_pos rfl]
      exact ⟨fun e => (by cases e), fun _ e => (by cases e), fun sz2 n2 v2 f2 e => by cases e; exact ⟨n, ver, f, hT, Nat.le_refl _, fun _ => ⟨hnC, rfl, fun _ _ => rfl⟩⟩⟩
    · rw [if_neg e2]
      exact ⟨hj, fun c e => ⟨⟨c, e⟩, rfl⟩, fun sz2 n2 v2 f2 e => ⟨n2, v2, f2, e, Nat.le_refl _, fun _ => ⟨Nat.le_refl _, rfl, fun _ _ => rfl⟩⟩⟩
  have hlive : ∀ j, (tget (tset (tset T id (.row sz C ver (fext n sz f))) nid (.cap id ver C)) j).live → (tget T j).live := fun j hl => by
    rw [hT'] at hl
    split at hl
    · exact hl.elim
    · split at hl
      · rename_i e; subst e; rw [hT]; trivial
      · exact hl
  have N := Next.retab (ok' := ok) (mu' := mu) I hCo (fun _ h => h) (fun _ h => .inl h) (fun j b hj hl => ⟨I.sep j b hj (hlive j hl), j, hj, hlive j hl⟩) (fun i j b hi hj hli hlj => I.inj i j b hi hj (hlive i hli) (hlive j hlj)) (fun j => by
    rw [hT']
    by_cases e1 : j = nid
    · rw [if_pos e1]
      have e3 : tget (tset (tset T id (.row sz C ver (fext n sz f))) nid (.cap id ver C)) id = .row sz C ver (fext n sz f) := by rw [hT', if_neg (fun e => hne e.symm), if_pos rfl]
      refine ⟨by rw [e3]; exact fun e => (by cases e), fun sz2 n2 v2 f2 e => ?_⟩
      rw [e3] at e
      cases e
      exact ⟨Nat.le_refl _, fun _ => hcap⟩
    rw [if_neg e1]
    by_cases e2 : j = id
    · rw [if_pos e2]
      subst e2
      exact hob _ (by rw [hT', if_neg e1, if_pos rfl])
    · rw [if_neg e2]
      exact (I.obs j).mono (fun b hb => ⟨hb, rfl⟩) hCo rfl fun _ _ _ => rfl)
  exact ⟨h1, h2, ok, mu, I.next N, N.env I E⟩

section
variable {P : Program} {nt : Nat} {env : Env} {T : Tab} {Q : Post}

/-- The capacity of a row gets a name. -/
theorem Run.capO {k : List AItem} {l : List AOper} (id nid : Nat) {sz n ver : Nat} {f : Nat → List AV} (hT : tget T id = .row sz n ver f) (hf : tget T nid = .fresh)
    (h : ∀ C, n ≤ C → C ≤ maxLen → tsetK T id (.row sz C ver (fext n sz f)) fun T1 => tsetK T1 nid (.cap id ver C) fun T2 => Goes P nt Q (.ops l :: k) env T2) : Run P nt (.ops l :: k) env T Q := by
  refine ⟨⟨fun mo i hc G a w R => ?_⟩⟩
  obtain ⟨C, h1, h2, R'⟩ := R.capW hT hf
  have h3 := h C h1 h2
  rw [tsetK_iff, tsetK_iff] at h3
  exact (Goes.run h3).out.out mo i hc G a w R'
theorem Run.capC {k : List AItem} {c : ACode} (id nid : Nat) {sz n ver : Nat} {f : Nat → List AV} (hT : tget T id = .row sz n ver f) (hf : tget T nid = .fresh)
    (h : ∀ C, n ≤ C → C ≤ maxLen → tsetK T id (.row sz C ver (fext n sz f)) fun T1 => tsetK T1 nid (.cap id ver C) fun T2 => Goes P nt Q (.code c :: k) env T2) : Run P nt (.code c :: k) env T Q := by
  refine ⟨⟨fun mc hm G a w R => ?_⟩⟩
  obtain ⟨C, h1, h2, R'⟩ := R.capW hT hf
  have h3 := h C h1 h2
  rw [tsetK_iff, tsetK_iff] at h3
  exact (Goes.run h3).out.out mc hm G a w R'
end

/-! ### A row given away: it may be read from now on, and stays -/
def frzS (id cv : Nat) (f : Nat → List AV) : AV → AV
  | .row sz id' ver off len => bif Nat.beq id' id && Nat.beq ver cv then .list sz len (fun i => f (off + i)) else .row sz id' ver off len
  | x => x
def frzSL (id cv : Nat) (f : Nat → List AV) : List AV → List AV
  | [] => []
  | x :: r => frzS id cv f x :: frzSL id cv f r
def frzI (id cv : Nat) (f : Nat → List AV) : AV → AV
  | .agg l => .agg (frzSL id cv f l)
  | x => frzS id cv f x
def mapE (g : AV → AV) : Env → Env
  | [] => []
  | (n, x) :: r => (n, g x) :: mapE g r
theorem eget_mapE {g : AV → AV} (h : g .top = .top) : ∀ (l : Env) (n : Nat), eget (mapE g l) n = g (eget l n)
  | [], n => h.symm
  | (i, x) :: r, n => by
    show (bif Nat.beq i n then g x else eget (mapE g r) n) = g (bif Nat.beq i n then x else eget r n)
    cases Nat.beq i n
    · exact eget_mapE h r n
    · rfl
theorem frzSL_length (id cv : Nat) (f : Nat → List AV) : ∀ l : List AV, (frzSL id cv f l).length = l.length
  | [] => rfl
  | x :: r => by show (frzSL id cv f r).length + 1 = _; rw [frzSL_length id cv f r]; rfl
theorem lget_frzSL (id cv : Nat) (f : Nat → List AV) : ∀ (l : List AV) (j : Nat), lget (frzSL id cv f l) j = frzS id cv f (lget l j)
  | [], j => by rw [show frzSL id cv f [] = [] from rfl, lget_ge [] j (Nat.zero_le _)]; rfl
  | x :: r, 0 => rfl
  | x :: r, j + 1 => by show lget (frzSL id cv f r) j = _; rw [lget_frzSL id cv f r j]; rfl

theorem Wk.frz {env : Env} {T : Tab} {id sz n cv : Nat} {f : Nat → List AV} (hT : tget T id = .row sz n cv f) : Wk env T (mapE (frzI id cv f) env) (tset T id .dead) := by
  rintro G nt a w ⟨h1, h2, ok, mu, I, E⟩
  have hlv : (tget T id).live := by rw [hT]; trivial
  let ok' : Nat → Prop := fun b => ok b ∨ mu id = some b
  have hlive : ∀ j, (tget (tset T id .dead) j).live → j ≠ id ∧ (tget T j).live := fun j hl => by
    rw [tget_tset] at hl
    split at hl
    · exact hl.elim
    · rename_i e; exact ⟨e, hl⟩
  have hC : Compat w w mu mu T (tset T id .dead) := by
    intro j hj
    rw [tget_tset]
    by_cases e : j = id
    · rw [if_pos e]; exact ⟨fun e => (by cases e), fun _ e => (by cases e), fun _ _ _ _ e => (by cases e)⟩
    · rw [if_neg e]
      exact ⟨hj, fun c e => ⟨⟨c, e⟩, rfl⟩, fun sz2 n2 v2 f2 e => ⟨n2, v2, f2, e, Nat.le_refl _, fun _ => ⟨Nat.le_refl _, rfl, fun _ _ => rfl⟩⟩⟩
  have hw : ∀ b, ok b → ok' b ∧ w.heap[b]? = w.heap[b]? := fun b hb => ⟨.inl hb, rfl⟩
  have N : Go.Proofs.Ytbpcjahjbkiofaa.AV.Next ok ok' mu mu T (tset T id .dead) w w := by
    refine Next.retab I hC (fun _ h => .inl h) (fun b hb => hb.elim .inl fun h => .inr ⟨id, h, hlv⟩) (fun j b hj hl => ?_) (fun i j b hi hj hli hlj => I.inj i j b hi hj (hlive i hli).2 (hlive j hlj).2) (fun j => ?_)
    · obtain ⟨q1, q2⟩ := hlive j hl
      exact ⟨fun h => h.elim (I.sep j b hj q2) fun h => q1 (I.inj j id b hj h q2 hlv), j, hj, q2⟩
    · rw [tget_tset]
      split
      · trivial
      · exact (I.obs j).mono hw hC rfl fun _ _ _ => rfl
  refine ⟨h1, h2, ok', mu, I.next N, fun i => ?_⟩
  have hE := E i
  rw [eget_mapE rfl]
  have one : ∀ (v : Value) (x : AV), RV w ok mu T false v x → RV w ok' mu (tset T id .dead) false v (frzS id cv f x) := fun v x h => by
    unfold frzS
    split
    · rename_i sz' id' ver off len
      cases hb : (Nat.beq id' id && Nat.beq ver cv) with
      | false => rw [cond_false]; exact h.mono hw fun _ => hC
      | true =>
        rw [cond_true]
        simp only [Bool.and_eq_true, Nat.beq_eq] at hb
        obtain ⟨rfl, rfl⟩ := hb
        obtain ⟨rfl, hle, hcase⟩ := row_addr I h hT rfl
        rcases hcase with ⟨hm, rfl, rfl, rfl, A, rfl⟩ | ⟨b, cap, hm, rfl, hcap, hlc⟩
        · have ho := I.obs id'
          rw [hT] at ho
          exact .list _ A 0 sz 0 _ (fun _ _ => undef) (Nat.le_refl _) (by unfold maxLen; omega) ho.1 (fun h => absurd h (Nat.lt_irrefl _)) (fun i hi => absurd hi (Nat.not_lt_zero _)) (fun i _ hi => absurd hi (Nat.not_lt_zero _)) fun i _ hi => absurd hi (Nat.not_lt_zero _)
        · obtain ⟨h0, hfl, c, e, C, k1, k2, k3, k4, k5, k6, k7⟩ := row_block I hT hm
          have hCc : off + cap = C := Nat.eq_of_mul_eq_mul_right h0 (by rw [hcap, k5])
          have hbd : ∀ i o, i < len → o < sz → (off + i) * sz + o < c.size := fun i o hi ho => by
            rw [k2]
            have := Nat.mul_le_mul_right sz (show off + i + 1 ≤ C by omega)
            rw [Nat.add_mul, Nat.one_mul] at this
            omega
          refine .list _ _ cap sz len _ (fun i o => c.getD ((off + i) * sz + o) undef) hlc (by omega) h0 (fun _ => ⟨b, off * sz, rfl, .inr hm, fun i o hi ho => ?_⟩) (fun i hi => hfl _ (by omega)) (fun i o hi ho => mem_one k6 (hbd i o hi ho)) fun i o hi ho => (k7 _ _ (by omega) ho).mono hw fun e => by cases e
          have : off * sz + (i * sz + o) = (off + i) * sz + o := by rw [Nat.add_mul]; omega
          rw [this]
          exact cell_of_heap k1 (hbd i o hi ho)
    · exact h.mono hw fun _ => hC
  unfold frzI
  split
  · rename_i l hl
    rw [hl] at hE
    obtain ⟨cs, hcs, hs, h1', hr⟩ := rv_agg hE
    rw [hcs]
    refine .agg _ _ _ (by rw [frzSL_length]; exact hs) (fun j hj => h1' j (by rwa [frzSL_length] at hj)) fun j hj => ?_
    rw [frzSL_length] at hj
    rw [lget_frzSL]
    exact one _ _ (hr j hj)
  · exact one _ _ hE

def mapEK (g : AV → AV) (l : Env) (K : Env → Prop) : Prop := match l with
  | [] => K []
  | (n, x) :: r => norm1 (g x) fun y => mapEK g r fun r' => K ((n, y) :: r')
theorem mapEK_iff (g : AV → AV) : ∀ (l : Env) (K : Env → Prop), mapEK g l K ↔ K (mapE g l)
  | [], K => Iff.rfl
  | (n, x) :: r, K => (norm1_iff (g x) _).trans (mapEK_iff g r _)

section
variable {P : Program} {nt : Nat} {env : Env} {T : Tab} {Q : Post}
theorem Run.frzO {k : List AItem} {l : List AOper} (id : Nat) {sz n cv : Nat} {f : Nat → List AV} (hT : tget T id = .row sz n cv f) (h : mapEK (frzI id cv f) env fun e => tsetK T id .dead fun t => Goes P nt Q (.ops l :: k) e t) : Run P nt (.ops l :: k) env T Q := by
  rw [mapEK_iff, tsetK_iff] at h
  exact Run.wk_ops (Wk.frz hT) (Goes.run h)
theorem Run.frzC {k : List AItem} {c : ACode} (id : Nat) {sz n cv : Nat} {f : Nat → List AV} (hT : tget T id = .row sz n cv f) (h : mapEK (frzI id cv f) env fun e => tsetK T id .dead fun t => Goes P nt Q (.code c :: k) e t) : Run P nt (.code c :: k) env T Q := by
  rw [mapEK_iff, tsetK_iff] at h
  exact Run.wk_code (Wk.frz hT) (Goes.run h)
end

/-! ### A row told anew: another number, a later version -/
/-- The first elements of the row j are the row k from now on, at the version v'. -/
theorem Wk.move {T : Tab} {r : Nat} {j k n' v' szj nj vj nk vk len : Nat} {fj fk f' : Nat → List AV} (hj : tget T j = .row szj nj vj fj) (hk : tget T k = .row szj nk vk fk) (hv : vk < v') (hn : n' ≤ nj) (hf : ∀ i, i < n' → LeL (fj i) (f' i)) (hl : len ≤ n') :
    Wk [(r, .row szj j vj 0 len)] T [(r, .row szj k v' 0 len)] (tset (tset T j .dead) k (.row szj n' v' f')) := by
  rintro G nt a w ⟨h1, h2, ok, mu, I, E⟩
  have hT' : ∀ i, tget (tset (tset T j .dead) k (.row szj n' v' f')) i = if i = k then .row szj n' v' f' else if i = j then .dead else tget T i := fun i => by rw [tget_tset, tget_tset]
  have hlj : (tget T j).live := by rw [hj]; trivial
  have hlk : (tget T k).live := by rw [hk]; trivial
  let mu' := muSet mu k (mu j)
  have hC : Compat w w mu mu' T (tset (tset T j .dead) k (.row szj n' v' f')) := by
    intro i hi
    rw [hT']
    by_cases e : i = k
    · subst e
      rw [if_pos rfl]
      exact ⟨fun e => (by cases e), fun _ e => (by cases e), fun sz2 n2 v2 f2 e => by cases e; exact ⟨nk, vk, fk, hk, Nat.le_of_lt hv, fun e => by omega⟩⟩
    · rw [if_neg e]
      by_cases e2 : i = j
      · rw [if_pos e2]; exact ⟨fun e => (by cases e), fun _ e => (by cases e), fun _ _ _ _ e => (by cases e)⟩
      · rw [if_neg e2]
        have em : mu' i = mu i := muSet_ne _ _ _ e
        rw [em]
        exact ⟨hi, fun c e => ⟨⟨c, e⟩, rfl⟩, fun sz2 n2 v2 f2 e => ⟨n2, v2, f2, e, Nat.le_refl _, fun _ => ⟨Nat.le_refl _, rfl, fun _ _ => rfl⟩⟩⟩
  have hlive : ∀ i b, mu' i = some b → (tget (tset (tset T j .dead) k (.row szj n' v' f')) i).live → (i = k ∧ mu j = some b) ∨ (i ≠ k ∧ i ≠ j ∧ mu i = some b ∧ (tget T i).live) := fun i b hi hl => by
    rw [hT'] at hl
    by_cases e : i = k
    · subst e
      exact .inl ⟨rfl, by rw [← hi]; exact (muSet_same _ _ _).symm⟩
    · rw [if_neg e] at hl
      by_cases e2 : i = j
      · rw [if_pos e2] at hl; exact hl.elim
      · rw [if_neg e2] at hl
        exact .inr ⟨e, e2, by rw [← hi]; exact (muSet_ne _ _ _ e).symm, hl⟩
  have N : Go.Proofs.Ytbpcjahjbkiofaa.AV.Next ok ok mu mu' T (tset (tset T j .dead) k (.row szj n' v' f')) w w := by
    refine Next.retab I hC (fun _ h => h) (fun _ h => .inl h) (fun i b hi hl => ?_) (fun p q b hp hq hlp hlq => ?_) (fun i => ?_)
    · rcases hlive i b hi hl with ⟨_, h⟩ | ⟨_, _, h, h'⟩
      · exact ⟨I.sep j b h hlj, j, h, hlj⟩
      · exact ⟨I.sep i b h h', i, h, h'⟩
    · rcases hlive p b hp hlp with ⟨e1, h3⟩ | ⟨e1, e2, h3, h4⟩ <;> rcases hlive q b hq hlq with ⟨g1, h5⟩ | ⟨g1, g2, h5, h6⟩
      · rw [e1, g1]
      · exact absurd (I.inj j q b h3 h5 hlj h6).symm g2
      · exact absurd (I.inj p j b h3 h5 h4 hlj) e2
      · exact I.inj p q b h3 h5 h4 h6
    · rw [hT']
      by_cases e : i = k
      · subst e
        rw [if_pos rfl]
        have ho := I.obs j
        rw [hj] at ho
        obtain ⟨q1, q2, q3⟩ := ho
        refine ⟨q1, fun p hp => by rw [← (hf p hp).1]; exact q2 p (by omega), ?_⟩
        rw [show mu' i = mu j from muSet_same _ _ _]
        cases hm : mu j with
        | none => rw [hm] at q3; show n' = 0; omega
        | some b =>
          rw [hm] at q3
          obtain ⟨c, e, C, k1, k2, k3, k4, k5, k6⟩ := q3
          exact ⟨c, e, C, k1, k2, by omega, k4, k5, fun p o hp ho => ((hf p hp).2 o (by rw [q2 p (by omega)]; exact ho) _ _ _ _ _ _ (k6 p o (by omega) ho)).mono (fun b h => ⟨h, rfl⟩) fun e => by cases e⟩
      · rw [if_neg e]
        by_cases e2 : i = j
        · rw [if_pos e2]; trivial
        · rw [if_neg e2]
          exact (I.obs i).mono (fun b h => ⟨h, rfl⟩) hC (muSet_ne _ _ _ e) fun _ _ _ => rfl
  refine ⟨h1, h2, ok, mu', I.next N, fun i => ?_⟩
  rw [eget_cons]
  by_cases e : i = r
  · subst e
    rw [if_pos rfl]
    have hE := E i
    rw [eget_cons, if_pos rfl] at hE
    have ek : tget (tset (tset T j .dead) k (.row szj n' v' f')) k = .row szj n' v' f' := by rw [hT', if_pos rfl]
    refine .row _ _ _ _ _ _ (rv_rowV hE) ⟨(by rw [ek]; exact fun e => (by cases e)), fun c hc => (by rw [ek] at hc; cases hc), fun sz2 n2 v2 f2 e2 => ?_⟩
    rw [ek] at e2
    cases e2
    refine ⟨Nat.le_refl _, fun _ => ⟨rfl, by omega, ?_⟩⟩
    obtain ⟨_, _, hcase⟩ := row_addr I hE hj rfl
    unfold SliceAt
    rw [show mu' k = mu j from muSet_same _ _ _]
    rcases hcase with ⟨hm, _, e3, _, A, hval⟩ | ⟨b, cap, hm, hval, hcap, hlc⟩
    · rw [hm]
      subst e3
      exact ⟨rfl, rfl, A, hval⟩
    · rw [hm]
      exact ⟨cap, hval, hcap, hlc⟩
  · rw [if_neg e]; exact .top _ _

/-! ### Ends -/
theorem FinT.of_wk {t T0 T1 : Tab} {rv r : AV} (h0 : T0.length ≤ 4) (h : Wk [(0, rv)] t [(0, r)] T1) : FinT t rv T0 T1 r := by
  intro G w ok mu v hT I hv
  have R : Rel G 1 [(0, rv)] t ⟨#[v], []⟩ w := ⟨⟨rfl, by rw [hT]; exact h0⟩, rfl, ok, mu, I, fun i => by
    rw [eget_cons]
    by_cases e : i = 0
    · subst e; exact hv
    · rw [if_neg e]; exact .top _ _⟩
  obtain ⟨_, _, ok', mu', I', E'⟩ := h G 1 _ w R
  have := E' 0
  exact ⟨ok', mu', I', by simpa [eget] using this⟩

/-- A function's end: what it hands out, and what of its objects stays. -/
def retW (env : Env) (T : Tab) (l : List RItem) (K : AV → Tab → Prop) : Prop := match resL env T l with
  | none => False
  | some rl => norm (resV rl) fun v => K v T
section
variable {P : Program} {nt : Nat} {env : Env} {T : Tab} {Q : Post}
theorem retW_spec {l : List RItem} {T0 T1 : Tab} {r : AV} (h0 : Nat.ble T0.length 4 = true) (h : retW env T l fun v t => Wk [(0, v)] t [(0, r)] T1) : RetQ l T0 T1 r .ret env T := by
  unfold retW at h
  split at h
  · exact h.elim
  · rename_i rl hl
    rw [norm_iff] at h
    exact ⟨rl, hl, FinT.of_wk (Nat.le_of_ble_eq_true h0) h⟩
theorem Run.retW {k : List AItem} {l : List RItem} {T0 T1 : Tab} {r : AV} (h0 : Nat.ble T0.length 4 = true) (h : AV.retW env T l fun v t => Wk [(0, v)] t [(0, r)] T1) : Run P nt (.code .ret :: k) env T (RetQ l T0 T1 r) := Run.ret (retW_spec h0 h)
theorem Run.retWR {k k0 : List AItem} {K : Env → Tab → Prop} {l : List RItem} {T0 T1 : Tab} {r : AV} (h0 : Nat.ble T0.length 4 = true) (h : AV.retW env T l fun v t => Wk [(0, v)] t [(0, r)] T1) : Run P nt (.code .ret :: k) env T (roundQ P nt (RetQ l T0 T1 r) k0 K) := Run.ret (retW_spec h0 h)

theorem AC.congr {f : FuncId} {args : List AV} {T0 T1 T2 : Tab} {r : AV} (h : AC P f args T0 r T1) (he : ∀ i, tget T1 i = tget T2 i) : AC P f args T0 r T2 := by
  refine ⟨fun w ok mu I vs h1 h2 => (h.out w ok mu I vs h1 h2).mono ?_⟩
  rintro e w' ⟨v, ok', mu', rfl, N, hv⟩
  have hC : Compat w' w' mu' mu' T1 T2 := fun id hid => by
    rw [he] at hid
    rw [he]
    exact Compat.refl _ _ _ id hid
  refine ⟨v, ok', mu', rfl, ⟨N.os, N.tape, N.output, N.size, N.keep, N.compat.trans hC, N.okL, N.okR, fun i b hi hl => N.live i b hi (by rw [he]; exact hl), fun i j b hi hj hli hlj => N.inj i j b hi hj (by rw [he]; exact hli) (by rw [he]; exact hlj), fun i => ?_⟩, hv.mono (fun b hb => ⟨hb, rfl⟩) fun _ => hC⟩
  rw [← he i]
  exact (N.obs i).mono (fun b hb => ⟨hb, rfl⟩) hC rfl fun _ _ _ => rfl

/-! ### Calls over some of one's own objects -/
def tputsK (s : List Nat) (os : Tab) (T : Tab) (K : Tab → Prop) : Prop := match s with
  | [] => K T
  | j :: r => match os with
    | [] => K T
    | o :: os => tputsK r os T fun T1 => normO o fun o => tsetK T1 j o K
theorem tputsK_iff : ∀ (s : List Nat) (os : Tab) (T : Tab) (K : Tab → Prop), tputsK s os T K ↔ K (tputs s os T)
  | [], os, T, K => Iff.rfl
  | j :: r, [], T, K => Iff.rfl
  | j :: r, o :: os, T, K => by
    show tputsK r os T (fun T1 => normO o fun o => tsetK T1 j o K) ↔ _
    rw [tputsK_iff, normO_iff, tsetK_iff]
    exact Iff.rfl

theorem Step1.callA {d : Option Nat} {g : Option (Nat × Bool)} {f : FuncId} {L : List Opd} {rv : AV} {T' : Tab} (hg : gB g env = .yes []) (hc : AC P f (vals env L) T rv T') : Step1 P nt ⟨d, .call f L, g⟩ env T rv T' := by
  refine ⟨fun mo i m hm hco G a w R K Qm hq => ?_⟩
  obtain ⟨h1, h2, h3, _⟩ := cOper_spec hco
  simp only [wpOp, hm, ((gB_spec R hco).2 _ hg).1 trivial, if_true]
  obtain ⟨hdef, hs, ok, mu, I, E⟩ := R
  obtain ⟨c, hop, hcal, hargs, fn, hfn, hb, hn⟩ := cOp_call h1
  obtain ⟨a1, a2⟩ := args_rv E hargs
  left
  unfold Oper.wp
  have hrun : (execOp a.eval m).run P w = .ok (.enter f (c.args.map a.eval)) w := by
    have := run_callFunc (P := P) (w := w) hfn hb hn (c.args.map a.eval)
    simp [execOp, hop, resolve, hcal, Act.eval, Deferred.ofValue, invoke, this]
  rw [hrun, Oper.upon_enter]
  refine (hc.out w ok mu I.base (c.args.map a.eval) a1 a2).mono ?_
  rintro e w' ⟨v, ok', mu', rfl, N, hv⟩
  have R' := Rel.put hdef hs I E N hv h3
  simp only [h2]
  exact hq _ _ R'

/-- A call over the objects s (those behind the callee's own are new), in a plain region. -/
theorem Run.callG {k : List AItem} {d : Option Nat} {g : Option (Nat × Bool)} {r : List AOper} {f : FuncId} {L : List Opd} {rv : AV} {args : List AV} {T0 T1 : Tab} (s : List Nat) (hc : AC P f args T0 rv T1) (hv : vals env L = mL s args) (hg : gB g env = .yes [])
    (hk : okG s args T0 rv T1 = true) (hT : okT s s T0 T) (h : norm (mV s rv) fun rv => tputsK s (mOs s T1) T fun T2 => bindK env d rv fun e => Goes P nt Q (.ops r :: k) e T2) :
    Run P nt (.ops (⟨d, .call f L, g⟩ :: r) :: k) env T Q := by
  rw [norm_iff, tputsK_iff, bindK_iff] at h
  exact ⟨SO.of_step1 (Step1.callA hg (by rw [hv]; exact hc.frameG s hk hT)) (Goes.run h).out⟩

/-- All but one stay as they are. -/
def sameBut (ss s : List Nat) (T1 T : Tab) (id : Nat) (ob : Ob) : Prop := match s with
  | [] => True
  | j :: r => match T1 with
    | [] => True
    | o :: T1 => (bif Nat.beq j id then mO ss o = ob else tget T j = mO ss o) ∧ sameBut ss r T1 T id ob
theorem sameBut_get {ss : List Nat} {id : Nat} {ob : Ob} : ∀ {s : List Nat} {T1 T : Tab}, sameBut ss s T1 T id ob → ∀ i, i < s.length → i < T1.length → (nthN s i = id → mO ss (tget T1 i) = ob) ∧ (nthN s i ≠ id → tget T (nthN s i) = mO ss (tget T1 i))
  | [], T1, T, h, i, hi, _ => by simp at hi
  | j :: r, [], T, h, i, _, hi => by simp at hi
  | j :: r, o :: T1, T, h, i, hi, hi' => by
    obtain ⟨h1, h2⟩ := h
    cases i with
    | zero =>
      show (j = id → mO ss o = ob) ∧ (j ≠ id → tget T j = mO ss o)
      cases hb : Nat.beq j id with
      | true => rw [hb] at h1; exact ⟨fun _ => h1, fun e => absurd (Nat.eq_of_beq_eq_true hb) e⟩
      | false => rw [hb] at h1; exact ⟨fun e => by subst e; simp at hb, fun _ => h1⟩
    | succ i => exact sameBut_get h2 i (by simpa using hi) (by simpa using hi')
/-- All stay as they are. -/
def sameAll (ss s : List Nat) (T1 T : Tab) : Prop := match s with
  | [] => True
  | j :: r => match T1 with
    | [] => True
    | o :: T1 => tget T j = mO ss o ∧ sameAll ss r T1 T
theorem sameAll_get {ss : List Nat} : ∀ {s : List Nat} {T1 T : Tab}, sameAll ss s T1 T → ∀ i, i < s.length → i < T1.length → tget T (nthN s i) = mO ss (tget T1 i)
  | [], T1, T, h, i, hi, _ => by simp at hi
  | j :: r, [], T, h, i, _, hi => by simp at hi
  | j :: r, o :: T1, T, h, i, hi, hi' => by
    cases i with
    | zero => exact h.1
    | succ i => exact sameAll_get h.2 i (by simpa using hi) (by simpa using hi')

theorem okT_congr {ss : List Nat} : ∀ {s : List Nat} {T0 T T' : Tab}, okT ss s T0 T → (∀ i ∈ s, tget T' i = tget T i) → okT ss s T0 T'
  | [], T0, T, T', _, _ => trivial
  | j :: r, [], T, T', h, he => ⟨by rw [he j (by simp)]; exact h.1, okT_congr h.2 fun i hi => he i (List.mem_cons_of_mem _ hi)⟩
  | j :: r, o :: T0, T, T', h, he => ⟨by rw [he j (by simp)]; exact h.1, okT_congr (T0 := T0) h.2 fun i hi => he i (List.mem_cons_of_mem _ hi)⟩

theorem inB_mem {id : Nat} {s : List Nat} (h : (notIn (some id) s) = false) : id ∈ s := by
  induction s with
  | nil => simp [notIn] at h
  | cons m r ih =>
    simp only [notIn, Bool.and_eq_false_iff, Bool.not_eq_false'] at h
    rcases h with h | h
    · exact (Nat.eq_of_beq_eq_true h) ▸ List.mem_cons_self
    · exact List.mem_cons_of_mem _ (ih h)

/-- The same where the order is open: the call changes, or makes, one object. -/
theorem Run.callGD {k : List AItem} {d : Option Nat} {g : Option (Nat × Bool)} {r : List AOper} {b : Nat} {bm : List Nat} {hh : List HF} {f : FuncId} {L : List Opd} {rv : AV} {args : List AV} {T0 T1 : Tab} (s : List Nat) (id : Nat) {ob : Ob} (hc : AC P f args T0 rv T1) (hv : vals env L = mL s args) (hg : gB g env = .yes [])
    (hk : okG s args T0 rv T1 = true) (hT : okT s s T0 T) (hid : notIn (some id) s = false) (hob : sameBut s s T1 T id ob) (hx : chkH b 0 hh ⟨d, lapp (gS g) (opdsS L), s, some id⟩ = true)
    (h : norm (mV s rv) fun rv => tupdK T (some (id, ob)) fun T2 => happK hh ⟨d, lapp (gS g) (opdsS L), s, some id⟩ fun h1 => bindK env d rv fun e => Goes P nt Q (.dops r bm h1 :: k) e T2) :
    Run P nt (.dops (⟨d, .call f L, g⟩ :: r) (b :: bm) hh :: k) env T Q := by
  rw [norm_iff, tupdK_iff, happK_iff, bindK_iff] at h
  refine ⟨DO.fact (fp := s) (u := some (id, ob)) ⟨fun env' T' he ht => ?_⟩ hx (Goes.run h).out⟩
  rw [agE_rdOf] at he
  rw [agT_fpOf] at ht
  have hsl : ∀ n ∈ opdsS L, eget env' n = eget env n := fun n hn => he n (mem_lapp.2 (.inr hn))
  have hv' : vals env' L = mL s args := by rw [vals_congr hsl]; exact hv
  have hac := hc.frameG s hk (okT_congr hT ht)
  have hlen : s.length = T1.length := by
    simp only [okG, Bool.and_eq_true, Nat.beq_eq] at hk
    exact hk.1
  have hnd : ndB s = true := by
    simp only [okG, Bool.and_eq_true] at hk
    exact hk.2.1
  refine Step1.callA (by rw [gB_congr fun n hn => he n (mem_lapp.2 (.inl hn))]; exact hg) ?_
  rw [hv']
  refine hac.congr fun i => ?_
  show _ = tget (tset T' id ob) i
  rw [tget_tputs s _ T' i (by rw [mOs_length]; exact hlen), tget_tset]
  cases hf : fnd s i with
  | none =>
    have : i ≠ id := fun e => by
      subst e
      obtain ⟨q, hq, hqe⟩ := List.mem_iff_getElem.1 (inB_mem hid)
      refine fnd_none hf q hq ?_
      rw [nthN_get]
      simp [hq, hqe]
    rw [if_neg this]
  | some q =>
    obtain ⟨h1, h2⟩ := fnd_some hf
    obtain ⟨g1, g2⟩ := sameBut_get hob q h1 (by rw [← hlen]; exact h1)
    show tget (mOs s T1) q = _
    rw [tget_mOs]
    by_cases e : i = id
    · rw [if_pos e]
      exact g1 (by rw [h2, e])
    · rw [if_neg e, ← g2 (by rw [h2]; exact e), h2]
      exact (ht i (by rw [← h2]; exact nthN_mem s q h1)).symm

/-- .. or none. -/
theorem Run.callGN {k : List AItem} {d : Option Nat} {g : Option (Nat × Bool)} {r : List AOper} {b : Nat} {bm : List Nat} {hh : List HF} {f : FuncId} {L : List Opd} {rv : AV} {args : List AV} {T0 T1 : Tab} (s : List Nat) (hc : AC P f args T0 rv T1) (hv : vals env L = mL s args) (hg : gB g env = .yes [])
    (hk : okG s args T0 rv T1 = true) (hT : okT s s T0 T) (hob : sameAll s s T1 T) (hx : chkH b 0 hh ⟨d, lapp (gS g) (opdsS L), s, none⟩ = true)
    (h : norm (mV s rv) fun rv => happK hh ⟨d, lapp (gS g) (opdsS L), s, none⟩ fun h1 => bindK env d rv fun e => Goes P nt Q (.dops r bm h1 :: k) e T) :
    Run P nt (.dops (⟨d, .call f L, g⟩ :: r) (b :: bm) hh :: k) env T Q := by
  rw [norm_iff, happK_iff, bindK_iff] at h
  refine ⟨DO.fact (fp := s) (u := none) ⟨fun env' T' he ht => ?_⟩ hx (Goes.run h).out⟩
  rw [agE_rdOf] at he
  rw [agT_fpOf] at ht
  have hsl : ∀ n ∈ opdsS L, eget env' n = eget env n := fun n hn => he n (mem_lapp.2 (.inr hn))
  have hv' : vals env' L = mL s args := by rw [vals_congr hsl]; exact hv
  have hac := hc.frameG s hk (okT_congr hT ht)
  have hlen : s.length = T1.length := by
    simp only [okG, Bool.and_eq_true, Nat.beq_eq] at hk
    exact hk.1
  refine Step1.callA (by rw [gB_congr fun n hn => he n (mem_lapp.2 (.inl hn))]; exact hg) ?_
  rw [hv']
  refine hac.congr fun i => ?_
  show _ = tget T' i
  rw [tget_tputs s _ T' i (by rw [mOs_length]; exact hlen)]
  cases hf : fnd s i with
  | none => rfl
  | some q =>
    obtain ⟨h1, h2⟩ := fnd_some hf
    show tget (mOs s T1) q = _
    rw [tget_mOs, ← sameAll_get hob q h1 (by rw [← hlen]; exact h1), h2]
    exact (ht i (by rw [← h2]; exact nthN_mem s q h1)).symm
end

end Go.Proofs.Ytbpcjahjbkiofaa.AV

set_option linter.unusedVariables false
set_option linter.unusedSimpArgs false
namespace Go.Proofs.Ytbpcjahjbkiofaa.AV
open Go

def padT (n : Nat) (T : Tab) : Tab := match n with
  | 0 => T
  | n + 1 => match T with
    | [] => .dead :: padT n []
    | o :: r => o :: padT n r
theorem tget_padT : ∀ (n : Nat) (T : Tab) (i : Nat), tget (padT n T) i = tget T i ∨ (tget T i = .fresh ∧ tget (padT n T) i = .dead)
  | 0, T, i => .inl rfl
  | n + 1, [], 0 => .inr ⟨tget_nil 0, rfl⟩
  | n + 1, [], i + 1 => by
    have := tget_padT n [] i
    rw [tget_nil] at this ⊢
    exact this
  | n + 1, o :: r, 0 => .inl rfl
  | n + 1, o :: r, i + 1 => tget_padT n r i
theorem Wk.pad {env : Env} {T : Tab} (n : Nat) : Wk env T env (padT n T) := Wk.tab fun i => by
  rcases tget_padT n T i with h | ⟨h1, h2⟩
  · rw [h]; exact LeOb.refl _
  · rw [h1, h2]; exact .inr rfl

section
variable {P : Program} {nt : Nat} {env : Env} {T : Tab} {Q : Post}

/-- A part of a row of one's own, where the order is open. -/
theorem Run.slXD {k : List AItem} {d : Option Nat} {g : Option (Nat × Bool)} {r : List AOper} {bb : Nat} {bm : List Nat} {hh : List HF} {sz id ver off len n cv i j : Nat} {X : Opd} {lo hi : Option Opd} {f : Nat → List AV} {x y : Int} (hg : gB g env = .yes []) (hx : oval env X = .row sz id ver off len) (hT : tget T id = .row sz n cv f) (hver : Nat.beq ver cv = true) (hl : bndV env 0 lo = some x) (hh' : bndV env len hi = some y) (ex : x = (i : Int)) (ey : y = (j : Int))
    (h1 : i < j ∨ i = 0) (h2 : i ≤ j) (h3 : off + j ≤ n) (hk : chkH bb 0 hh ⟨d, lapp (gS g) (slots (.sl sz X lo hi none)), [id], none⟩ = true)
    (h : happK hh ⟨d, lapp (gS g) (slots (.sl sz X lo hi none)), [id], none⟩ fun h1 => bindK env d (.row sz id ver (off + i) (j - i)) fun e => Goes P nt Q (.dops r bm h1 :: k) e T) :
    Run P nt (.dops (⟨d, .sl sz X lo hi none, g⟩ :: r) (bb :: bm) hh :: k) env T Q := by
  rw [happK_iff, bindK_iff] at h
  refine ⟨DO.fact (fp := [id]) (u := none) (v := .row sz id ver (off + i) (j - i)) ⟨fun env' T' he ht => ?_⟩ hk (Goes.run h).out⟩
  rw [agE_rdOf] at he
  rw [agT_fpOf] at ht
  have hsl : ∀ n ∈ slots (.sl sz X lo hi none), eget env' n = eget env n := fun n hn => he n (mem_lapp.2 (.inr hn))
  have e1 : oval env' X = oval env X := oval_congr fun n hn => hsl n (mem_lapp.2 (.inl hn))
  have e2 : bndV env' 0 lo = bndV env 0 lo := bndV_congr fun n hn => hsl n (mem_lapp.2 (.inr (mem_lapp.2 (.inl hn))))
  have e3 : bndV env' len hi = bndV env len hi := bndV_congr fun n hn => hsl n (mem_lapp.2 (.inr (mem_lapp.2 (.inr (mem_lapp.2 (.inl hn))))))
  have hd := Does.slRX (P := P) (env := env') (T := T') (hx := by rw [e1]; exact hx) (hT := by rw [ht id (by simp)]; exact hT) hver (hl := by rw [e2]; exact hl) (hh := by rw [e3]; exact hh') ex ey h1 h2 h3
  refine ⟨fun mo i m hm hco G a w R K Qm hq => ?_⟩
  obtain ⟨q1, q2, q3, _⟩ := cOper_spec hco
  simp only [wpOp, hm, ((gB_spec R hco).2 _ (gB_some (p := .sl sz X lo hi none) he hg)).1 trivial, if_true]
  obtain ⟨hdef, hs, ok, mu, I, E⟩ := R
  obtain ⟨nx, x, w', ok', mu', hrun, hnx, N, hx'⟩ := hd.out q1 I E
  left
  unfold Oper.wp
  rw [hrun]
  have R' := Rel.put hdef hs I E N hx' q3
  rcases hnx with rfl | ⟨rfl, rfl⟩
  · simp only [Oper.upon, q2]; exact hq _ _ R'
  · simp only [Oper.upon, q2]; exact hq _ _ R'

/-- A copy into a part of a row of one's own, where the order is open. -/
theorem Run.copyD {k : List AItem} {d : Option Nat} {g : Option (Nat × Bool)} {r : List AOper} {bb : Nat} {bm : List Nat} {hh : List HF} {sz id ver off len n cv m : Nat} {X Y : Opd} {f f2 : Nat → List AV} (hg : gB g env = .yes []) (hx : oval env X = .row sz id ver off len) (hT : tget T id = .row sz n cv f) (hver : Nat.beq ver cv = true) (h0 : 0 < len)
    (hy : srcS T sz (oval env Y) = some (sz, m, f2)) (hk : chkH bb 0 hh ⟨d, lapp (gS g) (slots (.copy sz X Y)), id :: idOf (oval env Y), some id⟩ = true)
    (h : tupdK T (some (id, .row sz n cv (fput off (min m len) f2 f))) fun T1 => happK hh ⟨d, lapp (gS g) (slots (.copy sz X Y)), id :: idOf (oval env Y), some id⟩ fun h1 => bindK env d (.int .i64 (min m len : Nat)) fun e => Goes P nt Q (.dops r bm h1 :: k) e T1) :
    Run P nt (.dops (⟨d, .copy sz X Y, g⟩ :: r) (bb :: bm) hh :: k) env T Q := by
  refine Run.doesDT (v := .int .i64 (min m len : Nat)) (id :: idOf (oval env Y)) hg (fun env' T' he ht => ?_) hk (by rw [norm_iff]; exact h)
  have ex : oval env' X = oval env X := oval_congr fun n hn => he n (mem_lapp.2 (.inl hn))
  have ey : oval env' Y = oval env Y := oval_congr fun n hn => he n (mem_lapp.2 (.inr hn))
  exact Does.copy (by rw [ex]; exact hx) (by rw [ht id (by simp)]; exact hT) hver h0 (by rw [ey, srcS_congr fun i hi => ht i (List.mem_cons_of_mem _ hi)]; exact hy)
end
end Go.Proofs.Ytbpcjahjbkiofaa.AV

