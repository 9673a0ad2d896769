/- The law instarlaw16.TypingRight: whatever the schema and the step, the call returns true and the arguments read as they did. -/
import Derived.Test.YtbpcjahjbkiofaaMTypingRight4
import Derived.Laws.BytesArg
import Derived.ProofKit
import Derived.Test.YtbpcjahjbkiofaaRows
import Derived.WalkKit
import Derived.OpenShut
import Derived.ShutString
import Derived.ChangeOld
import Derived.Below
set_option linter.unusedVariables false
set_option linter.unusedSimpArgs false
namespace Go.Proofs.Ytbpcjahjbkiofaa.Sp
open Go Go.Proofs.Ytbpcjahjbkiofaa.AV Go.Proofs.Ytbpcjahjbkiofaa.Fn
set_option maxRecDepth 10000

/-- One round: what was done and put out before it, the form that comes; the next form. -/
def fmIns (f : Frm) (d : Bool) (x : Frm) : Bool := !d && decide (x.id ≥ f.id)
def fmD (f : Frm) (d : Bool) (x : Frm) : Bool := d || fmIns f d x
def fmO (f : Frm) (d : Bool) (o : List Frm) (x : Frm) : List Frm := (bif fmIns f d x then o ++ [f] else o) ++ (bif x.id != f.id then [x] else [])
def fmStep (f : Frm) (p : Bool × List Frm) (x : Frm) : Bool × List Frm := (fmD f p.1 x, fmO f p.1 p.2 x)
def fmAt (l : List Frm) (f : Frm) (i : Nat) : Bool × List Frm := (l.take i).foldl (fmStep f) ((f.fields.length : Int) == 0, [])
def rForms (l : List Frm) (f : Frm) : List Frm := (fmAt l f l.length).2 ++ (bif (fmAt l f l.length).1 then [] else [f])

theorem fmAt_succ {l : List Frm} {f : Frm} {i : Nat} (hi : i < l.length) : fmAt l f (i + 1) = fmStep f (fmAt l f i) (l.getD i default) := by
  unfold fmAt
  rw [List.take_add_one, List.foldl_append]
  simp [hi, List.getD_eq_getElem?_getD]

theorem fmO_len {f : Frm} {d : Bool} {o : List Frm} {x : Frm} : (fmO f d o x).length ≤ o.length + 2 := by
  unfold fmO
  cases fmIns f d x <;> cases (x.id != f.id) <;> simp

theorem fmAt_len {l : List Frm} {f : Frm} : ∀ i, i ≤ l.length → (fmAt l f i).2.length ≤ 2 * i
  | 0, _ => by simp [fmAt]
  | i + 1, h => by
    rw [fmAt_succ (by omega)]
    have := fmAt_len (l := l) (f := f) i (by omega)
    have h2 := fmO_len (f := f) (d := (fmAt l f i).1) (o := (fmAt l f i).2) (x := l.getD i default)
    show (fmO f _ _ _).length ≤ _
    omega

/-- A row to which one form has been appended. -/
theorem app_frm {o : List Frm} {x : Frm} {k : Nat} (hk : k < o.length + 1) : fapp o.length (frmF o) (nthL [x.cells]) k = frmF (o ++ [x]) k := by
  unfold frmF
  by_cases h : k < o.length
  · rw [fapp_lt h]
    congr 1
    rw [List.getD_eq_getElem?_getD, List.getD_eq_getElem?_getD, List.getElem?_append_left h]
  · obtain rfl : k = o.length := by omega
    rw [fapp_ge (Nat.le_refl _), Nat.sub_self]
    show x.cells = _
    congr 1
    rw [List.getD_eq_getElem?_getD, List.getElem?_append_right (Nat.le_refl _)]
    simp

theorem r16_forms (s : Sch) (f : Frm) (hs : Small s) (hf : f.fields.length ≤ 1000) : AC P R16_forms.id [.agg s.cells, .agg f.cells] [] (.agg (Sch.cells ⟨s.version, rForms s.forms f⟩)) [] := by
  obtain ⟨hb, hfs⟩ := hs
  refine R16_forms.intro rfl (Goes.run ?_)
  conv => whnf
  refine ⟨rfl, ?_⟩
  refine Run.loopN (ι := Nat) (fun i => i ≤ s.forms.length) (fun i => [(2, .ptr 0 0 0 0), (3, .ptr 1 0 0 0), (4, .ptr 2 0 0 0), (5, .ptr 3 0 0 0), (6, .bool (fmAt s.forms f i).1), (7, .int .i64 (i : Int))])
    (fun i => [.box s.cells, .box f.cells, .box [.int .i64 0, .zsl], .box [.int .i64 s.version, .row 2 4 (fmAt s.forms f i).2.length 0 (fmAt s.forms f i).2.length], .row 2 (fmAt s.forms f i).2.length (fmAt s.forms f i).2.length (frmF (fmAt s.forms f i).2)])
    (fun i => s.forms.length - i) 0 (Nat.zero_le _) ?_ fun i hi => ?_
  · exact Wk.trans (Wk.virt (b := 3) (nid := 4) (sz := 2) 1 (frmF []) rfl rfl rfl rfl rfl) (Wk.ofEnv (Wk.cons (.refl _) (Wk.cons (.refl _) (Wk.cons (.refl _) (Wk.cons (.refl _) (Wk.cons (.refl _) (Wk.cons (.refl _) Wk.done)))))))
  have hstep := fmAt_succ (l := s.forms) (f := f) (i := i)
  have hlen := fmAt_len (l := s.forms) (f := f) i hi
  generalize hd : (fmAt s.forms f i).1 = d at hstep hlen ⊢
  generalize ho : (fmAt s.forms f i).2 = o at hstep hlen ⊢
  conv => whnf
  refine ⟨rfl, ?_⟩
  refine Run.condC rfl (fun h => ?_) (fun h => ?_) <;> (conv => whnf) <;> refine ⟨rfl, ?_⟩
  · have hlt : i < s.forms.length := by simpa using h
    have hstep2 : fmAt s.forms f (i + 1) = (fmD f d (s.forms.getD i default), fmO f d o (s.forms.getD i default)) := by rw [hstep hlt, fmStep, hd, ho]
    have hwi : IntKind.i64.wrap ((i : Int) + 1) = ((i + 1 : Nat) : Int) := by rw [wrap_of (by omega) (by omega)]; simp
    generalize hx : s.forms.getD i default = x at hstep hstep2
    have hx' : s.forms.getD (Int.toNat (i : Int)) default = x := hx
    have fin : ∀ (e : Env) (m : Nat) (F : Nat → List AV) (o' : List Frm) (d' : Bool), o' = fmO f d o x → d' = fmD f d x → m = o'.length → (∀ k, k < m → F k = frmF o' k) →
        (∀ q ∈ [(2, AV.ptr 0 0 0 0), (3, .ptr 1 0 0 0), (4, .ptr 2 0 0 0), (5, .ptr 3 0 0 0), (6, .bool d'), (7, .int .i64 ((i + 1 : Nat) : Int))], Le (eget e q.1) q.2) →
        Wk e [.box s.cells, .box f.cells, .box [.int .i64 0, .zsl], .box [.int .i64 s.version, .row 2 4 m 0 m], .row 2 m m F]
          [(2, .ptr 0 0 0 0), (3, .ptr 1 0 0 0), (4, .ptr 2 0 0 0), (5, .ptr 3 0 0 0), (6, .bool (fmAt s.forms f (i + 1)).1), (7, .int .i64 ((i + 1 : Nat) : Int))]
          [.box s.cells, .box f.cells, .box [.int .i64 0, .zsl], .box [.int .i64 s.version, .row 2 4 (fmAt s.forms f (i + 1)).2.length 0 (fmAt s.forms f (i + 1)).2.length], .row 2 (fmAt s.forms f (i + 1)).2.length (fmAt s.forms f (i + 1)).2.length (frmF (fmAt s.forms f (i + 1)).2)] := by
      intro e m F o' d' h1 h2 h3 h4 h5
      rw [hstep2]
      simp only
      rw [← h1, ← h2]
      subst h3
      refine Wk.trans (Wk.ofEnv h5) (Wk.tab fun k => ?_)
      match k with
      | 0 => exact LeOb.refl _
      | 1 => exact LeOb.refl _
      | 2 => exact LeOb.refl _
      | 3 => exact LeOb.refl _
      | 4 => exact ⟨rfl, rfl, rfl, fun k hk => leL_eq (h4 k hk)⟩
      | k + 5 => exact .inl rfl
    refine Run.iaD rfl rfl rfl rfl rfl (fun _ => ⟨by omega, by omega⟩) rfl ?_
    conv => whnf
    rw [hx']
    refine ⟨rfl, ?_⟩
    refine Run.condC rfl (fun h1 => ?_) (fun h1 => ?_) <;> (conv => whnf) <;> refine ⟨rfl, ?_⟩
    · have hins : fmIns f d x = true := h1
      have hD : fmD f d x = true := by simp only [fmD, hins, Bool.or_true]
      refine Run.doesT (id := 4) rfl (Does.appR rfl rfl rfl (by simp only [maxLen, List.length_cons, List.length_nil]; omega) (by simp only [List.length_cons, List.length_nil]; omega)) ?_
      conv => whnf
      refine ⟨rfl, ?_⟩
      refine Run.iaD rfl rfl rfl rfl rfl (fun _ => ⟨by omega, by omega⟩) rfl ?_
      conv => whnf
      rw [hx']
      refine ⟨rfl, ?_⟩
      refine Run.condC rfl (fun h2 => ?_) (fun h2 => ?_) <;> (conv => whnf) <;> refine ⟨rfl, ?_⟩
      · refine Run.iaD rfl rfl rfl rfl rfl (fun _ => ⟨by omega, by omega⟩) rfl ?_
        conv => whnf
        rw [hx']
        refine ⟨rfl, ?_⟩
        refine Run.appRD rfl rfl rfl rfl (by simp only [maxLen, List.length_cons, List.length_nil]; omega) (by simp only [List.length_cons, List.length_nil]; omega) rfl ?_
        conv => whnf
        refine ⟨rfl, ?_⟩
        have hO : fmO f d o x = o ++ [f] ++ [x] := by simp only [fmO, hins, h2, cond_true]
        refine Run.endR ⟨i + 1, by omega, by omega, fin _ (o.length + 1 + 1) _ (o ++ [f] ++ [x]) true hO.symm hD.symm (by simp) (fun k hk => ?_) (Wk.cons (.refl _) (Wk.cons (.refl _) (Wk.cons (.refl _) (Wk.cons (.refl _) (Wk.cons (.tt rfl) (Wk.cons (.int hwi) Wk.done))))))⟩
        have hle : (o ++ [f]).length = o.length + 1 := by simp
        refine Eq.trans ?_ (app_frm (o := o ++ [f]) (x := x) (by rw [hle]; exact hk))
        rw [hle]
        show fapp (o.length + 1) (fapp o.length (frmF o) (nthL [f.cells])) (nthL [x.cells]) k = _
        by_cases hk1 : k < o.length + 1
        · rw [fapp_lt hk1, fapp_lt hk1, app_frm hk1]
        · rw [fapp_ge (by omega), fapp_ge (by omega)]
      · have hO : fmO f d o x = o ++ [f] := by simp only [fmO, hins, h2, cond_true, cond_false, List.append_nil]
        refine Run.endR ⟨i + 1, by omega, by omega, fin _ (o.length + 1) _ (o ++ [f]) true hO.symm hD.symm (by simp) (fun k hk => app_frm hk) (Wk.cons (.refl _) (Wk.cons (.refl _) (Wk.cons (.refl _) (Wk.cons (.refl _) (Wk.cons (.tt rfl) (Wk.cons (.int hwi) Wk.done))))))⟩
    · have hins : fmIns f d x = false := h1
      have hD : fmD f d x = d := by simp only [fmD, hins, Bool.or_false]
      refine Run.iaD rfl rfl rfl rfl rfl (fun _ => ⟨by omega, by omega⟩) rfl ?_
      conv => whnf
      rw [hx']
      refine ⟨rfl, ?_⟩
      refine Run.condC rfl (fun h2 => ?_) (fun h2 => ?_) <;> (conv => whnf) <;> refine ⟨rfl, ?_⟩
      · refine Run.iaD rfl rfl rfl rfl rfl (fun _ => ⟨by omega, by omega⟩) rfl ?_
        conv => whnf
        rw [hx']
        refine ⟨rfl, ?_⟩
        refine Run.appRD rfl rfl rfl rfl (by simp only [maxLen, List.length_cons, List.length_nil]; omega) (by simp only [List.length_cons, List.length_nil]; omega) rfl ?_
        conv => whnf
        refine ⟨rfl, ?_⟩
        have hO : fmO f d o x = o ++ [x] := by simp only [fmO, hins, h2, cond_true, cond_false]
        refine Run.endR ⟨i + 1, by omega, by omega, fin _ (o.length + 1) _ (o ++ [x]) d hO.symm hD.symm (by simp) (fun k hk => app_frm hk) (Wk.cons (.refl _) (Wk.cons (.refl _) (Wk.cons (.refl _) (Wk.cons (.refl _) (Wk.cons (.refl _) (Wk.cons (.int hwi) Wk.done))))))⟩
      · have hO : fmO f d o x = o := by simp only [fmO, hins, h2, cond_false, List.append_nil]
        refine Run.endR ⟨i + 1, by omega, by omega, fin _ o.length _ o d hO.symm hD.symm rfl (fun k hk => rfl) (Wk.cons (.refl _) (Wk.cons (.refl _) (Wk.cons (.refl _) (Wk.cons (.refl _) (Wk.cons (.refl _) (Wk.cons (.int hwi) Wk.done))))))⟩
  · have hge : i = s.forms.length := by simp at h; omega
    subst hge
    refine Run.exitR rfl rfl ?_
    conv => whnf
    refine ⟨rfl, ?_⟩
    refine Run.condC rfl (fun h1 => ?_) (fun h1 => ?_) <;> (conv => whnf) <;> refine ⟨rfl, ?_⟩
    · simp only [Bool.not_eq_true'] at h1
      refine Run.doesT (id := 4) rfl (Does.appR rfl rfl rfl (by simp only [maxLen, List.length_cons, List.length_nil]; omega) (by simp only [List.length_cons, List.length_nil]; omega)) ?_
      conv => whnf
      refine ⟨rfl, ?_⟩
      refine Run.retS ?_
      conv => whnf
      have e : rForms s.forms f = o ++ [f] := by simp only [rForms, hd, ho, h1, cond_false]
      rw [e]
      exact FinS.aggF (j := 4) rfl rfl rfl rfl (Le.agg (.cons (.refl _) (.cons (Le.list (by simp) fun k hk => leL_eq (by rw [Nat.zero_add]; exact app_frm hk)) .nil)))
    · simp only [Bool.not_eq_false'] at h1
      refine Run.retS ?_
      conv => whnf
      have e : rForms s.forms f = o := by simp only [rForms, hd, ho, h1, cond_true, List.append_nil]
      rw [e]
      exact FinS.aggF (j := 4) rfl rfl rfl rfl (Le.agg (.cons (.refl _) (.cons (Le.list rfl fun k hk => leL_eq (by rw [Nat.zero_add]; rfl)) .nil)))
end Go.Proofs.Ytbpcjahjbkiofaa.Sp

set_option linter.unusedVariables false
set_option linter.unusedSimpArgs false
namespace Go.Proofs.Ytbpcjahjbkiofaa.Sp
open Go Go.Proofs.Ytbpcjahjbkiofaa.AV Go.Proofs.Ytbpcjahjbkiofaa.Fn
set_option maxRecDepth 10000

def rK (l : List Frm) (t : Stp) : Nat := (sFind l t.form).getD 0
def rFs (l : List Frm) (t : Stp) : List Fld := (l.getD (rK l t) default).fields
def rA (l : List Frm) (t : Stp) : Nat := (fAt (rFs l t) t.field).getD 0
def rF (l : List Frm) (t : Stp) : Fld := (rFs l t).getD (rA l t) default
/-- What comes for a field, put in one by one. -/
def putI (x : List Fld) (p : Nat) (ts : List Fld) : Nat → List Fld
  | 0 => x
  | i + 1 => fput (putI x p ts i) (p + i) (ts.getD i default)
def rP (l : List Frm) (t : Stp) : Nat := bif t.op == 7 then t.place.toNat else rA l t
def rT (l : List Frm) (t : Stp) (i : Nat) : List Fld := putI (fcut (rFs l t) (rA l t)) (rP l t) (tyL (rF l t) t) i
def rB (l : List Frm) (t : Stp) : List Fld :=
  bif t.op == 9 then t.fields else bif t.op == 1 then fput (rFs l t) t.place.toNat t.f else bif t.op == 10 then [] else rT l t (tyL (rF l t) t).length
def rN (l : List Frm) (t : Stp) : List Frm := rForms l ⟨t.form, rB l t⟩
def badR (s : Sch) (t : Stp) : Bool := (!sRight s || !stRight t) || decide (t.op > 10)
def is3 (t : Stp) : Bool := t.op == 9 || t.op == 1 || t.op == 10
def rOn (s : Sch) (t : Stp) : Sch × Int :=
  bif badR s t then (⟨0, []⟩, 2) else bif nmErr s.forms t != 0 then (⟨0, []⟩, nmErr s.forms t) else
  bif !is3 t && !tyO (rF s.forms t) t then (⟨0, []⟩, 17) else bif !is3 t && (rB s.forms t).length == 0 then (⟨0, []⟩, 7) else
  bif !sRight ⟨s.version, rN s.forms t⟩ then (⟨0, []⟩, 7) else (⟨s.version, rN s.forms t⟩, 0)

theorem putI_len {x : List Fld} {p : Nat} {ts : List Fld} (h : p ≤ x.length) : ∀ i, (putI x p ts i).length = x.length + i
  | 0 => rfl
  | i + 1 => by show (fput _ _ _).length = _; rw [fput_len (by rw [putI_len h i]; omega), putI_len h i]; omega
theorem tyL_len (f : Fld) (t : Stp) : (tyL f t).length ≤ 2 := by
  unfold tyL
  cases (t.op == 2) <;> cases (t.op == 3) <;> cases (t.op == 4) <;> cases (t.op == 5) <;> cases (t.op == 6) <;> cases (t.op == 8) <;> simp

theorem fm_mem {l : List Frm} {f : Frm} : ∀ i, i ≤ l.length → ∀ x ∈ (fmAt l f i).2, x ∈ l ∨ x = f
  | 0, _, x, h => by simp [fmAt] at h
  | i + 1, hi, x, h => by
    rw [fmAt_succ (by omega)] at h
    have h : x ∈ fmO f (fmAt l f i).1 (fmAt l f i).2 (l.getD i default) := h
    have ih := fm_mem (l := l) (f := f) i (by omega)
    have hg : l.getD i default ∈ l := by
      rw [show l.getD i default = l[i]'(by omega) by simp [List.getD_eq_getElem?_getD, show i < l.length by omega]]
      exact List.getElem_mem _
    unfold fmO at h
    generalize fmIns f (fmAt l f i).1 (l.getD i default) = b1 at h
    generalize ((l.getD i default).id != f.id) = b2 at h
    rw [List.mem_append] at h
    rcases h with h | h
    · cases b1 with
      | true =>
        simp only [cond_true, List.mem_append, List.mem_singleton] at h
        rcases h with h | h
        · exact ih x h
        · exact .inr h
      | false => exact ih x h
    · cases b2 with
      | true =>
        simp only [cond_true, List.mem_singleton] at h
        subst h
        exact .inl hg
      | false => simp at h
theorem rForms_mem {l : List Frm} {f x : Frm} (h : x ∈ rForms l f) : x ∈ l ∨ x = f := by
  unfold rForms at h
  rw [List.mem_append] at h
  rcases h with h | h
  · exact fm_mem _ (Nat.le_refl _) x h
  · generalize (fmAt l f l.length).1 = b at h
    cases b with
    | true => simp at h
    | false => simp at h; exact .inr h
theorem rForms_small {s : Sch} {f : Frm} (h : sRight s = true) (hf : f.fields.length ≤ 1000) : Small ⟨s.version, rForms s.forms f⟩ := by
  obtain ⟨h1, h2⟩ := sRight_len h
  refine ⟨?_, all_small fun x hx => ?_⟩
  · have := fmAt_len (l := s.forms) (f := f) s.forms.length (Nat.le_refl _)
    show (rForms s.forms f).length ≤ 1000
    unfold rForms
    rw [List.length_append]
    generalize (fmAt s.forms f s.forms.length).1 = b
    cases b <;> simp <;> omega
  · rcases rForms_mem hx with h | rfl
    · obtain ⟨i, hi, rfl⟩ := List.mem_iff_getElem.1 h
      have := h2 i
      rw [show s.forms.getD i default = s.forms[i] by simp [List.getD_eq_getElem?_getD, hi]] at this
      omega
    · exact hf

theorem fAt_lt' {l : List Fld} {id : Int} {i : Nat} (h : fAt l id = some i) : i < l.length := fAt_lt h
/-- What the names' being in order tells. -/
theorem nm_facts {l : List Frm} {t : Stp} (h : nmErr l t = 0) (h9 : (t.op == 9) = false) : ∃ k, sFind l t.form = some k ∧ rK l t = k ∧ k < l.length ∧ nm1 (rFs l t) t = false ∧ nm2 (rFs l t) t = false ∧ nm3 (rFs l t) t = false := by
  unfold nmErr at h
  cases hk : sFind l t.form with
  | none => rw [hk] at h; simp [h9] at h
  | some k =>
    rw [hk] at h
    have hr : rK l t = k := by simp [rK, hk]
    have hf : rFs l t = (l.getD k default).fields := by simp [rFs, hr]
    simp only [h9, cond_false] at h
    refine ⟨k, rfl, hr, sFind_lt hk, ?_⟩
    rw [hf]
    cases h1 : nm1 (l.getD k default).fields t <;> cases h2 : nm2 (l.getD k default).fields t <;> cases h3 : nm3 (l.getD k default).fields t <;> simp only [h1, h2, h3, cond_true, cond_false] at h <;> first | exact ⟨rfl, rfl, rfl⟩ | omega
theorem nm_at {l : List Frm} {t : Stp} (h : nm1 (rFs l t) t = false) (hi : is3 t = false) : fAt (rFs l t) t.field = some (rA l t) ∧ rA l t < (rFs l t).length := by
  simp only [is3, Bool.or_eq_false_iff] at hi
  obtain ⟨⟨h9, h1⟩, h10⟩ := hi
  simp only [nm1, bne, h9, h1, h10, Bool.not_false, Bool.and_true, Bool.true_and, decide_eq_false_iff_not] at h
  cases hf : fAt (rFs l t) t.field with
  | none => rw [hf] at h; simp [placeI] at h
  | some a =>
    have : rA l t = a := by simp [rA, hf]
    rw [this]
    exact ⟨rfl, fAt_lt hf⟩

theorem rB_len {l : List Frm} {t : Stp} (h : (rFs l t).length ≤ 8) (hf : t.fields.length ≤ 100) : (rB l t).length ≤ 100 := by
  have hput : ∀ (x : List Fld) (k : Nat) (f : Fld), (fput x k f).length ≤ x.length + 1 := fun x k f => by simp [fput]; omega
  have hcut : ∀ (x : List Fld) (k : Nat), (fcut x k).length ≤ x.length := fun x k => by simp [fcut]; omega
  have hputI : ∀ (x : List Fld) (p : Nat) (ts : List Fld) (i : Nat), (putI x p ts i).length ≤ x.length + i := fun x p ts i => by
    induction i with
    | zero => exact Nat.le_refl _
    | succ i ih => have := hput (putI x p ts i) (p + i) (ts.getD i default); show (fput _ _ _).length ≤ _; omega
  unfold rB
  cases (t.op == 9) with
  | true => exact hf
  | false =>
    cases (t.op == 1) with
    | true => have := hput (rFs l t) t.place.toNat t.f; simp only [cond_true, cond_false]; omega
    | false =>
      cases (t.op == 10) with
      | true => simp
      | false =>
        simp only [cond_false]
        have h1 := hputI (fcut (rFs l t) (rA l t)) (rP l t) (tyL (rF l t) t) (tyL (rF l t) t).length
        have h2 := hcut (rFs l t) (rA l t)
        have h3 := tyL_len (rF l t) t
        show (putI _ _ _ _).length ≤ _
        omega

set_option maxHeartbeats 4000000 in
theorem r16_on (s : Sch) (t : Stp) (hs : Small s) (hl : t.t.length ≤ 1000000) (hfl : t.fields.length ≤ 100) :
    AC P R16_On.id [.agg s.cells, .agg t.cells] [] (.tuple [.agg (rOn s t).1.cells, .int .i64 (rOn s t).2]) [] := by
  refine R16_On.intro rfl (Goes.run ?_)
  conv => whnf
  refine ⟨rfl, ?_⟩
  refine Run.callC (av := [.agg s.cells]) rfl rfl rfl (fun _ => r13_right s hs) rfl rfl ?_
  conv => whnf
  refine ⟨rfl, ?_⟩
  refine Run.callC (av := [.agg t.cells]) rfl rfl rfl (fun _ => r15_right t hl (by omega)) rfl rfl ?_
  conv => whnf
  refine ⟨rfl, ?_⟩
  refine Run.condC rfl (fun hb => ?_) (fun hb => ?_) <;> (conv => whnf) <;> refine ⟨rfl, ?_⟩
  · refine Run.retZ ?_
    conv => whnf
    have e : rOn s t = (⟨0, []⟩, 2) := by simp only [rOn, show badR s t = true from hb, cond_true]
    rw [e]
    exact ⟨rfl, Le.tuple (.cons zsch (.cons (.refl _) .nil))⟩
  have hbad : badR s t = false := hb
  have hb2 := hbad
  simp only [badR, Bool.or_eq_false_iff, Bool.not_eq_false', decide_eq_false_iff_not] at hb2
  obtain ⟨⟨hsr, hst⟩, _⟩ := hb2
  obtain ⟨hn8, hf8⟩ := sRight_len hsr
  have hpl := st_place hst
  refine Run.callC (av := [.agg s.cells, .agg t.cells]) rfl rfl rfl (fun _ => r16_names s t hs) rfl rfl ?_
  conv => whnf
  refine ⟨rfl, ?_⟩
  refine Run.condC rfl (fun he => ?_) (fun he => ?_) <;> (conv => whnf) <;> refine ⟨rfl, ?_⟩
  · refine Run.retZ ?_
    conv => whnf
    have e : rOn s t = (⟨0, []⟩, nmErr s.forms t) := by simp only [rOn, hbad, show (nmErr s.forms t != 0) = true from he, cond_true, cond_false]
    rw [e]
    exact ⟨rfl, Le.tuple (.cons zsch (.cons (.refl _) .nil))⟩
  have he0 : (nmErr s.forms t != 0) = false := he
  have hnm : nmErr s.forms t = 0 := by simpa using he0
  have hFl : (rFs s.forms t).length ≤ 8 := hf8 _
  have hBl := rB_len (l := s.forms) (t := t) hFl hfl
  obtain ⟨N, hNd⟩ : ∃ N, rN s.forms t = N := ⟨_, rfl⟩
  have hsm : Small ⟨s.version, N⟩ := hNd ▸ rForms_small hsr (show (rB s.forms t).length ≤ 1000 by omega)
  have hforms : ∀ X, Le X (encFs (rB s.forms t)) → AC P R16_forms.id [.agg s.cells, .agg [.int .i64 t.form, X]] [] (.agg (Sch.cells ⟨s.version, N⟩)) [] := fun X hX =>
    hNd ▸ (r16_forms s ⟨t.form, rB s.forms t⟩ hs (show (rB s.forms t).length ≤ 1000 by omega)).le_args (.cons (.refl _) (.cons (Le.agg (.cons (.refl _) (.cons hX .nil))) .nil))
  have hright := r13_right ⟨s.version, N⟩ hsm
  have hOn : (is3 t = false → tyO (rF s.forms t) t = true ∧ ((rB s.forms t).length == 0) = false) → rOn s t = bif !sRight ⟨s.version, N⟩ then (⟨0, []⟩, 7) else (⟨s.version, N⟩, 0) := fun h => by
    simp only [rOn, hbad, he0, hNd, cond_false]
    cases h3 : is3 t with
    | true => simp only [Bool.not_true, Bool.false_and, cond_false]
    | false =>
      obtain ⟨g1, g2⟩ := h h3
      simp only [g1, g2, Bool.not_true, Bool.not_false, Bool.true_and, cond_false]
  refine Run.condC rfl (fun h9 => ?_) (fun h9 => ?_) <;> (conv => whnf) <;> refine ⟨rfl, ?_⟩
  · have hrb : rB s.forms t = t.fields := by simp only [rB, h9, cond_true]
    have h3 : is3 t = true := by simp only [is3, h9, Bool.true_or]
    refine Run.doesT0 (id := 4) rfl (Does.appZ (nid := 4) rfl rfl rfl (by simp only [maxLen]; omega) (by omega)) ?_
    conv => whnf
    refine Run.frzO 4 rfl ?_
    conv => whnf
    refine ⟨rfl, ?_⟩
    refine Run.callC (av := [.agg s.cells, .agg [.int .i64 t.form, .list 5 t.fields.length fun i => Fld.cells (t.fields.getD (0 + i) default)]]) rfl rfl rfl (fun _ => hforms _ (by rw [hrb]; exact IsL.le (enc := Fld.cells) ((IsL.all Fld.cells t.fields).from0))) rfl rfl ?_
    conv => whnf
    refine ⟨rfl, ?_⟩
    refine Run.callC (av := [.agg (Sch.cells ⟨s.version, N⟩)]) rfl rfl rfl (fun _ => hright) rfl rfl ?_
    conv => whnf
    refine ⟨rfl, ?_⟩
    refine Run.condC rfl (fun hr => ?_) (fun hr => ?_) <;> (conv => whnf) <;> refine ⟨rfl, ?_⟩
    · refine Run.retZ ?_
      conv => whnf
      rw [hOn (fun h => by rw [h3] at h; cases h), show (!sRight ⟨s.version, N⟩) = true from hr, cond_true]
      exact ⟨rfl, Le.tuple (.cons zsch (.cons (.refl _) .nil))⟩
    · refine Run.retZ ?_
      conv => whnf
      rw [hOn (fun h => by rw [h3] at h; cases h), show (!sRight ⟨s.version, N⟩) = false from hr, cond_false]
      exact ⟨rfl, .refl _⟩
  obtain ⟨k, hk, hrk, hklt, hn1, hn2, hn3⟩ := nm_facts hnm h9
  have hfind := r13_find s t.form (by omega)
  rw [hk] at hfind
  have hfind : AC P R13_Find.id [.agg s.cells, .int .i64 t.form] [] (.int .i64 (k : Int)) [] := hfind
  have hfs : (s.forms.getD k default).fields = rFs s.forms t := by simp only [rFs, hrk]
  have hpn : t.place = (t.place.toNat : Int) := by omega
  refine Run.condC rfl (fun h1 => ?_) (fun h1 => ?_) <;> (conv => whnf) <;> refine ⟨rfl, ?_⟩
  · have hrb : rB s.forms t = fput (rFs s.forms t) t.place.toNat t.f := by simp only [rB, h9, h1, cond_true, cond_false]
    have h3 : is3 t = true := by simp only [is3, h1, Bool.true_or, Bool.or_true]
    have hput : AC P R16_put.id [encFs (s.forms.getD k default).fields, .int .i64 t.place, .agg t.f.cells] [] (encFs (fput (rFs s.forms t) t.place.toNat t.f)) [] := by
      have := put_spec (rFs s.forms t) t.place.toNat t.f (by simp only [nm3, h1, Bool.true_and, Bool.or_eq_false_iff, decide_eq_false_iff_not] at hn3; omega) (by omega)
      rw [← hpn, ← hfs] at this
      rw [← hfs]
      exact this
    refine Run.callD (av := [.agg s.cells, .int .i64 t.form]) rfl rfl rfl (fun _ => hfind) rfl rfl rfl ?_
    conv => whnf
    refine ⟨rfl, ?_⟩
    refine Run.iaD rfl rfl rfl rfl rfl (fun _ => ⟨by omega, by omega⟩) rfl ?_
    conv => whnf
    refine ⟨rfl, ?_⟩
    refine Run.callD (av := [encFs (s.forms.getD k default).fields, .int .i64 t.place, .agg t.f.cells]) rfl rfl rfl (fun _ => hput) rfl rfl rfl ?_
    conv => whnf
    refine ⟨rfl, ?_⟩
    refine Run.callC (av := [.agg s.cells, .agg [.int .i64 t.form, encFs (fput (rFs s.forms t) t.place.toNat t.f)]]) rfl rfl rfl (fun _ => hforms _ (hrb ▸ .refl _)) rfl rfl ?_
    conv => whnf
    refine ⟨rfl, ?_⟩
    refine Run.callC (av := [.agg (Sch.cells ⟨s.version, N⟩)]) rfl rfl rfl (fun _ => hright) rfl rfl ?_
    conv => whnf
    refine ⟨rfl, ?_⟩
    refine Run.condC rfl (fun hr => ?_) (fun hr => ?_) <;> (conv => whnf) <;> refine ⟨rfl, ?_⟩
    · refine Run.retZ ?_
      conv => whnf
      rw [hOn (fun h => by rw [h3] at h; cases h), show (!sRight ⟨s.version, N⟩) = true from hr, cond_true]
      exact ⟨rfl, Le.tuple (.cons zsch (.cons (.refl _) .nil))⟩
    · refine Run.retZ ?_
      conv => whnf
      rw [hOn (fun h => by rw [h3] at h; cases h), show (!sRight ⟨s.version, N⟩) = false from hr, cond_false]
      exact ⟨rfl, .refl _⟩
  refine Run.condC rfl (fun h10 => ?_) (fun h10 => ?_) <;> (conv => whnf) <;> refine ⟨rfl, ?_⟩
  · have hrb : rB s.forms t = [] := by simp only [rB, h9, h1, h10, cond_true, cond_false]
    have h3 : is3 t = true := by simp only [is3, h10, Bool.true_or, Bool.or_true]
    refine Run.callC (av := [.agg s.cells, .agg [.int .i64 t.form, .zsl]]) rfl rfl rfl (fun _ => hforms _ (hrb ▸ Le.zsl (by omega))) rfl rfl ?_
    conv => whnf
    refine ⟨rfl, ?_⟩
    refine Run.callC (av := [.agg (Sch.cells ⟨s.version, N⟩)]) rfl rfl rfl (fun _ => hright) rfl rfl ?_
    conv => whnf
    refine ⟨rfl, ?_⟩
    refine Run.condC rfl (fun hr => ?_) (fun hr => ?_) <;> (conv => whnf) <;> refine ⟨rfl, ?_⟩
    · refine Run.retZ ?_
      conv => whnf
      rw [hOn (fun h => by rw [h3] at h; cases h), show (!sRight ⟨s.version, N⟩) = true from hr, cond_true]
      exact ⟨rfl, Le.tuple (.cons zsch (.cons (.refl _) .nil))⟩
    · refine Run.retZ ?_
      conv => whnf
      rw [hOn (fun h => by rw [h3] at h; cases h), show (!sRight ⟨s.version, N⟩) = false from hr, cond_false]
      exact ⟨rfl, .refl _⟩
  have h3 : is3 t = false := by simp only [is3, h9, h1, h10, Bool.or_self]
  obtain ⟨hat, halt⟩ := nm_at hn1 h3
  obtain ⟨a, ha⟩ : ∃ a, rA s.forms t = a := ⟨_, rfl⟩
  obtain ⟨fs, hfd⟩ : ∃ fs, rFs s.forms t = fs := ⟨_, rfl⟩
  obtain ⟨f, hf⟩ : ∃ f, rF s.forms t = f := ⟨_, rfl⟩
  obtain ⟨p, hp⟩ : ∃ p, rP s.forms t = p := ⟨_, rfl⟩
  rw [hfd, ha] at hat halt
  rw [hfd] at hfs hFl hn3
  have hfa : fs.getD a default = f := by rw [← hf, rF, hfd, ha]
  have hty := r16_types f t (st_a6 hst)
  have hrb : rB s.forms t = putI (fcut fs a) p (tyL f t) (tyL f t).length := by simp only [rB, h9, h1, h10, cond_false, rT, hfd, ha, hf, hp]
  have htyl := tyL_len f t
  generalize hts : tyL f t = ts at hrb hty htyl
  have hple : p ≤ (fcut fs a).length := by
    rw [fcut_len halt]
    rw [← hp, rP, ha]
    cases h7 : t.op == 7 with
    | true => rw [cond_true]; simp only [nm3, h7, Bool.true_and, Bool.or_eq_false_iff, decide_eq_false_iff_not] at hn3; omega
    | false => rw [cond_false]; omega
  have hcl := fcut_len halt
  have hr13at := r13_at ⟨0, fs⟩ t.field (show fs.length ≤ 1000 by omega)
  rw [show (Frm.mk 0 fs).fields = fs from rfl, hat] at hr13at
  have hr13at : AC P R13_At.id [.agg (Frm.cells ⟨0, fs⟩), .int .i64 t.field] [] (.int .i64 (a : Int)) [] := hr13at
  have hcut := cut_spec fs a halt (by omega)
  refine Run.callD (av := [.agg s.cells, .int .i64 t.form]) rfl rfl rfl (fun _ => hfind) rfl rfl rfl ?_
  conv => whnf
  refine ⟨rfl, ?_⟩
  refine Run.iaD rfl rfl rfl rfl rfl (fun _ => ⟨by omega, by omega⟩) rfl ?_
  conv => whnf
  rw [show (s.forms.getD (Int.toNat (k : Int)) default).fields = fs from hfs]
  refine ⟨rfl, ?_⟩
  refine Run.callC (av := [.agg (Frm.cells ⟨0, fs⟩), .int .i64 t.field]) rfl rfl rfl (fun _ => hr13at) rfl rfl ?_
  conv => whnf
  refine ⟨rfl, ?_⟩
  refine Run.iaD rfl rfl rfl rfl rfl (fun _ => ⟨by omega, by omega⟩) rfl ?_
  conv => whnf
  rw [show fs.getD (Int.toNat (a : Int)) default = f from hfa]
  refine ⟨rfl, ?_⟩
  refine Run.callD (av := [.agg f.cells, .agg t.cells]) rfl rfl rfl (fun _ => hty) rfl rfl rfl ?_
  conv => whnf
  refine ⟨rfl, ?_⟩
  refine Run.condC rfl (fun ho => ?_) (fun ho => ?_) <;> (conv => whnf) <;> refine ⟨rfl, ?_⟩
  · refine Run.retZ ?_
    conv => whnf
    have e : rOn s t = (⟨0, []⟩, 17) := by simp only [rOn, hbad, he0, h3, hf, show (!tyO f t) = true from ho, cond_true, cond_false, Bool.not_false, Bool.true_and]
    rw [e]
    exact ⟨rfl, Le.tuple (.cons zsch (.cons (.refl _) .nil))⟩
  have hto : tyO f t = true := by simpa using ho
  refine Run.callC (av := [encFs fs, .int .i64 (a : Int)]) rfl rfl rfl (fun _ => hcut) rfl rfl ?_
  conv => whnf
  refine ⟨rfl, ?_⟩
  refine Run.condC rfl (fun h7 => ?_) (fun h7 => ?_) <;> (conv => whnf) <;> refine ⟨rfl, ?_⟩
  · have hpv : t.place = (p : Int) := by rw [← hp, rP, h7, cond_true]; exact hpn
    refine Run.loopN (ι := Nat) (fun i => i ≤ ts.length) (fun i => [(2, .ptr 0 0 0 0), (3, .ptr 1 0 0 0), (4, .ptr 2 0 0 0), (7, .ptr 3 0 0 0), (9, .int .i64 (p : Int)), (10, encFs ts), (12, .int .i64 (i : Int))])
      (fun i => [.box s.cells, .box t.cells, .box [.int .i64 0, .zsl], .box [.int .i64 t.form, encFs (putI (fcut fs a) p ts i)]])
      (fun i => ts.length - i) 0 (Nat.zero_le _) ?_ fun i hi => ?_
    · exact Wk.ofEnv (Wk.cons (.refl _) (Wk.cons (.refl _) (Wk.cons (.refl _) (Wk.cons (.refl _) (Wk.cons (.int hpv) (Wk.cons (.refl _) (Wk.cons (.refl _) Wk.done)))))))
    conv => whnf
    refine ⟨rfl, ?_⟩
    have hpl' := putI_len (ts := ts) hple i
    refine Run.condC rfl (fun h => ?_) (fun h => ?_) <;> (conv => whnf) <;> refine ⟨rfl, ?_⟩
    · have hlt : i < ts.length := by simpa using h
      have hwi : IntKind.i64.wrap ((i : Int) + 1) = ((i + 1 : Nat) : Int) := by rw [wrap_of (by omega) (by omega)]; simp
      have hwp : IntKind.i64.wrap ((p : Int) + (i : Int)) = ((p + i : Nat) : Int) := by rw [wrap_of (by omega) (by omega)]; simp
      have hput := put_spec (putI (fcut fs a) p ts i) (p + i) (ts.getD i default) (by omega) (by omega)
      rw [← hwp] at hput
      refine Run.iaD rfl rfl rfl rfl rfl (fun _ => ⟨by omega, by omega⟩) rfl ?_
      conv => whnf
      refine ⟨rfl, ?_⟩
      refine Run.callD (av := [encFs (putI (fcut fs a) p ts i), .int .i64 (IntKind.i64.wrap ((p : Int) + (i : Int))), .agg (ts.getD i default).cells]) rfl rfl rfl (fun _ => hput) rfl rfl rfl ?_
      conv => whnf
      refine ⟨rfl, ?_⟩
      refine Run.endR ⟨i + 1, by omega, by omega, Wk.ofEnv (Wk.cons (.refl _) (Wk.cons (.refl _) (Wk.cons (.refl _) (Wk.cons (.refl _) (Wk.cons (.refl _) (Wk.cons (.refl _) (Wk.cons (.int hwi) Wk.done)))))))⟩
    · have hge : i = ts.length := by simp at h; omega
      subst hge
      refine Run.exitR rfl rfl ?_
      conv => whnf
      refine ⟨rfl, ?_⟩
      refine Run.condC rfl (fun h0 => ?_) (fun h0 => ?_) <;> (conv => whnf) <;> refine ⟨rfl, ?_⟩
      · refine Run.retZ ?_
        conv => whnf
        have h0' : ((rB s.forms t).length == 0) = true := by rw [hrb]; simpa using h0
        have e : rOn s t = (⟨0, []⟩, 7) := by simp only [rOn, hbad, he0, h3, hf, hto, h0', cond_true, cond_false, Bool.not_false, Bool.not_true, Bool.true_and]
        rw [e]
        exact ⟨rfl, Le.tuple (.cons zsch (.cons (.refl _) .nil))⟩
      have h0' : ((rB s.forms t).length == 0) = false := by rw [hrb]; simpa using h0
      refine Run.callC (av := [.agg s.cells, .agg [.int .i64 t.form, encFs (putI (fcut fs a) p ts ts.length)]]) rfl rfl rfl (fun _ => hforms _ (hrb ▸ .refl _)) rfl rfl ?_
      conv => whnf
      refine ⟨rfl, ?_⟩
      refine Run.callC (av := [.agg (Sch.cells ⟨s.version, N⟩)]) rfl rfl rfl (fun _ => hright) rfl rfl ?_
      conv => whnf
      refine ⟨rfl, ?_⟩
      refine Run.condC rfl (fun hr => ?_) (fun hr => ?_) <;> (conv => whnf) <;> refine ⟨rfl, ?_⟩
      · refine Run.retZ ?_
        conv => whnf
        rw [hOn (fun _ => ⟨hf ▸ hto, h0'⟩), show (!sRight ⟨s.version, N⟩) = true from hr, cond_true]
        exact ⟨rfl, Le.tuple (.cons zsch (.cons (.refl _) .nil))⟩
      · refine Run.retZ ?_
        conv => whnf
        rw [hOn (fun _ => ⟨hf ▸ hto, h0'⟩), show (!sRight ⟨s.version, N⟩) = false from hr, cond_false]
        exact ⟨rfl, .refl _⟩
  · have hpv : (a : Int) = (p : Int) := by rw [← hp, rP, h7, cond_false, ha]
    refine Run.loopN (ι := Nat) (fun i => i ≤ ts.length) (fun i => [(2, .ptr 0 0 0 0), (3, .ptr 1 0 0 0), (4, .ptr 2 0 0 0), (7, .ptr 3 0 0 0), (9, .int .i64 (p : Int)), (10, encFs ts), (12, .int .i64 (i : Int))])
      (fun i => [.box s.cells, .box t.cells, .box [.int .i64 0, .zsl], .box [.int .i64 t.form, encFs (putI (fcut fs a) p ts i)]])
      (fun i => ts.length - i) 0 (Nat.zero_le _) ?_ fun i hi => ?_
    · exact Wk.ofEnv (Wk.cons (.refl _) (Wk.cons (.refl _) (Wk.cons (.refl _) (Wk.cons (.refl _) (Wk.cons (.int hpv) (Wk.cons (.refl _) (Wk.cons (.refl _) Wk.done)))))))
    conv => whnf
    refine ⟨rfl, ?_⟩
    have hpl' := putI_len (ts := ts) hple i
    refine Run.condC rfl (fun h => ?_) (fun h => ?_) <;> (conv => whnf) <;> refine ⟨rfl, ?_⟩
    · have hlt : i < ts.length := by simpa using h
      have hwi : IntKind.i64.wrap ((i : Int) + 1) = ((i + 1 : Nat) : Int) := by rw [wrap_of (by omega) (by omega)]; simp
      have hwp : IntKind.i64.wrap ((p : Int) + (i : Int)) = ((p + i : Nat) : Int) := by rw [wrap_of (by omega) (by omega)]; simp
      have hput := put_spec (putI (fcut fs a) p ts i) (p + i) (ts.getD i default) (by omega) (by omega)
      rw [← hwp] at hput
      refine Run.iaD rfl rfl rfl rfl rfl (fun _ => ⟨by omega, by omega⟩) rfl ?_
      conv => whnf
      refine ⟨rfl, ?_⟩
      refine Run.callD (av := [encFs (putI (fcut fs a) p ts i), .int .i64 (IntKind.i64.wrap ((p : Int) + (i : Int))), .agg (ts.getD i default).cells]) rfl rfl rfl (fun _ => hput) rfl rfl rfl ?_
      conv => whnf
      refine ⟨rfl, ?_⟩
      refine Run.endR ⟨i + 1, by omega, by omega, Wk.ofEnv (Wk.cons (.refl _) (Wk.cons (.refl _) (Wk.cons (.refl _) (Wk.cons (.refl _) (Wk.cons (.refl _) (Wk.cons (.refl _) (Wk.cons (.int hwi) Wk.done)))))))⟩
    · have hge : i = ts.length := by simp at h; omega
      subst hge
      refine Run.exitR rfl rfl ?_
      conv => whnf
      refine ⟨rfl, ?_⟩
      refine Run.condC rfl (fun h0 => ?_) (fun h0 => ?_) <;> (conv => whnf) <;> refine ⟨rfl, ?_⟩
      · refine Run.retZ ?_
        conv => whnf
        have h0' : ((rB s.forms t).length == 0) = true := by rw [hrb]; simpa using h0
        have e : rOn s t = (⟨0, []⟩, 7) := by simp only [rOn, hbad, he0, h3, hf, hto, h0', cond_true, cond_false, Bool.not_false, Bool.not_true, Bool.true_and]
        rw [e]
        exact ⟨rfl, Le.tuple (.cons zsch (.cons (.refl _) .nil))⟩
      have h0' : ((rB s.forms t).length == 0) = false := by rw [hrb]; simpa using h0
      refine Run.callC (av := [.agg s.cells, .agg [.int .i64 t.form, encFs (putI (fcut fs a) p ts ts.length)]]) rfl rfl rfl (fun _ => hforms _ (hrb ▸ .refl _)) rfl rfl ?_
      conv => whnf
      refine ⟨rfl, ?_⟩
      refine Run.callC (av := [.agg (Sch.cells ⟨s.version, N⟩)]) rfl rfl rfl (fun _ => hright) rfl rfl ?_
      conv => whnf
      refine ⟨rfl, ?_⟩
      refine Run.condC rfl (fun hr => ?_) (fun hr => ?_) <;> (conv => whnf) <;> refine ⟨rfl, ?_⟩
      · refine Run.retZ ?_
        conv => whnf
        rw [hOn (fun _ => ⟨hf ▸ hto, h0'⟩), show (!sRight ⟨s.version, N⟩) = true from hr, cond_true]
        exact ⟨rfl, Le.tuple (.cons zsch (.cons (.refl _) .nil))⟩
      · refine Run.retZ ?_
        conv => whnf
        rw [hOn (fun _ => ⟨hf ▸ hto, h0'⟩), show (!sRight ⟨s.version, N⟩) = false from hr, cond_false]
        exact ⟨rfl, .refl _⟩
end Go.Proofs.Ytbpcjahjbkiofaa.Sp

set_option linter.unusedVariables false
set_option linter.unusedSimpArgs false
namespace Go.Proofs.Ytbpcjahjbkiofaa.Sp
open Go Go.Proofs.Ytbpcjahjbkiofaa.AV Go.Proofs.Ytbpcjahjbkiofaa.Fn
set_option maxRecDepth 10000

theorem getD_at {α : Type} [Inhabited α] {l : List α} {i : Nat} (h : i < l.length) : l.getD i default = l[i] := by simp [List.getD_eq_getElem?_getD, h]

def Srt (l : List Frm) : Prop := ∀ i j, i < j → j < l.length → (l.getD i default).id < (l.getD j default).id

theorem sRight_at {s : Sch} (h : sRight s = true) {i : Nat} (hi : i < s.forms.length) : okAt s.forms i = true := by
  simp only [sRight, Bool.and_eq_true, decide_eq_true_eq, List.all_eq_true] at h
  exact h.2 i (List.mem_range.2 hi)
theorem sRight_fine {s : Sch} (h : sRight s = true) {i : Nat} (hi : i < s.forms.length) : fFine (s.forms.getD i default) = true := by
  have := sRight_at h hi
  simp only [okAt, Bool.and_eq_true] at this
  exact this.1
theorem fFine_fld {x : Frm} (h : fFine x = true) {i : Nat} (hi : i < x.fields.length) : fRight (x.fields.getD i default) = true := by
  simp only [fFine, Bool.and_eq_true, decide_eq_true_eq, List.all_eq_true] at h
  have := h.1.2 i (List.mem_range.2 hi)
  simp only [goodAt, Bool.and_eq_true] at this
  exact this.1
theorem sRight_srt {s : Sch} (h : sRight s = true) : Srt s.forms := by
  intro i j hij hj
  induction j with
  | zero => omega
  | succ j ih =>
    have h1 : (s.forms.getD j default).id < (s.forms.getD (j + 1) default).id := by
      have := sRight_at h hj
      simp only [okAt, Bool.and_eq_true, Bool.or_eq_true, decide_eq_true_eq, beq_iff_eq, Nat.add_sub_cancel] at this
      rcases this.2 with e | e
      · omega
      · exact e
    rcases Nat.lt_or_ge i j with h2 | h2
    · exact Int.lt_trans (ih h2 (by omega)) h1
    · obtain rfl : i = j := by omega
      exact h1

theorem pos_of_find {l : List Frm} {id : Int} {k : Nat} (hs : Srt l) (h : sFind l id = some k) : fPos l id = k ∧ hasPos l id = true ∧ k < l.length ∧ (l.getD k default).id = id := by
  have hk := sFind_lt h
  unfold sFind at h
  rw [List.findIdx?_eq_some_iff_getElem] at h
  obtain ⟨_, h1, _⟩ := h
  have h1 : (l.getD k default).id = id := by rw [getD_at hk]; simpa using h1
  have hp : fPos l id = k := fPos_eq (by omega) (fun j hj => h1 ▸ hs j k hj hk) (fun _ => by omega)
  exact ⟨hp, by simp only [hasPos, hp, h1, Bool.and_eq_true, decide_eq_true_eq, beq_self_eq_true, and_true]; exact hk, hk, h1⟩
theorem pos_of_none {l : List Frm} {id : Int} (h : sFind l id = none) : hasPos l id = false := by
  unfold sFind at h
  rw [List.findIdx?_eq_none_iff] at h
  unfold hasPos
  by_cases hp : fPos l id < l.length
  · have := h (l.getD (fPos l id) default) (by rw [getD_at hp]; exact List.getElem_mem _)
    rw [this, Bool.and_false]
  · simp [hp]

theorem fPos_lo {l : List Frm} {id : Int} : ∀ x ∈ l.take (fPos l id), x.id < id := by
  intro x hx
  obtain ⟨i, hi, rfl⟩ := List.mem_iff_getElem.1 hx
  rw [List.length_take] at hi
  rw [List.getElem_take]
  have := List.not_of_lt_findIdx (p := fun x : Frm => decide (id ≤ x.id)) (xs := l) (i := i) (show i < fPos l id by omega)
  simpa using this
theorem fPos_hi {l : List Frm} {id : Int} (hs : Srt l) (hh : hasPos l id = false) : ∀ x ∈ l.drop (fPos l id), id < x.id := by
  intro x hx
  obtain ⟨i, hi, rfl⟩ := List.mem_iff_getElem.1 hx
  rw [List.length_drop] at hi
  rw [List.getElem_drop]
  have hp : fPos l id < l.length := by omega
  have h1 : id ≤ (l[fPos l id]).id := by
    have := List.findIdx_getElem (p := fun x : Frm => decide (id ≤ x.id)) (xs := l) (w := hp)
    exact of_decide_eq_true this
  have h2 : (l[fPos l id]).id ≠ id := by
    intro e
    simp only [hasPos, getD_at hp, e, beq_self_eq_true, Bool.and_true, decide_eq_false_iff_not] at hh
    exact hh hp
  have h3 : (l[fPos l id]).id ≤ (l[fPos l id + i]).id := by
    rcases Nat.eq_zero_or_pos i with rfl | hpos
    · exact Int.le_refl _
    · have := hs (fPos l id) (fPos l id + i) (by omega) (by omega)
      rw [getD_at hp, getD_at (by omega)] at this
      omega
  omega
theorem srt_hi {l : List Frm} {k : Nat} (hs : Srt l) (hk : k < l.length) : ∀ x ∈ l.drop (k + 1), (l.getD k default).id < x.id := by
  intro x hx
  obtain ⟨i, hi, rfl⟩ := List.mem_iff_getElem.1 hx
  rw [List.length_drop] at hi
  rw [List.getElem_drop]
  have := hs k (k + 1 + i) (by omega) (by omega)
  rw [getD_at (show k + 1 + i < l.length by omega)] at this
  exact this

theorem fold_lo {f : Frm} : ∀ (l : List Frm), (∀ x ∈ l, x.id < f.id) → ∀ (d : Bool) (o : List Frm), l.foldl (fmStep f) (d, o) = (d, o ++ l)
  | [], _, d, o => by simp
  | x :: r, h, d, o => by
    have hx := h x (by simp)
    have e : fmIns f d x = false := by simp [fmIns]; intro _; omega
    rw [List.foldl_cons, show fmStep f (d, o) x = (d, o ++ [x]) by
      simp only [fmStep, fmD, fmO, e, Bool.or_false, cond_false, show (x.id != f.id) = true by simp; omega, cond_true]]
    rw [fold_lo r (fun y hy => h y (by simp [hy])) d (o ++ [x])]
    simp
theorem fold_hi {f : Frm} : ∀ (l : List Frm), (∀ x ∈ l, f.id < x.id) → ∀ (o : List Frm), l.foldl (fmStep f) (true, o) = (true, o ++ l)
  | [], _, o => by simp
  | x :: r, h, o => by
    have hx := h x (by simp)
    rw [List.foldl_cons, show fmStep f (true, o) x = (true, o ++ [x]) by
      simp only [fmStep, fmD, fmO, fmIns, Bool.not_true, Bool.false_and, Bool.or_false, cond_false, show (x.id != f.id) = true by simp; omega, cond_true]]
    rw [fold_hi r (fun y hy => h y (by simp [hy])) (o ++ [x])]
    simp
def putF (f : Frm) : List Frm := bif (f.fields.length : Int) == 0 then [] else [f]
theorem rForms_eq {l : List Frm} {f : Frm} {p : Bool × List Frm} (h : l.foldl (fmStep f) ((f.fields.length : Int) == 0, []) = p) : rForms l f = p.2 ++ (bif p.1 then [] else [f]) := by
  unfold rForms fmAt
  rw [List.take_length, h]
theorem rForms_new {f : Frm} {l1 l2 : List Frm} (h1 : ∀ x ∈ l1, x.id < f.id) (h2 : ∀ x ∈ l2, f.id < x.id) : rForms (l1 ++ l2) f = l1 ++ putF f ++ l2 := by
  unfold putF
  cases hf : ((f.fields.length : Int) == 0) with
  | true =>
    rw [rForms_eq (p := (true, l1 ++ l2)) (by rw [hf, List.foldl_append, fold_lo l1 h1, fold_hi l2 h2]; rfl)]
    simp
  | false =>
    cases l2 with
    | nil =>
      rw [rForms_eq (p := (false, l1)) (by rw [hf, List.foldl_append, fold_lo l1 h1]; rfl)]
      simp
    | cons y r =>
      have hy := h2 y (by simp)
      have e : fmIns f false y = true := by simp [fmIns]; omega
      rw [rForms_eq (p := (true, l1 ++ [f] ++ [y] ++ r)) (by
        rw [hf, List.foldl_append, fold_lo l1 h1, List.foldl_cons, show fmStep f (false, [] ++ l1) y = (true, l1 ++ [f] ++ [y]) by
          simp only [fmStep, fmD, fmO, e, Bool.or_true, cond_true, show (y.id != f.id) = true by simp; omega, List.nil_append], fold_hi r (fun z hz => h2 z (by simp [hz]))])]
      simp
theorem rForms_old {f x : Frm} {l1 l2 : List Frm} (h1 : ∀ x ∈ l1, x.id < f.id) (hx : x.id = f.id) (h2 : ∀ x ∈ l2, f.id < x.id) : rForms (l1 ++ x :: l2) f = l1 ++ putF f ++ l2 := by
  unfold putF
  have hne : (x.id != f.id) = false := by simp [hx]
  cases hf : ((f.fields.length : Int) == 0) with
  | true =>
    rw [rForms_eq (p := (true, l1 ++ l2)) (by
      rw [hf, List.foldl_append, fold_lo l1 h1, List.foldl_cons, show fmStep f (true, [] ++ l1) x = (true, l1) by
        simp only [fmStep, fmD, fmO, fmIns, hne, Bool.not_true, Bool.false_and, Bool.or_false, cond_false, List.nil_append, List.append_nil], fold_hi l2 h2])]
    simp
  | false =>
    have e : fmIns f false x = true := by simp [fmIns]; omega
    rw [rForms_eq (p := (true, l1 ++ [f] ++ l2)) (by
      rw [hf, List.foldl_append, fold_lo l1 h1, List.foldl_cons, show fmStep f (false, [] ++ l1) x = (true, l1 ++ [f]) by
        simp only [fmStep, fmD, fmO, e, hne, Bool.or_true, cond_true, cond_false, List.nil_append, List.append_nil], fold_hi l2 h2])]
    simp

theorem rForms_no {l : List Frm} {f : Frm} (hs : Srt l) (h : hasPos l f.id = false) : rForms l f = l.take (fPos l f.id) ++ putF f ++ l.drop (fPos l f.id) := by
  have := rForms_new (f := f) (l1 := l.take (fPos l f.id)) (l2 := l.drop (fPos l f.id)) fPos_lo (fPos_hi hs h)
  rwa [List.take_append_drop] at this
theorem rForms_yes {l : List Frm} {f : Frm} (hs : Srt l) (h : hasPos l f.id = true) : rForms l f = l.take (fPos l f.id) ++ putF f ++ l.drop (fPos l f.id + 1) := by
  have hlt := hasPos_lt h
  have he : (l.getD (fPos l f.id) default).id = f.id := by simp only [hasPos, Bool.and_eq_true, beq_iff_eq] at h; exact h.2
  have := rForms_old (f := f) (x := l.getD (fPos l f.id) default) (l1 := l.take (fPos l f.id)) (l2 := l.drop (fPos l f.id + 1)) fPos_lo he (fun x hx => he ▸ srt_hi hs hlt x hx)
  rwa [getD_at hlt, ← List.drop_eq_getElem_cons hlt, List.take_append_drop] at this
end Go.Proofs.Ytbpcjahjbkiofaa.Sp

set_option linter.unusedVariables false
set_option linter.unusedSimpArgs false
namespace Go.Proofs.Ytbpcjahjbkiofaa.Sp
open Go Go.Proofs.Ytbpcjahjbkiofaa.AV Go.Proofs.Ytbpcjahjbkiofaa.Fn
set_option maxRecDepth 10000

structure StR (t : Stp) : Prop where
  op1 : 1 ≤ t.op
  pl0 : 0 ≤ t.place
  to0 : 0 ≤ t.to
  f0 : t.op = 1 → 0 ≤ t.f.id
  fl9 : t.op = 9 → 1 ≤ t.fields.length
theorem st_r {t : Stp} (h : stRight t = true) : StR t := by
  have hpl := st_place h
  simp only [stRight, Bool.and_eq_true, Bool.not_eq_true'] at h
  obtain ⟨h1, h2, h3, h4, h5, h6⟩ := h
  simp only [bad1, Bool.or_eq_false_iff, Bool.not_eq_false'] at h1
  obtain ⟨⟨⟨⟨⟨⟨u1, u2⟩, u3⟩, u4⟩, u5⟩, u6⟩, u7⟩ := h1
  simp only [bad2, Bool.or_eq_false_iff] at h2
  refine ⟨?_, hpl.1, ?_, fun e => ?_, fun e => ?_⟩
  · rcases Int.lt_or_le t.op 1 with hlt | hle
    · exfalso
      have e : usesS t.op = bs [] := by
        unfold usesS
        simp only [show (t.op == 1) = false by simp; omega, show (t.op == 2) = false by simp; omega, show (t.op == 3) = false by simp; omega, show (t.op == 4) = false by simp; omega, show (t.op == 5) = false by simp; omega, show (t.op == 6) = false by simp; omega, show (t.op == 7) = false by simp; omega, show (t.op == 8) = false by simp; omega, show (t.op == 9) = false by simp; omega, show (t.op == 10) = false by simp; omega,
          show (t.op == 21) = false by simp; omega, show (t.op == 22) = false by simp; omega, show (t.op == 23) = false by simp; omega, show (t.op == 24) = false by simp; omega, show (t.op == 25) = false by simp; omega, show (t.op == 26) = false by simp; omega, show (t.op == 27) = false by simp; omega, show (t.op == 28) = false by simp; omega, show (t.op == 29) = false by simp; omega, show (t.op == 30) = false by simp; omega, Bool.or_self, cond_false]
      rw [e, show bs [] = ByteArray.mk #[] from rfl, beq_self_eq_true] at u1
      revert u1
      decide
    · exact hle
  · simp only [btw, Bool.and_eq_true, decide_eq_true_eq] at u6
    omega
  · have hF : hasB t.op 70 = true := by rw [e]; decide
    rw [hF, Bool.true_and] at h2
    have hr : fRight t.f = true := by simpa using h2.2
    have := (fRight_cases hr).1
    omega
  · have hL : hasB t.op 76 = true := by rw [e]; decide
    rw [hL] at h6
    exact (fine_len (x := ⟨t.form, t.fields⟩) (by simpa using h6)).2

theorem bad_eq {s : Sch} {t : Stp} : badR s t = badOn s t := by
  unfold badR badOn
  cases hs : sRight s
  · simp
  · cases ht : stRight t
    · simp
    · have := (st_r ht).op1
      simp only [Bool.not_true, Bool.or_self, Bool.false_or]
      rw [show decide (t.op < 1) = false by simp; omega, Bool.false_or]

theorem err_eq {l : List Frm} {t : Stp} (hs : Srt l) (h : StR t) : nmErr l t = thErr l t := by
  unfold nmErr thErr
  cases hf : sFind l t.form with
  | none =>
    rw [pos_of_none hf]
    simp
  | some k =>
    obtain ⟨hp, hh, hk, hid⟩ := pos_of_find hs hf
    rw [hh]
    simp only [cond_true]
    cases h9 : t.op == 9 with
    | true => rfl
    | false =>
      simp only [cond_false]
      have hF : thFs l t = (l.getD k default).fields := by unfold thFs; rw [hp]
      rw [hF]
      generalize (l.getD k default).fields = fs
      have e1 : nm1 fs t = decide (thAt0 fs t < 0) := by
        unfold nm1 thAt0
        cases h1 : t.op == 1 with
        | true => simp only [cond_true, bne, h1, Bool.not_true, Bool.false_and]; have := h.pl0; simp; omega
        | false =>
          cases h10 : t.op == 10 with
          | true =>
            have h6 : (t.op == 6 || t.op == 8) = false := by have : t.op = 10 := by simpa using h10
                                                             rw [this]; decide
            simp only [cond_true, cond_false, bne, h1, h9, h10, h6, Bool.not_true, Bool.and_false, Bool.false_and]; decide
          | false =>
            simp only [cond_false, bne, h1, h9, h10, Bool.not_false, Bool.and_self, Bool.true_and]
            cases (t.op == 6 || t.op == 8) <;> rfl
      have e2 : nm2 fs t = (decide (thFresh t ≥ 0) && decide (placeI (fAt fs (thFresh t)) ≥ 0)) := by
        unfold nm2 thFresh
        cases h1 : t.op == 1 with
        | true =>
          have h6 : (t.op == 6 || t.op == 8) = false := by have : t.op = 1 := by simpa using h1
                                                           rw [this]; decide
          have := h.f0 (by simpa using h1)
          simp only [h6, cond_true, Bool.true_and, Bool.false_and, Bool.or_false]
          rw [show decide (t.f.id ≥ 0) = true by simp; omega, Bool.true_and]
        | false =>
          simp only [cond_false, Bool.false_and, Bool.false_or]
          cases (t.op == 6 || t.op == 8) with
          | true =>
            have := h.to0
            simp only [cond_true, Bool.true_and]
            rw [show decide (t.to ≥ 0) = true by simp; omega, Bool.true_and]
          | false => simp
      rw [e1, e2]
      rfl

theorem tyO_eq {f : Fld} {t : Stp} (hf : fRight f = true) (h1 : (t.op == 1) = false) : tyO f t = tuO f t ∨ False := by
  left
  unfold tyO tuO
  rw [h1]
  simp only [cond_false]
  cases h4 : t.op == 4 with
  | false => rfl
  | true =>
    have h2 : (t.op == 2) = false := by have : t.op = 4 := by simpa using h4
                                        rw [this]; decide
    have h3 : (t.op == 3) = false := by have : t.op = 4 := by simpa using h4
                                        rw [this]; decide
    simp only [h2, h3, cond_false, cond_true]
    cases hk : f.kind == 1 with
    | false => rfl
    | true =>
      simp only [Bool.true_and, cond_true]
      obtain ⟨_, _, c⟩ := fRight_cases hf
      have hk' : f.kind = 1 := by simpa using hk
      have hm : f.most = 0 := by rcases c with c | c | c | c <;> omega
      have : sclG f t.a t.b = scl f t.a t.b := by
        unfold sclG scl
        cases f
        simp_all
      rw [this]

theorem opne {t : Stp} {a b : Int} (h : (t.op == a) = true) (hab : (a == b) = false) : (t.op == b) = false := by
  have : t.op = a := by simpa using h
  rw [this]
  exact hab

theorem tyL_eq {f : Fld} {t : Stp} (hf : fRight f = true) (b1 : 1 ≤ t.op) (b2 : t.op ≤ 10) (h1 : (t.op == 1) = false) (h9 : (t.op == 9) = false) (h10 : (t.op == 10) = false) (h7 : (t.op == 7) = false) (ho : tyO f t = true) : tyL f t = tuL f t := by
  unfold tyL tuL
  unfold tyO at ho
  rw [h1]
  obtain ⟨_, _, c⟩ := fRight_cases hf
  cases h2 : t.op == 2 with
  | true => rfl
  | false =>
    cases h3 : t.op == 3 with
    | true => rfl
    | false =>
      cases h4 : t.op == 4 with
      | true =>
        rw [h2, h3, h4] at ho
        simp only [cond_false, cond_true, Bool.and_eq_true, beq_iff_eq] at ho ⊢
        obtain ⟨hk, _⟩ := ho
        have hm : f.most = 0 := by rcases c with c | c | c | c <;> omega
        rw [show (f.kind == 1) = true by simpa using hk, cond_true]
        unfold sclG scl
        cases f
        simp_all
      | false =>
        cases h5 : t.op == 5 with
        | true =>
          rw [h2, h3, h4, h5] at ho
          simp only [cond_false, cond_true, Bool.and_eq_true, beq_iff_eq] at ho ⊢
          obtain ⟨hk, _⟩ := ho
          have hl : f.lo = 0 ∧ f.hi = 0 := by rcases c with c | c | c | c <;> omega
          cases f
          simp_all
        | false =>
          cases h6 : t.op == 6 with
          | true =>
            rw [h2, h3, h4, h5, h6] at ho
            simp only [cond_false, cond_true, Bool.and_eq_true, beq_iff_eq] at ho ⊢
            obtain ⟨hk, hl⟩ := ho
            have hm : f.most = 0 := by rcases c with c | c | c | c <;> omega
            have e : (if IntKind.i64.wrap (t.a - 1) < f.hi then IntKind.i64.wrap (t.a - 1) else f.hi) = (if f.hi < IntKind.i64.wrap (t.a - 1) then f.hi else IntKind.i64.wrap (t.a - 1)) := by
              split <;> split <;> omega
            rw [e]
            cases f
            simp_all
          | false =>
            have h8 : (t.op == 8) = true := by
              simp only [beq_eq_false_iff_ne] at *
              simp; omega
            rw [h8]
            rfl

theorem putI_eq {x ts : List Fld} {p : Nat} (hp : p ≤ x.length) : ∀ i, i ≤ ts.length → putI x p ts i = x.take p ++ ts.take i ++ x.drop p
  | 0, _ => by simp [putI]
  | i + 1, hi => by
    show fput (putI x p ts i) (p + i) (ts.getD i default) = _
    rw [putI_eq hp i (by omega), fput]
    have hl : (x.take p ++ ts.take i).length = p + i := by rw [List.length_append, List.length_take, List.length_take]; omega
    rw [List.take_append_of_le_length (by omega), List.drop_append_of_le_length (by omega), ← hl, List.take_length, List.drop_length, getD_at (show i < ts.length by omega)]
    have e : ts.take (i + 1) = ts.take i ++ [ts[i]'(by omega)] := by rw [List.take_add_one]; simp [show i < ts.length by omega]
    rw [e]
    simp only [List.append_assoc, List.nil_append, List.cons_append]

theorem fcut_take {fs : List Fld} {a : Nat} (h : a < fs.length) : (fcut fs a).take a = fs.take a := by
  unfold fcut
  rw [List.take_append_of_le_length (by rw [List.length_take]; omega), List.take_take, Nat.min_self]
theorem fcut_drop {fs : List Fld} {a : Nat} (h : a < fs.length) : (fcut fs a).drop a = fs.drop (a + 1) := by
  unfold fcut
  have : (fs.take a).length = a := by rw [List.length_take]; omega
  rw [List.drop_append_of_le_length (by omega)]
  conv => lhs; arg 1; rw [show a = (fs.take a).length from this.symm]
  simp
end Go.Proofs.Ytbpcjahjbkiofaa.Sp

set_option linter.unusedVariables false
set_option linter.unusedSimpArgs false
namespace Go.Proofs.Ytbpcjahjbkiofaa.Sp
open Go Go.Proofs.Ytbpcjahjbkiofaa.AV Go.Proofs.Ytbpcjahjbkiofaa.Fn
set_option maxRecDepth 10000

theorem set_split {α : Type} {l : List α} {k : Nat} {y : α} (h : k < l.length) : l.set k y = l.take k ++ [y] ++ l.drop (k + 1) := by
  rw [List.set_eq_take_append_cons_drop, if_pos h]
  simp

theorem on_eq (s : Sch) (t : Stp) : rOn s t = tOn s t := by
  unfold rOn tOn
  rw [bad_eq]
  cases hb : badOn s t with
  | true => rfl
  | false =>
    simp only [cond_false]
    have hb2 := hb
    simp only [badOn, Bool.or_eq_false_iff, Bool.not_eq_false', decide_eq_false_iff_not] at hb2
    obtain ⟨⟨⟨hsr, hst⟩, b1⟩, b2⟩ := hb2
    have hS := sRight_srt hsr
    have hT := st_r hst
    rw [err_eq hS hT]
    cases he : thErr s.forms t != 0 with
    | true => rfl
    | false =>
      simp only [cond_false]
      have hth : thErr s.forms t = 0 := by simpa using he
      have hnm : nmErr s.forms t = 0 := by rw [err_eq hS hT]; exact hth
      cases h9 : t.op == 9 with
      | true =>
        have hh : hasPos s.forms t.form = false := by
          cases hq : hasPos s.forms t.form with
          | false => rfl
          | true => rw [thErr, h9, hq] at hth; simp at hth
        have h3 : is3 t = true := by simp only [is3, h9, Bool.true_or]
        have hrb : rB s.forms t = t.fields := by simp only [rB, h9, cond_true]
        have hN : rN s.forms t = tForms s.forms t := by
          unfold rN tForms
          rw [hrb, rForms_no (f := ⟨t.form, t.fields⟩) hS hh, h9, cond_true, putF]
          have := hT.fl9 (by simpa using h9)
          rw [show ((t.fields.length : Int) == 0) = false by simp; intro e; rw [e] at this; simp at this, cond_false]
        rw [hN, h3]
        simp only [bne, h9, Bool.not_true, Bool.false_and, cond_false]
      | false =>
        have hh := th_has hth h9
        have hlt := hasPos_lt hh
        obtain ⟨k, hk, hrk, hklt, hn1, hn2, hn3⟩ := nm_facts hnm h9
        obtain ⟨hp, _, _, hid⟩ := pos_of_find hS hk
        have hfs : rFs s.forms t = thFs s.forms t := by unfold rFs thFs; rw [hrk, hp]
        have hN0 : rN s.forms t = s.forms.take (fPos s.forms t.form) ++ putF ⟨t.form, rB s.forms t⟩ ++ s.forms.drop (fPos s.forms t.form + 1) := rForms_yes (f := ⟨t.form, rB s.forms t⟩) hS hh
        cases h10 : t.op == 10 with
        | true =>
          have h1 : (t.op == 1) = false := opne h10 (by decide)
          have h3 : is3 t = true := by simp only [is3, h10, Bool.true_or, Bool.or_true]
          have hrb : rB s.forms t = [] := by simp only [rB, h9, h1, h10, cond_true, cond_false]
          have hN : rN s.forms t = tForms s.forms t := by
            rw [hN0, hrb]
            unfold tForms putF
            simp [h9, h10]
          rw [hN, h3]
          simp only [bne, h10, h9, Bool.not_true, Bool.false_and, Bool.and_false, cond_false]
        | false =>
          obtain ⟨a, ha0, ha1, ha2, ha3⟩ := th_facts hth h9 h10 hT.pl0
          have hch : (thAt s.forms t 0).toNat = a := by rw [ha0]; rfl
          have hset : tForms s.forms t = bif chO (thFs s.forms t) t a then s.forms.take (fPos s.forms t.form) ++ [⟨t.form, chL (thFs s.forms t) t a⟩] ++ s.forms.drop (fPos s.forms t.form + 1) else s.forms := by
            unfold tForms
            rw [h9, h10, hch]
            simp only [cond_false]
            unfold chForms
            rw [show (s.forms.getD (fPos s.forms t.form) default).id = t.form by rw [hp]; exact hid, set_split hlt]
            rfl
          have hputF : ∀ l : List Fld, l ≠ [] → putF ⟨t.form, l⟩ = [⟨t.form, l⟩] := fun l hl => by
            unfold putF
            rw [show ((l.length : Int) == 0) = false by cases l with
              | nil => exact absurd rfl hl
              | cons x r => simp; omega]
            rfl
          cases h1 : t.op == 1 with
          | true =>
            have h3 : is3 t = true := by simp only [is3, h1, Bool.true_or, Bool.or_true]
            have h7 : (t.op == 7) = false := opne h1 (by decide)
            have hho : chO (thFs s.forms t) t a = true := by simp only [chO, tuO, h1, cond_true, Bool.or_true]
            have hpa : t.place.toNat = a := by
              have : thAt s.forms t 0 = t.place := by simp only [thAt, h9, hh, thAt0, h1, cond_true, cond_false]
              rw [← hch, this]
            have hrb : rB s.forms t = fput (thFs s.forms t) a t.f := by simp only [rB, h9, h1, cond_true, cond_false, hfs, hpa]
            have hcl : chL (thFs s.forms t) t a = fput (thFs s.forms t) a t.f := by
              unfold chL fput
              rw [h7, cond_false, tuL, tuN, h1]
              simp
            have hN : rN s.forms t = tForms s.forms t := by
              rw [hN0, hrb, hset, hho, hcl, cond_true, hputF _ (by unfold fput; simp)]
            rw [hN, h3, hch, hho]
            simp only [Bool.not_true, Bool.false_and, Bool.and_false, cond_false]
          | false =>
            have h3 : is3 t = false := by simp only [is3, h9, h1, h10, Bool.or_self]
            obtain ⟨hat, halt⟩ := nm_at hn1 h3
            have hra : rA s.forms t = a := by
              have : thAt s.forms t 0 = placeI (fAt (thFs s.forms t) t.field) := by
                simp only [thAt, h9, hh, thAt0, h1, h10, cond_true, cond_false]
                cases (t.op == 6 || t.op == 8) <;> rfl
              rw [this, ← hfs, hat] at ha0
              have ha0' : ((rA s.forms t : Nat) : Int) = ((a : Nat) : Int) := ha0
              omega
            rw [hra, hfs] at halt
            have hrf : rF s.forms t = (thFs s.forms t).getD a default := by unfold rF; rw [hfs, hra]
            have hfr : fRight (rF s.forms t) = true := by
              rw [hrf]
              exact fFine_fld (sRight_fine hsr hlt) halt
            rw [h3]
            simp only [bne, h9, h10, Bool.not_false, Bool.true_and, hch]
            have hoo : tyO (rF s.forms t) t = chO (thFs s.forms t) t a := by
              rcases tyO_eq hfr h1 with e | e
              · rw [e, hrf]
                unfold chO
                cases h7 : t.op == 7 with
                | false => rfl
                | true =>
                  unfold tuO
                  rw [opne h7 (by decide), opne h7 (by decide), opne h7 (by decide), opne h7 (by decide), opne h7 (by decide), opne h7 (by decide)]
                  rfl
              · exact e.elim
            rw [← hoo]
            cases ho : tyO (rF s.forms t) t with
            | false => rfl
            | true =>
              simp only [Bool.not_true, cond_false]
              have hrb : rB s.forms t = chL (thFs s.forms t) t a := by
                simp only [rB, h9, h1, h10, cond_false, rT, hfs, hra]
                unfold rP
                rw [hra]
                cases h7 : t.op == 7 with
                | true =>
                  have hty : tyL (rF s.forms t) t = [rF s.forms t] := by
                    unfold tyL
                    rw [opne h7 (by decide), opne h7 (by decide), opne h7 (by decide), opne h7 (by decide), opne h7 (by decide), opne h7 (by decide)]
                    rfl
                  rw [hty, cond_true, chL, h7, cond_true, hrf]
                  rfl
                | false =>
                  rw [cond_false, putI_eq (by rw [fcut_len halt]; omega) _ (Nat.le_refl _), List.take_length, fcut_take halt, fcut_drop halt, chL, h7, cond_false, tyL_eq hfr (by omega) (by omega) h1 h9 h10 h7 ho, hrf, tuN, h1]
                  rfl
              rw [hoo] at ho
              rw [ho, cond_true] at hset
              cases h0 : ((rB s.forms t).length == 0) with
              | true =>
                have hnil : chL (thFs s.forms t) t a = [] := by rw [← hrb]; simpa using h0
                have : sRight ⟨s.version, tForms s.forms t⟩ = false := by
                  cases hq : sRight ⟨s.version, tForms s.forms t⟩ with
                  | false => rfl
                  | true =>
                    exfalso
                    have hl : (s.forms.take (fPos s.forms t.form)).length = fPos s.forms t.form := by rw [List.length_take]; omega
                    have hlen : fPos s.forms t.form < (tForms s.forms t).length := by rw [hset]; simp; omega
                    have := sRight_fine hq (i := fPos s.forms t.form) hlen
                    have := (fine_len this).2
                    rw [show (Sch.mk s.version (tForms s.forms t)).forms = tForms s.forms t from rfl, hset, hnil, List.append_assoc, List.getD_eq_getElem?_getD, List.getElem?_append_right (by omega), hl, Nat.sub_self] at this
                    simp at this
                rw [this]
                rfl
              | false =>
                have hN : rN s.forms t = tForms s.forms t := by
                  rw [hN0, hset, ← hrb, hputF _ (by intro e; rw [e] at h0; simp at h0)]
                rw [hN]
                rfl
end Go.Proofs.Ytbpcjahjbkiofaa.Sp

set_option linter.unusedVariables false
namespace Go.Proofs.Ytbpcjahjbkiofaa.Sp
open Go Go.Proofs.Ytbpcjahjbkiofaa.AV Go.Proofs.Ytbpcjahjbkiofaa.Fn
set_option maxRecDepth 10000

def bigStep (t : Stp) : Bool := decide ((t.t.length : Int) > 100) || decide ((t.fields.length : Int) > 40)
def lGreat (l : List Stp) : Bool := (List.range (min l.length 61)).any (fun i => bigStep (l.getD i default)) || decide ((l.length : Int) > 60)

theorem r15_great (l : List Stp) : AC P R15_Great.id [encSs l] [] (.bool (lGreat l)) [] := by
  refine R15_Great.intro rfl (Goes.run ?_)
  conv => whnf
  refine ⟨rfl, ?_⟩
  refine Run.loopN (fun i : Nat => i ≤ l.length ∧ i ≤ 61 ∧ ∀ j, j < i → bigStep (l.getD j default) = false)
    (fun i => [(0, encSs l), (3, .int .i64 (i : Int)), (2, .ff)]) (fun _ => []) (fun i => l.length - i) 0 ⟨by omega, by omega, fun j hj => by omega⟩
    (Wk.ofEnv (Wk.cons (.refl _) (Wk.cons (.refl _) (Wk.cons (.refl _) Wk.done)))) fun i ⟨hi, h6, hp⟩ => ?_
  conv => whnf
  refine ⟨rfl, ?_⟩
  refine Run.condC rfl (fun h => ?_) (fun h => ?_) <;> (conv => whnf) <;> refine ⟨rfl, ?_⟩
  · have h1 : i < l.length ∧ i < 61 := by simp at h; omega
    refine Run.iaC rfl rfl rfl rfl rfl (fun _ => ⟨by omega, by omega⟩) ?_
    conv => whnf
    refine ⟨rfl, ?_⟩
    refine Run.iaC rfl rfl rfl rfl rfl (fun _ => ⟨by omega, by omega⟩) ?_
    conv => whnf
    refine ⟨rfl, ?_⟩
    refine Run.condC rfl (fun h => ?_) (fun h => ?_) <;> (conv => whnf) <;> refine ⟨rfl, ?_⟩
    · refine Run.retR ?_
      conv => whnf
      refine ⟨rfl, Le.tt ?_⟩
      have hb : bigStep (l.getD i default) = true := h
      unfold lGreat
      rw [Bool.or_eq_true]
      left
      rw [List.any_eq_true]
      exact ⟨i, List.mem_range.2 (by omega), hb⟩
    · refine Run.endR ⟨i + 1, ⟨by omega, by omega, fun j hj => ?_⟩, by omega, Wk.ofEnv (Wk.cons (.refl _) (Wk.cons (.int ?_) (Wk.cons (.refl _) Wk.done)))⟩
      · by_cases e : j < i
        · exact hp j e
        · obtain rfl : j = i := by omega
          exact h
      · rw [wrap_of (by omega) (by omega)]
        simp
  · have h1 : ¬ (i < l.length ∧ i < 61) := by simp at h; omega
    refine Run.exitR rfl rfl ?_
    conv => whnf
    refine ⟨rfl, ?_⟩
    refine Run.retP ?_
    conv => whnf
    refine ⟨rfl, Le.bool ?_⟩
    have : (List.range (min l.length 61)).any (fun i => bigStep (l.getD i default)) = false := by
      rw [List.any_eq_false]
      intro j hj
      rw [List.mem_range] at hj
      rw [hp j (by omega)]
      simp
    simp only [lGreat, this, Bool.false_or]
end Go.Proofs.Ytbpcjahjbkiofaa.Sp

set_option linter.unusedVariables false
namespace Go.Proofs.Ytbpcjahjbkiofaa.Sp
open Go Go.Proofs.Ytbpcjahjbkiofaa.AV Go.Proofs.Ytbpcjahjbkiofaa.Fn
set_option maxRecDepth 10000

def bigForm (f : Frm) : Bool := decide ((f.fields.length : Int) > 40)
def sGreat (s : Sch) (l : List Stp) : Bool := (List.range (min s.forms.length 41)).any (fun i => bigForm (s.forms.getD i default)) || (decide ((s.forms.length : Int) > 40) || lGreat l)

theorem l16_great (s : Sch) (l : List Stp) : AC P L16_great.id [.agg s.cells, encSs l] [] (.bool (sGreat s l)) [] := by
  refine L16_great.intro rfl (Goes.run ?_)
  conv => whnf
  refine ⟨rfl, ?_⟩
  refine Run.loopN (fun i : Nat => i ≤ s.forms.length ∧ i ≤ 41 ∧ ∀ j, j < i → bigForm (s.forms.getD j default) = false)
    (fun i => [(1, encSs l), (2, .ptr 0 0 0 0), (5, .int .i64 (i : Int))]) (fun _ => [.box s.cells]) (fun i => s.forms.length - i) 0 ⟨by omega, by omega, fun j hj => by omega⟩
    (Wk.ofEnv (Wk.cons (.refl _) (Wk.cons (.refl _) (Wk.cons (.refl _) Wk.done)))) fun i ⟨hi, h6, hp⟩ => ?_
  conv => whnf
  refine ⟨rfl, ?_⟩
  refine Run.condC rfl (fun h => ?_) (fun h => ?_) <;> (conv => whnf) <;> refine ⟨rfl, ?_⟩
  · have h1 : i < s.forms.length ∧ i < 41 := by simp at h; omega
    refine Run.iaC rfl rfl rfl rfl rfl (fun _ => ⟨by omega, by omega⟩) ?_
    conv => whnf
    refine ⟨rfl, ?_⟩
    refine Run.condC rfl (fun h => ?_) (fun h => ?_) <;> (conv => whnf) <;> refine ⟨rfl, ?_⟩
    · refine Run.retR ?_
      conv => whnf
      refine ⟨rfl, Le.tt ?_⟩
      have hb : bigForm (s.forms.getD i default) = true := h
      unfold sGreat
      rw [Bool.or_eq_true]
      left
      rw [List.any_eq_true]
      exact ⟨i, List.mem_range.2 (by omega), hb⟩
    · refine Run.endR ⟨i + 1, ⟨by omega, by omega, fun j hj => ?_⟩, by omega, Wk.ofEnv (Wk.cons (.refl _) (Wk.cons (.refl _) (Wk.cons (.int ?_) Wk.done)))⟩
      · by_cases e : j < i
        · exact hp j e
        · obtain rfl : j = i := by omega
          exact h
      · rw [wrap_of (by omega) (by omega)]
        simp
  · have h1 : ¬ (i < s.forms.length ∧ i < 41) := by simp at h; omega
    refine Run.exitR rfl rfl ?_
    conv => whnf
    refine ⟨rfl, ?_⟩
    refine Run.callC (av := [encSs l]) rfl rfl rfl (fun _ => r15_great l) rfl rfl ?_
    conv => whnf
    refine ⟨rfl, ?_⟩
    refine Run.retP ?_
    conv => whnf
    refine ⟨rfl, Le.bool ?_⟩
    have : (List.range (min s.forms.length 41)).any (fun i => bigForm (s.forms.getD i default)) = false := by
      rw [List.any_eq_false]
      intro j hj
      rw [List.mem_range] at hj
      rw [hp j (by omega)]
      simp
    simp only [sGreat, this, Bool.false_or]
end Go.Proofs.Ytbpcjahjbkiofaa.Sp

set_option linter.unusedVariables false
namespace Go.Proofs.Ytbpcjahjbkiofaa.Sp
open Go Go.Proofs.Ytbpcjahjbkiofaa.AV Go.Proofs.Ytbpcjahjbkiofaa.Fn
set_option maxRecDepth 10000

theorem sameForm_self (x : Frm) (hb : x.fields.length ≤ 1000) : AC P R13_SameForm.id [.agg x.cells, .agg x.cells] [] (.bool true) [] := by
  refine R13_SameForm.intro rfl (Goes.run ?_)
  conv => whnf
  refine ⟨rfl, ?_⟩
  refine Run.condC rfl (fun h => ?_) (fun h => ?_) <;> (conv => whnf) <;> refine ⟨rfl, ?_⟩
  · simp at h
  refine Run.loopN (fun i : Nat => i ≤ x.fields.length) (fun i => [(2, .ptr 0 0 0 0), (3, .ptr 1 0 0 0), (5, .int .i64 (i : Int))]) (fun _ => [.box x.cells, .box x.cells]) (fun i => x.fields.length - i) 0 (Nat.zero_le _)
    (Wk.ofEnv (Wk.cons (.refl _) (Wk.cons (.refl _) (Wk.cons (.refl _) Wk.done)))) fun i hi => ?_
  conv => whnf
  refine ⟨rfl, ?_⟩
  refine Run.condC rfl (fun h => ?_) (fun h => ?_) <;> (conv => whnf) <;> refine ⟨rfl, ?_⟩
  · have h1 : i < x.fields.length := by simpa using h
    refine Run.iaD rfl rfl rfl rfl rfl (fun _ => ⟨by omega, by omega⟩) rfl ?_
    conv => whnf
    refine ⟨rfl, ?_⟩
    refine Run.iaD rfl rfl rfl rfl rfl (fun _ => ⟨by omega, by omega⟩) rfl ?_
    conv => whnf
    refine ⟨rfl, ?_⟩
    refine Run.condC rfl (fun h => ?_) (fun h => ?_) <;> (conv => whnf) <;> refine ⟨rfl, ?_⟩
    · exfalso
      simp [negB] at h
    · refine Run.endR ⟨i + 1, by omega, by omega, Wk.ofEnv (Wk.cons (.refl _) (Wk.cons (.refl _) (Wk.cons (.int ?_) Wk.done)))⟩
      rw [wrap_of (by omega) (by omega)]
      simp
  · refine Run.exitR rfl rfl ?_
    conv => whnf
    refine ⟨rfl, ?_⟩
    refine Run.retP ?_
    conv => whnf
    exact ⟨rfl, .tt rfl⟩
end Go.Proofs.Ytbpcjahjbkiofaa.Sp

set_option linter.unusedVariables false
namespace Go.Proofs.Ytbpcjahjbkiofaa.Sp
open Go Go.Proofs.Ytbpcjahjbkiofaa.AV Go.Proofs.Ytbpcjahjbkiofaa.Fn
set_option maxRecDepth 10000

theorem same_self (s : Sch) (hs : Small s) : AC P R13_Same.id [.agg s.cells, .agg s.cells] [] (.bool true) [] := by
  obtain ⟨hb, hf⟩ := hs
  refine R13_Same.intro rfl (Goes.run ?_)
  conv => whnf
  refine ⟨rfl, ?_⟩
  refine Run.condC rfl (fun h => ?_) (fun h => ?_) <;> (conv => whnf) <;> refine ⟨rfl, ?_⟩
  · simp at h
  refine Run.loopN (fun i : Nat => i ≤ s.forms.length) (fun i => [(2, .ptr 0 0 0 0), (3, .ptr 1 0 0 0), (5, .int .i64 (i : Int))]) (fun _ => [.box s.cells, .box s.cells]) (fun i => s.forms.length - i) 0 (Nat.zero_le _)
    (Wk.ofEnv (Wk.cons (.refl _) (Wk.cons (.refl _) (Wk.cons (.refl _) Wk.done)))) fun i hi => ?_
  conv => whnf
  refine ⟨rfl, ?_⟩
  refine Run.condC rfl (fun h => ?_) (fun h => ?_) <;> (conv => whnf) <;> refine ⟨rfl, ?_⟩
  · have h1 : i < s.forms.length := by simpa using h
    refine Run.iaD rfl rfl rfl rfl rfl (fun _ => ⟨by omega, by omega⟩) rfl ?_
    conv => whnf
    refine ⟨rfl, ?_⟩
    refine Run.iaD rfl rfl rfl rfl rfl (fun _ => ⟨by omega, by omega⟩) rfl ?_
    conv => whnf
    refine ⟨rfl, ?_⟩
    refine Run.callD (av := [.agg (s.forms.getD i default).cells, .agg (s.forms.getD i default).cells]) rfl rfl rfl (fun _ => sameForm_self _ (hf i)) rfl rfl rfl ?_
    conv => whnf
    refine ⟨rfl, ?_⟩
    refine Run.condC rfl (fun h => ?_) (fun h => ?_) <;> (conv => whnf) <;> refine ⟨rfl, ?_⟩
    · exfalso
      simp at h
    · refine Run.endR ⟨i + 1, by omega, by omega, Wk.ofEnv (Wk.cons (.refl _) (Wk.cons (.refl _) (Wk.cons (.int ?_) Wk.done)))⟩
      rw [wrap_of (by omega) (by omega)]
      simp
  · refine Run.exitR rfl rfl ?_
    conv => whnf
    refine ⟨rfl, ?_⟩
    refine Run.retP ?_
    conv => whnf
    exact ⟨rfl, .tt rfl⟩
end Go.Proofs.Ytbpcjahjbkiofaa.Sp

set_option linter.unusedVariables false
set_option linter.unusedSimpArgs false
namespace Go.Proofs.Ytbpcjahjbkiofaa.Sp
open Go Go.Proofs.Ytbpcjahjbkiofaa.AV Go.Proofs.Ytbpcjahjbkiofaa.Fn
set_option maxRecDepth 10000

def s0 : Sch := ⟨1, [⟨0, [⟨0, 1, 0, 100, 0⟩]⟩]⟩
def t0 : Stp := ⟨6, 0, 0, 0, 1, 7, 0, ⟨0, 0, 0, 0, 0⟩, 0, ByteArray.empty, [], []⟩
def s1 : Sch := ⟨1, [⟨0, [⟨0, 1, 0, 14, 0⟩, ⟨1, 1, 0, 6, 0⟩]⟩]⟩
theorem on0 : tOn s0 t0 = (s1, 0) := by kernel_rfl
theorem s0_le : Le (.agg [.int .i64 1, .list 2 1 (nthL [[.int .i64 0, .list 5 1 (nthL [[.int .i64 0, .int .i64 1, .int .i64 0, .int .i64 100, .int .i64 0]])]])]) (.agg s0.cells) :=
  Le.agg (.cons (.refl _) (.cons (Le.list rfl fun k hk => by
    obtain rfl : k = 0 := by omega
    exact .cons (.refl _) (.cons (IsL.le (enc := Fld.cells) (IsL.one ⟨0, 1, 0, 100, 0⟩)) .nil)) .nil))
theorem t0_le : Le (.agg [.int .i64 6, .int .i64 0, .int .i64 0, .int .i64 0, .int .i64 1, .int .i64 7, .int .i64 0, .int .i64 0, .int .i64 0, .int .i64 0, .int .i64 0, .int .i64 0, .int .i64 0, .str { data := { toList := [] } }, .zsl, .zsl]) (.agg t0.cells) :=
  Le.agg (.cons (.refl _) (.cons (.refl _) (.cons (.refl _) (.cons (.refl _) (.cons (.refl _) (.cons (.refl _) (.cons (.refl _) (.cons (.refl _) (.cons (.refl _) (.cons (.refl _) (.cons (.refl _) (.cons (.refl _) (.cons (.refl _) (.cons (.refl _) (.cons (Le.zsl (by omega)) (.cons (Le.zsl (by omega)) .nil))))))))))))))))
theorem t0_wf : WfS t0 := by
  constructor <;> first | decide | (unfold inR; decide)
theorem l16_awake : AC P L16_awake.id [] [] (.bool true) [] := by
  refine L16_awake.intro rfl (Goes.run ?_)
  conv => whnf
  refine ⟨rfl, ?_⟩
  have hon := typing_on s0 t0 ⟨by decide, all_small (by decide)⟩ t0_wf (by decide) (by decide)
  rw [on0] at hon
  refine Run.callC (av := [.agg [.int .i64 1, .list 2 1 (nthL [[.int .i64 0, .list 5 1 (nthL [[.int .i64 0, .int .i64 1, .int .i64 0, .int .i64 100, .int .i64 0]])]])], .agg [.int .i64 6, .int .i64 0, .int .i64 0, .int .i64 0, .int .i64 1, .int .i64 7, .int .i64 0, .int .i64 0, .int .i64 0, .int .i64 0, .int .i64 0, .int .i64 0, .int .i64 0, .str { data := { toList := [] } }, .zsl, .zsl]]) rfl rfl rfl (fun _ => hon.le_args (.cons s0_le (.cons t0_le .nil))) rfl rfl ?_
  conv => whnf
  refine ⟨rfl, ?_⟩
  refine Run.iaC rfl rfl rfl rfl rfl (fun _ => ⟨by decide, by decide⟩) ?_
  conv => whnf
  refine ⟨rfl, ?_⟩
  refine Run.iaC rfl rfl rfl rfl rfl (fun _ => ⟨by decide, by decide⟩) ?_
  conv => whnf
  refine ⟨rfl, ?_⟩
  refine Run.iaC rfl rfl rfl rfl rfl (fun _ => ⟨by decide, by decide⟩) ?_
  conv => whnf
  refine ⟨rfl, ?_⟩
  refine Run.iaC rfl rfl rfl rfl rfl (fun _ => ⟨by decide, by decide⟩) ?_
  conv => whnf
  refine ⟨rfl, ?_⟩
  refine Run.iaC rfl rfl rfl rfl rfl (fun _ => ⟨by decide, by decide⟩) ?_
  conv => whnf
  refine ⟨rfl, ?_⟩
  refine Run.retP ?_
  conv => whnf
  exact ⟨rfl, .bool rfl⟩
end Go.Proofs.Ytbpcjahjbkiofaa.Sp

set_option linter.unusedVariables false
set_option linter.unusedSimpArgs false
namespace Go.Proofs.Ytbpcjahjbkiofaa.Sp
open Go Go.Proofs.Ytbpcjahjbkiofaa.AV Go.Proofs.Ytbpcjahjbkiofaa.Fn
set_option maxRecDepth 10000

theorem any_range {n : Nat} {f : Nat → Bool} (h : (List.range n).any f = false) : ∀ i, i < n → f i = false := fun i hi => by
  rw [List.any_eq_false] at h
  have := h i (List.mem_range.2 hi)
  simpa using this
/-- What is not great is small. -/
theorem great_small {s : Sch} {l : List Stp} (h : sGreat s l = false) : (s.forms.length ≤ 40 ∧ ∀ i, (s.forms.getD i default).fields.length ≤ 40) ∧ l.length ≤ 60 ∧ ∀ i, i < l.length → (l.getD i default).t.length ≤ 100 ∧ (l.getD i default).fields.length ≤ 40 := by
  simp only [sGreat, lGreat, Bool.or_eq_false_iff, decide_eq_false_iff_not] at h
  obtain ⟨h1, h2, h3, h4⟩ := h
  have h1 := any_range h1
  have h3 := any_range h3
  refine ⟨⟨by omega, fun i => ?_⟩, by omega, fun i hi => ?_⟩
  · by_cases hi : i < s.forms.length
    · have := h1 i (by omega)
      simp only [bigForm, decide_eq_false_iff_not] at this
      omega
    · rw [List.getD_eq_getElem?_getD, List.getElem?_eq_none (by omega)]
      exact Nat.zero_le _
  · have := h3 i (by omega)
    simp only [bigStep, Bool.or_eq_false_iff, decide_eq_false_iff_not] at this
    omega
theorem one_le (t : Stp) : Le (.list 16 1 (nthL [t.cells])) (encSs [t]) := IsL.le (enc := Stp.cells) (IsL.one t)

theorem tOn_small {s : Sch} {t : Stp} (hf : t.fields.length ≤ 100) : Small (tOn s t).1 := by
  have z : Small ⟨0, []⟩ := ⟨by simp, fun i => by simp; exact Nat.zero_le _⟩
  unfold tOn
  cases hb : badOn s t with
  | true => exact z
  | false =>
    have hb2 := hb
    simp only [badOn, Bool.or_eq_false_iff, Bool.not_eq_false', decide_eq_false_iff_not] at hb2
    obtain ⟨⟨⟨hsr, hst⟩, b1⟩, b2⟩ := hb2
    have := tForms_small (t := t) hsr hf
    simp only [cond_false]
    cases (thErr s.forms t != 0)
    · cases (t.op != 9 && (t.op != 10 && !chO (thFs s.forms t) t (thAt s.forms t 0).toNat))
      · cases (!sRight ⟨s.version, tForms s.forms t⟩)
        · exact this
        · exact z
      · exact z
    · exact z

theorem l16_TypingOn (s : Sch) (t : Stp) (hw : WfS t) : AC P L16_TypingOn.id [.agg s.cells, .agg t.cells] [] (.bool true) [] := by
  refine L16_TypingOn.intro rfl (Goes.run ?_)
  conv => whnf
  refine ⟨rfl, ?_⟩
  refine Run.callC (av := [.agg s.cells, .list 16 1 (nthL [t.cells])]) rfl rfl rfl (fun _ => (l16_great s [t]).le_args (.cons (.refl _) (.cons (one_le t) .nil))) rfl rfl ?_
  conv => whnf
  refine ⟨rfl, ?_⟩
  refine Run.condC rfl (fun hg => ?_) (fun hg => ?_) <;> (conv => whnf) <;> refine ⟨rfl, ?_⟩
  · refine Run.callC (av := []) rfl rfl rfl (fun _ => l16_awake) rfl rfl ?_
    conv => whnf
    refine ⟨rfl, ?_⟩
    refine Run.retP ?_
    conv => whnf
    exact ⟨rfl, .bool rfl⟩
  obtain ⟨⟨q1, q2⟩, q3, q4⟩ := great_small (show sGreat s [t] = false from hg)
  have q5 := q4 0 (by simp)
  have hsm : Small s := ⟨by omega, fun i => by have := q2 i; omega⟩
  have hl : t.t.length ≤ 1000000 := by have := q5.1; simp at this; omega
  have hfl : t.fields.length ≤ 100 := by have := q5.2; simp at this; omega
  have h1 := typing_on s t hsm hw hl hfl
  have h2 := r16_on s t hsm hl hfl
  have h3 := same_self (tOn s t).1 (tOn_small hfl)
  rw [on_eq] at h2
  generalize (tOn s t).1 = x at h1 h2 h3
  generalize (tOn s t).2 = e at h1 h2
  refine Run.callC (av := [.agg s.cells, .agg t.cells]) rfl rfl rfl (fun _ => h1) rfl rfl ?_
  conv => whnf
  refine ⟨rfl, ?_⟩
  refine Run.callC (av := [.agg s.cells, .agg t.cells]) rfl rfl rfl (fun _ => h2) rfl rfl ?_
  conv => whnf
  refine ⟨rfl, ?_⟩
  refine Run.callC (av := [.agg x.cells, .agg x.cells]) rfl rfl rfl (fun _ => h3) rfl rfl ?_
  conv => whnf
  refine ⟨rfl, ?_⟩
  refine Run.callC (av := []) rfl rfl rfl (fun _ => l16_awake) rfl rfl ?_
  conv => whnf
  refine ⟨rfl, ?_⟩
  refine Run.retP ?_
  conv => whnf
  exact ⟨rfl, .bool (by simp)⟩
end Go.Proofs.Ytbpcjahjbkiofaa.Sp

set_option linter.unusedVariables false
set_option linter.unusedSimpArgs false
namespace Go.Proofs.Ytbpcjahjbkiofaa.Sp
open Go Go.Proofs.Ytbpcjahjbkiofaa.AV Go.Proofs.Ytbpcjahjbkiofaa.Fn
set_option maxRecDepth 10000

def encBs (b : List Int) : AV := .list 1 b.length (byF b)
theorem isBy (b : List Int) : IsL (fun n : Int => [AV.int .u8 n]) b.length (byF b) b := ⟨rfl, fun i _ => rfl⟩

theorem clone_by (l : List Int) (hb : l.length ≤ 1000000) : AC P slices_Clone_byte_byte.id [encBs l] [] (encBs l) [] := by
  refine slices_Clone_byte_byte.intro rfl (Goes.run ?_)
  conv => whnf
  refine ⟨rfl, ?_⟩
  refine Run.eqNilC rfl rfl fun b hn => ?_
  conv => whnf
  refine ⟨rfl, ?_⟩
  refine Run.condC rfl (fun h => ?_) (fun h => ?_) <;> (conv => whnf) <;> refine ⟨rfl, ?_⟩
  · refine Run.retZ ?_
    conv => whnf
    refine ⟨rfl, ?_⟩
    have : l = [] := by simpa using hn (by simpa [negB] using h)
    subst this
    exact Le.zsl (by omega)
  · refine Run.doesT (id := 0) rfl (Does.appR rfl rfl rfl (by simp only [maxLen, List.length_nil]; omega) (by simp only [List.length_nil]; omega)) ?_
    conv => whnf
    refine ⟨rfl, ?_⟩
    refine Run.retZ ?_
    conv => whnf
    exact ⟨rfl, IsL.le (enc := fun n : Int => [AV.int .u8 n]) (((IsL.nil _).app (isBy l)).from0)⟩

theorem pen_new : AC P pen_New.id [] [] (.ptr 0 0 0 0) (penT [] 0) := by
  refine pen_New.intro rfl (Goes.run ?_)
  conv => whnf
  refine ⟨rfl, ?_⟩
  refine Run.wk_code (Wk.virt (b := 0) (nid := 1) (sz := 1) 0 (byF []) rfl rfl rfl rfl rfl) ?_
  refine Run.retS ?_
  conv => whnf
  exact FinS.keep 2 rfl rfl rfl rfl (.refl _)

def donR (p : List Int × Int) : List Int × Int := bif p.2 != 0 then ([], p.2) else (p.1, 0)
theorem pen_done (p : List Int × Int) (hb : p.1.length ≤ 900000) : AC P pen_Pen_Done.id [.ptr 0 0 0 0] (penT p.1 p.2) (.tuple [encBs (donR p).1, .int .i64 (donR p).2]) [.dead, .dead] := by
  refine pen_Pen_Done.intro rfl (Goes.run ?_)
  conv => whnf
  refine ⟨rfl, ?_⟩
  refine Run.condC rfl (fun h => ?_) (fun h => ?_) <;> (conv => whnf) <;> refine ⟨rfl, ?_⟩
  · refine Run.retS ?_
    conv => whnf
    rw [show donR p = ([], p.2) by simp only [donR, h, cond_true]]
    exact FinS.tab rfl (FinS.keepP 2 rfl rfl rfl (Le.tuple (.cons (Le.zsl (by omega)) (.cons (.refl _) .nil)))) fun i => match i with
      | 0 => trivial
      | 1 => trivial
      | i + 2 => .inl rfl
  · refine Run.frz1 1 18 rfl rfl ?_
    conv => whnf
    refine ⟨rfl, ?_⟩
    refine Run.callC (av := [.list 1 p.1.length fun i => byF p.1 (0 + i)]) rfl rfl rfl (fun _ => (clone_by p.1 (by omega)).le_args (.cons (Le.list rfl fun k hk => leL_eq (by rw [Nat.zero_add])) .nil)) rfl rfl ?_
    conv => whnf
    refine ⟨rfl, ?_⟩
    refine Run.retS ?_
    conv => whnf
    rw [show donR p = (p.1, 0) by simp only [donR, h, cond_false]]
    exact FinS.tab rfl (FinS.keepP 2 rfl rfl rfl (.refl _)) fun i => match i with
      | 0 => trivial
      | 1 => rfl
      | i + 2 => .inl rfl

def cntP (p : List Int × Int) (n : Int) : List Int × Int := (cntB p.1 n, cntE p.2 n)
def numP (p : List Int × Int) (n : Int) : List Int × Int := (p.1 ++ grps (numU n), p.2)
def wrP (p : List Int × Int) (f : Fld) : List Int × Int :=
  bif f.kind == 1 then numP (numP (cntP (cntP p f.id) f.kind) f.lo) f.hi else bif f.kind == 3 then cntP (cntP (cntP p f.id) f.kind) f.most else bif f.kind == 4 then cntP (cntP (cntP p f.id) f.kind) f.most else cntP (cntP p f.id) f.kind
theorem cntP_len (p : List Int × Int) (n : Int) : (cntP p n).1.length ≤ p.1.length + 10 := cntB_len _ _
theorem numP_len (p : List Int × Int) (n : Int) : (numP p n).1.length ≤ p.1.length + 10 := numB_len _ _
theorem wrP_len (p : List Int × Int) (f : Fld) : (wrP p f).1.length ≤ p.1.length + 40 := by
  have h1 := cntP_len p f.id
  have h2 := cntP_len (cntP p f.id) f.kind
  have h3 := numP_len (cntP (cntP p f.id) f.kind) f.lo
  have h4 := numP_len (numP (cntP (cntP p f.id) f.kind) f.lo) f.hi
  have h5 := cntP_len (cntP (cntP p f.id) f.kind) f.most
  unfold wrP
  cases f.kind == 1
  · cases f.kind == 3
    · cases f.kind == 4
      · simp only [cond_false]; omega
      · simp only [cond_false, cond_true]; omega
    · simp only [cond_false, cond_true]; omega
  · simp only [cond_true]; omega

theorem cntP_spec (p : List Int × Int) (n : Int) (hb : p.1.length ≤ 900000) : AC P pen_Pen_Count.id [.ptr 0 0 0 0, .int .i64 n] (penT p.1 p.2) (.tuple []) (penT (cntP p n).1 (cntP p n).2) := pen_count p.1 p.2 n hb
theorem numP_spec (p : List Int × Int) (n : Int) (hb : p.1.length ≤ 900000) : AC P pen_Pen_Num.id [.ptr 0 0 0 0, .int .i64 n] (penT p.1 p.2) (.tuple []) (penT (numP p n).1 (numP p n).2) := pen_num p.1 p.2 n hb

theorem schema_write_p (p : List Int × Int) (f : Fld) (hb : p.1.length ≤ 800000) : AC P schema_write.id [.ptr 0 0 0 0, .agg f.cells] (penT p.1 p.2) (.tuple []) (penT (wrP p f).1 (wrP p f).2) := by
  have h1 := cntP_len p f.id
  have h2 := cntP_len (cntP p f.id) f.kind
  have h3 := numP_len (cntP (cntP p f.id) f.kind) f.lo
  have c1 := cntP_spec p f.id (by omega)
  have c2 := cntP_spec (cntP p f.id) f.kind (by omega)
  have c3 := numP_spec (cntP (cntP p f.id) f.kind) f.lo (by omega)
  have c4 := numP_spec (numP (cntP (cntP p f.id) f.kind) f.lo) f.hi (by omega)
  have c5 := cntP_spec (cntP (cntP p f.id) f.kind) f.most (by omega)
  have hw : wrP p f = bif f.kind == 1 then numP (numP (cntP (cntP p f.id) f.kind) f.lo) f.hi else bif f.kind == 3 then cntP (cntP (cntP p f.id) f.kind) f.most else bif f.kind == 4 then cntP (cntP (cntP p f.id) f.kind) f.most else cntP (cntP p f.id) f.kind := rfl
  generalize numP (numP (cntP (cntP p f.id) f.kind) f.lo) f.hi = p4 at *
  generalize numP (cntP (cntP p f.id) f.kind) f.lo = p3 at *
  generalize cntP (cntP (cntP p f.id) f.kind) f.most = p5 at *
  generalize cntP (cntP p f.id) f.kind = p2 at *
  generalize cntP p f.id = p1 at *
  refine schema_write.intro rfl (Goes.run ?_)
  conv => whnf
  refine ⟨rfl, ?_⟩
  refine Run.callG [0, 1] c1 rfl rfl rfl ⟨rfl, rfl, trivial⟩ ?_
  conv => whnf
  refine ⟨rfl, ?_⟩
  refine Run.callG [0, 1] c2 rfl rfl rfl ⟨rfl, rfl, trivial⟩ ?_
  conv => whnf
  refine ⟨rfl, ?_⟩
  refine Run.condC rfl (fun k1 => ?_) (fun k1 => ?_) <;> (conv => whnf) <;> refine ⟨rfl, ?_⟩
  · refine Run.callG [0, 1] c3 rfl rfl rfl ⟨rfl, rfl, trivial⟩ ?_
    conv => whnf
    refine ⟨rfl, ?_⟩
    refine Run.callG [0, 1] c4 rfl rfl rfl ⟨rfl, rfl, trivial⟩ ?_
    conv => whnf
    refine ⟨rfl, ?_⟩
    refine Run.nilS ?_
    conv => whnf
    rw [hw, show (f.kind == 1) = true from k1, cond_true]
    exact FinS.keepP 2 rfl rfl rfl (.refl _)
  refine Run.condC rfl (fun k3 => ?_) (fun k3 => ?_) <;> (conv => whnf) <;> refine ⟨rfl, ?_⟩
  · refine Run.callG [0, 1] c5 rfl rfl rfl ⟨rfl, rfl, trivial⟩ ?_
    conv => whnf
    refine ⟨rfl, ?_⟩
    refine Run.nilS ?_
    conv => whnf
    rw [hw, show (f.kind == 1) = false from k1, show (f.kind == 3) = true from k3, cond_true, cond_false]
    exact FinS.keepP 2 rfl rfl rfl (.refl _)
  refine Run.condC rfl (fun k4 => ?_) (fun k4 => ?_) <;> (conv => whnf) <;> refine ⟨rfl, ?_⟩
  · refine Run.callG [0, 1] c5 rfl rfl rfl ⟨rfl, rfl, trivial⟩ ?_
    conv => whnf
    refine ⟨rfl, ?_⟩
    refine Run.nilS ?_
    conv => whnf
    rw [hw, show (f.kind == 1) = false from k1, show (f.kind == 3) = false from k3, show (f.kind == 4) = true from k4, cond_true, cond_false]
    exact FinS.keepP 2 rfl rfl rfl (.refl _)
  · refine Run.nilS ?_
    conv => whnf
    rw [hw, show (f.kind == 1) = false from k1, show (f.kind == 3) = false from k3, show (f.kind == 4) = false from k4, cond_false]
    exact FinS.keepP 2 rfl rfl rfl (.refl _)
end Go.Proofs.Ytbpcjahjbkiofaa.Sp

set_option linter.unusedVariables false
set_option linter.unusedSimpArgs false
namespace Go.Proofs.Ytbpcjahjbkiofaa.Sp
open Go Go.Proofs.Ytbpcjahjbkiofaa.AV Go.Proofs.Ytbpcjahjbkiofaa.Fn
set_option maxRecDepth 10000

def fldI (p : List Int × Int) (l : List Fld) (j : Nat) : List Int × Int := (l.take j).foldl wrP p
def frmP (p : List Int × Int) (f : Frm) : List Int × Int := fldI (cntP (cntP p f.id) (f.fields.length : Int)) f.fields f.fields.length
def iniP (s : Sch) : List Int × Int := cntP (cntP ([], 0) s.version) (s.forms.length : Int)
def frmI (s : Sch) (i : Nat) : List Int × Int := (s.forms.take i).foldl frmP (iniP s)
def prS (s : Sch) : List Int × Int := bif !sRight s then ([], 2) else donR (frmI s s.forms.length)

theorem fldI_succ {p : List Int × Int} {l : List Fld} {j : Nat} (hj : j < l.length) : fldI p l (j + 1) = wrP (fldI p l j) (l.getD j default) := by
  unfold fldI
  rw [List.take_add_one, List.foldl_append]
  simp [hj, List.getD_eq_getElem?_getD]
theorem fldI_len {p : List Int × Int} {l : List Fld} : ∀ j, j ≤ l.length → (fldI p l j).1.length ≤ p.1.length + 40 * j
  | 0, _ => by simp [fldI]
  | j + 1, h => by
    rw [fldI_succ (by omega)]
    have := fldI_len (p := p) (l := l) j (by omega)
    have h2 := wrP_len (fldI p l j) (l.getD j default)
    omega
theorem frmI_succ {s : Sch} {i : Nat} (hi : i < s.forms.length) : frmI s (i + 1) = frmP (frmI s i) (s.forms.getD i default) := by
  unfold frmI
  rw [List.take_add_one, List.foldl_append]
  simp [hi, List.getD_eq_getElem?_getD]
theorem frmI_len {s : Sch} (hf : ∀ i, (s.forms.getD i default).fields.length ≤ 8) : ∀ i, i ≤ s.forms.length → (frmI s i).1.length ≤ 20 + 340 * i
  | 0, _ => by
    have h1 := cntP_len ([], 0) s.version
    have h2 := cntP_len (cntP ([], 0) s.version) (s.forms.length : Int)
    show (iniP s).1.length ≤ _
    unfold iniP
    simp at h1
    omega
  | i + 1, h => by
    rw [frmI_succ (by omega)]
    have := frmI_len hf i (by omega)
    generalize frmI s i = p at *
    have h1 := cntP_len p (s.forms.getD i default).id
    have h2 := cntP_len (cntP p (s.forms.getD i default).id) ((s.forms.getD i default).fields.length : Int)
    have h3 := fldI_len (p := cntP (cntP p (s.forms.getD i default).id) ((s.forms.getD i default).fields.length : Int)) (l := (s.forms.getD i default).fields) _ (Nat.le_refl _)
    have h4 := hf i
    show (fldI _ _ _).1.length ≤ _
    omega

theorem schema_print (s : Sch) (hs : Small s) : AC P schema_Print.id [.agg s.cells] [] (.tuple [encBs (prS s).1, .int .i64 (prS s).2]) [] := by
  refine schema_Print.intro rfl (Goes.run ?_)
  conv => whnf
  refine ⟨rfl, ?_⟩
  refine Run.callC (av := [.agg s.cells]) rfl rfl rfl (fun _ => schema_right s hs) rfl rfl ?_
  conv => whnf
  refine ⟨rfl, ?_⟩
  refine Run.condC rfl (fun h => ?_) (fun h => ?_) <;> (conv => whnf) <;> refine ⟨rfl, ?_⟩
  · refine Run.retZ ?_
    conv => whnf
    rw [show prS s = ([], 2) by simp only [prS, show (!sRight s) = true from h, cond_true]]
    exact ⟨rfl, Le.tuple (.cons (Le.zsl (by omega)) (.cons (.refl _) .nil))⟩
  have hr : (!sRight s) = false := h
  obtain ⟨hn8, hf8⟩ := sRight_len (s := s) (by simpa using hr)
  have l1 := cntP_len ([], 0) s.version
  have l2 := cntP_len (cntP ([], 0) s.version) (s.forms.length : Int)
  simp only [List.length_nil] at l1
  have c1 := cntP_spec ([], 0) s.version (by simp)
  have c2 := cntP_spec (cntP ([], 0) s.version) (s.forms.length : Int) (by omega)
  have hfr := frmI_len hf8
  have hini : frmI s 0 = cntP (cntP ([], 0) s.version) (s.forms.length : Int) := rfl
  rw [← hini] at c2
  generalize cntP ([], 0) s.version = p1 at c1 c2
  refine Run.callG [1, 2] pen_new rfl rfl rfl ⟨rfl, rfl, trivial⟩ ?_
  conv => whnf
  refine ⟨rfl, ?_⟩
  refine Run.callG [1, 2] c1 rfl rfl rfl ⟨rfl, rfl, trivial⟩ ?_
  conv => whnf
  refine ⟨rfl, ?_⟩
  refine Run.callG [1, 2] c2 rfl rfl rfl ⟨rfl, rfl, trivial⟩ ?_
  conv => whnf
  refine ⟨rfl, ?_⟩
  refine Run.loopN (ι := Nat) (fun i => i ≤ s.forms.length) (fun i => [(1, .ptr 0 0 0 0), (4, .ptr 1 0 0 0), (23, encFms s.forms), (24, .int .i64 (s.forms.length : Int)), (25, .int .i64 (i : Int))])
    (fun i => [.box s.cells, .box [.row 1 2 (frmI s i).1.length 0 (frmI s i).1.length, .int .i64 (frmI s i).2], .row 1 (frmI s i).1.length (frmI s i).1.length (byF (frmI s i).1), .dead])
    (fun i => s.forms.length - i) 0 (Nat.zero_le _) (Wk.trans (Wk.pad 4) (Wk.ofEnv (Wk.cons (.refl _) (Wk.cons (.refl _) (Wk.cons (.refl _) (Wk.cons (.refl _) (Wk.cons (.refl _) Wk.done))))))) fun i hi => ?_
  have hlen := hfr i hi
  have hsucc := fun h => frmI_succ (s := s) (i := i) h
  have hpr : i = s.forms.length → prS s = donR (frmI s i) := fun e => by subst e; simp only [prS, hr, cond_false]
  generalize frmI s i = p at *
  conv => whnf
  refine ⟨rfl, ?_⟩
  refine Run.condC rfl (fun h => ?_) (fun h => ?_) <;> (conv => whnf) <;> refine ⟨rfl, ?_⟩
  · have hlt : i < s.forms.length := by simpa using h
    have hs1 := hsucc hlt
    have hx : s.forms.getD (Int.toNat (i : Int)) default = s.forms.getD i default := rfl
    have hf := hf8 i
    generalize s.forms.getD i default = f at *
    have m1 := cntP_len p f.id
    have m2 := cntP_len (cntP p f.id) (f.fields.length : Int)
    have d1 := cntP_spec p f.id (by omega)
    have d2 := cntP_spec (cntP p f.id) (f.fields.length : Int) (by omega)
    have hfl := fldI_len (p := cntP (cntP p f.id) (f.fields.length : Int)) (l := f.fields)
    have hfs := fun j (h : j < f.fields.length) => fldI_succ (p := cntP (cntP p f.id) (f.fields.length : Int)) h
    have hend : frmI s (i + 1) = fldI (cntP (cntP p f.id) (f.fields.length : Int)) f.fields f.fields.length := hs1
    have hq0 : fldI (cntP (cntP p f.id) (f.fields.length : Int)) f.fields 0 = cntP (cntP p f.id) (f.fields.length : Int) := rfl
    rw [← hq0] at d2
    generalize hqq : fldI (cntP (cntP p f.id) (f.fields.length : Int)) f.fields = q at *
    generalize cntP p f.id = p2 at *
    refine Run.iaC rfl rfl rfl rfl rfl (fun _ => ⟨by omega, by omega⟩) ?_
    conv => whnf
    rw [hx]
    refine ⟨rfl, ?_⟩
    refine Run.callG [1, 2] d1 rfl rfl rfl ⟨rfl, rfl, trivial⟩ ?_
    conv => whnf
    refine ⟨rfl, ?_⟩
    refine Run.callG [1, 2] d2 rfl rfl rfl ⟨rfl, rfl, trivial⟩ ?_
    conv => whnf
    refine ⟨rfl, ?_⟩
    refine Run.loopN (ι := Nat) (fun j => j ≤ f.fields.length) (fun j => [(1, .ptr 0 0 0 0), (4, .ptr 1 0 0 0), (23, encFms s.forms), (24, .int .i64 (s.forms.length : Int)), (25, .int .i64 (i : Int)), (39, encFs f.fields), (40, .int .i64 (f.fields.length : Int)), (41, .int .i64 (j : Int))])
      (fun j => [.box s.cells, .box [.row 1 2 (q j).1.length 0 (q j).1.length, .int .i64 (q j).2], .row 1 (q j).1.length (q j).1.length (byF (q j).1), .dead])
      (fun j => f.fields.length - j) 0 (Nat.zero_le _) (Wk.cut 4 rfl rfl rfl rfl (Wk.cons (.refl _) (Wk.cons (.refl _) (Wk.cons (.refl _) (Wk.cons (.refl _) (Wk.cons (.refl _) (Wk.cons (.refl _) (Wk.cons (.refl _) (Wk.cons (.refl _) Wk.done))))))))) fun j hj => ?_
    have hjl := hfl j hj
    have hjs := hfs j
    conv => whnf
    refine ⟨rfl, ?_⟩
    refine Run.condC rfl (fun h => ?_) (fun h => ?_) <;> (conv => whnf) <;> refine ⟨rfl, ?_⟩
    · have hjt : j < f.fields.length := by simpa using h
      have hjs := hjs hjt
      have dw := schema_write_p (q j) (f.fields.getD j default) (by omega)
      rw [← hjs] at dw
      generalize q j = qj at *
      refine Run.iaC rfl rfl rfl rfl rfl (fun _ => ⟨by omega, by omega⟩) ?_
      conv => whnf
      refine ⟨rfl, ?_⟩
      refine Run.callG [1, 2] dw rfl rfl rfl ⟨rfl, rfl, trivial⟩ ?_
      conv => whnf
      refine ⟨rfl, ?_⟩
      refine Run.endR ⟨j + 1, by omega, by omega, Wk.cut 4 rfl rfl rfl rfl (Wk.cons (.refl _) (Wk.cons (.refl _) (Wk.cons (.refl _) (Wk.cons (.refl _) (Wk.cons (.refl _) (Wk.cons (.refl _) (Wk.cons (.refl _) (Wk.cons (.int ?_) Wk.done))))))))⟩
      rw [wrap_of (by omega) (by omega)]
      simp
    · have hje : j = f.fields.length := by simp at h; omega
      subst hje
      refine Run.exitR rfl rfl ?_
      conv => whnf
      refine ⟨rfl, ?_⟩
      rw [← hend]
      refine Run.endR ⟨i + 1, by omega, by omega, Wk.cut 4 rfl rfl rfl rfl (Wk.cons (.refl _) (Wk.cons (.refl _) (Wk.cons (.refl _) (Wk.cons (.refl _) (Wk.cons (.int ?_) Wk.done)))))⟩
      rw [wrap_of (by omega) (by omega)]
      simp
  · have hge : i = s.forms.length := by simp at h; omega
    subst hge
    refine Run.exitR rfl rfl ?_
    conv => whnf
    refine ⟨rfl, ?_⟩
    refine Run.callG [1, 2] (pen_done p (by omega)) rfl rfl rfl ⟨rfl, rfl, trivial⟩ ?_
    conv => whnf
    refine ⟨rfl, ?_⟩
    refine Run.retZ ?_
    conv => whnf
    rw [hpr rfl]
    exact ⟨rfl, .refl _⟩
end Go.Proofs.Ytbpcjahjbkiofaa.Sp

set_option linter.unusedVariables false
set_option linter.unusedSimpArgs false
namespace Go.Proofs.Ytbpcjahjbkiofaa.AV
open Go

section
variable {P : Program} {nt : Nat} {env : Env} {T : Tab} {Q : Post}

theorem cOp_cvBS {o : Oper} {X : Opd} (h : cOp P o = some (.cvBS X)) : ∃ (s d e : TypeId) (x : Operand), o.op = .convert s d x ∧ P.underlying s = some (.slice e) ∧ P.underlying e = some (.int .u8) ∧ P.underlying d = some .string ∧ opd x = some X := by
  unfold cOp at h
  split at h
  all_goals try (exfalso; first
    | exact map_no h (fun z e => by cases e)
    | (unfold cCall at h; (repeat' split at h) <;> cases h; done)
    | (unfold cBin at h; (repeat' split at h) <;> cases h; done)
    | ((repeat' split at h) <;> cases h; done)
    | cases h; done)
  rename_i s d x hop
  split at h
  · cases h
  · split at h <;> cases h
  · rename_i e a hs hd hx
    split at h
    · rename_i he
      cases h
      exact ⟨s, d, e, x, hop, hs, he, hd, hx⟩
    · cases h
  · cases h

theorem Does.cvBS {X : Opd} (b : List Int) (hx : oval env X = .list 1 b.length fun i => [.int .u8 (b.getD i 0)]) : Does P (.cvBS X) env T (.str (strOfNums b)) T := by
  refine ⟨fun {G w ok mu a o} hc I E => ?_⟩
  obtain ⟨s, d, e, x, hop, hs, he, hd, hxo⟩ := cOp_cvBS hc
  have rx := opd_rv E hxo
  rw [hx] at rx
  obtain ⟨A, cap, cv, hval, hn, hcap, _, ha, hl, h1', hv⟩ := rv_list rx
  refine Did.pure (x := .string (strOfNums b)) I ?_ (.str _ _)
  have key : (convert s d (a.eval x)).run P w = .ok (.string (strOfNums b)) w := by
    rw [hval]
    by_cases h0 : 0 < b.length
    · obtain ⟨bb, off, rfl, _, hcell⟩ := ha h0
      refine run_convert_bytes_arg w s e hs he bb off b.length cap b rfl (fun i hi => ?_) d hd
      have h2 := hcell i 0 hi (by omega)
      have h3 := rv_int (hv i 0 hi (by omega))
      rw [h3] at h2
      simpa using h2
    · have hb : b = [] := List.eq_nil_of_length_eq_zero (by omega)
      subst hb
      cases A with
      | none => exact run_convert_bytes_nil w s e hs he _ _ d hd
      | some A =>
        have hlc : (loadCells A 0).run P w = .ok (([] : List Int).map (Value.int .u8)).toArray w := by
          simpa using run_loadCells_list (P := P) w A [] (fun j v hj => by simp at hj)
        show (convert s d (.slice (some A) 0 cap)).run P w = _
        rw [run_convert_bytes_string w s d e _ 0 cap hs he hd, run_bytesToString w _ 0 cap [] hlc]
        rfl
  simp [execOp, hop, key]
end
end Go.Proofs.Ytbpcjahjbkiofaa.AV

set_option linter.unusedVariables false
set_option linter.unusedSimpArgs false
namespace Go.Proofs.Ytbpcjahjbkiofaa.Sp
open Go Go.Proofs.Ytbpcjahjbkiofaa.AV Go.Proofs.Ytbpcjahjbkiofaa.Fn
set_option maxRecDepth 10000

theorem tOn_bad {s : Sch} {t : Stp} (h : (tOn s t).2 ≠ 0) : (tOn s t).1 = ⟨0, []⟩ := by
  revert h
  unfold tOn
  cases badOn s t with
  | true => exact fun _ => rfl
  | false =>
    simp only [cond_false]
    cases (thErr s.forms t != 0) with
    | true => exact fun _ => rfl
    | false =>
      simp only [cond_false]
      cases (t.op != 9 && (t.op != 10 && !chO (thFs s.forms t) t (thAt s.forms t 0).toNat)) with
      | true => exact fun _ => rfl
      | false =>
        simp only [cond_false]
        cases (!sRight ⟨s.version, tForms s.forms t⟩) with
        | true => exact fun _ => rfl
        | false => exact fun h => absurd rfl h
structure TOk (s : Sch) (t : Stp) : Prop where
  e : (tOn s t).1 = ⟨s.version, tForms s.forms t⟩
  r : sRight ⟨s.version, tForms s.forms t⟩ = true
  b : badOn s t = false
  th : thErr s.forms t = 0
theorem tOn_good {s : Sch} {t : Stp} (h : (tOn s t).2 = 0) : TOk s t := by
  have h' := h
  unfold tOn at h'
  cases hb : badOn s t with
  | true => rw [hb] at h'; simp at h'
  | false =>
    rw [hb] at h'
    simp only [cond_false] at h'
    cases he : (thErr s.forms t != 0) with
    | true => rw [he] at h'; simp only [cond_true] at h'; rw [h'] at he; simp at he
    | false =>
      rw [he] at h'
      simp only [cond_false] at h'
      cases ho : (t.op != 9 && (t.op != 10 && !chO (thFs s.forms t) t (thAt s.forms t 0).toNat)) with
      | true => rw [ho] at h'; simp at h'
      | false =>
        rw [ho] at h'
        simp only [cond_false] at h'
        cases hr : (!sRight ⟨s.version, tForms s.forms t⟩) with
        | true => rw [hr] at h'; simp at h'
        | false =>
          exact ⟨by unfold tOn; simp only [hb, he, ho, hr, cond_false], by simpa using hr, hb, by simpa using he⟩

theorem tForms_keeps {s : Sch} {t : Stp} (h : TOk s t) {x : Frm} (hx : x ∈ s.forms) (hne : x.id ≠ t.form) : x ∈ tForms s.forms t := by
  have hb2 := h.b
  simp only [badOn, Bool.or_eq_false_iff, Bool.not_eq_false', decide_eq_false_iff_not] at hb2
  obtain ⟨⟨⟨hsr, hst⟩, b1⟩, b2⟩ := hb2
  unfold tForms
  cases h9 : t.op == 9 with
  | true =>
    simp only [cond_true, List.mem_append]
    have : x ∈ s.forms.take (fPos s.forms t.form) ++ s.forms.drop (fPos s.forms t.form) := by rw [List.take_append_drop]; exact hx
    rw [List.mem_append] at this
    rcases this with h | h
    · exact .inl (.inl h)
    · exact .inr h
  | false =>
    have hh := th_has h.th h9
    have hlt := hasPos_lt hh
    have hid : (s.forms.getD (fPos s.forms t.form) default).id = t.form := by simp only [hasPos, Bool.and_eq_true, beq_iff_eq] at hh; exact hh.2
    have hsp : x ∈ s.forms.take (fPos s.forms t.form) ∨ x ∈ s.forms.drop (fPos s.forms t.form + 1) := by
      have : x ∈ s.forms.take (fPos s.forms t.form) ++ s.forms.drop (fPos s.forms t.form) := by rw [List.take_append_drop]; exact hx
      rw [List.mem_append] at this
      rcases this with h | h
      · exact .inl h
      · rw [List.drop_eq_getElem_cons hlt, List.mem_cons] at h
        rcases h with h | h
        · exfalso
          rw [getD_at hlt, ← h] at hid
          exact hne hid
        · exact .inr h
    cases h10 : t.op == 10 with
    | true =>
      simp only [cond_true, cond_false, List.mem_append]
      exact hsp
    | false =>
      simp only [cond_false]
      unfold chForms
      cases chO (s.forms.getD (fPos s.forms t.form) default).fields t (thAt s.forms t 0).toNat with
      | true =>
        rw [cond_true, set_split hlt, List.mem_append, List.mem_append]
        rcases hsp with h | h
        · exact .inl (.inl h)
        · exact .inr h
      | false => exact hx
theorem find_mem {l : List Frm} (hs : Srt l) {x : Frm} (hx : x ∈ l) : ∃ k, sFind l x.id = some k ∧ k < l.length ∧ l.getD k default = x := by
  cases hk : sFind l x.id with
  | none =>
    unfold sFind at hk
    rw [List.findIdx?_eq_none_iff] at hk
    have := hk x hx
    simp at this
  | some k =>
    obtain ⟨_, _, hlt, hid⟩ := pos_of_find hs hk
    refine ⟨k, rfl, hlt, ?_⟩
    obtain ⟨j, hj, rfl⟩ := List.mem_iff_getElem.1 hx
    have e : (l.getD k default).id = (l.getD j default).id := by rw [hid, getD_at hj]
    rcases Nat.lt_trichotomy j k with h | h | h
    · have := hs j k h hlt; omega
    · subst h; exact getD_at hlt
    · have := hs k j h hj; omega

theorem l16_TypingRight (s : Sch) (t : Stp) (hw : WfS t) : AC P L16_TypingRight.id [.agg s.cells, .agg t.cells] [] (.bool true) [] := by
  refine L16_TypingRight.intro rfl (Goes.run ?_)
  conv => whnf
  refine ⟨rfl, ?_⟩
  refine Run.callC (av := [.agg s.cells, .list 16 1 (nthL [t.cells])]) rfl rfl rfl (fun _ => (l16_great s [t]).le_args (.cons (.refl _) (.cons (one_le t) .nil))) rfl rfl ?_
  conv => whnf
  refine ⟨rfl, ?_⟩
  refine Run.condC rfl (fun hg => ?_) (fun hg => ?_) <;> (conv => whnf) <;> refine ⟨rfl, ?_⟩
  · refine Run.callC (av := []) rfl rfl rfl (fun _ => l16_awake) rfl rfl ?_
    conv => whnf
    refine ⟨rfl, ?_⟩
    refine Run.retP ?_
    conv => whnf
    exact ⟨rfl, .bool rfl⟩
  obtain ⟨⟨q1, q2⟩, q3, q4⟩ := great_small (show sGreat s [t] = false from hg)
  have q5 := q4 0 (by simp)
  have hsm : Small s := ⟨by omega, fun i => by have := q2 i; omega⟩
  have hl : t.t.length ≤ 1000000 := by have := q5.1; simp at this; omega
  have hfl : t.fields.length ≤ 100 := by have := q5.2; simp at this; omega
  have hon := typing_on s t hsm hw hl hfl
  have hsm2 := tOn_small (s := s) (t := t) hfl
  have hbad := tOn_bad (s := s) (t := t)
  have hgood := tOn_good (s := s) (t := t)
  have hpr := schema_print s hsm
  generalize (tOn s t).2 = er at hon hbad hgood
  generalize prS s = pr at hpr
  refine Run.callC (av := [.agg s.cells]) rfl rfl rfl (fun _ => hpr) rfl rfl ?_
  conv => whnf
  refine ⟨rfl, ?_⟩
  have hrt := r13_right (tOn s t).1 hsm2
  have hkeep : er = 0 → (tOn s t).1.version = s.version ∧ sRight (tOn s t).1 = true ∧ ∀ i, i < s.forms.length → (s.forms.getD i default).id ≠ t.form → ∃ k, sFind (tOn s t).1.forms (s.forms.getD i default).id = some k ∧ k < (tOn s t).1.forms.length ∧ (tOn s t).1.forms.getD k default = s.forms.getD i default := fun e => by
    have G := hgood e
    rw [G.e]
    refine ⟨rfl, G.r, fun i hi hne => find_mem (sRight_srt G.r) (tForms_keeps G (by rw [getD_at hi]; exact List.getElem_mem hi) hne)⟩
  have hfd := fun id => r13_find (tOn s t).1 id hsm2.1
  generalize (tOn s t).1 = y at *
  refine Run.callC (av := [.agg s.cells, .agg t.cells]) rfl rfl rfl (fun _ => hon) rfl rfl ?_
  conv => whnf
  refine ⟨rfl, ?_⟩
  refine Run.callC (av := [.agg s.cells]) rfl rfl rfl (fun _ => hpr) rfl rfl ?_
  conv => whnf
  refine ⟨rfl, ?_⟩
  refine Run.doesC rfl rfl (fun _ => Does.cvBS pr.1 rfl) ?_
  conv => whnf
  refine ⟨rfl, ?_⟩
  refine Run.doesC rfl rfl (fun _ => Does.cvBS pr.1 rfl) ?_
  conv => whnf
  refine ⟨rfl, ?_⟩
  refine Run.condC rfl (fun hne => ?_) (fun hne => ?_) <;> (conv => whnf) <;> refine ⟨rfl, ?_⟩
  · exfalso
    simp [negB] at hne
  refine Run.condC rfl (fun he => ?_) (fun he => ?_) <;> (conv => whnf) <;> refine ⟨rfl, ?_⟩
  · have hy := hbad (by simpa using he)
    subst hy
    refine Run.callC (av := []) rfl rfl rfl (fun _ => l16_awake) rfl rfl ?_
    conv => whnf
    refine ⟨rfl, ?_⟩
    refine Run.retP ?_
    conv => whnf
    exact ⟨rfl, .bool rfl⟩
  have he0 : er = 0 := by simpa using he
  obtain ⟨k1, k2, k3⟩ := hkeep he0
  refine Run.callC (av := [.agg y.cells]) rfl rfl rfl (fun _ => hrt) rfl rfl ?_
  conv => whnf
  refine ⟨rfl, ?_⟩
  refine Run.condC rfl (fun h => ?_) (fun h => ?_) <;> (conv => whnf) <;> refine ⟨rfl, ?_⟩
  · exfalso
    simp [k1, k2] at h
  refine Run.loopN (ι := Nat) (fun i => i ≤ s.forms.length) (fun i => [(2, .ptr 0 0 0 0), (3, .ptr 1 0 0 0), (7, .ptr 2 0 0 0), (11, .int .i64 (i : Int))])
    (fun i => [.box s.cells, .box t.cells, .box y.cells, .dead]) (fun i => s.forms.length - i) 0 (Nat.zero_le _) (Wk.trans (Wk.pad 4) (Wk.ofEnv (Wk.cons (.refl _) (Wk.cons (.refl _) (Wk.cons (.refl _) (Wk.cons (.refl _) Wk.done)))))) fun i hi => ?_
  conv => whnf
  refine ⟨rfl, ?_⟩
  refine Run.condC rfl (fun h => ?_) (fun h => ?_) <;> (conv => whnf) <;> refine ⟨rfl, ?_⟩
  · have hlt : i < s.forms.length := by simpa using h
    have hx : s.forms.getD (Int.toNat (i : Int)) default = s.forms.getD i default := rfl
    have k4 := k3 i hlt
    have hxf := hsm.2 i
    generalize s.forms.getD i default = x at *
    have hfx := hfd x.id
    have hz : (x.id != t.form) = true → ∃ k : Nat, placeI (sFind y.forms x.id) = (k : Int) ∧ k < y.forms.length ∧ y.forms.getD k default = x := fun h => by
      obtain ⟨k, e1, e2, e3⟩ := k4 (by simpa using h)
      exact ⟨k, by rw [e1]; rfl, e2, e3⟩
    generalize placeI (sFind y.forms x.id) = z at *
    refine Run.iaC rfl rfl rfl rfl rfl (fun _ => ⟨by omega, by omega⟩) ?_
    conv => whnf
    rw [hx]
    refine ⟨rfl, ?_⟩
    refine Run.callC (av := [.agg y.cells, .int .i64 x.id]) rfl rfl rfl (fun _ => hfx) rfl rfl ?_
    conv => whnf
    refine ⟨rfl, ?_⟩
    have hb : ∀ b : Bool, AllT [pol false b, pol true (x.id != t.form)] → (x.id != t.form) = true := fun b hg => hg.2.1
    refine Run.iaD rfl rfl rfl rfl rfl (fun hg => by obtain ⟨k, e1, e2, e3⟩ := hz (hb _ hg); rw [e1]; exact ⟨by omega, by omega⟩) rfl ?_
    conv => whnf
    refine ⟨rfl, ?_⟩
    refine Run.callD (rv := .bool true) (av := [.agg x.cells, .agg (y.forms.getD z.toNat default).cells]) rfl rfl rfl (fun hg => by
      obtain ⟨k, e1, e2, e3⟩ := hz (hb _ hg)
      rw [e1, show y.forms.getD (Int.toNat (k : Int)) default = x from e3]
      exact sameForm_self x hxf) rfl rfl rfl ?_
    conv => whnf
    refine ⟨rfl, ?_⟩
    refine Run.condC rfl (fun h => ?_) (fun h => ?_) <;> (conv => whnf) <;> refine ⟨rfl, ?_⟩
    · exfalso
      simp only [Bool.and_eq_true] at h
      obtain ⟨k, e1, e2, e3⟩ := hz (by simpa using h.1)
      rw [e1] at h
      simp at h
      omega
    · refine Run.endR ⟨i + 1, by omega, by omega, Wk.cut 4 rfl rfl rfl rfl (Wk.cons (.refl _) (Wk.cons (.refl _) (Wk.cons (.refl _) (Wk.cons (.int ?_) Wk.done))))⟩
      rw [wrap_of (by omega) (by omega)]
      simp
  · have hge : i = s.forms.length := by simp at h; omega
    subst hge
    refine Run.exitR rfl rfl ?_
    conv => whnf
    refine ⟨rfl, ?_⟩
    refine Run.callC (av := []) rfl rfl rfl (fun _ => l16_awake) rfl rfl ?_
    conv => whnf
    refine ⟨rfl, ?_⟩
    refine Run.retP ?_
    conv => whnf
    exact ⟨rfl, .bool rfl⟩
end Go.Proofs.Ytbpcjahjbkiofaa.Sp

set_option linter.unusedVariables false
set_option linter.unusedSimpArgs false
namespace Go.Proofs.Ytbpcjahjbkiofaa.Sp
open Go Go.Proofs.Ytbpcjahjbkiofaa.AV Go.Proofs.Ytbpcjahjbkiofaa.Fn
set_option maxRecDepth 10000

abbrev okW (w : World) : Nat → Prop := fun b => b < w.heap.size
abbrev mu0 : Nat → Option Nat := fun _ => none

/-- Cells that are known so. -/
structure Rds (w : World) (cs : List Value) (l : List AV) : Prop where
  len : cs.length = l.length
  rv : ∀ j, j < l.length → (cs.getD j undef).oneCell' = true ∧ RV w (okW w) mu0 [] true (cs.getD j undef) (lget l j)

section
variable {w : World}
theorem Rds.nil : Rds w [] [] := ⟨rfl, fun j hj => absurd hj (by simp)⟩
theorem Rds.cons {c : Value} {cs : List Value} {x : AV} {l : List AV} (h1 : c.oneCell' = true) (hv : RV w (okW w) mu0 [] true c x) (h : Rds w cs l) : Rds w (c :: cs) (x :: l) :=
  ⟨by rw [List.length_cons, List.length_cons, h.len], fun j hj => match j with
    | 0 => ⟨h1, hv⟩
    | j + 1 => by
      have := h.rv j (by simpa using hj)
      exact this⟩
theorem Rds.int (n : Int) : Rds w [.int .i64 n] [.int .i64 n] := .cons rfl (.int _ _ _) .nil
theorem Rds.str (s : ByteArray) : Rds w [.string s] [.str s] := .cons rfl (.str _ _) .nil
theorem Rds.app {cs ds : List Value} {l m : List AV} (h : Rds w cs l) (k : Rds w ds m) : Rds w (cs ++ ds) (l ++ m) := by
  induction cs generalizing l with
  | nil =>
    cases l with
    | nil => exact k
    | cons x r => exact absurd h.len (by simp)
  | cons c cs ih =>
    cases l with
    | nil => exact absurd h.len (by simp)
    | cons x r =>
      have h0 := h.rv 0 (by simp)
      exact .cons h0.1 h0.2 (ih ⟨by simpa using h.len, fun j hj => h.rv (j + 1) (by simpa using hj)⟩)

/-- A value of a struct. -/
theorem Rds.agg {cs : Array Value} {l : List AV} (h : Rds w cs.toList l) : RV w (okW w) mu0 [] false (.agg cs) (.agg l) := by
  have e : ∀ j, cs.getD j undef = cs.toList.getD j undef := fun j => by simp [Array.getD_eq_getD_getElem?, List.getD_eq_getElem?_getD]
  exact .agg _ _ _ (by simpa using h.len) (fun j hj => by rw [e]; exact (h.rv j hj).1) fun j hj => by rw [e]; exact (h.rv j hj).2.thaw
end

section
variable {H : Type} {enc : TypeId × Value → H} {W : World} {sp : Nat → Bool} {fuel : Nat} {x : DataW H × List MemPlace}

theorem c3 : P.cellsOf 3 = 1 := by kernel_rfl
theorem cstr : P.cellsOf 9 = 1 := by kernel_rfl
theorem c26 : P.cellsOf 26 = 5 := by kernel_rfl
theorem c28 : P.cellsOf 28 = 2 := by kernel_rfl
theorem c29 : P.cellsOf 29 = 1 := by kernel_rfl
theorem c30 : P.cellsOf 30 = 1 := by kernel_rfl
theorem c22 : P.cellsOf 22 = 1 := by kernel_rfl
theorem c52 : P.cellsOf 52 = 2 := by kernel_rfl
theorem c24 : P.cellsOf 24 = 2 := by kernel_rfl
theorem c32 : P.cellsOf 32 = 16 := by kernel_rfl

theorem opn_int {cs : List Value} (h : DataW.trod enc P W 0 sp true fuel 3 cs = some x) : ∃ n, cs = [.int .i64 n] ∧ inR n := by
  obtain ⟨n, e, _, hw⟩ := DataW.trod_int Try.underlying3 h
  refine ⟨n, e, ?_⟩
  simp [Lit.wf, IntKind.min, IntKind.max, IntKind.wrap, IntKind.bits, IntKind.signed] at hw
  unfold inR
  omega

theorem opn_slice {α : Type} [Inhabited α] {en : α → List AV} {Good : α → Prop} {t e : TypeId} {sz : Nat} {cs : List Value} (ht : P.underlying t = some (.slice e)) (hc : P.cellsOf e = sz) (hsz : 0 < sz) (hen : ∀ a, (en a).length = sz)
    (ih : ∀ (n : Nat) (cs : List Value) (x : DataW H × List MemPlace), DataW.trod enc P W 0 sp true n e cs = some x → ∃ a : α, Good a ∧ Rds W cs (en a)) (h : DataW.trod enc P W 0 sp true fuel t cs = some x) :
    ∃ l : List α, (∀ i, i < l.length → Good (l.getD i default)) ∧ Rds W cs [.list sz l.length fun i => en (l.getD i default)] := by
  rcases DataW.trod_slice ht h with ⟨rfl, _⟩ | ⟨a, len, cap, elems, rest, n, rfl, rfl, rfl, hb, hl, hm, hlen, hel, hsp, hns⟩
  · exact ⟨[], fun i hi => absurd hi (by simp), .cons rfl (.list _ _ _ _ _ _ (fun _ _ => undef) (Nat.le_refl _) (Nat.zero_le _) hsz (fun h => absurd h (by simp)) (fun i hi => absurd hi (by simp)) (fun i o hi => absurd hi (by simp)) fun i o hi => absurd hi (by simp)) .nil⟩
  have each : ∀ i, ∃ b : α, i < len → Good b ∧ ∃ cs', W.cells? 0 (a.add (i * sz)) sz = some cs' ∧ Rds W cs' (en b) := fun i => by
    by_cases hi : i < len
    · have h1 := hel i hi
      rw [List.getElem?_eq_getElem (by omega), hc, Option.bind_eq_some_iff] at h1
      obtain ⟨cs', h2, h3⟩ := h1
      obtain ⟨b, h4, h5⟩ := ih _ _ _ h3
      exact ⟨b, fun _ => ⟨h4, cs', h2, h5⟩⟩
    · exact ⟨default, fun h => absurd h hi⟩
  obtain ⟨g, hg⟩ := Classical.skolem.1 each
  have hgl : ∀ i, i < len → ((List.range len).map g).getD i default = g i := fun i hi => by simp [List.getD_eq_getElem?_getD, hi]
  have hll : ((List.range len).map g).length = len := by simp
  have hspot : 0 < len → a.spot = none ∧ a.block < W.heap.size := fun h0 => by
    obtain ⟨_, cs', h2, h3⟩ := hg 0 h0
    obtain ⟨_, h4, h5⟩ := World.cells?_some h2
    have h6 := h5 0 hsz
    rw [Nat.zero_mul] at h6
    have h7 : W.cell? a = some (cs'[0]'(by omega)) := by
      have : (a.add 0).add 0 = a := by simp [Addr.add]
      rw [this] at h6
      rw [h6, List.getElem?_eq_getElem (by omega)]
    unfold World.cell? at h7
    split at h7
    · rename_i c _ _ hh
      refine ⟨?_, ?_⟩
      · cases hs : a.spot with
        | none => rfl
        | some q => rw [hs] at h7; simp at h7
      · exact (Array.getElem?_eq_some_iff.1 hh).1
    · simp at h7
  have hcell : ∀ i o, i < len → o < sz → ∃ v, W.cell? ⟨a.block, a.off + (i * sz + o), none⟩ = some v ∧ v.oneCell' = true ∧ RV W (okW W) mu0 [] true v (lget (en (g i)) o) := fun i o hi ho => by
    obtain ⟨_, cs', h2, h3⟩ := hg i hi
    obtain ⟨_, h4, h5⟩ := World.cells?_some h2
    have h6 := h5 o ho
    have h7 := h3.rv o (by rw [hen]; exact ho)
    have e : (a.add (i * sz)).add o = ⟨a.block, a.off + (i * sz + o), none⟩ := by
      have hs := (hspot (by omega)).1
      cases a with
      | mk b off s =>
        simp only at hs
        subst hs
        unfold Addr.add
        split <;> split <;> simp <;> omega
    rw [e, List.getElem?_eq_getElem (by omega)] at h6
    refine ⟨cs'[o]'(by omega), h6, ?_⟩
    rwa [List.getD_eq_getElem?_getD, List.getElem?_eq_getElem (by omega)] at h7
  refine ⟨(List.range len).map g, fun i hi => ?_, ?_⟩
  · rw [hll] at hi
    rw [hgl i hi]
    exact (hg i hi).1
  · rw [hll]
    refine .cons rfl (.list _ _ _ _ _ _ (fun i o => (W.cell? ⟨a.block, a.off + (i * sz + o), none⟩).getD undef) hl hm hsz (fun h0 => ?_) (fun i hi => by rw [hen]) (fun i o hi ho => ?_) fun i o hi ho => ?_) .nil
    · obtain ⟨hs, hlt⟩ := hspot h0
      refine ⟨a.block, a.off, ?_, hlt, fun i o hi ho => ?_⟩
      · cases a; simp only at hs; subst hs; rfl
      · obtain ⟨v, h1, _⟩ := hcell i o hi ho
        rw [h1]; rfl
    · obtain ⟨v, h1, h2, _⟩ := hcell i o hi ho
      rw [h1]; exact h2
    · obtain ⟨v, h1, _, h3⟩ := hcell i o hi ho
      rw [h1, hgl i hi]; exact h3

theorem fld_at {fs : Array Field} {xs : List (DataW H × List MemPlace)} {n : Nat} {cs : List Value} (hx : xs.length = fs.size)
    (hf : ∀ (i : Nat) (f : Field), fs[i]? = some f → DataW.trod enc P W 0 sp true n f.type ((cs.drop f.offset).take (P.cellsOf f.type)) = xs[i]?) (i off : Nat) {ty : TypeId} {sz : Nat} (hc : P.cellsOf ty = sz) (h : (fs[i]?).map (fun f => (f.type, f.offset)) = some (ty, off)) :
    ∃ y, DataW.trod enc P W 0 sp true n ty ((cs.drop off).take sz) = some y := by
  rw [Option.map_eq_some_iff] at h
  obtain ⟨f, h1, h2⟩ := h
  injection h2 with h3 h4
  have hi : i < xs.length := by rw [hx]; exact (Array.getElem?_eq_some_iff.1 h1).1
  have := (hf i f h1).trans (List.getElem?_eq_getElem hi)
  rw [h3, h4, hc] at this
  exact ⟨_, this⟩

theorem opn_fld {cs : List Value} (h : DataW.trod enc P W 0 sp true fuel 26 cs = some x) : ∃ f : Fld, True ∧ Rds W cs f.cells := by
  obtain ⟨xs, n, rfl, rfl, hlen, hxs, hf⟩ := DataW.trod_struct Try.underlying26 h
  rw [c26] at hlen
  have F := fld_at hxs hf
  match cs, hlen with
  | [a0, a1, a2, a3, a4], _ =>
    obtain ⟨_, g0⟩ := F 0 0 c3 rfl
    obtain ⟨_, g1⟩ := F 1 1 c3 rfl
    obtain ⟨_, g2⟩ := F 2 2 c3 rfl
    obtain ⟨_, g3⟩ := F 3 3 c3 rfl
    obtain ⟨_, g4⟩ := F 4 4 c3 rfl
    obtain ⟨n0, e0, _⟩ := opn_int g0
    obtain ⟨n1, e1, _⟩ := opn_int g1
    obtain ⟨n2, e2, _⟩ := opn_int g2
    obtain ⟨n3, e3, _⟩ := opn_int g3
    obtain ⟨n4, e4, _⟩ := opn_int g4
    obtain rfl : a0 = .int .i64 n0 := by simpa using e0
    obtain rfl : a1 = .int .i64 n1 := by simpa using e1
    obtain rfl : a2 = .int .i64 n2 := by simpa using e2
    obtain rfl : a3 = .int .i64 n3 := by simpa using e3
    obtain rfl : a4 = .int .i64 n4 := by simpa using e4
    exact ⟨⟨n0, n1, n2, n3, n4⟩, trivial, .cons rfl (.int _ _ _) (.cons rfl (.int _ _ _) (.cons rfl (.int _ _ _) (.cons rfl (.int _ _ _) (.cons rfl (.int _ _ _) .nil))))⟩

theorem opn_flds {cs : List Value} (h : DataW.trod enc P W 0 sp true fuel 30 cs = some x) : ∃ l : List Fld, Rds W cs [encFs l] := by
  obtain ⟨l, _, h⟩ := opn_slice (en := Fld.cells) (Good := fun _ => True) Try.underlying30 c26 (by omega) (fun _ => rfl) (fun n cs x h => opn_fld h) h
  exact ⟨l, h⟩
theorem opn_ints {cs : List Value} (h : DataW.trod enc P W 0 sp true fuel 29 cs = some x) : ∃ l : List Int, Rds W cs [encIs l] := by
  obtain ⟨l, _, h⟩ := opn_slice (en := fun n : Int => [AV.int .i64 n]) (Good := fun _ => True) Try.underlying29 c3 (by omega) (fun _ => rfl) (fun n cs x h => by
    obtain ⟨n, rfl, _⟩ := opn_int h
    exact ⟨n, trivial, .int n⟩) h
  exact ⟨l, h⟩

theorem opn_frm {cs : List Value} (h : DataW.trod enc P W 0 sp true fuel 52 cs = some x) : ∃ f : Frm, True ∧ Rds W cs f.cells := by
  obtain ⟨xs, n, rfl, rfl, hlen, hxs, hf⟩ := DataW.trod_struct Try.underlying52 h
  rw [c52] at hlen
  have F := fld_at hxs hf
  match cs, hlen with
  | [a0, a1], _ =>
    obtain ⟨_, g0⟩ := F 0 0 c3 rfl
    obtain ⟨_, g1⟩ := F 1 1 c30 rfl
    obtain ⟨n0, e0, _⟩ := opn_int g0
    obtain ⟨l, e1⟩ := opn_flds g1
    obtain rfl : a0 = .int .i64 n0 := by simpa using e0
    exact ⟨⟨n0, l⟩, trivial, .app (.int n0) e1⟩

theorem opn_sch {cs : List Value} (h : DataW.trod enc P W 0 sp true fuel 24 cs = some x) : ∃ s : Sch, True ∧ Rds W cs s.cells := by
  obtain ⟨xs, n, rfl, rfl, hlen, hxs, hf⟩ := DataW.trod_struct Try.underlying24 h
  rw [c24] at hlen
  have F := fld_at hxs hf
  match cs, hlen with
  | [a0, a1], _ =>
    obtain ⟨_, g0⟩ := F 0 0 c3 rfl
    obtain ⟨_, g1⟩ := F 1 1 c22 rfl
    obtain ⟨n0, e0, _⟩ := opn_int g0
    obtain rfl : a0 = .int .i64 n0 := by simpa using e0
    obtain ⟨l, _, e1⟩ := opn_slice (en := Frm.cells) (Good := fun _ => True) Try.underlying22 c52 (by omega) (fun _ => rfl) (fun n cs x h => opn_frm h) g1
    exact ⟨⟨n0, l⟩, trivial, .app (.int n0) e1⟩

theorem opn_val {cs : List Value} (h : DataW.trod enc P W 0 sp true fuel 28 cs = some x) : ∃ (n : Int) (s : ByteArray), Rds W cs [.int .i64 n, .str s] := by
  obtain ⟨xs, n, rfl, rfl, hlen, hxs, hf⟩ := DataW.trod_struct Try.underlying28 h
  rw [c28] at hlen
  have F := fld_at hxs hf
  match cs, hlen with
  | [a0, a1], _ =>
    obtain ⟨_, g0⟩ := F 0 0 c3 rfl
    obtain ⟨_, g1⟩ := F 1 1 cstr rfl
    obtain ⟨n0, e0, _⟩ := opn_int g0
    obtain rfl : a0 = .int .i64 n0 := by simpa using e0
    obtain ⟨s, e1, _⟩ := DataW.trod_string Try.underlying9 g1
    obtain rfl : a1 = .string s := by simpa using e1
    exact ⟨n0, s, .app (.int n0) (.str s)⟩

theorem opn_stp {cs : List Value} (h : DataW.trod enc P W 0 sp true fuel 32 cs = some x) : ∃ t : Stp, WfS t ∧ Rds W cs t.cells := by
  obtain ⟨xs, n, rfl, rfl, hlen, hxs, hf⟩ := DataW.trod_struct Try.underlying32 h
  rw [c32] at hlen
  have F := fld_at hxs hf
  match cs, hlen with
  | [a0, a1, a2, a3, a4, a5, a6, a7, a8, a9, a10, a11, a12, a13, a14, a15], _ =>
    obtain ⟨_, g0⟩ := F 0 0 c3 rfl
    obtain ⟨_, g1⟩ := F 1 1 c3 rfl
    obtain ⟨_, g2⟩ := F 2 2 c3 rfl
    obtain ⟨_, g3⟩ := F 3 3 c3 rfl
    obtain ⟨_, g4⟩ := F 4 4 c3 rfl
    obtain ⟨_, g5⟩ := F 5 5 c3 rfl
    obtain ⟨_, g6⟩ := F 6 6 c3 rfl
    obtain ⟨_, g7⟩ := F 7 7 c26 rfl
    obtain ⟨_, g8⟩ := F 8 12 c28 rfl
    obtain ⟨_, g9⟩ := F 9 14 c29 rfl
    obtain ⟨_, g10⟩ := F 10 15 c30 rfl
    obtain ⟨n0, e0, w0⟩ := opn_int g0
    obtain ⟨n1, e1, w1⟩ := opn_int g1
    obtain ⟨n2, e2, w2⟩ := opn_int g2
    obtain ⟨n3, e3, w3⟩ := opn_int g3
    obtain ⟨n4, e4, w4⟩ := opn_int g4
    obtain ⟨n5, e5, w5⟩ := opn_int g5
    obtain ⟨n6, e6, w6⟩ := opn_int g6
    obtain ⟨f, _, e7⟩ := opn_fld g7
    obtain ⟨vn, vs, e8⟩ := opn_val g8
    obtain ⟨l, e9⟩ := opn_ints g9
    obtain ⟨fl, e10⟩ := opn_flds g10
    obtain rfl : a0 = .int .i64 n0 := by simpa using e0
    obtain rfl : a1 = .int .i64 n1 := by simpa using e1
    obtain rfl : a2 = .int .i64 n2 := by simpa using e2
    obtain rfl : a3 = .int .i64 n3 := by simpa using e3
    obtain rfl : a4 = .int .i64 n4 := by simpa using e4
    obtain rfl : a5 = .int .i64 n5 := by simpa using e5
    obtain rfl : a6 = .int .i64 n6 := by simpa using e6
    exact ⟨⟨n0, n1, n2, n3, n4, n5, n6, f, vn, vs, l, fl⟩, ⟨w1, w2, w3, w4, w5, w6⟩,
      .app (.int n0) (.app (.int n1) (.app (.int n2) (.app (.int n3) (.app (.int n4) (.app (.int n5) (.app (.int n6) (.app e7 (.app e8 (.app e9 e10)))))))))⟩
end

/-- A struct argument. -/
theorem opn_arg {H : Type} {enc : TypeId × Value → H} {W : World} {sp : Nat → Bool} {α : Type} {en : α → List AV} {Good : α → Prop} {t : TypeId} {fs : Array Field} {r : Reach} {b0 : Nat} {v : Value} {d : DataW H} {ps : List MemPlace} (ht : P.underlying t = some (.struct fs))
    (hval : Value.okWide P W r b0 t v) (ho : ∀ (n : Nat) (cs : List Value) (x : DataW H × List MemPlace), DataW.trod enc P W 0 sp true n t cs = some x → ∃ a : α, Good a ∧ Rds W cs (en a)) (h : DataW.Trod enc P W 0 sp true t v d ps) :
    ∃ a : α, Good a ∧ RV W (okW W) mu0 [] false v (.agg (en a)) := by
  obtain ⟨cs, rfl, _⟩ := WideShapes.okWide_struct ht hval
  obtain ⟨fuel, hf⟩ := h
  obtain ⟨a, h1, h2⟩ := ho _ _ _ hf
  exact ⟨a, h1, h2.agg⟩
/-- A slice argument. -/
theorem opn_sl {H : Type} {enc : TypeId × Value → H} {W : World} {sp : Nat → Bool} {α : Type} [Inhabited α] {en : α → List AV} {Good : α → Prop} {t e : TypeId} {sz : Nat} {r : Reach} {b0 : Nat} {v : Value} {d : DataW H} {ps : List MemPlace} (ht : P.underlying t = some (.slice e)) (hc : P.cellsOf e = sz) (hsz : 0 < sz) (hen : ∀ a, (en a).length = sz)
    (hval : Value.okWide P W r b0 t v) (ho : ∀ (n : Nat) (cs : List Value) (x : DataW H × List MemPlace), DataW.trod enc P W 0 sp true n e cs = some x → ∃ a : α, Good a ∧ Rds W cs (en a)) (h : DataW.Trod enc P W 0 sp true t v d ps) :
    ∃ l : List α, (∀ i, i < l.length → Good (l.getD i default)) ∧ RV W (okW W) mu0 [] false v (.list sz l.length fun i => en (l.getD i default)) := by
  obtain ⟨a, len, cap, rfl⟩ := WideShapes.okWide_slice ht hval
  obtain ⟨fuel, hf⟩ := h
  obtain ⟨l, h1, h2⟩ := opn_slice ht hc hsz hen ho hf
  exact ⟨l, h1, (h2.rv 0 (by simp)).2.thaw⟩

/-- A contract over no table, over a world. -/
theorem AC.below {f : FuncId} {args : List AV} {b : Bool} {W : World} {vs : Array Value} (h : AC P f args [] (.bool b) []) (hs : vs.size = args.length) (hv : ∀ j, j < args.length → RV W (okW W) mu0 [] false (vs.getD j undef) (lget args j)) :
    Calls P f vs W fun e w' => e = .returned (.bool b) ∧ RowKit.Below W.heap.size W w' := by
  refine (h.out W (okW W) mu0 (Inv.empty mu0 fun b hb => hb) vs hs hv).mono fun e w' ⟨v, ok', mu', he, N, hr⟩ => ?_
  refine ⟨?_, N.os, N.tape, N.output, N.size, fun k hk => N.keep k hk fun i hi => by cases hi⟩
  rw [he]
  cases hr
  rfl
end Go.Proofs.Ytbpcjahjbkiofaa.Sp

namespace Go.Proofs.Ytbpcjahjbkiofaa.typingRight
open Go Go.ChangeShapes Go.WideShapes Go.ChangeAt Go.RowKit
set_option linter.unusedVariables false
theorem own : ownKnob Try.prog.godebug = none := by kernel_rfl
theorem laidOut : laidOutB Try.prog = true := by kernel_rfl
set_option maxRecDepth 100000 in
theorem lifted (os : Os) (started : os.Started) (H : Type) (enc : TypeId × Value → H) :
    ReturnsInHanded {} Try.checked os 5 .any (Rows.typingRightSpec.pre6 enc Try.prog Try.f5 Rows.typingRightRow.domain false) (Rows.typingRightSpec.post enc Try.prog Try.f5 false true false false) := by
  refine returnsInHanded_of_change (C := Try.checked) own started (by kernel_rfl) Try.func5
    (ChangeSpec.witness6 (enc := enc) (C := Try.checked) false ⟨#[], #[.agg #[.int .i64 0, .slice none 0 0], .agg #[.int .i64 0, .int .i64 0, .int .i64 0, .int .i64 0, .int .i64 0, .int .i64 0, .int .i64 0, .int .i64 0, .int .i64 0, .int .i64 0, .int .i64 0, .int .i64 0, .int .i64 0, .string ByteArray.empty, .slice none 0 0, .slice none 0 0]], []⟩ 8 (by kernel_rfl) (by kernel_rfl) (by kernel_rfl) (by kernel_rfl)) ?_
  intro W base args ds gs before hval0 hW hcnd _
  have hval : ∀ (j : Nat) t v, Try.f5.params[j]? = some t → args[j]? = some v → Value.okWide Try.prog W .any base t v := hval0
  have hW' := hW
  obtain ⟨p, q, hA0, hV, rfl, hfz, hnd⟩ := hW
  have hA : DataW.TrodAll enc Try.prog W 0 (fun _ => true) true Try.f5.params.toList args.toList ds p := hA0
  rw [Try.params5] at hA hval
  obtain ⟨v0, vs0, d0, ds0, p0, q0, hargs, rfl, rfl, h0, r0⟩ := trodAll_cons hA
  obtain ⟨v1, vs1, d1, ds1, p1, q1, rfl, rfl, rfl, h1, r1⟩ := trodAll_cons r0
  obtain ⟨rfl, rfl, rfl⟩ := trodAll_nil r1
  obtain rfl : args = #[v0, v1] := by cases args; simp_all
  obtain ⟨rfl, rfl⟩ := trodVars_none hV
  have lt0 : ∀ x ∈ p0, x.block < W.heap.size := by obtain ⟨m, hm⟩ := h0; exact DataW.trod_lt m _ _ _ hm
  obtain ⟨a0, g0, e0⟩ := (Sp.opn_arg (en := Sp.Sch.cells) Try.underlying24 (hval 0 24 v0 rfl rfl) (fun _ _ _ h => Sp.opn_sch h) h0)
  have lt1 : ∀ x ∈ p1, x.block < W.heap.size := by obtain ⟨m, hm⟩ := h1; exact DataW.trod_lt m _ _ _ hm
  obtain ⟨a1, g1, e1⟩ := (Sp.opn_arg (en := Sp.Stp.cells) Try.underlying32 (hval 1 32 v1 rfl rfl) (fun _ _ _ h => Sp.opn_stp h) h1)
  clear hA0 hval0
  refine (Sp.AC.below (Sp.l16_TypingRight a0 a1 g1) rfl fun j hj => ?_).mono fun e W' ⟨he, bel⟩ => ?_
  · match j, hj with
    | 0, _ => exact e0
    | 1, _ => exact e1
  · subst he
    exact ⟨_, rfl, _, _, _, [], _, [], hW', trodAll_mk1 (shut_bool Try.underlying4 _), (trodAll_cons_mk (Below.trod laidOut (by kernel_rfl) (of_decide_eq_true (by kernel_rfl)) h0 bel lt0) (trodAll_cons_mk (Below.trod laidOut (by kernel_rfl) (of_decide_eq_true (by kernel_rfl)) h1 bel lt1) trodAll_mk0)), rfl, bel.frame _, fun h => by cases h⟩
theorem over : Rows.typingRightRow.holds Try.pinned (OpenSpec.ofChange Rows.typingRightSpec) :=
  OpenClaim.holds_of_wide 5 Try.f5 rfl rfl rfl rfl rfl rfl rfl ⟨rfl, rfl, rfl, rfl, rfl⟩ rfl rfl rfl rfl rfl (by kernel_rfl) Try.func5 (by kernel_rfl)
    (of_decide_eq_true (by kernel_rfl)) (by unfold Func.isWrapper; first | (rw [if_pos (by decide +kernel)]; kernel_rfl) | (rw [if_neg (by decide +kernel)]; exact ⟨rfl, rfl⟩))
    (fun os started H enc _ => lifted os started H enc)
theorem proved : Rows.TypingRightSaid := over
#print axioms proved
end Go.Proofs.Ytbpcjahjbkiofaa.typingRight
namespace Go.Proofs.Ytbpcjahjbkiofaa
theorem typingRight_holds : Rows.TypingRightSaid := typingRight.proved
end Go.Proofs.Ytbpcjahjbkiofaa

