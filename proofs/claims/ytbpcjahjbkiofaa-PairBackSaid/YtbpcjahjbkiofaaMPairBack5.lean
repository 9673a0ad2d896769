/- The law instarlaw17.PairBack: whatever the schema and the two lists of steps, the call returns true and the arguments read as they did. -/
import Derived.Test.YtbpcjahjbkiofaaMPairBack4
import Derived.ProofKit
import Derived.Test.YtbpcjahjbkiofaaRows
import Derived.WalkKit
import Derived.OpenShut
import Derived.ShutString
import Derived.ChangeOld
import Derived.Below
set_option linter.unusedVariables false
set_option linter.unusedSimpArgs false
namespace Go.Proofs.Ytbpcjahjbkiofaa.Sp
open Go Go.Proofs.Ytbpcjahjbkiofaa.AV Go.Proofs.Ytbpcjahjbkiofaa.Fn
set_option maxRecDepth 10000

theorem clone_ints (l : List Int) (hb : l.length ≤ 1000000) : AC P slices_Clone_int_int.id [encIs l] [] (encIs l) [] := by
  refine slices_Clone_int_int.intro rfl (Goes.run ?_)
  conv => whnf
  refine ⟨rfl, ?_⟩
  refine Run.eqNilC rfl rfl fun b hn => ?_
  conv => whnf
  refine ⟨rfl, ?_⟩
  refine Run.condC rfl (fun h => ?_) (fun h => ?_) <;> (conv => whnf) <;> refine ⟨rfl, ?_⟩
  · refine Run.retZ ?_
    conv => whnf
    refine ⟨rfl, ?_⟩
    have : l = [] := by simpa using hn (by simpa [negB] using h)
    subst this
    exact Le.zsl (by omega)
  · refine Run.doesT (id := 0) rfl (Does.appR rfl rfl rfl (by simp only [maxLen, List.length_nil]; omega) (by simp only [List.length_nil]; omega)) ?_
    conv => whnf
    refine ⟨rfl, ?_⟩
    refine Run.retZ ?_
    conv => whnf
    exact ⟨rfl, IsL.le (enc := fun n : Int => [AV.int .i64 n]) (((IsL.nil _).app (IsL.all (fun n : Int => [AV.int .i64 n]) l)).from0)⟩

/-- The form of that number, or none. -/
def fmG (l : List Frm) (id : Int) : Frm := match sFind l id with
  | some k => l.getD k default
  | none => ⟨0, []⟩
theorem fmG_some {l : List Frm} {id : Int} {i : Nat} (hi : i < l.length) (hp : ∀ j, j < i → ((l.getD j default).id == id) = false) (h : ((l.getD i default).id == id) = true) : sFind l id = some i := by
  unfold sFind
  rw [List.findIdx?_eq_some_iff_getElem]
  refine ⟨hi, by rw [← getD_at hi]; exact h, fun j hj => ?_⟩
  have := hp j hj
  rw [getD_at (by omega)] at this
  simp [this]
theorem fmG_none {l : List Frm} {id : Int} (hp : ∀ j, j < l.length → ((l.getD j default).id == id) = false) : sFind l id = none := by
  unfold sFind
  rw [List.findIdx?_eq_none_iff]
  intro x hx
  obtain ⟨j, hj, rfl⟩ := List.mem_iff_getElem.1 hx
  have := hp j hj
  rwa [getD_at hj] at this

theorem zfrm : Le (.agg [.int .i64 0, .zsl]) (.agg (Frm.cells ⟨0, []⟩)) := Le.agg (.cons (.refl _) (.cons (Le.zsl (by omega)) .nil))

theorem schema_form (s : Sch) (id : Int) (hb : s.forms.length ≤ 1000) : AC P schema_Form.id [.agg s.cells, .int .i64 id] [] (.tuple [.agg (fmG s.forms id).cells, .bool (sFind s.forms id).isSome]) [] := by
  refine schema_Form.intro rfl (Goes.run ?_)
  conv => whnf
  refine ⟨rfl, ?_⟩
  refine Run.loopN (ι := Nat) (fun i => i ≤ s.forms.length ∧ ∀ j, j < i → ((s.forms.getD j default).id == id) = false) (fun i => [(1, .int .i64 id), (2, .ptr 0 0 0 0), (4, .ptr 1 0 0 0), (9, encFms s.forms), (10, .int .i64 (s.forms.length : Int)), (11, .int .i64 (i : Int))])
    (fun _ => [.box s.cells, .box [.int .i64 0, .zsl], .dead, .dead]) (fun i => s.forms.length - i) 0 ⟨Nat.zero_le _, fun j hj => absurd hj (Nat.not_lt_zero _)⟩
    (Wk.trans (Wk.pad 4) (Wk.ofEnv (Wk.cons (.refl _) (Wk.cons (.refl _) (Wk.cons (.refl _) (Wk.cons (.refl _) (Wk.cons (.refl _) (Wk.cons (.refl _) Wk.done)))))))) fun i ⟨hi, hp⟩ => ?_
  conv => whnf
  refine ⟨rfl, ?_⟩
  refine Run.condC rfl (fun h => ?_) (fun h => ?_) <;> (conv => whnf) <;> refine ⟨rfl, ?_⟩
  · have hlt : i < s.forms.length := by simpa using h
    refine Run.iaC rfl rfl rfl rfl rfl (fun _ => ⟨by omega, by omega⟩) ?_
    conv => whnf
    refine ⟨rfl, ?_⟩
    refine Run.condC rfl (fun h => ?_) (fun h => ?_) <;> (conv => whnf) <;> refine ⟨rfl, ?_⟩
    · refine Run.retZR ?_
      conv => whnf
      have e := fmG_some hlt hp (by simpa using h)
      rw [show fmG s.forms id = s.forms.getD i default by simp only [fmG, e], e]
      exact ⟨rfl, Le.tuple (.cons (.refl _) (.cons (.tt rfl) .nil))⟩
    · refine Run.endR ⟨i + 1, ⟨by omega, fun j hj => ?_⟩, by omega, Wk.cut 4 rfl rfl rfl rfl (Wk.cons (.refl _) (Wk.cons (.refl _) (Wk.cons (.refl _) (Wk.cons (.refl _) (Wk.cons (.refl _) (Wk.cons (.int ?_) Wk.done))))))⟩
      · by_cases e : j < i
        · exact hp j e
        · obtain rfl : j = i := by omega
          exact h
      · rw [wrap_of (by omega) (by omega)]
        simp
  · have hge : i = s.forms.length := by simp at h; omega
    subst hge
    refine Run.exitR rfl rfl ?_
    conv => whnf
    refine ⟨rfl, ?_⟩
    refine Run.retZ ?_
    conv => whnf
    have e := fmG_none hp
    rw [show fmG s.forms id = ⟨0, []⟩ by simp only [fmG, e], e]
    exact ⟨rfl, Le.tuple (.cons zfrm (.cons (.ff rfl) .nil))⟩

theorem fmG_small {s : Sch} (hs : Small s) (id : Int) : (fmG s.forms id).fields.length ≤ 1000 := by
  unfold fmG
  split
  · exact hs.2 _
  · exact Nat.zero_le _

def zF : Fld := ⟨0, 0, 0, 0, 0⟩
def ownF (fs : List Fld) (id : Int) : Fld := match fAt fs id with
  | some a => fs.getD a default
  | none => zF
def ownA (fs : List Fld) (id : Int) : Int := match fAt fs id with
  | some a => (a : Int)
  | none => 0
theorem pair_own_p (s : Sch) (t : Stp) (hs : Small s) : AC P pair_own.id [.agg s.cells, .agg t.cells] [] (.tuple [.agg (ownF (fmG s.forms t.form).fields t.field).cells, .int .i64 (ownA (fmG s.forms t.form).fields t.field)]) [] := by
  have hfm := schema_form s t.form hs.1
  have hat := schema_at (fmG s.forms t.form) t.field (fmG_small hs _)
  have hsm := fmG_small hs t.form
  generalize fmG s.forms t.form = x at *
  refine pair_own.intro rfl (Goes.run ?_)
  conv => whnf
  refine ⟨rfl, ?_⟩
  refine Run.callC (av := [.agg s.cells, .int .i64 t.form]) rfl rfl rfl (fun _ => hfm) rfl rfl ?_
  conv => whnf
  refine ⟨rfl, ?_⟩
  cases hk : fAt x.fields t.field with
  | none =>
    rw [hk] at hat
    have hat : AC P schema_At.id [.agg x.cells, .int .i64 t.field] [] (.int .i64 (-1)) [] := hat
    refine Run.callC (av := [.agg x.cells, .int .i64 t.field]) rfl rfl rfl (fun _ => hat) rfl rfl ?_
    conv => whnf
    refine ⟨rfl, ?_⟩
    refine Run.condC rfl (fun h => ?_) (fun h => ?_) <;> (conv => whnf) <;> refine ⟨rfl, ?_⟩
    · exfalso; simp at h
    refine Run.retZ ?_
    conv => whnf
    rw [show ownF x.fields t.field = zF by simp only [ownF, hk], show ownA x.fields t.field = 0 by simp only [ownA, hk]]
    exact ⟨rfl, .refl _⟩
  | some a =>
    have hlt := fAt_lt hk
    rw [hk] at hat
    have hat : AC P schema_At.id [.agg x.cells, .int .i64 t.field] [] (.int .i64 (a : Int)) [] := hat
    refine Run.callC (av := [.agg x.cells, .int .i64 t.field]) rfl rfl rfl (fun _ => hat) rfl rfl ?_
    conv => whnf
    refine ⟨rfl, ?_⟩
    refine Run.condC rfl (fun h => ?_) (fun h => ?_) <;> (conv => whnf) <;> refine ⟨rfl, ?_⟩
    · refine Run.iaC rfl rfl rfl rfl rfl (fun _ => ⟨by omega, by omega⟩) ?_
      conv => whnf
      refine ⟨rfl, ?_⟩
      refine Run.retZ ?_
      conv => whnf
      rw [show ownF x.fields t.field = x.fields.getD a default by simp only [ownF, hk], show ownA x.fields t.field = (a : Int) by simp only [ownA, hk]]
      exact ⟨rfl, .refl _⟩
    · exfalso; simp at h
end Go.Proofs.Ytbpcjahjbkiofaa.Sp

set_option linter.unusedVariables false
set_option linter.unusedSimpArgs false
namespace Go.Proofs.Ytbpcjahjbkiofaa.Sp
open Go Go.Proofs.Ytbpcjahjbkiofaa.AV Go.Proofs.Ytbpcjahjbkiofaa.Fn
set_option maxRecDepth 10000

def zStp : Stp := ⟨0, 0, 0, 0, 0, 0, 0, zF, 0, ByteArray.empty, [], []⟩
def inv0 (t : Stp) : Stp := ⟨IntKind.i64.wrap (t.op + 20), t.form, t.field, 0, 0, 0, 0, zF, 0, ByteArray.empty, [], []⟩
/-- The step back. -/
def invP (s : Sch) (t : Stp) : Stp :=
  bif t.op == 1 then { inv0 t with field := t.f.id } else
  bif t.op == 2 then { inv0 t with field := 0, place := ownA (fmG s.forms t.form).fields t.field, f := ownF (fmG s.forms t.form).fields t.field, vn := t.vn, vs := t.vs } else
  bif t.op == 4 then { inv0 t with b := t.b, a := t.a, f := ownF (fmG s.forms t.form).fields t.field } else
  bif t.op == 6 then { inv0 t with to := t.to, a := t.a, f := ownF (fmG s.forms t.form).fields t.field } else
  bif t.op == 3 then { inv0 t with f := ownF (fmG s.forms t.form).fields t.field } else
  bif t.op == 5 then { inv0 t with t := t.t } else
  bif t.op == 7 then { inv0 t with place := ownA (fmG s.forms t.form).fields t.field } else
  bif t.op == 8 then { inv0 t with field := t.to, to := t.field } else
  bif t.op == 10 then { inv0 t with fields := (fmG s.forms t.form).fields } else
  inv0 t
def invS (s : Sch) (t : Stp) : Stp × Int := bif (tOn s t).2 != 0 then (zStp, (tOn s t).2) else (invP s t, 0)

theorem stp_le (t : Stp) {X Y : AV} (hX : Le X (encIs t.t)) (hY : Le Y (encFs t.fields)) : Le (.agg [.int .i64 t.op, .int .i64 t.form, .int .i64 t.field, .int .i64 t.place, .int .i64 t.to, .int .i64 t.a, .int .i64 t.b,
    .int .i64 t.f.id, .int .i64 t.f.kind, .int .i64 t.f.lo, .int .i64 t.f.hi, .int .i64 t.f.most, .int .i64 t.vn, .str t.vs, X, Y]) (.agg t.cells) :=
  Le.agg (.cons (.refl _) (.cons (.refl _) (.cons (.refl _) (.cons (.refl _) (.cons (.refl _) (.cons (.refl _) (.cons (.refl _) (.cons (.refl _) (.cons (.refl _) (.cons (.refl _) (.cons (.refl _) (.cons (.refl _) (.cons (.refl _) (.cons (.refl _) (.cons hX (.cons hY .nil))))))))))))))))
theorem zi : Le .zsl (encIs []) := Le.zsl (by omega)
theorem zf : Le .zsl (encFs []) := Le.zsl (by omega)

set_option maxHeartbeats 4000000 in
theorem pair_invert (s : Sch) (t : Stp) (hs : Small s) (hw : WfS t) (hl : t.t.length ≤ 1000000) (hfl : t.fields.length ≤ 100) :
    AC P pair_Invert.id [.agg s.cells, .agg t.cells] [] (.tuple [.agg (invS s t).1.cells, .int .i64 (invS s t).2]) [] := by
  have hon := typing_on s t hs hw hl hfl
  have hown := pair_own_p s t hs
  have hfm := schema_form s t.form hs.1
  have hsm := fmG_small hs t.form
  have hS : invS s t = bif (tOn s t).2 != 0 then (zStp, (tOn s t).2) else (invP s t, 0) := rfl
  generalize (tOn s t).1 = y at hon
  generalize (tOn s t).2 = e at hon hS
  have hP : invP s t = bif t.op == 1 then { inv0 t with field := t.f.id } else bif t.op == 2 then { inv0 t with field := 0, place := ownA (fmG s.forms t.form).fields t.field, f := ownF (fmG s.forms t.form).fields t.field, vn := t.vn, vs := t.vs } else bif t.op == 4 then { inv0 t with b := t.b, a := t.a, f := ownF (fmG s.forms t.form).fields t.field } else bif t.op == 6 then { inv0 t with to := t.to, a := t.a, f := ownF (fmG s.forms t.form).fields t.field } else bif t.op == 3 then { inv0 t with f := ownF (fmG s.forms t.form).fields t.field } else bif t.op == 5 then { inv0 t with t := t.t } else bif t.op == 7 then { inv0 t with place := ownA (fmG s.forms t.form).fields t.field } else bif t.op == 8 then { inv0 t with field := t.to, to := t.field } else bif t.op == 10 then { inv0 t with fields := (fmG s.forms t.form).fields } else inv0 t := rfl
  generalize invP s t = z at hP hS
  generalize ownF (fmG s.forms t.form).fields t.field = f at *
  generalize ownA (fmG s.forms t.form).fields t.field = a at *
  generalize fmG s.forms t.form = x at *
  refine pair_Invert.intro rfl (Goes.run ?_)
  conv => whnf
  refine ⟨rfl, ?_⟩
  refine Run.callC (av := [.agg s.cells, .agg t.cells]) rfl rfl rfl (fun _ => hon) rfl rfl ?_
  conv => whnf
  refine ⟨rfl, ?_⟩
  refine Run.condC rfl (fun he => ?_) (fun he => ?_) <;> (conv => whnf) <;> refine ⟨rfl, ?_⟩
  · refine Run.retZ ?_
    conv => whnf
    rw [hS, show (e != 0) = true from he, cond_true]
    exact ⟨rfl, Le.tuple (.cons (stp_le zStp zi zf) (.cons (.refl _) .nil))⟩
  rw [show (e != 0) = false from he, cond_false] at hS
  rw [hS]
  refine Run.callC (av := [.agg s.cells, .agg t.cells]) rfl rfl rfl (fun _ => hown) rfl rfl ?_
  conv => whnf
  refine ⟨rfl, ?_⟩
  refine Run.condC rfl (fun h1 => ?_) (fun h1 => ?_) <;> (conv => whnf) <;> refine ⟨rfl, ?_⟩
  · refine Run.retZ ?_
    conv => whnf
    rw [hP]
    simp only [h1, cond_true, cond_false]
    exact ⟨rfl, Le.tuple (.cons (stp_le { inv0 t with field := t.f.id } zi zf) (.cons (.refl _) .nil))⟩
  refine Run.condC rfl (fun h2 => ?_) (fun h2 => ?_) <;> (conv => whnf) <;> refine ⟨rfl, ?_⟩
  · refine Run.retZ ?_
    conv => whnf
    rw [hP]
    simp only [h1, h2, cond_true, cond_false]
    exact ⟨rfl, Le.tuple (.cons (stp_le { inv0 t with field := 0, place := a, f := f, vn := t.vn, vs := t.vs } zi zf) (.cons (.refl _) .nil))⟩
  refine Run.condC rfl (fun h4 => ?_) (fun h4 => ?_) <;> (conv => whnf) <;> refine ⟨rfl, ?_⟩
  · refine Run.retZ ?_
    conv => whnf
    rw [hP]
    simp only [h1, h2, h4, cond_true, cond_false]
    exact ⟨rfl, Le.tuple (.cons (stp_le { inv0 t with b := t.b, a := t.a, f := f } zi zf) (.cons (.refl _) .nil))⟩
  refine Run.condC rfl (fun h6 => ?_) (fun h6 => ?_) <;> (conv => whnf) <;> refine ⟨rfl, ?_⟩
  · refine Run.retZ ?_
    conv => whnf
    rw [hP]
    simp only [h1, h2, h4, h6, cond_true, cond_false]
    exact ⟨rfl, Le.tuple (.cons (stp_le { inv0 t with to := t.to, a := t.a, f := f } zi zf) (.cons (.refl _) .nil))⟩
  refine Run.condC rfl (fun h3 => ?_) (fun h3 => ?_) <;> (conv => whnf) <;> refine ⟨rfl, ?_⟩
  · refine Run.retZ ?_
    conv => whnf
    rw [hP]
    simp only [h1, h2, h4, h6, h3, cond_true, cond_false]
    exact ⟨rfl, Le.tuple (.cons (stp_le { inv0 t with f := f } zi zf) (.cons (.refl _) .nil))⟩
  refine Run.condC rfl (fun h5 => ?_) (fun h5 => ?_) <;> (conv => whnf) <;> refine ⟨rfl, ?_⟩
  · refine Run.callC (av := [encIs t.t]) rfl rfl rfl (fun _ => clone_ints t.t hl) rfl rfl ?_
    conv => whnf
    refine ⟨rfl, ?_⟩
    refine Run.retZ ?_
    conv => whnf
    rw [hP]
    simp only [h1, h2, h4, h6, h3, h5, cond_true, cond_false]
    exact ⟨rfl, Le.tuple (.cons (stp_le { inv0 t with t := t.t } (.refl _) zf) (.cons (.refl _) .nil))⟩
  refine Run.condC rfl (fun h7 => ?_) (fun h7 => ?_) <;> (conv => whnf) <;> refine ⟨rfl, ?_⟩
  · refine Run.retZ ?_
    conv => whnf
    rw [hP]
    simp only [h1, h2, h4, h6, h3, h5, h7, cond_true, cond_false]
    exact ⟨rfl, Le.tuple (.cons (stp_le { inv0 t with place := a } zi zf) (.cons (.refl _) .nil))⟩
  refine Run.condC rfl (fun h8 => ?_) (fun h8 => ?_) <;> (conv => whnf) <;> refine ⟨rfl, ?_⟩
  · refine Run.retZ ?_
    conv => whnf
    rw [hP]
    simp only [h1, h2, h4, h6, h3, h5, h7, h8, cond_true, cond_false]
    exact ⟨rfl, Le.tuple (.cons (stp_le { inv0 t with field := t.to, to := t.field } zi zf) (.cons (.refl _) .nil))⟩
  refine Run.condC rfl (fun h10 => ?_) (fun h10 => ?_) <;> (conv => whnf) <;> refine ⟨rfl, ?_⟩
  · refine Run.callC (av := [.agg s.cells, .int .i64 t.form]) rfl rfl rfl (fun _ => hfm) rfl rfl ?_
    conv => whnf
    refine ⟨rfl, ?_⟩
    refine Run.callC (av := [encFs x.fields]) rfl rfl rfl (fun _ => clone_spec x.fields (by omega)) rfl rfl ?_
    conv => whnf
    refine ⟨rfl, ?_⟩
    refine Run.retZ ?_
    conv => whnf
    rw [hP]
    simp only [h1, h2, h4, h6, h3, h5, h7, h8, h10, cond_true, cond_false]
    exact ⟨rfl, Le.tuple (.cons (stp_le { inv0 t with fields := x.fields } zi (.refl _)) (.cons (.refl _) .nil))⟩
  refine Run.retZ ?_
  conv => whnf
  rw [hP]
  simp only [h1, h2, h4, h6, h3, h5, h7, h8, h10, cond_false]
  exact ⟨rfl, Le.tuple (.cons (stp_le (inv0 t) zi zf) (.cons (.refl _) .nil))⟩
end Go.Proofs.Ytbpcjahjbkiofaa.Sp

set_option linter.unusedVariables false
set_option linter.unusedSimpArgs false
namespace Go.Proofs.Ytbpcjahjbkiofaa.Sp
open Go Go.Proofs.Ytbpcjahjbkiofaa.AV Go.Proofs.Ytbpcjahjbkiofaa.Fn
set_option maxRecDepth 10000

def byF (b : List Int) : Nat → List AV := fun i => [.int .u8 (b.getD i 0)]
def penT (b : List Int) (bad : Int) : Tab := [.box [.row 1 1 b.length 0 b.length, .int .i64 bad], .row 1 b.length b.length (byF b)]

theorem app_by {b : List Int} {x : Int} {k : Nat} (hk : k < b.length + 1) : fapp b.length (byF b) (nthL [[.int .u8 x]]) k = byF (b ++ [x]) k := by
  unfold byF
  by_cases h : k < b.length
  · rw [fapp_lt h]
    congr 2
    rw [List.getD_eq_getElem?_getD, List.getD_eq_getElem?_getD, List.getElem?_append_left h]
  · obtain rfl : k = b.length := by omega
    rw [fapp_ge (Nat.le_refl _), Nat.sub_self]
    show [AV.int .u8 x] = _
    congr 2
    rw [List.getD_eq_getElem?_getD, List.getElem?_append_right (Nat.le_refl _)]
    simp
theorem penT_le {c : List Int} {bad : Int} {n : Nat} {F : Nat → List AV} (hn : n = c.length) (hF : ∀ k, k < n → F k = byF c k) : ∀ i, LeOb (tget [.box [.row 1 1 n 0 n, .int .i64 bad], .row 1 n n F] i) (tget (penT c bad) i) := by
  subst hn
  intro i
  match i with
  | 0 => exact LeOb.refl _
  | 1 => exact ⟨rfl, rfl, rfl, fun k hk => leL_eq (hF k hk)⟩
  | i + 2 => exact .inl rfl

theorem pen_put1 (b : List Int) (bad x : Int) (hb : b.length ≤ 1000000) : AC P pen_Pen_put.id [.ptr 0 0 0 0, .list 1 1 (nthL [[.int .u8 x]])] (penT b bad) (.tuple []) (penT (b ++ [x]) bad) := by
  refine pen_Pen_put.intro rfl (Goes.run ?_)
  conv => whnf
  refine ⟨rfl, ?_⟩
  refine Run.doesT (id := 1) rfl (Does.appR rfl rfl rfl (by simp only [maxLen]; omega) (by omega)) ?_
  conv => whnf
  refine ⟨rfl, ?_⟩
  refine Run.nilS ?_
  conv => whnf
  exact FinS.tab rfl (FinS.keepP 2 rfl rfl rfl (.refl _)) (penT_le (by simp) fun k hk => app_by hk)

def or8 (u : Int) : Int := IntKind.u8.wrap ↑(BitVec.ofInt IntKind.u8.bits (IntKind.u8.wrap u) ||| BitVec.ofInt IntKind.u8.bits 128).toNat
def sh7 (u : Int) : Int := u.fdiv (2 ^ min (7 : Int).toNat IntKind.u64.bits)
theorem sh7_eq (u : Int) : sh7 u = u / 128 := by
  unfold sh7
  rw [show (2 : Int) ^ min (7 : Int).toNat IntKind.u64.bits = 128 by decide, Int.fdiv_eq_ediv_of_nonneg _ (by omega)]
/-- A number in groups of seven bits. -/
def grp : Nat → Int → List Int
  | 0, u => [IntKind.u8.wrap u]
  | n + 1, u => bif decide (u ≥ 128) then or8 u :: grp n (sh7 u) else [IntKind.u8.wrap u]
def grps (u : Int) : List Int := grp 9 u
theorem grp_len : ∀ (n : Nat) (u : Int), (grp n u).length ≤ n + 1
  | 0, u => by simp [grp]
  | n + 1, u => by
    unfold grp
    cases decide (u ≥ 128) with
    | true => have := grp_len n (sh7 u); simp; omega
    | false => simp
theorem grp_last (n : Nat) {u : Int} (h : ¬ u ≥ 128) : grp n u = [IntKind.u8.wrap u] := by
  cases n with
  | zero => rfl
  | succ n => unfold grp; simp [h]
theorem wrap_u64 (x : Int) : 0 ≤ IntKind.u64.wrap x ∧ IntKind.u64.wrap x < 18446744073709551616 := by
  unfold IntKind.wrap
  simp only [IntKind.bits, IntKind.signed, Bool.false_and]
  have h1 := Int.emod_nonneg x (b := 2 ^ 64) (by decide)
  have h2 := Int.emod_lt_of_pos x (b := 2 ^ 64) (by decide)
  simp
  omega

theorem pen_grp (b : List Int) (bad u : Int) (hb : b.length ≤ 900000) (hu : 0 ≤ u ∧ u < 18446744073709551616) : AC P pen_Pen_groups.id [.ptr 0 0 0 0, .int .u64 u] (penT b bad) (.tuple []) (penT (b ++ grps u) bad) := by
  refine pen_Pen_groups.intro rfl (Goes.run ?_)
  conv => whnf
  refine ⟨rfl, ?_⟩
  refine Run.loopN (ι := List Int × Int × Nat) (fun i => 0 ≤ i.2.1 ∧ i.2.1 < 128 * 128 ^ i.2.2 ∧ i.2.2 ≤ 9 ∧ i.1.length + i.2.2 ≤ b.length + 9 ∧ i.1 ++ grp i.2.2 i.2.1 = b ++ grps u) (fun i => [(0, .ptr 0 0 0 0), (1, .int .u64 i.2.1)])
    (fun i => [.box [.row 1 1 i.1.length 0 i.1.length, .int .i64 bad], .row 1 i.1.length i.1.length (byF i.1), .dead, .dead]) (fun i => i.2.2) (b, u, 9) ⟨hu.1, by show u < 128 * 128 ^ 9; omega, Nat.le_refl _, Nat.le_refl _, rfl⟩ (Wk.trans (Wk.pad 4) (Wk.ofEnv (Wk.cons (.refl _) (Wk.cons (.refl _) Wk.done)))) fun ⟨c, v, n⟩ ⟨h0, h1, h2, h3, h4⟩ => ?_
  simp only at h0 h1 h2 h3 h4
  conv => whnf
  refine ⟨rfl, ?_⟩
  refine Run.condC rfl (fun h => ?_) (fun h => ?_) <;> (conv => whnf) <;> refine ⟨rfl, ?_⟩
  · have hge : v ≥ 128 := by simpa using h
    refine Run.frzO 4 rfl ?_
    conv => whnf
    refine ⟨rfl, ?_⟩
    refine Run.callG [0, 1] ((pen_put1 c bad (or8 v) (by omega)).le_args (.cons (.refl _) (.cons (Le.list (n := 1) rfl fun k hk => leL_eq (by rw [Nat.zero_add]; rfl)) .nil))) rfl rfl rfl ⟨rfl, rfl, trivial⟩ ?_
    conv => whnf
    refine ⟨rfl, ?_⟩
    refine Run.doesC rfl rfl (fun _ => Does.shr rfl rfl (by omega)) ?_
    conv => whnf
    refine ⟨rfl, ?_⟩
    match n, h1, h2, h3, h4 with
    | 0, h1, _, _, _ => exact absurd h1 (by simp; omega)
    | n + 1, h1, h2, h3, h4 =>
      refine Run.endR ⟨(c ++ [or8 v], sh7 v, n), ⟨?_, ?_, by show n ≤ 9; omega, ?_, ?_⟩, by show n < n + 1; omega, Wk.cut 4 rfl rfl rfl rfl (Wk.cons (.refl _) (Wk.cons (.refl _) Wk.done))⟩
      · show 0 ≤ sh7 v
        rw [sh7_eq]; omega
      · show sh7 v < 128 * 128 ^ n
        rw [sh7_eq]
        rw [Int.pow_succ] at h1
        omega
      · show (c ++ [or8 v]).length + n ≤ _
        simp; omega
      · show c ++ [or8 v] ++ grp n (sh7 v) = _
        rw [← h4]
        show _ = c ++ grp (n + 1) v
        rw [grp, show decide (v ≥ 128) = true by simp; omega, cond_true]
        simp
  · have hlt : ¬ v ≥ 128 := by simpa using h
    refine Run.exitR rfl rfl ?_
    conv => whnf
    refine ⟨rfl, ?_⟩
    refine Run.frzO 4 rfl ?_
    conv => whnf
    refine ⟨rfl, ?_⟩
    refine Run.callG [0, 1] ((pen_put1 c bad (IntKind.u8.wrap v) (by omega)).le_args (.cons (.refl _) (.cons (Le.list (n := 1) rfl fun k hk => leL_eq (by rw [Nat.zero_add]; rfl)) .nil))) rfl rfl rfl ⟨rfl, rfl, trivial⟩ ?_
    conv => whnf
    refine ⟨rfl, ?_⟩
    refine Run.nilS ?_
    conv => whnf
    rw [← h4, grp_last n hlt]
    exact FinS.tab rfl (FinS.keepP 2 rfl rfl rfl (.refl _)) fun i => LeOb.refl _

def numU (n : Int) : Int := IntKind.u64.wrap ↑(BitVec.ofInt IntKind.u64.bits (IntKind.u64.wrap (IntKind.u64.wrap n * 2 ^ min (1 : Int).toNat IntKind.u64.bits)) ^^^ BitVec.ofInt IntKind.u64.bits (IntKind.u64.wrap (n.fdiv (2 ^ min (63 : Int).toNat IntKind.i64.bits)))).toNat

theorem pen_num (b : List Int) (bad n : Int) (hb : b.length ≤ 900000) : AC P pen_Pen_Num.id [.ptr 0 0 0 0, .int .i64 n] (penT b bad) (.tuple []) (penT (b ++ grps (numU n)) bad) := by
  refine pen_Pen_Num.intro rfl (Goes.run ?_)
  conv => whnf
  refine ⟨rfl, ?_⟩
  refine Run.doesC rfl rfl (fun _ => Does.shl rfl rfl (by omega)) ?_
  conv => whnf
  refine ⟨rfl, ?_⟩
  refine Run.doesC rfl rfl (fun _ => Does.shr rfl rfl (by omega)) ?_
  conv => whnf
  refine ⟨rfl, ?_⟩
  refine Run.callG [0, 1] (pen_grp b bad (numU n) hb (wrap_u64 _)) rfl rfl rfl ⟨rfl, rfl, trivial⟩ ?_
  conv => whnf
  refine ⟨rfl, ?_⟩
  refine Run.nilS ?_
  conv => whnf
  exact FinS.keepP 2 rfl rfl rfl (.refl _)

def cntB (b : List Int) (n : Int) : List Int := bif decide (n < 0) then b else b ++ grps (IntKind.u64.wrap n)
def cntE (bad n : Int) : Int := bif decide (n < 0) then 2 else bad
theorem pen_count (b : List Int) (bad n : Int) (hb : b.length ≤ 900000) : AC P pen_Pen_Count.id [.ptr 0 0 0 0, .int .i64 n] (penT b bad) (.tuple []) (penT (cntB b n) (cntE bad n)) := by
  refine pen_Pen_Count.intro rfl (Goes.run ?_)
  conv => whnf
  refine ⟨rfl, ?_⟩
  refine Run.condC rfl (fun h => ?_) (fun h => ?_) <;> (conv => whnf) <;> refine ⟨rfl, ?_⟩
  · refine Run.retS ?_
    conv => whnf
    rw [show cntB b n = b by simp only [cntB, h, cond_true], show cntE bad n = 2 by simp only [cntE, h, cond_true]]
    exact FinS.keepP 2 rfl rfl rfl (.refl _)
  · refine Run.callG [0, 1] (pen_grp b bad (IntKind.u64.wrap n) hb (wrap_u64 _)) rfl rfl rfl ⟨rfl, rfl, trivial⟩ ?_
    conv => whnf
    refine ⟨rfl, ?_⟩
    refine Run.nilS ?_
    conv => whnf
    rw [show cntB b n = b ++ grps (IntKind.u64.wrap n) by simp only [cntB, h, cond_false], show cntE bad n = bad by simp only [cntE, h, cond_false]]
    exact FinS.keepP 2 rfl rfl rfl (.refl _)
theorem cntB_len (b : List Int) (n : Int) : (cntB b n).length ≤ b.length + 10 := by
  unfold cntB
  have := grp_len 9 (IntKind.u64.wrap n)
  cases decide (n < 0)
  · simp [grps]; omega
  · simp
theorem numB_len (b : List Int) (n : Int) : (b ++ grps (numU n)).length ≤ b.length + 10 := by
  have := grp_len 9 (numU n)
  simp [grps]; omega
end Go.Proofs.Ytbpcjahjbkiofaa.Sp

set_option linter.unusedVariables false
set_option linter.unusedSimpArgs false
namespace Go.Proofs.Ytbpcjahjbkiofaa.Sp
open Go Go.Proofs.Ytbpcjahjbkiofaa.AV Go.Proofs.Ytbpcjahjbkiofaa.Fn
set_option maxRecDepth 10000

def encBs (b : List Int) : AV := .list 1 b.length (byF b)
theorem isBy (b : List Int) : IsL (fun n : Int => [AV.int .u8 n]) b.length (byF b) b := ⟨rfl, fun i _ => rfl⟩

theorem clone_by (l : List Int) (hb : l.length ≤ 1000000) : AC P slices_Clone_byte_byte.id [encBs l] [] (encBs l) [] := by
  refine slices_Clone_byte_byte.intro rfl (Goes.run ?_)
  conv => whnf
  refine ⟨rfl, ?_⟩
  refine Run.eqNilC rfl rfl fun b hn => ?_
  conv => whnf
  refine ⟨rfl, ?_⟩
  refine Run.condC rfl (fun h => ?_) (fun h => ?_) <;> (conv => whnf) <;> refine ⟨rfl, ?_⟩
  · refine Run.retZ ?_
    conv => whnf
    refine ⟨rfl, ?_⟩
    have : l = [] := by simpa using hn (by simpa [negB] using h)
    subst this
    exact Le.zsl (by omega)
  · refine Run.doesT (id := 0) rfl (Does.appR rfl rfl rfl (by simp only [maxLen, List.length_nil]; omega) (by simp only [List.length_nil]; omega)) ?_
    conv => whnf
    refine ⟨rfl, ?_⟩
    refine Run.retZ ?_
    conv => whnf
    exact ⟨rfl, IsL.le (enc := fun n : Int => [AV.int .u8 n]) (((IsL.nil _).app (isBy l)).from0)⟩

theorem pen_new : AC P pen_New.id [] [] (.ptr 0 0 0 0) (penT [] 0) := by
  refine pen_New.intro rfl (Goes.run ?_)
  conv => whnf
  refine ⟨rfl, ?_⟩
  refine Run.wk_code (Wk.virt (b := 0) (nid := 1) (sz := 1) 0 (byF []) rfl rfl rfl rfl rfl) ?_
  refine Run.retS ?_
  conv => whnf
  exact FinS.keep 2 rfl rfl rfl rfl (.refl _)

def donR (p : List Int × Int) : List Int × Int := bif p.2 != 0 then ([], p.2) else (p.1, 0)
theorem pen_done (p : List Int × Int) (hb : p.1.length ≤ 900000) : AC P pen_Pen_Done.id [.ptr 0 0 0 0] (penT p.1 p.2) (.tuple [encBs (donR p).1, .int .i64 (donR p).2]) [.dead, .dead] := by
  refine pen_Pen_Done.intro rfl (Goes.run ?_)
  conv => whnf
  refine ⟨rfl, ?_⟩
  refine Run.condC rfl (fun h => ?_) (fun h => ?_) <;> (conv => whnf) <;> refine ⟨rfl, ?_⟩
  · refine Run.retS ?_
    conv => whnf
    rw [show donR p = ([], p.2) by simp only [donR, h, cond_true]]
    exact FinS.tab rfl (FinS.keepP 2 rfl rfl rfl (Le.tuple (.cons (Le.zsl (by omega)) (.cons (.refl _) .nil)))) fun i => match i with
      | 0 => trivial
      | 1 => trivial
      | i + 2 => .inl rfl
  · refine Run.frz1 1 18 rfl rfl ?_
    conv => whnf
    refine ⟨rfl, ?_⟩
    refine Run.callC (av := [.list 1 p.1.length fun i => byF p.1 (0 + i)]) rfl rfl rfl (fun _ => (clone_by p.1 (by omega)).le_args (.cons (Le.list rfl fun k hk => leL_eq (by rw [Nat.zero_add])) .nil)) rfl rfl ?_
    conv => whnf
    refine ⟨rfl, ?_⟩
    refine Run.retS ?_
    conv => whnf
    rw [show donR p = (p.1, 0) by simp only [donR, h, cond_false]]
    exact FinS.tab rfl (FinS.keepP 2 rfl rfl rfl (.refl _)) fun i => match i with
      | 0 => trivial
      | 1 => rfl
      | i + 2 => .inl rfl

def cntP (p : List Int × Int) (n : Int) : List Int × Int := (cntB p.1 n, cntE p.2 n)
def numP (p : List Int × Int) (n : Int) : List Int × Int := (p.1 ++ grps (numU n), p.2)
def wrP (p : List Int × Int) (f : Fld) : List Int × Int :=
  bif f.kind == 1 then numP (numP (cntP (cntP p f.id) f.kind) f.lo) f.hi else bif f.kind == 3 then cntP (cntP (cntP p f.id) f.kind) f.most else bif f.kind == 4 then cntP (cntP (cntP p f.id) f.kind) f.most else cntP (cntP p f.id) f.kind
theorem cntP_len (p : List Int × Int) (n : Int) : (cntP p n).1.length ≤ p.1.length + 10 := cntB_len _ _
theorem numP_len (p : List Int × Int) (n : Int) : (numP p n).1.length ≤ p.1.length + 10 := numB_len _ _
theorem wrP_len (p : List Int × Int) (f : Fld) : (wrP p f).1.length ≤ p.1.length + 40 := by
  have h1 := cntP_len p f.id
  have h2 := cntP_len (cntP p f.id) f.kind
  have h3 := numP_len (cntP (cntP p f.id) f.kind) f.lo
  have h4 := numP_len (numP (cntP (cntP p f.id) f.kind) f.lo) f.hi
  have h5 := cntP_len (cntP (cntP p f.id) f.kind) f.most
  unfold wrP
  cases f.kind == 1
  · cases f.kind == 3
    · cases f.kind == 4
      · simp only [cond_false]; omega
      · simp only [cond_false, cond_true]; omega
    · simp only [cond_false, cond_true]; omega
  · simp only [cond_true]; omega

theorem cntP_spec (p : List Int × Int) (n : Int) (hb : p.1.length ≤ 900000) : AC P pen_Pen_Count.id [.ptr 0 0 0 0, .int .i64 n] (penT p.1 p.2) (.tuple []) (penT (cntP p n).1 (cntP p n).2) := pen_count p.1 p.2 n hb
theorem numP_spec (p : List Int × Int) (n : Int) (hb : p.1.length ≤ 900000) : AC P pen_Pen_Num.id [.ptr 0 0 0 0, .int .i64 n] (penT p.1 p.2) (.tuple []) (penT (numP p n).1 (numP p n).2) := pen_num p.1 p.2 n hb

theorem schema_write_p (p : List Int × Int) (f : Fld) (hb : p.1.length ≤ 800000) : AC P schema_write.id [.ptr 0 0 0 0, .agg f.cells] (penT p.1 p.2) (.tuple []) (penT (wrP p f).1 (wrP p f).2) := by
  have h1 := cntP_len p f.id
  have h2 := cntP_len (cntP p f.id) f.kind
  have h3 := numP_len (cntP (cntP p f.id) f.kind) f.lo
  have c1 := cntP_spec p f.id (by omega)
  have c2 := cntP_spec (cntP p f.id) f.kind (by omega)
  have c3 := numP_spec (cntP (cntP p f.id) f.kind) f.lo (by omega)
  have c4 := numP_spec (numP (cntP (cntP p f.id) f.kind) f.lo) f.hi (by omega)
  have c5 := cntP_spec (cntP (cntP p f.id) f.kind) f.most (by omega)
  have hw : wrP p f = bif f.kind == 1 then numP (numP (cntP (cntP p f.id) f.kind) f.lo) f.hi else bif f.kind == 3 then cntP (cntP (cntP p f.id) f.kind) f.most else bif f.kind == 4 then cntP (cntP (cntP p f.id) f.kind) f.most else cntP (cntP p f.id) f.kind := rfl
  generalize numP (numP (cntP (cntP p f.id) f.kind) f.lo) f.hi = p4 at *
  generalize numP (cntP (cntP p f.id) f.kind) f.lo = p3 at *
  generalize cntP (cntP (cntP p f.id) f.kind) f.most = p5 at *
  generalize cntP (cntP p f.id) f.kind = p2 at *
  generalize cntP p f.id = p1 at *
  refine schema_write.intro rfl (Goes.run ?_)
  conv => whnf
  refine ⟨rfl, ?_⟩
  refine Run.callG [0, 1] c1 rfl rfl rfl ⟨rfl, rfl, trivial⟩ ?_
  conv => whnf
  refine ⟨rfl, ?_⟩
  refine Run.callG [0, 1] c2 rfl rfl rfl ⟨rfl, rfl, trivial⟩ ?_
  conv => whnf
  refine ⟨rfl, ?_⟩
  refine Run.condC rfl (fun k1 => ?_) (fun k1 => ?_) <;> (conv => whnf) <;> refine ⟨rfl, ?_⟩
  · refine Run.callG [0, 1] c3 rfl rfl rfl ⟨rfl, rfl, trivial⟩ ?_
    conv => whnf
    refine ⟨rfl, ?_⟩
    refine Run.callG [0, 1] c4 rfl rfl rfl ⟨rfl, rfl, trivial⟩ ?_
    conv => whnf
    refine ⟨rfl, ?_⟩
    refine Run.nilS ?_
    conv => whnf
    rw [hw, show (f.kind == 1) = true from k1, cond_true]
    exact FinS.keepP 2 rfl rfl rfl (.refl _)
  refine Run.condC rfl (fun k3 => ?_) (fun k3 => ?_) <;> (conv => whnf) <;> refine ⟨rfl, ?_⟩
  · refine Run.callG [0, 1] c5 rfl rfl rfl ⟨rfl, rfl, trivial⟩ ?_
    conv => whnf
    refine ⟨rfl, ?_⟩
    refine Run.nilS ?_
    conv => whnf
    rw [hw, show (f.kind == 1) = false from k1, show (f.kind == 3) = true from k3, cond_true, cond_false]
    exact FinS.keepP 2 rfl rfl rfl (.refl _)
  refine Run.condC rfl (fun k4 => ?_) (fun k4 => ?_) <;> (conv => whnf) <;> refine ⟨rfl, ?_⟩
  · refine Run.callG [0, 1] c5 rfl rfl rfl ⟨rfl, rfl, trivial⟩ ?_
    conv => whnf
    refine ⟨rfl, ?_⟩
    refine Run.nilS ?_
    conv => whnf
    rw [hw, show (f.kind == 1) = false from k1, show (f.kind == 3) = false from k3, show (f.kind == 4) = true from k4, cond_true, cond_false]
    exact FinS.keepP 2 rfl rfl rfl (.refl _)
  · refine Run.nilS ?_
    conv => whnf
    rw [hw, show (f.kind == 1) = false from k1, show (f.kind == 3) = false from k3, show (f.kind == 4) = false from k4, cond_false]
    exact FinS.keepP 2 rfl rfl rfl (.refl _)
end Go.Proofs.Ytbpcjahjbkiofaa.Sp

set_option linter.unusedVariables false
set_option linter.unusedSimpArgs false
namespace Go.Proofs.Ytbpcjahjbkiofaa.Sp
open Go Go.Proofs.Ytbpcjahjbkiofaa.AV Go.Proofs.Ytbpcjahjbkiofaa.Fn
set_option maxRecDepth 10000

def fldI (p : List Int × Int) (l : List Fld) (j : Nat) : List Int × Int := (l.take j).foldl wrP p
def frmP (p : List Int × Int) (f : Frm) : List Int × Int := fldI (cntP (cntP p f.id) (f.fields.length : Int)) f.fields f.fields.length
def iniP (s : Sch) : List Int × Int := cntP (cntP ([], 0) s.version) (s.forms.length : Int)
def frmI (s : Sch) (i : Nat) : List Int × Int := (s.forms.take i).foldl frmP (iniP s)
def prS (s : Sch) : List Int × Int := bif !sRight s then ([], 2) else donR (frmI s s.forms.length)

theorem fldI_succ {p : List Int × Int} {l : List Fld} {j : Nat} (hj : j < l.length) : fldI p l (j + 1) = wrP (fldI p l j) (l.getD j default) := by
  unfold fldI
  rw [List.take_add_one, List.foldl_append]
  simp [hj, List.getD_eq_getElem?_getD]
theorem fldI_len {p : List Int × Int} {l : List Fld} : ∀ j, j ≤ l.length → (fldI p l j).1.length ≤ p.1.length + 40 * j
  | 0, _ => by simp [fldI]
  | j + 1, h => by
    rw [fldI_succ (by omega)]
    have := fldI_len (p := p) (l := l) j (by omega)
    have h2 := wrP_len (fldI p l j) (l.getD j default)
    omega
theorem frmI_succ {s : Sch} {i : Nat} (hi : i < s.forms.length) : frmI s (i + 1) = frmP (frmI s i) (s.forms.getD i default) := by
  unfold frmI
  rw [List.take_add_one, List.foldl_append]
  simp [hi, List.getD_eq_getElem?_getD]
theorem frmI_len {s : Sch} (hf : ∀ i, (s.forms.getD i default).fields.length ≤ 8) : ∀ i, i ≤ s.forms.length → (frmI s i).1.length ≤ 20 + 340 * i
  | 0, _ => by
    have h1 := cntP_len ([], 0) s.version
    have h2 := cntP_len (cntP ([], 0) s.version) (s.forms.length : Int)
    show (iniP s).1.length ≤ _
    unfold iniP
    simp at h1
    omega
  | i + 1, h => by
    rw [frmI_succ (by omega)]
    have := frmI_len hf i (by omega)
    generalize frmI s i = p at *
    have h1 := cntP_len p (s.forms.getD i default).id
    have h2 := cntP_len (cntP p (s.forms.getD i default).id) ((s.forms.getD i default).fields.length : Int)
    have h3 := fldI_len (p := cntP (cntP p (s.forms.getD i default).id) ((s.forms.getD i default).fields.length : Int)) (l := (s.forms.getD i default).fields) _ (Nat.le_refl _)
    have h4 := hf i
    show (fldI _ _ _).1.length ≤ _
    omega

theorem schema_print (s : Sch) (hs : Small s) : AC P schema_Print.id [.agg s.cells] [] (.tuple [encBs (prS s).1, .int .i64 (prS s).2]) [] := by
  refine schema_Print.intro rfl (Goes.run ?_)
  conv => whnf
  refine ⟨rfl, ?_⟩
  refine Run.callC (av := [.agg s.cells]) rfl rfl rfl (fun _ => schema_right s hs) rfl rfl ?_
  conv => whnf
  refine ⟨rfl, ?_⟩
  refine Run.condC rfl (fun h => ?_) (fun h => ?_) <;> (conv => whnf) <;> refine ⟨rfl, ?_⟩
  · refine Run.retZ ?_
    conv => whnf
    rw [show prS s = ([], 2) by simp only [prS, show (!sRight s) = true from h, cond_true]]
    exact ⟨rfl, Le.tuple (.cons (Le.zsl (by omega)) (.cons (.refl _) .nil))⟩
  have hr : (!sRight s) = false := h
  obtain ⟨hn8, hf8⟩ := sRight_len (s := s) (by simpa using hr)
  have l1 := cntP_len ([], 0) s.version
  have l2 := cntP_len (cntP ([], 0) s.version) (s.forms.length : Int)
  simp only [List.length_nil] at l1
  have c1 := cntP_spec ([], 0) s.version (by simp)
  have c2 := cntP_spec (cntP ([], 0) s.version) (s.forms.length : Int) (by omega)
  have hfr := frmI_len hf8
  have hini : frmI s 0 = cntP (cntP ([], 0) s.version) (s.forms.length : Int) := rfl
  rw [← hini] at c2
  generalize cntP ([], 0) s.version = p1 at c1 c2
  refine Run.callG [1, 2] pen_new rfl rfl rfl ⟨rfl, rfl, trivial⟩ ?_
  conv => whnf
  refine ⟨rfl, ?_⟩
  refine Run.callG [1, 2] c1 rfl rfl rfl ⟨rfl, rfl, trivial⟩ ?_
  conv => whnf
  refine ⟨rfl, ?_⟩
  refine Run.callG [1, 2] c2 rfl rfl rfl ⟨rfl, rfl, trivial⟩ ?_
  conv => whnf
  refine ⟨rfl, ?_⟩
  refine Run.loopN (ι := Nat) (fun i => i ≤ s.forms.length) (fun i => [(1, .ptr 0 0 0 0), (4, .ptr 1 0 0 0), (23, encFms s.forms), (24, .int .i64 (s.forms.length : Int)), (25, .int .i64 (i : Int))])
    (fun i => [.box s.cells, .box [.row 1 2 (frmI s i).1.length 0 (frmI s i).1.length, .int .i64 (frmI s i).2], .row 1 (frmI s i).1.length (frmI s i).1.length (byF (frmI s i).1), .dead])
    (fun i => s.forms.length - i) 0 (Nat.zero_le _) (Wk.trans (Wk.pad 4) (Wk.ofEnv (Wk.cons (.refl _) (Wk.cons (.refl _) (Wk.cons (.refl _) (Wk.cons (.refl _) (Wk.cons (.refl _) Wk.done))))))) fun i hi => ?_
  have hlen := hfr i hi
  have hsucc := fun h => frmI_succ (s := s) (i := i) h
  have hpr : i = s.forms.length → prS s = donR (frmI s i) := fun e => by subst e; simp only [prS, hr, cond_false]
  generalize frmI s i = p at *
  conv => whnf
  refine ⟨rfl, ?_⟩
  refine Run.condC rfl (fun h => ?_) (fun h => ?_) <;> (conv => whnf) <;> refine ⟨rfl, ?_⟩
  · have hlt : i < s.forms.length := by simpa using h
    have hs1 := hsucc hlt
    have hx : s.forms.getD (Int.toNat (i : Int)) default = s.forms.getD i default := rfl
    have hf := hf8 i
    generalize s.forms.getD i default = f at *
    have m1 := cntP_len p f.id
    have m2 := cntP_len (cntP p f.id) (f.fields.length : Int)
    have d1 := cntP_spec p f.id (by omega)
    have d2 := cntP_spec (cntP p f.id) (f.fields.length : Int) (by omega)
    have hfl := fldI_len (p := cntP (cntP p f.id) (f.fields.length : Int)) (l := f.fields)
    have hfs := fun j (h : j < f.fields.length) => fldI_succ (p := cntP (cntP p f.id) (f.fields.length : Int)) h
    have hend : frmI s (i + 1) = fldI (cntP (cntP p f.id) (f.fields.length : Int)) f.fields f.fields.length := hs1
    have hq0 : fldI (cntP (cntP p f.id) (f.fields.length : Int)) f.fields 0 = cntP (cntP p f.id) (f.fields.length : Int) := rfl
    rw [← hq0] at d2
    generalize hqq : fldI (cntP (cntP p f.id) (f.fields.length : Int)) f.fields = q at *
    generalize cntP p f.id = p2 at *
    refine Run.iaC rfl rfl rfl rfl rfl (fun _ => ⟨by omega, by omega⟩) ?_
    conv => whnf
    rw [hx]
    refine ⟨rfl, ?_⟩
    refine Run.callG [1, 2] d1 rfl rfl rfl ⟨rfl, rfl, trivial⟩ ?_
    conv => whnf
    refine ⟨rfl, ?_⟩
    refine Run.callG [1, 2] d2 rfl rfl rfl ⟨rfl, rfl, trivial⟩ ?_
    conv => whnf
    refine ⟨rfl, ?_⟩
    refine Run.loopN (ι := Nat) (fun j => j ≤ f.fields.length) (fun j => [(1, .ptr 0 0 0 0), (4, .ptr 1 0 0 0), (23, encFms s.forms), (24, .int .i64 (s.forms.length : Int)), (25, .int .i64 (i : Int)), (39, encFs f.fields), (40, .int .i64 (f.fields.length : Int)), (41, .int .i64 (j : Int))])
      (fun j => [.box s.cells, .box [.row 1 2 (q j).1.length 0 (q j).1.length, .int .i64 (q j).2], .row 1 (q j).1.length (q j).1.length (byF (q j).1), .dead])
      (fun j => f.fields.length - j) 0 (Nat.zero_le _) (Wk.cut 4 rfl rfl rfl rfl (Wk.cons (.refl _) (Wk.cons (.refl _) (Wk.cons (.refl _) (Wk.cons (.refl _) (Wk.cons (.refl _) (Wk.cons (.refl _) (Wk.cons (.refl _) (Wk.cons (.refl _) Wk.done))))))))) fun j hj => ?_
    have hjl := hfl j hj
    have hjs := hfs j
    conv => whnf
    refine ⟨rfl, ?_⟩
    refine Run.condC rfl (fun h => ?_) (fun h => ?_) <;> (conv => whnf) <;> refine ⟨rfl, ?_⟩
    · have hjt : j < f.fields.length := by simpa using h
      have hjs := hjs hjt
      have dw := schema_write_p (q j) (f.fields.getD j default) (by omega)
      rw [← hjs] at dw
      generalize q j = qj at *
      refine Run.iaC rfl rfl rfl rfl rfl (fun _ => ⟨by omega, by omega⟩) ?_
      conv => whnf
      refine ⟨rfl, ?_⟩
      refine Run.callG [1, 2] dw rfl rfl rfl ⟨rfl, rfl, trivial⟩ ?_
      conv => whnf
      refine ⟨rfl, ?_⟩
      refine Run.endR ⟨j + 1, by omega, by omega, Wk.cut 4 rfl rfl rfl rfl (Wk.cons (.refl _) (Wk.cons (.refl _) (Wk.cons (.refl _) (Wk.cons (.refl _) (Wk.cons (.refl _) (Wk.cons (.refl _) (Wk.cons (.refl _) (Wk.cons (.int ?_) Wk.done))))))))⟩
      rw [wrap_of (by omega) (by omega)]
      simp
    · have hje : j = f.fields.length := by simp at h; omega
      subst hje
      refine Run.exitR rfl rfl ?_
      conv => whnf
      refine ⟨rfl, ?_⟩
      rw [← hend]
      refine Run.endR ⟨i + 1, by omega, by omega, Wk.cut 4 rfl rfl rfl rfl (Wk.cons (.refl _) (Wk.cons (.refl _) (Wk.cons (.refl _) (Wk.cons (.refl _) (Wk.cons (.int ?_) Wk.done)))))⟩
      rw [wrap_of (by omega) (by omega)]
      simp
  · have hge : i = s.forms.length := by simp at h; omega
    subst hge
    refine Run.exitR rfl rfl ?_
    conv => whnf
    refine ⟨rfl, ?_⟩
    refine Run.callG [1, 2] (pen_done p (by omega)) rfl rfl rfl ⟨rfl, rfl, trivial⟩ ?_
    conv => whnf
    refine ⟨rfl, ?_⟩
    refine Run.retZ ?_
    conv => whnf
    rw [hpr rfl]
    exact ⟨rfl, .refl _⟩
end Go.Proofs.Ytbpcjahjbkiofaa.Sp

set_option linter.unusedVariables false
set_option linter.unusedSimpArgs false
namespace Go.Proofs.Ytbpcjahjbkiofaa.Sp
open Go Go.Proofs.Ytbpcjahjbkiofaa.AV Go.Proofs.Ytbpcjahjbkiofaa.Fn
set_option maxRecDepth 10000

theorem tOn_bad {s : Sch} {t : Stp} (h : (tOn s t).2 ≠ 0) : (tOn s t).1 = ⟨0, []⟩ := by
  revert h
  unfold tOn
  cases badOn s t with
  | true => exact fun _ => rfl
  | false =>
    simp only [cond_false]
    cases (thErr s.forms t != 0) with
    | true => exact fun _ => rfl
    | false =>
      simp only [cond_false]
      cases (t.op != 9 && (t.op != 10 && !chO (thFs s.forms t) t (thAt s.forms t 0).toNat)) with
      | true => exact fun _ => rfl
      | false =>
        simp only [cond_false]
        cases (!sRight ⟨s.version, tForms s.forms t⟩) with
        | true => exact fun _ => rfl
        | false => exact fun h => absurd rfl h
structure TOk (s : Sch) (t : Stp) : Prop where
  e : (tOn s t).1 = ⟨s.version, tForms s.forms t⟩
  r : sRight ⟨s.version, tForms s.forms t⟩ = true
  b : badOn s t = false
  th : thErr s.forms t = 0
theorem tOn_good {s : Sch} {t : Stp} (h : (tOn s t).2 = 0) : TOk s t := by
  have h' := h
  unfold tOn at h'
  cases hb : badOn s t with
  | true => rw [hb] at h'; simp at h'
  | false =>
    rw [hb] at h'
    simp only [cond_false] at h'
    cases he : (thErr s.forms t != 0) with
    | true => rw [he] at h'; simp only [cond_true] at h'; rw [h'] at he; simp at he
    | false =>
      rw [he] at h'
      simp only [cond_false] at h'
      cases ho : (t.op != 9 && (t.op != 10 && !chO (thFs s.forms t) t (thAt s.forms t 0).toNat)) with
      | true => rw [ho] at h'; simp at h'
      | false =>
        rw [ho] at h'
        simp only [cond_false] at h'
        cases hr : (!sRight ⟨s.version, tForms s.forms t⟩) with
        | true => rw [hr] at h'; simp at h'
        | false =>
          exact ⟨by unfold tOn; simp only [hb, he, ho, hr, cond_false], by simpa using hr, hb, by simpa using he⟩

theorem tForms_keeps {s : Sch} {t : Stp} (h : TOk s t) {x : Frm} (hx : x ∈ s.forms) (hne : x.id ≠ t.form) : x ∈ tForms s.forms t := by
  have hb2 := h.b
  simp only [badOn, Bool.or_eq_false_iff, Bool.not_eq_false', decide_eq_false_iff_not] at hb2
  obtain ⟨⟨⟨hsr, hst⟩, b1⟩, b2⟩ := hb2
  unfold tForms
  cases h9 : t.op == 9 with
  | true =>
    simp only [cond_true, List.mem_append]
    have : x ∈ s.forms.take (fPos s.forms t.form) ++ s.forms.drop (fPos s.forms t.form) := by rw [List.take_append_drop]; exact hx
    rw [List.mem_append] at this
    rcases this with h | h
    · exact .inl (.inl h)
    · exact .inr h
  | false =>
    have hh := th_has h.th h9
    have hlt := hasPos_lt hh
    have hid : (s.forms.getD (fPos s.forms t.form) default).id = t.form := by simp only [hasPos, Bool.and_eq_true, beq_iff_eq] at hh; exact hh.2
    have hsp : x ∈ s.forms.take (fPos s.forms t.form) ∨ x ∈ s.forms.drop (fPos s.forms t.form + 1) := by
      have : x ∈ s.forms.take (fPos s.forms t.form) ++ s.forms.drop (fPos s.forms t.form) := by rw [List.take_append_drop]; exact hx
      rw [List.mem_append] at this
      rcases this with h | h
      · exact .inl h
      · rw [List.drop_eq_getElem_cons hlt, List.mem_cons] at h
        rcases h with h | h
        · exfalso
          rw [getD_at hlt, ← h] at hid
          exact hne hid
        · exact .inr h
    cases h10 : t.op == 10 with
    | true =>
      simp only [cond_true, cond_false, List.mem_append]
      exact hsp
    | false =>
      simp only [cond_false]
      unfold chForms
      cases chO (s.forms.getD (fPos s.forms t.form) default).fields t (thAt s.forms t 0).toNat with
      | true =>
        rw [cond_true, set_split hlt, List.mem_append, List.mem_append]
        rcases hsp with h | h
        · exact .inl (.inl h)
        · exact .inr h
      | false => exact hx
theorem find_mem {l : List Frm} (hs : Srt l) {x : Frm} (hx : x ∈ l) : ∃ k, sFind l x.id = some k ∧ k < l.length ∧ l.getD k default = x := by
  cases hk : sFind l x.id with
  | none =>
    unfold sFind at hk
    rw [List.findIdx?_eq_none_iff] at hk
    have := hk x hx
    simp at this
  | some k =>
    obtain ⟨_, _, hlt, hid⟩ := pos_of_find hs hk
    refine ⟨k, rfl, hlt, ?_⟩
    obtain ⟨j, hj, rfl⟩ := List.mem_iff_getElem.1 hx
    have e : (l.getD k default).id = (l.getD j default).id := by rw [hid, getD_at hj]
    rcases Nat.lt_trichotomy j k with h | h | h
    · have := hs j k h hlt; omega
    · subst h; exact getD_at hlt
    · have := hs k j h hj; omega

theorem l16_TypingRight (s : Sch) (t : Stp) (hw : WfS t) : AC P L16_TypingRight.id [.agg s.cells, .agg t.cells] [] (.bool true) [] := by
  refine L16_TypingRight.intro rfl (Goes.run ?_)
  conv => whnf
  refine ⟨rfl, ?_⟩
  refine Run.callC (av := [.agg s.cells, .list 16 1 (nthL [t.cells])]) rfl rfl rfl (fun _ => (l16_great s [t]).le_args (.cons (.refl _) (.cons (one_le t) .nil))) rfl rfl ?_
  conv => whnf
  refine ⟨rfl, ?_⟩
  refine Run.condC rfl (fun hg => ?_) (fun hg => ?_) <;> (conv => whnf) <;> refine ⟨rfl, ?_⟩
  · refine Run.callC (av := []) rfl rfl rfl (fun _ => l16_awake) rfl rfl ?_
    conv => whnf
    refine ⟨rfl, ?_⟩
    refine Run.retP ?_
    conv => whnf
    exact ⟨rfl, .bool rfl⟩
  obtain ⟨⟨q1, q2⟩, q3, q4⟩ := great_small (show sGreat s [t] = false from hg)
  have q5 := q4 0 (by simp)
  have hsm : Small s := ⟨by omega, fun i => by have := q2 i; omega⟩
  have hl : t.t.length ≤ 1000000 := by have := q5.1; simp at this; omega
  have hfl : t.fields.length ≤ 100 := by have := q5.2; simp at this; omega
  have hon := typing_on s t hsm hw hl hfl
  have hsm2 := tOn_small (s := s) (t := t) hfl
  have hbad := tOn_bad (s := s) (t := t)
  have hgood := tOn_good (s := s) (t := t)
  have hpr := schema_print s hsm
  generalize (tOn s t).2 = er at hon hbad hgood
  generalize prS s = pr at hpr
  refine Run.callC (av := [.agg s.cells]) rfl rfl rfl (fun _ => hpr) rfl rfl ?_
  conv => whnf
  refine ⟨rfl, ?_⟩
  have hrt := r13_right (tOn s t).1 hsm2
  have hkeep : er = 0 → (tOn s t).1.version = s.version ∧ sRight (tOn s t).1 = true ∧ ∀ i, i < s.forms.length → (s.forms.getD i default).id ≠ t.form → ∃ k, sFind (tOn s t).1.forms (s.forms.getD i default).id = some k ∧ k < (tOn s t).1.forms.length ∧ (tOn s t).1.forms.getD k default = s.forms.getD i default := fun e => by
    have G := hgood e
    rw [G.e]
    refine ⟨rfl, G.r, fun i hi hne => find_mem (sRight_srt G.r) (tForms_keeps G (by rw [getD_at hi]; exact List.getElem_mem hi) hne)⟩
  have hfd := fun id => r13_find (tOn s t).1 id hsm2.1
  generalize (tOn s t).1 = y at *
  refine Run.callC (av := [.agg s.cells, .agg t.cells]) rfl rfl rfl (fun _ => hon) rfl rfl ?_
  conv => whnf
  refine ⟨rfl, ?_⟩
  refine Run.callC (av := [.agg s.cells]) rfl rfl rfl (fun _ => hpr) rfl rfl ?_
  conv => whnf
  refine ⟨rfl, ?_⟩
  refine Run.doesC rfl rfl (fun _ => Does.cvBS pr.1 rfl) ?_
  conv => whnf
  refine ⟨rfl, ?_⟩
  refine Run.doesC rfl rfl (fun _ => Does.cvBS pr.1 rfl) ?_
  conv => whnf
  refine ⟨rfl, ?_⟩
  refine Run.condC rfl (fun hne => ?_) (fun hne => ?_) <;> (conv => whnf) <;> refine ⟨rfl, ?_⟩
  · exfalso
    simp [negB] at hne
  refine Run.condC rfl (fun he => ?_) (fun he => ?_) <;> (conv => whnf) <;> refine ⟨rfl, ?_⟩
  · have hy := hbad (by simpa using he)
    subst hy
    refine Run.callC (av := []) rfl rfl rfl (fun _ => l16_awake) rfl rfl ?_
    conv => whnf
    refine ⟨rfl, ?_⟩
    refine Run.retP ?_
    conv => whnf
    exact ⟨rfl, .bool rfl⟩
  have he0 : er = 0 := by simpa using he
  obtain ⟨k1, k2, k3⟩ := hkeep he0
  refine Run.callC (av := [.agg y.cells]) rfl rfl rfl (fun _ => hrt) rfl rfl ?_
  conv => whnf
  refine ⟨rfl, ?_⟩
  refine Run.condC rfl (fun h => ?_) (fun h => ?_) <;> (conv => whnf) <;> refine ⟨rfl, ?_⟩
  · exfalso
    simp [k1, k2] at h
  refine Run.loopN (ι := Nat) (fun i => i ≤ s.forms.length) (fun i => [(2, .ptr 0 0 0 0), (3, .ptr 1 0 0 0), (7, .ptr 2 0 0 0), (11, .int .i64 (i : Int))])
    (fun i => [.box s.cells, .box t.cells, .box y.cells, .dead]) (fun i => s.forms.length - i) 0 (Nat.zero_le _) (Wk.trans (Wk.pad 4) (Wk.ofEnv (Wk.cons (.refl _) (Wk.cons (.refl _) (Wk.cons (.refl _) (Wk.cons (.refl _) Wk.done)))))) fun i hi => ?_
  conv => whnf
  refine ⟨rfl, ?_⟩
  refine Run.condC rfl (fun h => ?_) (fun h => ?_) <;> (conv => whnf) <;> refine ⟨rfl, ?_⟩
  · have hlt : i < s.forms.length := by simpa using h
    have hx : s.forms.getD (Int.toNat (i : Int)) default = s.forms.getD i default := rfl
    have k4 := k3 i hlt
    have hxf := hsm.2 i
    generalize s.forms.getD i default = x at *
    have hfx := hfd x.id
    have hz : (x.id != t.form) = true → ∃ k : Nat, placeI (sFind y.forms x.id) = (k : Int) ∧ k < y.forms.length ∧ y.forms.getD k default = x := fun h => by
      obtain ⟨k, e1, e2, e3⟩ := k4 (by simpa using h)
      exact ⟨k, by rw [e1]; rfl, e2, e3⟩
    generalize placeI (sFind y.forms x.id) = z at *
    refine Run.iaC rfl rfl rfl rfl rfl (fun _ => ⟨by omega, by omega⟩) ?_
    conv => whnf
    rw [hx]
    refine ⟨rfl, ?_⟩
    refine Run.callC (av := [.agg y.cells, .int .i64 x.id]) rfl rfl rfl (fun _ => hfx) rfl rfl ?_
    conv => whnf
    refine ⟨rfl, ?_⟩
    have hb : ∀ b : Bool, AllT [pol false b, pol true (x.id != t.form)] → (x.id != t.form) = true := fun b hg => hg.2.1
    refine Run.iaD rfl rfl rfl rfl rfl (fun hg => by obtain ⟨k, e1, e2, e3⟩ := hz (hb _ hg); rw [e1]; exact ⟨by omega, by omega⟩) rfl ?_
    conv => whnf
    refine ⟨rfl, ?_⟩
    refine Run.callD (rv := .bool true) (av := [.agg x.cells, .agg (y.forms.getD z.toNat default).cells]) rfl rfl rfl (fun hg => by
      obtain ⟨k, e1, e2, e3⟩ := hz (hb _ hg)
      rw [e1, show y.forms.getD (Int.toNat (k : Int)) default = x from e3]
      exact sameForm_self x hxf) rfl rfl rfl ?_
    conv => whnf
    refine ⟨rfl, ?_⟩
    refine Run.condC rfl (fun h => ?_) (fun h => ?_) <;> (conv => whnf) <;> refine ⟨rfl, ?_⟩
    · exfalso
      simp only [Bool.and_eq_true] at h
      obtain ⟨k, e1, e2, e3⟩ := hz (by simpa using h.1)
      rw [e1] at h
      simp at h
      omega
    · refine Run.endR ⟨i + 1, by omega, by omega, Wk.cut 4 rfl rfl rfl rfl (Wk.cons (.refl _) (Wk.cons (.refl _) (Wk.cons (.refl _) (Wk.cons (.int ?_) Wk.done))))⟩
      rw [wrap_of (by omega) (by omega)]
      simp
  · have hge : i = s.forms.length := by simp at h; omega
    subst hge
    refine Run.exitR rfl rfl ?_
    conv => whnf
    refine ⟨rfl, ?_⟩
    refine Run.callC (av := []) rfl rfl rfl (fun _ => l16_awake) rfl rfl ?_
    conv => whnf
    refine ⟨rfl, ?_⟩
    refine Run.retP ?_
    conv => whnf
    exact ⟨rfl, .bool rfl⟩
end Go.Proofs.Ytbpcjahjbkiofaa.Sp

set_option linter.unusedVariables false
set_option linter.unusedSimpArgs false
namespace Go.Proofs.Ytbpcjahjbkiofaa.Sp
open Go Go.Proofs.Ytbpcjahjbkiofaa.AV Go.Proofs.Ytbpcjahjbkiofaa.Fn
set_option maxRecDepth 10000

theorem st_f0 {t : Stp} (h : stRight t = true) (ho : t.op = 9 ∨ t.op = 10) : t.field = 0 := by
  simp only [stRight, Bool.and_eq_true, Bool.not_eq_true'] at h
  have h1 := h.1
  simp only [bad1, Bool.or_eq_false_iff, Bool.not_eq_false'] at h1
  obtain ⟨⟨⟨⟨⟨⟨u1, u2⟩, u3⟩, u4⟩, u5⟩, u6⟩, u7⟩ := h1
  simp only [zeroB, Bool.and_eq_true] at u2
  have h2 := u2.1.1.1.1.1.1.1.1
  have h3 : hasB t.op 100 = false := by rcases ho with e | e <;> rw [e] <;> decide
  rw [h3, Bool.false_or] at h2
  simpa using h2

/-- The document's step back, by its number. -/
def invR (s : Sch) (t : Stp) : Stp :=
  let F := ownF (fmG s.forms t.form).fields t.field
  let A := ownA (fmG s.forms t.form).fields t.field
  bif t.op == 9 then { zStp with op := 29, form := t.form } else
  bif t.op == 10 then { zStp with op := 30, form := t.form, fields := (fmG s.forms t.form).fields } else
  bif t.op == 1 then { zStp with op := 21, form := t.form, field := t.f.id } else
  bif t.op == 2 then { zStp with op := 22, form := t.form, place := A, f := F, vn := t.vn, vs := t.vs } else
  bif t.op == 3 then { zStp with op := 23, form := t.form, field := t.field, f := F } else
  bif t.op == 4 then { zStp with op := 24, form := t.form, field := t.field, a := t.a, b := t.b, f := F } else
  bif t.op == 5 then { zStp with op := 25, form := t.form, field := t.field, t := t.t } else
  bif t.op == 6 then { zStp with op := 26, form := t.form, field := t.field, a := t.a, to := t.to, f := F } else
  bif t.op == 7 then { zStp with op := 27, form := t.form, field := t.field, place := A } else
  { zStp with op := 28, form := t.form, field := t.to, to := t.field }
theorem invR_eq {s : Sch} {t : Stp} (h : TOk s t) : invR s t = invP s t := by
  have hb2 := h.b
  simp only [badOn, Bool.or_eq_false_iff, Bool.not_eq_false', decide_eq_false_iff_not] at hb2
  obtain ⟨⟨⟨hsr, hst⟩, b1⟩, b2⟩ := hb2
  have hf0 := st_f0 hst
  have hcase : t.op = 1 ∨ t.op = 2 ∨ t.op = 3 ∨ t.op = 4 ∨ t.op = 5 ∨ t.op = 6 ∨ t.op = 7 ∨ t.op = 8 ∨ t.op = 9 ∨ t.op = 10 := by omega
  have w : ∀ n : Int, 0 ≤ n → n ≤ 100 → IntKind.i64.wrap (n + 20) = n + 20 := fun n _ _ => wrap_of (by omega) (by omega)
  unfold invR invP
  rcases hcase with e | e | e | e | e | e | e | e | e | e
  all_goals (simp only [inv0, zStp]; rw [e, w _ (by omega) (by omega)])
  all_goals first | rfl | (rw [hf0 (by omega)]; rfl)

structure NmOk (s : Sch) (t : Stp) : Prop where
  f : (t.op == 9) = false → ∃ k, sFind s.forms t.form = some k ∧ k < s.forms.length ∧ fmG s.forms t.form = s.forms.getD k default
  a : (t.op == 9) = false → (t.op == 10) = false → (t.op == 1) = false → ∃ a, fAt (fmG s.forms t.form).fields t.field = some a ∧ a < (fmG s.forms t.form).fields.length
theorem nm_ok {s : Sch} {t : Stp} (h : TOk s t) : NmOk s t := by
  have hb2 := h.b
  simp only [badOn, Bool.or_eq_false_iff, Bool.not_eq_false', decide_eq_false_iff_not] at hb2
  obtain ⟨⟨⟨hsr, hst⟩, b1⟩, b2⟩ := hb2
  have hnm : nmErr s.forms t = 0 := by rw [err_eq (sRight_srt hsr) (st_r hst)]; exact h.th
  refine ⟨fun h9 => ?_, fun h9 h10 h1 => ?_⟩
  · obtain ⟨k, hk, hrk, hklt, _⟩ := nm_facts hnm h9
    exact ⟨k, hk, hklt, by simp only [fmG, hk]⟩
  · obtain ⟨k, hk, hrk, hklt, n1, _⟩ := nm_facts hnm h9
    obtain ⟨g1, g2⟩ := nm_at n1 (by simp only [is3, h9, h10, h1, Bool.or_self])
    have e : (fmG s.forms t.form).fields = rFs s.forms t := by simp only [fmG, hk, rFs, hrk]
    rw [e]
    exact ⟨_, g1, g2⟩

set_option maxHeartbeats 4000000 in
theorem r17_invert (s : Sch) (t : Stp) (hs : Small s) (hl : t.t.length ≤ 1000000) (hfl : t.fields.length ≤ 100) :
    AC P R17_Invert.id [.agg s.cells, .agg t.cells] [] (.tuple [.agg (invS s t).1.cells, .int .i64 (invS s t).2]) [] := by
  have hon := r16_on s t hs hl hfl
  rw [on_eq] at hon
  have hS : invS s t = bif (tOn s t).2 != 0 then (zStp, (tOn s t).2) else (invP s t, 0) := rfl
  have hgood := tOn_good (s := s) (t := t)
  have hR : (tOn s t).2 = 0 → invP s t = invR s t ∧ NmOk s t := fun e => ⟨(invR_eq (hgood e)).symm, nm_ok (hgood e)⟩
  clear hgood
  have hfind := r13_find s t.form hs.1
  have hat := r13_at (fmG s.forms t.form) t.field (fmG_small hs _)
  have hsm := fmG_small hs t.form
  generalize (tOn s t).1 = y at hon
  generalize (tOn s t).2 = e at hon hS hR
  refine R17_Invert.intro rfl (Goes.run ?_)
  conv => whnf
  refine ⟨rfl, ?_⟩
  refine Run.callC (av := [.agg s.cells, .agg t.cells]) rfl rfl rfl (fun _ => hon) rfl rfl ?_
  conv => whnf
  refine ⟨rfl, ?_⟩
  refine Run.condC rfl (fun he => ?_) (fun he => ?_) <;> (conv => whnf) <;> refine ⟨rfl, ?_⟩
  · refine Run.retZ ?_
    conv => whnf
    rw [hS, show (e != 0) = true from he, cond_true]
    exact ⟨rfl, Le.tuple (.cons (stp_le zStp zi zf) (.cons (.refl _) .nil))⟩
  obtain ⟨hP, hN⟩ := hR (by simpa using he)
  rw [show (e != 0) = false from he, cond_false, hP] at hS
  rw [hS]
  clear hS hP
  obtain ⟨hNf, hNa⟩ := hN
  refine Run.condC rfl (fun h9 => ?_) (fun h9 => ?_) <;> (conv => whnf) <;> refine ⟨rfl, ?_⟩
  · refine Run.retZ ?_
    conv => whnf
    simp only [invR, h9, cond_true]
    exact ⟨rfl, Le.tuple (.cons (stp_le { zStp with op := 29, form := t.form } zi zf) (.cons (.refl _) .nil))⟩
  obtain ⟨k, hk, hklt, hkx⟩ := hNf h9
  rw [hk] at hfind
  have hfind : AC P R13_Find.id [.agg s.cells, .int .i64 t.form] [] (.int .i64 (k : Int)) [] := hfind
  have hI : invR s t = invR s t := rfl
  conv at hI => rhs; unfold invR
  generalize invR s t = z at hI ⊢
  generalize fmG s.forms t.form = x at *
  refine Run.callD (av := [.agg s.cells, .int .i64 t.form]) rfl rfl rfl (fun _ => hfind) rfl rfl rfl ?_
  conv => whnf
  refine ⟨rfl, ?_⟩
  refine Run.iaD rfl rfl rfl rfl rfl (fun _ => ⟨by omega, by omega⟩) rfl ?_
  conv => whnf
  rw [show s.forms.getD (Int.toNat (k : Int)) default = x from hkx.symm]
  refine ⟨rfl, ?_⟩
  refine Run.condC rfl (fun h10 => ?_) (fun h10 => ?_) <;> (conv => whnf) <;> refine ⟨rfl, ?_⟩
  · refine Run.appZD (nid := 5) rfl rfl rfl rfl (by unfold maxLen; omega) (by omega) rfl ?_
    conv => whnf
    refine ⟨rfl, ?_⟩
    refine Run.retZ ?_
    conv => whnf
    simp only [hI, h9, h10, cond_true, cond_false]
    exact ⟨rfl, Le.tuple (.cons (stp_le { zStp with op := 30, form := t.form, fields := x.fields } zi (IsL.le (enc := Fld.cells) ((IsL.all Fld.cells x.fields).from0))) (.cons (.refl _) .nil))⟩
  refine Run.condC rfl (fun h1 => ?_) (fun h1 => ?_) <;> (conv => whnf) <;> refine ⟨rfl, ?_⟩
  · refine Run.retZ ?_
    conv => whnf
    simp only [hI, h9, h10, h1, cond_true, cond_false]
    exact ⟨rfl, Le.tuple (.cons (stp_le { zStp with op := 21, form := t.form, field := t.f.id } zi zf) (.cons (.refl _) .nil))⟩
  obtain ⟨a, ha, halt⟩ := hNa h9 h10 h1
  rw [ha] at hat
  have hat : AC P R13_At.id [.agg x.cells, .int .i64 t.field] [] (.int .i64 (a : Int)) [] := hat
  rw [show ownF x.fields t.field = x.fields.getD a default by simp only [ownF, ha], show ownA x.fields t.field = (a : Int) by simp only [ownA, ha]] at hI
  generalize hf : x.fields.getD a default = f at *
  refine Run.callC (av := [.agg x.cells, .int .i64 t.field]) rfl rfl rfl (fun _ => hat) rfl rfl ?_
  conv => whnf
  refine ⟨rfl, ?_⟩
  refine Run.iaC rfl rfl rfl rfl rfl (fun _ => ⟨by omega, by omega⟩) ?_
  conv => whnf
  rw [show x.fields.getD (Int.toNat (a : Int)) default = f from hf]
  refine ⟨rfl, ?_⟩
  refine Run.condC rfl (fun h2 => ?_) (fun h2 => ?_) <;> (conv => whnf) <;> refine ⟨rfl, ?_⟩
  · refine Run.retZ ?_
    conv => whnf
    simp only [hI, h9, h10, h1, h2, cond_true, cond_false]
    exact ⟨rfl, Le.tuple (.cons (stp_le { zStp with op := 22, form := t.form, place := (a : Int), f := f, vn := t.vn, vs := t.vs } zi zf) (.cons (.refl _) .nil))⟩
  refine Run.condC rfl (fun h3 => ?_) (fun h3 => ?_) <;> (conv => whnf) <;> refine ⟨rfl, ?_⟩
  · refine Run.retZ ?_
    conv => whnf
    simp only [hI, h9, h10, h1, h2, h3, cond_true, cond_false]
    exact ⟨rfl, Le.tuple (.cons (stp_le { zStp with op := 23, form := t.form, field := t.field, f := f } zi zf) (.cons (.refl _) .nil))⟩
  refine Run.condC rfl (fun h4 => ?_) (fun h4 => ?_) <;> (conv => whnf) <;> refine ⟨rfl, ?_⟩
  · refine Run.retZ ?_
    conv => whnf
    simp only [hI, h9, h10, h1, h2, h3, h4, cond_true, cond_false]
    exact ⟨rfl, Le.tuple (.cons (stp_le { zStp with op := 24, form := t.form, field := t.field, a := t.a, b := t.b, f := f } zi zf) (.cons (.refl _) .nil))⟩
  refine Run.condC rfl (fun h5 => ?_) (fun h5 => ?_) <;> (conv => whnf) <;> refine ⟨rfl, ?_⟩
  · refine Run.appZD (nid := 6) rfl rfl rfl rfl (by unfold maxLen; omega) (by omega) rfl ?_
    conv => whnf
    refine ⟨rfl, ?_⟩
    refine Run.retZ ?_
    conv => whnf
    simp only [hI, h9, h10, h1, h2, h3, h4, h5, cond_true, cond_false]
    exact ⟨rfl, Le.tuple (.cons (stp_le { zStp with op := 25, form := t.form, field := t.field, t := t.t } (IsL.le (enc := fun n : Int => [AV.int .i64 n]) ((IsL.all (fun n : Int => [AV.int .i64 n]) t.t).from0)) zf) (.cons (.refl _) .nil))⟩
  refine Run.condC rfl (fun h6 => ?_) (fun h6 => ?_) <;> (conv => whnf) <;> refine ⟨rfl, ?_⟩
  · refine Run.retZ ?_
    conv => whnf
    simp only [hI, h9, h10, h1, h2, h3, h4, h5, h6, cond_true, cond_false]
    exact ⟨rfl, Le.tuple (.cons (stp_le { zStp with op := 26, form := t.form, field := t.field, a := t.a, to := t.to, f := f } zi zf) (.cons (.refl _) .nil))⟩
  refine Run.condC rfl (fun h7 => ?_) (fun h7 => ?_) <;> (conv => whnf) <;> refine ⟨rfl, ?_⟩
  · refine Run.retZ ?_
    conv => whnf
    simp only [hI, h9, h10, h1, h2, h3, h4, h5, h6, h7, cond_true, cond_false]
    exact ⟨rfl, Le.tuple (.cons (stp_le { zStp with op := 27, form := t.form, field := t.field, place := (a : Int) } zi zf) (.cons (.refl _) .nil))⟩
  refine Run.retZ ?_
  conv => whnf
  simp only [hI, h9, h10, h1, h2, h3, h4, h5, h6, h7, cond_false]
  exact ⟨rfl, Le.tuple (.cons (stp_le { zStp with op := 28, form := t.form, field := t.to, to := t.field } zi zf) (.cons (.refl _) .nil))⟩
end Go.Proofs.Ytbpcjahjbkiofaa.Sp

set_option linter.unusedVariables false
set_option linter.unusedSimpArgs false
namespace Go.Proofs.Ytbpcjahjbkiofaa.AV
open Go
section
variable {P : Program} {nt : Nat} {env : Env} {T : Tab} {Q : Post}
theorem Does.bslFR {sz nid : Nat} {L : List Opd} {v : AV} {u : Option (Nat × Ob)} (hf : tget T nid = .fresh) (hv : opV (.bsl sz L) env T nid = some (v, u)) : Does P (.bslF sz L) env T v (tupd T u) := by
  refine ⟨fun {G w ok mu a o} hc I E => ?_⟩
  unfold cOp at hc
  split at hc
  all_goals try (exfalso; first
    | exact map_no hc (fun z e => by cases e)
    | (unfold cCall at hc; (repeat' split at hc) <;> cases hc; done)
    | (unfold cBin at hc; (repeat' split at hc) <;> cases hc; done)
    | ((repeat' split at hc) <;> cases hc; done)
    | cases hc; done)
  rename_i t len ps hop
  split at hc
  · rename_i e hd
    split at hc
    · rename_i ti l hi hl
      split at hc
      · rename_i z hz
        split at hc
        · rename_i hcond
          simp only [Bool.and_eq_true, Nat.beq_eq, Nat.blt_eq, beq_iff_eq] at hcond
          obtain ⟨⟨⟨⟨h1, h2⟩, h3⟩, h4⟩, h5⟩ := hcond
          split at hc
          · cases hc
            exact did_bsl hf I E hop hd hi hz hl h1 h2 h3 h4 h5 hv
          · cases hc
        · cases hc
      · cases hc
    · cases hc
  · cases hc
theorem Run.exitR0 {k k0 k1 : List AItem} {K : Env → Tab → Prop} {id : Nat} (hn : exitA id k = none) (hk : exitA id k0 = some k1) (h : Run P nt k1 env T Q) : Run P nt (.code (.exit id) :: k) env T (roundQ P nt Q k0 K) :=
  Run.exit_round (roundQ_exit hk h) hn
end
end Go.Proofs.Ytbpcjahjbkiofaa.AV

set_option linter.unusedVariables false
set_option linter.unusedSimpArgs false
namespace Go.Proofs.Ytbpcjahjbkiofaa.Sp
open Go Go.Proofs.Ytbpcjahjbkiofaa.AV Go.Proofs.Ytbpcjahjbkiofaa.Fn
set_option maxRecDepth 10000

def bL (s : Sch) (l : List Stp) (i : Nat) : List Stp := (List.range i).map fun j => invP (aSt s l j) (l.getD j default)
def bkS (s : Sch) (l : List Stp) : List Stp × Int :=
  match (List.range l.length).find? (fun i => aErr s l i != 0) with
  | some i => ([], aErr s l i)
  | none => ((bL s l l.length).reverse, 0)
theorem bkS_err {s : Sch} {l : List Stp} {i : Nat} (hi : i < l.length) (hp : ∀ j, j < i → aErr s l j = 0) (h : aErr s l i ≠ 0) : bkS s l = (([] : List Stp), aErr s l i) := by
  have : (List.range l.length).find? (fun i => aErr s l i != 0) = some i := by
    rw [List.find?_range_eq_some]
    refine ⟨by simpa using h, List.mem_range.2 hi, fun j hj => by simpa using hp j hj⟩
  rw [bkS, this]
theorem bkS_ok {s : Sch} {l : List Stp} (hp : ∀ j, j < l.length → aErr s l j = 0) : bkS s l = ((bL s l l.length).reverse, 0) := by
  have : (List.range l.length).find? (fun i => aErr s l i != 0) = none := by
    rw [List.find?_range_eq_none]
    intro j hj
    simpa using hp j hj
  rw [bkS, this]
theorem bL_len (s : Sch) (l : List Stp) (i : Nat) : (bL s l i).length = i := by simp [bL]
theorem bL_succ (s : Sch) (l : List Stp) (i : Nat) : bL s l (i + 1) = bL s l i ++ [invP (aSt s l i) (l.getD i default)] := by simp [bL, List.range_succ]
theorem inv_err (s : Sch) (t : Stp) : (invS s t).2 = (tOn s t).2 := by
  unfold invS
  cases h : ((tOn s t).2 != 0) with
  | true => rfl
  | false => simp at h; rw [h]; rfl
theorem inv_ok {s : Sch} {t : Stp} (h : (tOn s t).2 = 0) : (invS s t).1 = invP s t := by
  unfold invS
  rw [h]
  rfl
theorem app_stp {o : List Stp} {x : Stp} {n k : Nat} (hn : n = o.length) (hk : k < n + 1) : fapp n (stpF o) (nthL [x.cells]) k = stpF (o ++ [x]) k := by
  subst hn
  unfold stpF
  by_cases h : k < o.length
  · rw [fapp_lt h]
    congr 1
    rw [List.getD_eq_getElem?_getD, List.getD_eq_getElem?_getD, List.getElem?_append_left h]
  · obtain rfl : k = o.length := by omega
    rw [fapp_ge (Nat.le_refl _), Nat.sub_self]
    show x.cells = _
    congr 1
    rw [List.getD_eq_getElem?_getD, List.getElem?_append_right (Nat.le_refl _)]
    simp

set_option maxHeartbeats 4000000 in
theorem pair_back (s : Sch) (l : List Stp) (hs : Small s) (hl : WayOk l) : AC P pair_Back.id [.agg s.cells, encSs l] [] (.tuple [encSs (bkS s l).1, .int .i64 (bkS s l).2]) [] := by
  have hll := hl.len
  refine pair_Back.intro rfl (Goes.run ?_)
  conv => whnf
  refine ⟨rfl, ?_⟩
  refine Run.loopN (ι := Nat) (fun i => i ≤ l.length ∧ ∀ j, j < i → aErr s l j = 0) (fun i => [(2, .ptr 0 0 0 0), (6, .row 16 1 i 0 i), (11, encSs l), (12, .int .i64 (l.length : Int)), (13, .int .i64 (i : Int))])
    (fun i => [.box (aSt s l i).cells, .row 16 i i (stpF (bL s l i)), .dead, .dead]) (fun i => l.length - i) 0 ⟨Nat.zero_le _, fun j hj => absurd hj (Nat.not_lt_zero _)⟩
    (Wk.trans (Wk.virtE (nid := 1) (n := 6) (sz := 16) (stpF []) rfl rfl rfl) (Wk.trans (Wk.pad 4) (Wk.ofEnv (Wk.cons (.refl _) (Wk.cons (.refl _) (Wk.cons (.refl _) (Wk.cons (.refl _) (Wk.cons (.refl _) Wk.done)))))))) fun i ⟨hi, hp⟩ => ?_
  have hbl := bL_len s l i
  conv => whnf
  refine ⟨rfl, ?_⟩
  refine Run.condC rfl (fun h => ?_) (fun h => ?_) <;> (conv => whnf) <;> refine ⟨rfl, ?_⟩
  · have hlt : i < l.length := by simpa using h
    have hsm := aSt_small hs hl i hi
    have hon := typing_on (aSt s l i) (l.getD i default) hsm (hl.wf i hlt) (hl.tab i hlt) (hl.flds i hlt)
    have hin := pair_invert (aSt s l i) (l.getD i default) hsm (hl.wf i hlt) (hl.tab i hlt) (hl.flds i hlt)
    have hst : aSt s l (i + 1) = (tOn (aSt s l i) (l.getD i default)).1 := rfl
    have her : aErr s l i = (tOn (aSt s l i) (l.getD i default)).2 := rfl
    rw [inv_err, ← her] at hin
    rw [← hst, ← her] at hon
    have hok : aErr s l i = 0 → bL s l (i + 1) = bL s l i ++ [(invS (aSt s l i) (l.getD i default)).1] := fun h => by rw [bL_succ, inv_ok (her ▸ h)]
    generalize (invS (aSt s l i) (l.getD i default)).1 = x at hin hok
    generalize hae : aErr s l i = e at hon hin hok
    refine Run.iaC rfl rfl rfl rfl rfl (fun _ => ⟨by omega, by omega⟩) ?_
    conv => whnf
    refine ⟨rfl, ?_⟩
    refine Run.callC (av := [.agg (aSt s l i).cells, .agg (l.getD i default).cells]) rfl rfl rfl (fun _ => hin) rfl rfl ?_
    conv => whnf
    refine ⟨rfl, ?_⟩
    refine Run.condC rfl (fun he => ?_) (fun he => ?_) <;> (conv => whnf) <;> refine ⟨rfl, ?_⟩
    · refine Run.retZR ?_
      conv => whnf
      rw [bkS_err hlt hp (by rw [hae]; simpa using he), hae]
      exact ⟨rfl, Le.tuple (.cons (Le.zsl (by omega)) (.cons (.refl _) .nil))⟩
    · have he0 : e = 0 := by simpa using he
      have hok := hok he0
      refine Run.doesT (id := 1) rfl (Does.appR rfl rfl rfl (by simp only [maxLen, List.length_cons, List.length_nil]; omega) (by simp only [List.length_cons, List.length_nil]; omega)) ?_
      conv => whnf
      refine ⟨rfl, ?_⟩
      refine Run.callC (av := [.agg (aSt s l i).cells, .agg (l.getD i default).cells]) rfl rfl rfl (fun _ => hon) rfl rfl ?_
      conv => whnf
      refine ⟨rfl, ?_⟩
      refine Run.endR ⟨i + 1, ⟨by omega, fun j hj => ?_⟩, by omega, Wk.trans (e2 := [(2, .ptr 0 0 0 0), (6, .row 16 1 (i + 1) 0 (i + 1)), (11, encSs l), (12, .int .i64 (l.length : Int)), (13, .int .i64 ((i + 1 : Nat) : Int))]) (Wk.cut 4 rfl rfl rfl rfl (Wk.cons (.refl _) (Wk.cons (.refl _) (Wk.cons (.refl _) (Wk.cons (.refl _) (Wk.cons (.int ?_) Wk.done)))))) (Wk.tab fun k => ?_)⟩
      · by_cases e1 : j < i
        · exact hp j e1
        · obtain rfl : j = i := by omega
          rw [hae]
          exact he0
      · rw [wrap_of (by omega) (by omega)]
        simp
      · match k with
        | 0 => exact LeOb.refl _
        | 1 => exact ⟨rfl, rfl, rfl, fun k hk => leL_eq (by rw [hok]; exact app_stp hbl.symm hk)⟩
        | 2 => exact LeOb.refl _
        | 3 => exact LeOb.refl _
        | k + 4 => exact .inl rfl
  · have hge : i = l.length := by simp at h; omega
    subst hge
    have hrv := reverse_stp (bL s l l.length) (by omega)
    rw [hbl] at hrv
    refine Run.exitR0 rfl rfl ?_
    refine Run.wk_code (Wk.trans (Wk.ofEnv (Wk.cons (.refl _) Wk.done)) (Wk.moveN (r := 6) (j := 1) (k := 4) (v' := 0) rfl rfl (Nat.le_refl _) (fun k hk => LeL.refl _) (Nat.le_refl _))) ?_
    refine Goes.run ?_
    conv => whnf
    refine ⟨rfl, ?_⟩
    refine Run.callG [4] hrv rfl rfl rfl ⟨rfl, trivial⟩ ?_
    conv => whnf
    refine ⟨rfl, ?_⟩
    refine Run.retZ ?_
    conv => whnf
    rw [bkS_ok hp]
    exact ⟨rfl, Le.tuple (.cons (Le.list (by simp [hbl]) fun k hk => leL_eq (by rw [Nat.zero_add]; rfl)) (.cons (.refl _) .nil))⟩
end Go.Proofs.Ytbpcjahjbkiofaa.Sp

set_option linter.unusedVariables false
set_option linter.unusedSimpArgs false
namespace Go.Proofs.Ytbpcjahjbkiofaa.AV
open Go
theorem Wk.moveE {env : Env} {T : Tab} {r : Nat} {j k n' v' szj nj vj nk vk len : Nat} {fj fk f' : Nat → List AV} (hj : tget T j = .row szj nj vj fj) (hk : tget T k = .row szj nk vk fk) (hv : vk < v') (hn : n' ≤ nj) (hf : ∀ i, i < n' → LeL (fj i) (f' i)) (hl : len ≤ n') (hr : eget env r = .row szj j vj 0 len) :
    Wk env T ((r, .row szj k v' 0 len) :: env) (tset (tset T j .dead) k (.row szj n' v' f')) := by
  rintro G nt a w ⟨h1, h2, ok, mu, I, E⟩
  have hT' : ∀ i, tget (tset (tset T j .dead) k (.row szj n' v' f')) i = if i = k then .row szj n' v' f' else if i = j then .dead else tget T i := fun i => by rw [tget_tset, tget_tset]
  have hlj : (tget T j).live := by rw [hj]; trivial
  have hlk : (tget T k).live := by rw [hk]; trivial
  let mu' := muSet mu k (mu j)
  have hC : Compat w w mu mu' T (tset (tset T j .dead) k (.row szj n' v' f')) := by
    intro i hi
    rw [hT']
    by_cases e : i = k
    · subst e
      rw [if_pos rfl]
      exact ⟨fun e => (by cases e), fun _ e => (by cases e), fun sz2 n2 v2 f2 e => by cases e; exact ⟨nk, vk, fk, hk, Nat.le_of_lt hv, fun e => by omega⟩⟩
    · rw [if_neg e]
      by_cases e2 : i = j
      · rw [if_pos e2]; exact ⟨fun e => (by cases e), fun _ e => (by cases e), fun _ _ _ _ e => (by cases e)⟩
      · rw [if_neg e2]
        have em : mu' i = mu i := muSet_ne _ _ _ e
        rw [em]
        exact ⟨hi, fun c e => ⟨⟨c, e⟩, rfl⟩, fun sz2 n2 v2 f2 e => ⟨n2, v2, f2, e, Nat.le_refl _, fun _ => ⟨Nat.le_refl _, rfl, fun _ _ => rfl⟩⟩⟩
  have hlive : ∀ i b, mu' i = some b → (tget (tset (tset T j .dead) k (.row szj n' v' f')) i).live → (i = k ∧ mu j = some b) ∨ (i ≠ k ∧ i ≠ j ∧ mu i = some b ∧ (tget T i).live) := fun i b hi hl => by
    rw [hT'] at hl
    by_cases e : i = k
    · subst e
      exact .inl ⟨rfl, by rw [← hi]; exact (muSet_same _ _ _).symm⟩
    · rw [if_neg e] at hl
      by_cases e2 : i = j
      · rw [if_pos e2] at hl; exact hl.elim
      · rw [if_neg e2] at hl
        exact .inr ⟨e, e2, by rw [← hi]; exact (muSet_ne _ _ _ e).symm, hl⟩
  have N : Go.Proofs.Ytbpcjahjbkiofaa.AV.Next ok ok mu mu' T (tset (tset T j .dead) k (.row szj n' v' f')) w w := by
    refine Next.retab I hC (fun _ h => h) (fun _ h => .inl h) (fun i b hi hl => ?_) (fun p q b hp hq hlp hlq => ?_) (fun i => ?_)
    · rcases hlive i b hi hl with ⟨_, h⟩ | ⟨_, _, h, h'⟩
      · exact ⟨I.sep j b h hlj, j, h, hlj⟩
      · exact ⟨I.sep i b h h', i, h, h'⟩
    · rcases hlive p b hp hlp with ⟨e1, h3⟩ | ⟨e1, e2, h3, h4⟩ <;> rcases hlive q b hq hlq with ⟨g1, h5⟩ | ⟨g1, g2, h5, h6⟩
      · rw [e1, g1]
      · exact absurd (I.inj j q b h3 h5 hlj h6).symm g2
      · exact absurd (I.inj p j b h3 h5 h4 hlj) e2
      · exact I.inj p q b h3 h5 h4 h6
    · rw [hT']
      by_cases e : i = k
      · subst e
        rw [if_pos rfl]
        have ho := I.obs j
        rw [hj] at ho
        obtain ⟨q1, q2, q3⟩ := ho
        refine ⟨q1, fun p hp => by rw [← (hf p hp).1]; exact q2 p (by omega), ?_⟩
        rw [show mu' i = mu j from muSet_same _ _ _]
        cases hm : mu j with
        | none => rw [hm] at q3; show n' = 0; omega
        | some b =>
          rw [hm] at q3
          obtain ⟨c, e, C, k1, k2, k3, k4, k5, k6⟩ := q3
          exact ⟨c, e, C, k1, k2, by omega, k4, k5, fun p o hp ho => ((hf p hp).2 o (by rw [q2 p (by omega)]; exact ho) _ _ _ _ _ _ (k6 p o (by omega) ho)).mono (fun b h => ⟨h, rfl⟩) fun e => by cases e⟩
      · rw [if_neg e]
        by_cases e2 : i = j
        · rw [if_pos e2]; trivial
        · rw [if_neg e2]
          exact (I.obs i).mono (fun b h => ⟨h, rfl⟩) hC (muSet_ne _ _ _ e) fun _ _ _ => rfl
  refine ⟨h1, h2, ok, mu', I.next N, fun i => ?_⟩
  rw [eget_cons]
  by_cases e : i = r
  · subst e
    rw [if_pos rfl]
    have hE := E i
    rw [hr] at hE
    have ek : tget (tset (tset T j .dead) k (.row szj n' v' f')) k = .row szj n' v' f' := by rw [hT', if_pos rfl]
    refine .row _ _ _ _ _ _ (rv_rowV hE) ⟨(by rw [ek]; exact fun e => (by cases e)), fun c hc => (by rw [ek] at hc; cases hc), fun sz2 n2 v2 f2 e2 => ?_⟩
    rw [ek] at e2
    cases e2
    refine ⟨Nat.le_refl _, fun _ => ⟨rfl, by omega, ?_⟩⟩
    obtain ⟨_, _, hcase⟩ := row_addr I hE hj rfl
    unfold SliceAt
    rw [show mu' k = mu j from muSet_same _ _ _]
    rcases hcase with ⟨hm, _, e3, _, A, hval⟩ | ⟨b, cap, hm, hval, hcap, hlc⟩
    · rw [hm]
      subst e3
      exact ⟨rfl, rfl, A, hval⟩
    · rw [hm]
      exact ⟨cap, hval, hcap, hlc⟩
  · rw [if_neg e]; exact N.env I E i


end Go.Proofs.Ytbpcjahjbkiofaa.AV

set_option linter.unusedVariables false
set_option linter.unusedSimpArgs false
namespace Go.Proofs.Ytbpcjahjbkiofaa.Sp
open Go Go.Proofs.Ytbpcjahjbkiofaa.AV Go.Proofs.Ytbpcjahjbkiofaa.Fn
set_option maxRecDepth 10000

theorem cons_stp {o : List Stp} {x : Stp} {n k : Nat} (hn : n = o.length) (hk : k < n + 1) : fapp 1 (nthL [x.cells]) (stpF o) k = stpF (x :: o) k := by
  subst hn
  cases k with
  | zero => rfl
  | succ k =>
    rw [fapp_ge (by omega), Nat.add_sub_cancel]
    rfl
theorem srcS_row {T : Tab} {sz sz' id cv n off len : Nat} {f : Nat → List AV} (hT : tget T id = .row sz n cv f) : srcS T sz' (.row sz id cv off len) = some (sz, len, fun k => f (off + k)) := by
  unfold srcS srcV
  simp [hT]
theorem bL_rev (s : Sch) (l : List Stp) (i : Nat) : (bL s l (i + 1)).reverse = invP (aSt s l i) (l.getD i default) :: (bL s l i).reverse := by rw [bL_succ]; simp

set_option maxHeartbeats 4000000 in
theorem r17_back (s : Sch) (l : List Stp) (hs : Small s) (hl : WayOk l) : AC P R17_Back.id [.agg s.cells, encSs l] [] (.tuple [encSs (bkS s l).1, .int .i64 (bkS s l).2]) [] := by
  have hll := hl.len
  refine R17_Back.intro rfl (Goes.run ?_)
  conv => whnf
  refine ⟨rfl, ?_⟩
  refine Run.loopN (ι := Nat) (fun i => i ≤ l.length ∧ ∀ j, j < i → aErr s l j = 0) (fun i => [(1, encSs l), (2, .ptr 0 0 0 0), (6, .row 16 1 i 0 i), (7, .int .i64 (i : Int))])
    (fun i => [.box (aSt s l i).cells, .row 16 i i (stpF (bL s l i).reverse), .dead, .dead]) (fun i => l.length - i) 0 ⟨Nat.zero_le _, fun j hj => absurd hj (Nat.not_lt_zero _)⟩
    (Wk.trans (Wk.virtE (nid := 1) (n := 6) (sz := 16) (stpF []) rfl rfl rfl) (Wk.trans (Wk.pad 4) (Wk.ofEnv (Wk.cons (.refl _) (Wk.cons (.refl _) (Wk.cons (.refl _) (Wk.cons (.refl _) Wk.done))))))) fun i ⟨hi, hp⟩ => ?_
  have hbl : (bL s l i).reverse.length = i := by rw [List.length_reverse, bL_len]
  conv => whnf
  refine ⟨rfl, ?_⟩
  refine Run.condC rfl (fun h => ?_) (fun h => ?_) <;> (conv => whnf) <;> refine ⟨rfl, ?_⟩
  · have hlt : i < l.length := by simpa using h
    have hsm := aSt_small hs hl i hi
    have hon := r16_on (aSt s l i) (l.getD i default) hsm (hl.tab i hlt) (hl.flds i hlt)
    rw [on_eq] at hon
    have hin := r17_invert (aSt s l i) (l.getD i default) hsm (hl.tab i hlt) (hl.flds i hlt)
    have hst : aSt s l (i + 1) = (tOn (aSt s l i) (l.getD i default)).1 := rfl
    have her : aErr s l i = (tOn (aSt s l i) (l.getD i default)).2 := rfl
    rw [inv_err, ← her] at hin
    rw [← hst, ← her] at hon
    have hok : aErr s l i = 0 → (bL s l (i + 1)).reverse = (invS (aSt s l i) (l.getD i default)).1 :: (bL s l i).reverse := fun h => by rw [bL_rev, inv_ok (her ▸ h)]
    generalize (invS (aSt s l i) (l.getD i default)).1 = x at hin hok
    generalize hae : aErr s l i = e at hon hin hok
    generalize (bL s l i).reverse = o at hbl hok ⊢
    refine Run.iaD rfl rfl rfl rfl rfl (fun _ => ⟨by omega, by omega⟩) rfl ?_
    conv => whnf
    refine ⟨rfl, ?_⟩
    refine Run.callD (av := [.agg (aSt s l i).cells, .agg (l.getD i default).cells]) rfl rfl rfl (fun _ => hin) rfl rfl rfl ?_
    conv => whnf
    refine ⟨rfl, ?_⟩
    refine Run.cond (bb := e != 0) rfl (fun he => Goes.run ?_) (fun he => ?_)
    · conv => whnf
      refine ⟨rfl, ?_⟩
      refine Run.retZR ?_
      conv => whnf
      rw [bkS_err hlt hp (by rw [hae]; simpa using he), hae]
      exact ⟨rfl, Le.tuple (.cons (Le.zsl (by omega)) (.cons (.refl _) .nil))⟩
    · have he0 : e = 0 := by simpa using he
      have hok := hok he0
      refine Run.skip ?_
      refine Run.seq ?_
      refine Run.reg ?_
      refine Run.does rfl (Does.straight rfl) ?_
      refine Run.does rfl (Does.bslFR (nid := 5) rfl rfl) ?_
      refine Goes.run ?_
      conv => whnf
      refine ⟨rfl, ?_⟩
      refine Run.doesT (id := 5) rfl (Does.appR rfl rfl (srcS_row (n := i) (f := stpF o) rfl) (by simp only [maxLen, List.length_cons, List.length_nil]; omega) (by simp only [List.length_cons, List.length_nil]; omega)) ?_
      conv => whnf
      refine ⟨rfl, ?_⟩
      refine Run.iaD rfl rfl rfl rfl rfl (fun _ => ⟨by omega, by omega⟩) rfl ?_
      conv => whnf
      refine ⟨rfl, ?_⟩
      refine Run.callD (av := [.agg (aSt s l i).cells, .agg (l.getD i default).cells]) rfl rfl rfl (fun _ => hon) rfl rfl rfl ?_
      conv => whnf
      refine ⟨rfl, ?_⟩
      refine Run.endR ⟨i + 1, ⟨by omega, fun j hj => ?_⟩, by omega, Wk.trans (Wk.moveE (r := 6) (j := 5) (k := 1) (n' := i + 1) (v' := i + 1) (len := i + 1) (f' := stpF (bL s l (i + 1)).reverse) rfl rfl (Nat.lt_succ_self i) ?_ (fun k hk => leL_eq ?_) (Nat.le_refl _) ?_)
        (Wk.cut 4 rfl rfl rfl rfl (Wk.cons (.refl _) (Wk.cons (.refl _) (Wk.cons (.refl _) (Wk.cons (.int ?_) Wk.done)))))⟩
      · by_cases e1 : j < i
        · exact hp j e1
        · obtain rfl : j = i := by omega
          rw [hae]
          exact he0
      · show i + 1 ≤ 1 + i
        omega
      · rw [hok]
        refine Eq.trans ?_ (cons_stp hbl.symm hk)
        show fapp 1 (nthL [x.cells]) (fun k => stpF o (0 + k)) k = _
        congr 1
        funext k
        rw [Nat.zero_add]
      · show AV.row 16 5 1 0 (1 + i) = _
        rw [Nat.add_comm]
      · rw [wrap_of (by omega) (by omega)]
        simp
  · have hge : i = l.length := by simp at h; omega
    subst hge
    refine Run.exitR0 rfl rfl ?_
    refine Run.wk_code (Wk.trans (Wk.ofEnv (Wk.cons (.refl _) Wk.done)) (Wk.moveN (r := 6) (j := 1) (k := 4) (v' := 0) rfl rfl (Nat.le_refl _) (fun k hk => LeL.refl _) (Nat.le_refl _))) ?_
    refine Goes.run ?_
    conv => whnf
    refine ⟨rfl, ?_⟩
    refine Run.retZ ?_
    conv => whnf
    rw [bkS_ok hp]
    exact ⟨rfl, Le.tuple (.cons (Le.list (by simp [bL_len]) fun k hk => leL_eq (by rw [Nat.zero_add]; rfl)) (.cons (.refl _) .nil))⟩
end Go.Proofs.Ytbpcjahjbkiofaa.Sp

set_option linter.unusedVariables false
set_option linter.unusedSimpArgs false
namespace Go.Proofs.Ytbpcjahjbkiofaa.Sp
open Go Go.Proofs.Ytbpcjahjbkiofaa.AV Go.Proofs.Ytbpcjahjbkiofaa.Fn
set_option maxRecDepth 10000

set_option maxHeartbeats 4000000 in
theorem l17_great (s : Sch) (l : List Stp) : AC P L17_great.id [.agg s.cells, encSs l] [] (.bool (sGreat s l)) [] := by
  refine L17_great.intro rfl (Goes.run ?_)
  conv => whnf
  refine ⟨rfl, ?_⟩
  refine Run.loopN (fun i : Nat => i ≤ s.forms.length ∧ i ≤ 41 ∧ ∀ j, j < i → bigForm (s.forms.getD j default) = false)
    (fun i => [(1, encSs l), (2, .ptr 0 0 0 0), (5, .int .i64 (i : Int))]) (fun _ => [.box s.cells]) (fun i => s.forms.length - i) 0 ⟨by omega, by omega, fun j hj => by omega⟩
    (Wk.ofEnv (Wk.cons (.refl _) (Wk.cons (.refl _) (Wk.cons (.refl _) Wk.done)))) fun i ⟨hi, h6, hp⟩ => ?_
  conv => whnf
  refine ⟨rfl, ?_⟩
  refine Run.condC rfl (fun h => ?_) (fun h => ?_) <;> (conv => whnf) <;> refine ⟨rfl, ?_⟩
  · have h1 : i < s.forms.length ∧ i < 41 := by simp at h; omega
    refine Run.iaC rfl rfl rfl rfl rfl (fun _ => ⟨by omega, by omega⟩) ?_
    conv => whnf
    refine ⟨rfl, ?_⟩
    refine Run.condC rfl (fun h => ?_) (fun h => ?_) <;> (conv => whnf) <;> refine ⟨rfl, ?_⟩
    · refine Run.retR ?_
      conv => whnf
      refine ⟨rfl, Le.tt ?_⟩
      have hb : bigForm (s.forms.getD i default) = true := h
      unfold sGreat
      rw [Bool.or_eq_true]
      left
      rw [List.any_eq_true]
      exact ⟨i, List.mem_range.2 (by omega), hb⟩
    · refine Run.endR ⟨i + 1, ⟨by omega, by omega, fun j hj => ?_⟩, by omega, Wk.ofEnv (Wk.cons (.refl _) (Wk.cons (.refl _) (Wk.cons (.int ?_) Wk.done)))⟩
      · by_cases e : j < i
        · exact hp j e
        · obtain rfl : j = i := by omega
          exact h
      · rw [wrap_of (by omega) (by omega)]
        simp
  · have h1 : ¬ (i < s.forms.length ∧ i < 41) := by simp at h; omega
    refine Run.exitR rfl rfl ?_
    conv => whnf
    refine ⟨rfl, ?_⟩
    refine Run.callC (av := [encSs l]) rfl rfl rfl (fun _ => r15_great l) rfl rfl ?_
    conv => whnf
    refine ⟨rfl, ?_⟩
    refine Run.retP ?_
    conv => whnf
    refine ⟨rfl, Le.bool ?_⟩
    have : (List.range (min s.forms.length 41)).any (fun i => bigForm (s.forms.getD i default)) = false := by
      rw [List.any_eq_false]
      intro j hj
      rw [List.mem_range] at hj
      rw [hp j (by omega)]
      simp
    simp only [sGreat, this, Bool.false_or]

theorem ba_self (b : ByteArray) : (b == b) = true := by
  cases b with
  | mk d => exact (beq_self_eq_true d : (d == d) = true)

set_option maxHeartbeats 4000000 in
theorem stp_same (t : Stp) (hl : t.t.length ≤ 1000000) (hf : t.fields.length ≤ 1000000) : AC P R15_Same.id [.agg t.cells, .agg t.cells] [] (.bool true) [] := by
  refine R15_Same.intro rfl (Goes.run ?_)
  conv => whnf
  refine ⟨rfl, ?_⟩
  refine Run.condC rfl (fun h => ?_) (fun h => ?_) <;> (conv => whnf) <;> refine ⟨rfl, ?_⟩
  · exfalso
    simp [negB] at h
    rw [ba_self] at h
    cases h
  refine Run.loopN (ι := Nat) (fun i => i ≤ t.t.length) (fun i => [(2, .ptr 0 0 0 0), (3, .ptr 1 0 0 0), (5, .int .i64 (i : Int))])
    (fun i => [.box t.cells, .box t.cells]) (fun i => t.t.length - i) 0 (Nat.zero_le _) (Wk.ofEnv (Wk.cons (.refl _) (Wk.cons (.refl _) (Wk.cons (.refl _) Wk.done)))) fun i hi => ?_
  conv => whnf
  refine ⟨rfl, ?_⟩
  refine Run.condC rfl (fun h => ?_) (fun h => ?_) <;> (conv => whnf) <;> refine ⟨rfl, ?_⟩
  · have hlt : i < t.t.length := by simpa using h
    refine Run.iaD rfl rfl rfl rfl rfl (fun _ => ⟨by omega, by omega⟩) rfl ?_
    conv => whnf
    refine ⟨rfl, ?_⟩
    refine Run.iaD rfl rfl rfl rfl rfl (fun _ => ⟨by omega, by omega⟩) rfl ?_
    conv => whnf
    refine ⟨rfl, ?_⟩
    refine Run.condC rfl (fun h => ?_) (fun h => ?_) <;> (conv => whnf) <;> refine ⟨rfl, ?_⟩
    · exfalso; simp at h
    · refine Run.endR ⟨i + 1, by omega, by omega, Wk.ofEnv (Wk.cons (.refl _) (Wk.cons (.refl _) (Wk.cons (.int ?_) Wk.done)))⟩
      rw [wrap_of (by omega) (by omega)]
      simp
  · refine Run.exitR rfl rfl ?_
    conv => whnf
    refine ⟨rfl, ?_⟩
    refine Run.loopN (ι := Nat) (fun i => i ≤ t.fields.length) (fun i => [(2, .ptr 0 0 0 0), (3, .ptr 1 0 0 0), (6, .int .i64 (i : Int))])
      (fun i => [.box t.cells, .box t.cells]) (fun i => t.fields.length - i) 0 (Nat.zero_le _) (Wk.ofEnv (Wk.cons (.refl _) (Wk.cons (.refl _) (Wk.cons (.refl _) Wk.done)))) fun i hi => ?_
    conv => whnf
    refine ⟨rfl, ?_⟩
    refine Run.condC rfl (fun h => ?_) (fun h => ?_) <;> (conv => whnf) <;> refine ⟨rfl, ?_⟩
    · have hlt : i < t.fields.length := by simpa using h
      refine Run.iaD rfl rfl rfl rfl rfl (fun _ => ⟨by omega, by omega⟩) rfl ?_
      conv => whnf
      refine ⟨rfl, ?_⟩
      refine Run.iaD rfl rfl rfl rfl rfl (fun _ => ⟨by omega, by omega⟩) rfl ?_
      conv => whnf
      refine ⟨rfl, ?_⟩
      refine Run.condC rfl (fun h => ?_) (fun h => ?_) <;> (conv => whnf) <;> refine ⟨rfl, ?_⟩
      · exfalso; simp [negB] at h
      · refine Run.endR ⟨i + 1, by omega, by omega, Wk.ofEnv (Wk.cons (.refl _) (Wk.cons (.refl _) (Wk.cons (.int ?_) Wk.done)))⟩
        rw [wrap_of (by omega) (by omega)]
        simp
    · refine Run.exitR rfl rfl ?_
      conv => whnf
      refine ⟨rfl, ?_⟩
      refine Run.retP ?_
      conv => whnf
      exact ⟨rfl, .tt rfl⟩

set_option maxHeartbeats 4000000 in
theorem stps_same (l : List Stp) (hb : l.length ≤ 1000) (hl : ∀ i, i < l.length → (l.getD i default).t.length ≤ 1000000 ∧ (l.getD i default).fields.length ≤ 1000000) : AC P R15_SameList.id [encSs l, encSs l] [] (.bool true) [] := by
  refine R15_SameList.intro rfl (Goes.run ?_)
  conv => whnf
  refine ⟨rfl, ?_⟩
  refine Run.condC rfl (fun h => ?_) (fun h => ?_) <;> (conv => whnf) <;> refine ⟨rfl, ?_⟩
  · exfalso
    simp at h
  refine Run.loopN (ι := Nat) (fun i => i ≤ l.length) (fun i => [(0, encSs l), (1, encSs l), (5, .int .i64 (i : Int))])
    (fun i => []) (fun i => l.length - i) 0 (Nat.zero_le _) (Wk.ofEnv (Wk.cons (.refl _) (Wk.cons (.refl _) (Wk.cons (.refl _) Wk.done)))) fun i hi => ?_
  conv => whnf
  refine ⟨rfl, ?_⟩
  refine Run.condC rfl (fun h => ?_) (fun h => ?_) <;> (conv => whnf) <;> refine ⟨rfl, ?_⟩
  · have hlt : i < l.length := by simpa using h
    refine Run.iaD rfl rfl rfl rfl rfl (fun _ => ⟨by omega, by omega⟩) rfl ?_
    conv => whnf
    refine ⟨rfl, ?_⟩
    refine Run.iaD rfl rfl rfl rfl rfl (fun _ => ⟨by omega, by omega⟩) rfl ?_
    conv => whnf
    refine ⟨rfl, ?_⟩
    refine Run.callD (av := [.agg (l.getD i default).cells, .agg (l.getD i default).cells]) rfl rfl rfl (fun _ => stp_same (l.getD i default) (hl i hlt).1 (hl i hlt).2) rfl rfl rfl ?_
    conv => whnf
    refine ⟨rfl, ?_⟩
    refine Run.condC rfl (fun h => ?_) (fun h => ?_) <;> (conv => whnf) <;> refine ⟨rfl, ?_⟩
    · exfalso; simp at h
    refine Run.endR ⟨i + 1, by omega, by omega, Wk.ofEnv (Wk.cons (.refl _) (Wk.cons (.refl _) (Wk.cons (.int ?_) Wk.done)))⟩
    rw [wrap_of (by omega) (by omega)]
    simp
  · refine Run.exitR rfl rfl ?_
    conv => whnf
    refine ⟨rfl, ?_⟩
    refine Run.retP ?_
    conv => whnf
    exact ⟨rfl, .tt rfl⟩

def s7 : Sch := ⟨1, [⟨0, [⟨3, 2, 0, 0, 0⟩]⟩]⟩
def t7 : Stp := ⟨8, 0, 3, 0, 8, 0, 0, ⟨0, 0, 0, 0, 0⟩, 0, ByteArray.empty, [], []⟩
theorem err7 : (tOn s7 t7).2 = 0 := by kernel_rfl
theorem t7_wf : WfS t7 := by
  constructor <;> first | decide | (unfold inR; decide)
theorem inv7 : (invP s7 t7).op = 28 ∧ (invP s7 t7).field = 8 ∧ (invP s7 t7).to = 3 := ⟨by kernel_rfl, by kernel_rfl, by kernel_rfl⟩
set_option maxHeartbeats 4000000 in
theorem l17_awake : AC P L17_awake.id [] [] (.bool true) [] := by
  have h := pair_invert s7 t7 ⟨by decide, all_small (by decide)⟩ t7_wf (by decide) (by decide)
  rw [inv_err, err7, inv_ok err7] at h
  obtain ⟨i1, i2, i3⟩ := inv7
  generalize invP s7 t7 = x at h i1 i2 i3
  refine L17_awake.intro rfl (Goes.run ?_)
  conv => whnf
  refine ⟨rfl, ?_⟩
  refine Run.callC (av := [.agg [.int .i64 1, .list 2 1 (nthL [[.int .i64 0, .list 5 1 (nthL [[.int .i64 3, .int .i64 2, .int .i64 0, .int .i64 0, .int .i64 0]])]])], .agg [.int .i64 8, .int .i64 0, .int .i64 3, .int .i64 0, .int .i64 8, .int .i64 0, .int .i64 0, .int .i64 0, .int .i64 0, .int .i64 0, .int .i64 0, .int .i64 0, .int .i64 0, .str { data := { toList := [] } }, .zsl, .zsl]]) rfl rfl rfl (fun _ => h.le_args (.cons (Le.agg (.cons (.refl _) (.cons (Le.list rfl fun k hk => by
    obtain rfl : k = 0 := by omega
    exact .cons (.refl _) (.cons (IsL.le (enc := Fld.cells) (IsL.one ⟨3, 2, 0, 0, 0⟩)) .nil)) .nil))) (.cons (stp_le t7 zi zf) .nil))) rfl rfl ?_
  conv => whnf
  refine ⟨rfl, ?_⟩
  refine Run.retP ?_
  conv => whnf
  exact ⟨rfl, .bool (by rw [i1, i2, i3]; rfl)⟩
end Go.Proofs.Ytbpcjahjbkiofaa.Sp

set_option linter.unusedVariables false
set_option linter.unusedSimpArgs false
namespace Go.Proofs.Ytbpcjahjbkiofaa.Sp
open Go Go.Proofs.Ytbpcjahjbkiofaa.AV Go.Proofs.Ytbpcjahjbkiofaa.Fn
set_option maxRecDepth 10000

theorem invP_small {s : Sch} {t : Stp} (hs : Small s) (hl : t.t.length ≤ 100) : (invP s t).t.length ≤ 1000 ∧ (invP s t).fields.length ≤ 1000 := by
  have h := fmG_small hs t.form
  unfold invP
  cases t.op == 1 with
  | true => (simp only [cond_true, cond_false, inv0]; exact ⟨by first | (simp; done) | omega, by first | (simp; done) | omega⟩)
  | false =>
    cases t.op == 2 with
    | true => (simp only [cond_true, cond_false, inv0]; exact ⟨by first | (simp; done) | omega, by first | (simp; done) | omega⟩)
    | false =>
      cases t.op == 4 with
      | true => (simp only [cond_true, cond_false, inv0]; exact ⟨by first | (simp; done) | omega, by first | (simp; done) | omega⟩)
      | false =>
        cases t.op == 6 with
        | true => (simp only [cond_true, cond_false, inv0]; exact ⟨by first | (simp; done) | omega, by first | (simp; done) | omega⟩)
        | false =>
          cases t.op == 3 with
          | true => (simp only [cond_true, cond_false, inv0]; exact ⟨by first | (simp; done) | omega, by first | (simp; done) | omega⟩)
          | false =>
            cases t.op == 5 with
            | true => (simp only [cond_true, cond_false, inv0]; exact ⟨by first | (simp; done) | omega, by first | (simp; done) | omega⟩)
            | false =>
              cases t.op == 7 with
              | true => (simp only [cond_true, cond_false, inv0]; exact ⟨by first | (simp; done) | omega, by first | (simp; done) | omega⟩)
              | false =>
                cases t.op == 8 with
                | true => (simp only [cond_true, cond_false, inv0]; exact ⟨by first | (simp; done) | omega, by first | (simp; done) | omega⟩)
                | false =>
                  cases t.op == 10 with
                  | true => (simp only [cond_true, cond_false, inv0]; exact ⟨by first | (simp; done) | omega, by first | (simp; done) | omega⟩)
                  | false =>
                    (simp only [cond_true, cond_false, inv0]; exact ⟨by first | (simp; done) | omega, by first | (simp; done) | omega⟩)
theorem invS_small {s : Sch} {t : Stp} (hs : Small s) (hl : t.t.length ≤ 100) : (invS s t).1.t.length ≤ 1000 ∧ (invS s t).1.fields.length ≤ 1000 := by
  unfold invS
  cases ((tOn s t).2 != 0)
  · exact invP_small hs hl
  · exact ⟨by simp [zStp], by simp [zStp]⟩
theorem bkS_small {s : Sch} {l : List Stp} (hs : Small s) (hl : WayOk l) (ht : ∀ i, i < l.length → (l.getD i default).t.length ≤ 100) : (bkS s l).1.length ≤ 1000 ∧ ∀ i, i < (bkS s l).1.length → ((bkS s l).1.getD i default).t.length ≤ 1000 ∧ ((bkS s l).1.getD i default).fields.length ≤ 1000 := by
  have hll := hl.len
  unfold bkS
  split
  · exact ⟨by simp, fun i hi => absurd hi (by simp)⟩
  · refine ⟨by simp [bL_len]; omega, fun i hi => ?_⟩
    have key : ∀ x ∈ (bL s l l.length).reverse, x.t.length ≤ 1000 ∧ x.fields.length ≤ 1000 := fun x hx => by
      rw [List.mem_reverse] at hx
      unfold bL at hx
      rw [List.mem_map] at hx
      obtain ⟨j, hj, rfl⟩ := hx
      rw [List.mem_range] at hj
      exact invP_small (aSt_small hs hl j (by omega)) (ht j hj)
    have hi : i < (bL s l l.length).reverse.length := hi
    show ((bL s l l.length).reverse.getD i default).t.length ≤ 1000 ∧ ((bL s l l.length).reverse.getD i default).fields.length ≤ 1000
    rw [getD_at hi]
    exact key _ (List.getElem_mem hi)

set_option maxHeartbeats 4000000 in
theorem l17_PairSteps (s : Sch) (t : Stp) (l : List Stp) (hw : WfS t) (hwl : ∀ i, i < l.length → WfS (l.getD i default)) : AC P L17_PairSteps.id [.agg s.cells, .agg t.cells, encSs l] [] (.bool true) [] := by
  refine L17_PairSteps.intro rfl (Goes.run ?_)
  conv => whnf
  refine ⟨rfl, ?_⟩
  refine Run.callC (av := [.agg s.cells, encSs l]) rfl rfl rfl (fun _ => l17_great s l) rfl rfl ?_
  conv => whnf
  refine ⟨rfl, ?_⟩
  refine Run.callC (rv := .bool (lGreat [t])) (av := [.list 16 1 (nthL [t.cells])]) rfl rfl rfl (fun _ => (r15_great [t]).le_args (.cons (one_le t) .nil)) rfl rfl ?_
  conv => whnf
  refine ⟨rfl, ?_⟩
  refine Run.condC rfl (fun hg => ?_) (fun hg => ?_) <;> (conv => whnf) <;> refine ⟨rfl, ?_⟩
  · refine Run.callC (av := []) rfl rfl rfl (fun _ => l17_awake) rfl rfl ?_
    conv => whnf
    refine ⟨rfl, ?_⟩
    refine Run.retP ?_
    conv => whnf
    exact ⟨rfl, .bool rfl⟩
  have hg' : sGreat s l = false ∧ lGreat [t] = false := by simpa using hg
  obtain ⟨⟨q1, q2⟩, q3, q4⟩ := great_small hg'.1
  have q5 : t.t.length ≤ 100 ∧ t.fields.length ≤ 40 := by
    have h := hg'.2
    simp only [lGreat, Bool.or_eq_false_iff] at h
    have := any_range h.1 0 (by simp)
    simp only [bigStep, Bool.or_eq_false_iff, decide_eq_false_iff_not] at this
    have e : [t].getD 0 default = t := rfl
    rw [e] at this
    omega
  have hsm : Small s := ⟨by omega, fun i => by have := q2 i; omega⟩
  have hwo : WayOk l := ⟨by omega, hwl, fun i hi => by have := (q4 i hi).1; omega, fun i hi => by have := (q4 i hi).2; omega⟩
  have h1 := pair_invert s t hsm hw (by omega) (by omega)
  have h2 := r17_invert s t hsm (by omega) (by omega)
  have h3 := pair_back s l hsm hwo
  have h4 := r17_back s l hsm hwo
  have z1 := invS_small (s := s) (t := t) hsm q5.1
  have z2 := bkS_small hsm hwo fun i hi => (q4 i hi).1
  have h5 := stp_same (invS s t).1 (by omega) (by omega)
  have h6 := stps_same (bkS s l).1 z2.1 fun i hi => by have := z2.2 i hi; omega
  generalize (invS s t).1 = x at h1 h2 h5
  generalize (invS s t).2 = e at h1 h2
  generalize (bkS s l).1 = b at h3 h4 h6
  generalize (bkS s l).2 = e' at h3 h4
  refine Run.callC (av := [.agg s.cells, .agg t.cells]) rfl rfl rfl (fun _ => h1) rfl rfl ?_
  conv => whnf
  refine ⟨rfl, ?_⟩
  refine Run.callC (av := [.agg s.cells, .agg t.cells]) rfl rfl rfl (fun _ => h2) rfl rfl ?_
  conv => whnf
  refine ⟨rfl, ?_⟩
  refine Run.callC (av := [.agg s.cells, encSs l]) rfl rfl rfl (fun _ => h3) rfl rfl ?_
  conv => whnf
  refine ⟨rfl, ?_⟩
  refine Run.callC (av := [.agg s.cells, encSs l]) rfl rfl rfl (fun _ => h4) rfl rfl ?_
  conv => whnf
  refine ⟨rfl, ?_⟩
  refine Run.callC (av := [.agg x.cells, .agg x.cells]) rfl rfl rfl (fun _ => h5) rfl rfl ?_
  conv => whnf
  refine ⟨rfl, ?_⟩
  refine Run.callC (av := [encSs b, encSs b]) rfl rfl rfl (fun _ => h6) rfl rfl ?_
  conv => whnf
  refine ⟨rfl, ?_⟩
  refine Run.callC (av := []) rfl rfl rfl (fun _ => l17_awake) rfl rfl ?_
  conv => whnf
  refine ⟨rfl, ?_⟩
  refine Run.retP ?_
  conv => whnf
  exact ⟨rfl, .bool (by simp)⟩
end Go.Proofs.Ytbpcjahjbkiofaa.Sp

set_option linter.unusedVariables false
set_option linter.unusedSimpArgs false
namespace Go.Proofs.Ytbpcjahjbkiofaa.Sp
open Go Go.Proofs.Ytbpcjahjbkiofaa.AV Go.Proofs.Ytbpcjahjbkiofaa.Fn
set_option maxRecDepth 10000

structure Wf6 (t : Stp) : Prop where
  op : inR t.op
  form : inR t.form
  field : inR t.field
  place : inR t.place
  to : inR t.to
  a : inR t.a
  b : inR t.b
theorem wrap_inR (x : Int) : inR (IntKind.i64.wrap x) := by
  unfold inR IntKind.wrap
  simp only [IntKind.bits, IntKind.signed, Bool.true_and]
  have h1 := Int.emod_nonneg x (b := 2 ^ 64) (by decide)
  have h2 := Int.emod_lt_of_pos x (b := 2 ^ 64) (by decide)
  split <;> rename_i h <;> simp at h h1 h2 ⊢ <;> omega
theorem ownA_inR {fs : List Fld} {id : Int} (h : fs.length ≤ 1000) : inR (ownA fs id) := by
  unfold ownA inR
  split
  · rename_i a ha
    have := fAt_lt ha
    omega
  · omega
theorem fid_inR {t : Stp} (h : stRight t = true) (h1 : t.op = 1) : inR t.f.id := by
  simp only [stRight, Bool.and_eq_true, Bool.not_eq_true'] at h
  obtain ⟨_, h2, _⟩ := h
  simp only [bad2, Bool.or_eq_false_iff] at h2
  have hF : hasB t.op 70 = true := by rw [h1]; decide
  rw [hF, Bool.true_and] at h2
  have hr : fRight t.f = true := by simpa using h2.2
  have := fRight_cases hr
  unfold inR
  omega
theorem invP_wf {s : Sch} {t : Stp} (hs : Small s) (hw : WfS t) (h : stRight t = true) : Wf6 (invP s t) := by
  have z : inR 0 := by unfold inR; omega
  have hA := ownA_inR (fs := (fmG s.forms t.form).fields) (id := t.field) (fmG_small hs _)
  have hW := wrap_inR (t.op + 20)
  have hF := fid_inR h
  obtain ⟨w1, w2, w3, w4, w5, w6⟩ := hw
  unfold invP
  cases h1 : t.op == 1 with
  | true => exact ⟨hW, w1, hF (by simpa using h1), z, z, z, z⟩
  | false =>
    cases t.op == 2 with
    | true => (simp only [cond_true, cond_false, inv0]; constructor <;> assumption)
    | false =>
      cases t.op == 4 with
      | true => (simp only [cond_true, cond_false, inv0]; constructor <;> assumption)
      | false =>
        cases t.op == 6 with
        | true => (simp only [cond_true, cond_false, inv0]; constructor <;> assumption)
        | false =>
          cases t.op == 3 with
          | true => (simp only [cond_true, cond_false, inv0]; constructor <;> assumption)
          | false =>
            cases t.op == 5 with
            | true => (simp only [cond_true, cond_false, inv0]; constructor <;> assumption)
            | false =>
              cases t.op == 7 with
              | true => (simp only [cond_true, cond_false, inv0]; constructor <;> assumption)
              | false =>
                cases t.op == 8 with
                | true => (simp only [cond_true, cond_false, inv0]; constructor <;> assumption)
                | false =>
                  cases t.op == 10 with
                  | true => (simp only [cond_true, cond_false, inv0]; constructor <;> assumption)
                  | false =>
                    (simp only [cond_true, cond_false, inv0]; constructor <;> assumption)
theorem wz_eq {x y : Int} (hx : inR x) (hy : inR y) : wz x y = (x == y) := by
  unfold wz IntKind.wrap
  unfold inR at hx hy
  simp only [IntKind.bits, IntKind.signed, Bool.true_and]
  rw [Bool.eq_iff_iff]
  simp only [beq_iff_eq]
  split <;> rename_i h <;> simp at h ⊢ <;> omega
end Go.Proofs.Ytbpcjahjbkiofaa.Sp

set_option linter.unusedVariables false
set_option linter.unusedSimpArgs false
namespace Go.Proofs.Ytbpcjahjbkiofaa.Sp
open Go Go.Proofs.Ytbpcjahjbkiofaa.AV Go.Proofs.Ytbpcjahjbkiofaa.Fn
set_option maxRecDepth 10000

def fldB (x y : Fld) : Bool := x.id == y.id && (x.kind == y.kind && (x.lo == y.lo && (x.hi == y.hi && (x.most == y.most && true))))
theorem fldB_eq (x y : Fld) : fldB x y = decide (x = y) := by
  rw [Bool.eq_iff_iff]
  cases x; cases y
  simp [fldB]
def headD (a b : Stp) : Bool :=
  (a.op != b.op || a.form != b.form || a.field != b.field || a.place != b.place || a.to != b.to || a.a != b.a || a.b != b.b || negB true (fldB a.f b.f) || negB true (a.vn == b.vn && (a.vs == b.vs && true)) || (a.t.length : Int) != (b.t.length : Int) || (a.fields.length : Int) != (b.fields.length : Int))
def sameQ (a b : Stp) : Bool := !headD a b && (decide (a.t = b.t) && decide (a.fields = b.fields))
theorem eq_of_getD {α : Type} {l m : List α} {d : α} (hl : l.length = m.length) (h : ∀ j, j < l.length → l.getD j d = m.getD j d) : l = m := by
  refine List.ext_getElem hl fun i h1 h2 => ?_
  have := h i h1
  simpa [List.getD_eq_getElem?_getD, h1, h2] using this

set_option maxHeartbeats 4000000 in
theorem r15_same (a b : Stp) (hl : a.t.length ≤ 1000000) (hf : a.fields.length ≤ 1000000) : AC P R15_Same.id [.agg a.cells, .agg b.cells] [] (.bool (sameQ a b)) [] := by
  refine R15_Same.intro rfl (Goes.run ?_)
  conv => whnf
  refine ⟨rfl, ?_⟩
  refine Run.condC rfl (fun h => ?_) (fun h => ?_) <;> (conv => whnf) <;> refine ⟨rfl, ?_⟩
  · refine Run.retP ?_
    conv => whnf
    refine ⟨rfl, .ff ?_⟩
    rw [sameQ, show headD a b = true from h]
    rfl
  have hh : headD a b = false := h
  have hlen : a.t.length = b.t.length ∧ a.fields.length = b.fields.length := by
    have h := hh
    unfold headD at h
    simp only [Bool.or_eq_false_iff, bne_eq_false_iff_eq] at h
    omega
  clear h
  refine Run.loopN (ι := Nat) (fun i => i ≤ a.t.length ∧ ∀ j, j < i → a.t.getD j 0 = b.t.getD j 0) (fun i => [(2, .ptr 0 0 0 0), (3, .ptr 1 0 0 0), (5, .int .i64 (i : Int))])
    (fun i => [.box a.cells, .box b.cells]) (fun i => a.t.length - i) 0 ⟨Nat.zero_le _, fun j hj => absurd hj (Nat.not_lt_zero _)⟩ (Wk.ofEnv (Wk.cons (.refl _) (Wk.cons (.refl _) (Wk.cons (.refl _) Wk.done)))) fun i ⟨hi, hp⟩ => ?_
  conv => whnf
  refine ⟨rfl, ?_⟩
  refine Run.condC rfl (fun h => ?_) (fun h => ?_) <;> (conv => whnf) <;> refine ⟨rfl, ?_⟩
  · have hlt : i < a.t.length := by simpa using h
    refine Run.iaD rfl rfl rfl rfl rfl (fun _ => ⟨by omega, by omega⟩) rfl ?_
    conv => whnf
    refine ⟨rfl, ?_⟩
    refine Run.iaD rfl rfl rfl rfl rfl (fun _ => ⟨by omega, by omega⟩) rfl ?_
    conv => whnf
    refine ⟨rfl, ?_⟩
    refine Run.condC rfl (fun h => ?_) (fun h => ?_) <;> (conv => whnf) <;> refine ⟨rfl, ?_⟩
    · refine Run.retR ?_
      conv => whnf
      refine ⟨rfl, .ff ?_⟩
      have hne : ¬ a.t = b.t := fun e => by
        rw [e] at h
        simp at h
      rw [sameQ, show decide (a.t = b.t) = false by simpa using hne, Bool.false_and, Bool.and_false]
    · refine Run.endR ⟨i + 1, ⟨by omega, fun j hj => ?_⟩, by omega, Wk.ofEnv (Wk.cons (.refl _) (Wk.cons (.refl _) (Wk.cons (.int ?_) Wk.done)))⟩
      · by_cases e1 : j < i
        · exact hp j e1
        · obtain rfl : j = i := by omega
          exact by simpa using h
      · rw [wrap_of (by omega) (by omega)]
        simp
  · have hge : i = a.t.length := by simp at h; omega
    subst hge
    have ht : a.t = b.t := eq_of_getD hlen.1 hp
    refine Run.exitR rfl rfl ?_
    conv => whnf
    refine ⟨rfl, ?_⟩
    refine Run.loopN (ι := Nat) (fun i => i ≤ a.fields.length ∧ ∀ j, j < i → a.fields.getD j default = b.fields.getD j default) (fun i => [(2, .ptr 0 0 0 0), (3, .ptr 1 0 0 0), (6, .int .i64 (i : Int))])
      (fun i => [.box a.cells, .box b.cells]) (fun i => a.fields.length - i) 0 ⟨Nat.zero_le _, fun j hj => absurd hj (Nat.not_lt_zero _)⟩ (Wk.ofEnv (Wk.cons (.refl _) (Wk.cons (.refl _) (Wk.cons (.refl _) Wk.done)))) fun i ⟨hi, hp⟩ => ?_
    conv => whnf
    refine ⟨rfl, ?_⟩
    refine Run.condC rfl (fun h => ?_) (fun h => ?_) <;> (conv => whnf) <;> refine ⟨rfl, ?_⟩
    · have hlt : i < a.fields.length := by simpa using h
      refine Run.iaD rfl rfl rfl rfl rfl (fun _ => ⟨by omega, by omega⟩) rfl ?_
      conv => whnf
      refine ⟨rfl, ?_⟩
      refine Run.iaD rfl rfl rfl rfl rfl (fun _ => ⟨by omega, by omega⟩) rfl ?_
      conv => whnf
      refine ⟨rfl, ?_⟩
      refine Run.condC rfl (fun h => ?_) (fun h => ?_) <;> (conv => whnf) <;> refine ⟨rfl, ?_⟩
      · refine Run.retR ?_
        conv => whnf
        refine ⟨rfl, .ff ?_⟩
        have h' : (!fldB (a.fields.getD i default) (b.fields.getD i default)) = true := h
        have hne : ¬ a.fields = b.fields := fun e => by
          rw [e, fldB_eq] at h'
          simp at h'
        rw [sameQ, show decide (a.fields = b.fields) = false by simpa using hne, Bool.and_false, Bool.and_false]
      · have h' : (!fldB (a.fields.getD i default) (b.fields.getD i default)) = false := h
        refine Run.endR ⟨i + 1, ⟨by omega, fun j hj => ?_⟩, by omega, Wk.ofEnv (Wk.cons (.refl _) (Wk.cons (.refl _) (Wk.cons (.int ?_) Wk.done)))⟩
        · by_cases e1 : j < i
          · exact hp j e1
          · obtain rfl : j = i := by omega
            rw [fldB_eq] at h'
            simpa using h'
        · rw [wrap_of (by omega) (by omega)]
          simp
    · have hge : i = a.fields.length := by simp at h; omega
      subst hge
      have hfd : a.fields = b.fields := eq_of_getD hlen.2 hp
      refine Run.exitR rfl rfl ?_
      conv => whnf
      refine ⟨rfl, ?_⟩
      refine Run.retP ?_
      conv => whnf
      refine ⟨rfl, .tt ?_⟩
      rw [sameQ, hh, ht, hfd]
      simp

theorem sameQ_eq {a b : Stp} (ha : Wf6 a) (hb : Wf6 b) : sameP a b = sameQ a b := by
  unfold sameP sameQ headD
  rw [wz_eq ha.op hb.op, wz_eq ha.form hb.form, wz_eq ha.field hb.field, wz_eq ha.place hb.place, wz_eq ha.to hb.to, wz_eq ha.a hb.a, wz_eq ha.b hb.b, fldB_eq]
  rw [Bool.eq_iff_iff]
  simp only [Bool.and_eq_true, Bool.not_eq_true', Bool.or_eq_false_iff, bne_eq_false_iff_eq, decide_eq_true_eq, beq_iff_eq, negB, Bool.not_eq_false', and_true]
  constructor
  · rintro ⟨⟨⟨⟨h1, h2⟩, h3⟩, h4⟩, h5⟩
    refine ⟨?_, h1, h2⟩
    rw [h1, h2]
    simp_all
  · rintro ⟨h1, h2, h3⟩
    simp_all
end Go.Proofs.Ytbpcjahjbkiofaa.Sp

set_option linter.unusedVariables false
set_option linter.unusedSimpArgs false
namespace Go.Proofs.Ytbpcjahjbkiofaa.AV
open Go
section
variable {P : Program} {nt : Nat} {env : Env} {T : Tab} {Q : Post}

theorem Step1.callvW {o : AOper} {gs : List Bool} {f : FuncId} {gv : Opd} {L : List Opd} {rv : AV} (hop : o.op = .callv gv L) (hg : gB o.guard env = .yes gs) (ho : OKs (stripOb gs env (slots (.callv gv L))))
    (hfn : ∃ fn, P.funcs[f]? = some fn ∧ fn.body.isSome = true ∧ fn.name ≠ "runtime.NumGoroutine") (hgv : oval (stripE env env (slots (.callv gv L))) gv = .func f [])
    (hc : AllT gs → AC P f (vals (stripE env env (slots (.callv gv L))) L) T rv T) : Step1 P nt o env T (wrapW gs rv) T := by
  refine Step1.whenR hg fun hp G w ok mu a m h1 I E K Qm hq => ?_
  rw [hop] at h1
  obtain ⟨c, q, hmop, hcal, rfl, hargs⟩ := cOp_callv h1
  obtain ⟨fn, hfn, hb, hn⟩ := hfn
  have E2 := strip_env E hp ho
  obtain ⟨a1, a2⟩ := args_rv E2 hargs
  have hgv2 : RV w ok mu T false (a.eval (.tmp q)) (.func f []) := by
    have := opd_rv E2 (x := .tmp q) (X := .t q) rfl
    rwa [hgv] at this
  obtain ⟨cs, hval, c1, c2⟩ := rv_func hgv2
  have hcs : cs = #[] := Array.eq_empty_of_size_eq_zero c1
  subst hcs
  left
  unfold Oper.wp
  have hrun : (execOp a.eval m).run P w = .ok (.enter f (c.args.map a.eval)) w := by
    have := run_callFunc (P := P) (w := w) hfn hb hn (c.args.map a.eval)
    simp [execOp, hmop, resolve, hcal, hval, Deferred.ofValue, invoke, this]
  rw [hrun, Oper.upon_enter]
  refine ((hc hp).out w ok mu I.base (c.args.map a.eval) a1 a2).mono ?_
  rintro e w' ⟨v, ok', mu', rfl, N, hv⟩
  exact hq _ _ _ _ N hv

theorem stable_callvW {d : Option Nat} {g : Option (Nat × Bool)} {gs : List Bool} {f : FuncId} {gv : Opd} {L : List Opd} {rv : AV} (hg : gB g env = .yes gs) (ho : OKs (stripOb gs env (slots (.callv gv L))))
    (hfn : ∃ fn, P.funcs[f]? = some fn ∧ fn.body.isSome = true ∧ fn.name ≠ "runtime.NumGoroutine") (hgv : oval (stripE env env (slots (.callv gv L))) gv = .func f [])
    (hc : AllT gs → AC P f (vals (stripE env env (slots (.callv gv L))) L) [] rv []) (ha : pureL (vals (stripE env env (slots (.callv gv L))) L) = true) (hr : pureV rv = true) :
    Stable P nt ⟨d, .callv gv L, g⟩ ⟨rdOf env (lapp (gS g) (slots (.callv gv L))), [], wrapW gs rv, none⟩ := by
  refine ⟨fun env' T' he ht => ?_⟩
  rw [agE_rdOf] at he
  have hsl : ∀ n ∈ slots (.callv gv L), eget env' n = eget env n := fun n hn => he n (mem_lapp.2 (.inr hn))
  have hst := stripE_congr hsl
  refine Step1.callvW (f := f) (gv := gv) (L := L) rfl (by rw [gB_congr fun n hn => he n (mem_lapp.2 (.inl hn))]; exact hg) (by rw [stripOb_congr hsl]; exact ho) hfn ?_ fun hp => ?_
  · rw [← hgv]
    exact oval_congr fun n hn => hst n (mem_lapp.2 (.inl hn))
  · rw [vals_congr fun n hn => hst n (mem_lapp.2 (.inr hn))]
    exact (hc hp).lift ha hr T'

/-- A function value without captured values is called, in a region whose order is open. -/
theorem Run.callvD {k : List AItem} {d : Option Nat} {g : Option (Nat × Bool)} {r : List AOper} {b : Nat} {bm : List Nat} {hh : List HF} {gs : List Bool} {f : FuncId} {fn : Func} {gv : Opd} {L : List Opd} {rv : AV} {av : List AV} (hfn : P.funcs[f]? = some fn) (hb : (fn.body.isSome && fn.name != "runtime.NumGoroutine") = true)
    (hgv : oval (stripE env env (slots (.callv gv L))) gv = .func f []) (hv : vals (stripE env env (slots (.callv gv L))) L = av) (hg : gB g env = .yes gs) (ho : obL (stripOb gs env (slots (.callv gv L))) = obR (stripOb gs env (slots (.callv gv L))))
    (hc : AllT gs → AC P f av [] rv []) (ha : pureL av = true) (hr : pureV rv = true) (hk : chkH b 0 hh ⟨d, lapp (gS g) (slots (.callv gv L)), [], none⟩ = true)
    (h : norm rv fun rv => wrapK gs rv fun rv => happK hh ⟨d, lapp (gS g) (slots (.callv gv L)), [], none⟩ fun h1 => bindK env d rv fun e => Goes P nt Q (.dops r bm h1 :: k) e T) :
    Run P nt (.dops (⟨d, .callv gv L, g⟩ :: r) (b :: bm) hh :: k) env T Q := by
  subst hv
  rw [norm_iff, wrapK_iff, happK_iff, bindK_iff] at h
  simp only [Bool.and_eq_true, bne_iff_ne, ne_eq] at hb
  exact ⟨DO.fact (fp := []) (u := none) (stable_callvW hg (OKs.of ho) ⟨fn, hfn, hb.1, hb.2⟩ hgv hc ha hr) hk (Goes.run h).out⟩
end
end Go.Proofs.Ytbpcjahjbkiofaa.AV

set_option linter.unusedVariables false
set_option linter.unusedSimpArgs false
namespace Go.Proofs.Ytbpcjahjbkiofaa.Sp
open Go Go.Proofs.Ytbpcjahjbkiofaa.AV Go.Proofs.Ytbpcjahjbkiofaa.Fn
set_option maxRecDepth 10000

def unl (a b : List Stp) : Nat := match (List.range (min a.length b.length)).find? (fun i => !sameQ (a.getD i default) (b.getD i default)) with
  | some i => i
  | none => min a.length b.length
theorem unl_some {a b : List Stp} {i : Nat} (hi : i < min a.length b.length) (hp : ∀ j, j < i → sameQ (a.getD j default) (b.getD j default) = true) (h : sameQ (a.getD i default) (b.getD i default) = false) : unl a b = i := by
  have : (List.range (min a.length b.length)).find? (fun i => !sameQ (a.getD i default) (b.getD i default)) = some i := by
    rw [List.find?_range_eq_some]
    refine ⟨by simpa using h, List.mem_range.2 hi, fun j hj => by simpa using hp j hj⟩
  rw [unl, this]
theorem unl_none {a b : List Stp} (hp : ∀ j, j < min a.length b.length → sameQ (a.getD j default) (b.getD j default) = true) : unl a b = min a.length b.length := by
  have : (List.range (min a.length b.length)).find? (fun i => !sameQ (a.getD i default) (b.getD i default)) = none := by
    rw [List.find?_range_eq_none]
    intro j hj
    simpa using hp j hj
  rw [unl, this]
theorem unl_le (a b : List Stp) : unl a b ≤ min a.length b.length := by
  unfold unl
  split
  · rename_i i h
    rw [List.find?_range_eq_some] at h
    have := List.mem_range.1 h.2.1
    omega
  · omega

structure ListOk (l : List Stp) : Prop where
  len : l.length ≤ 1000
  wf : ∀ i, i < l.length → Wf6 (l.getD i default)
  sz : ∀ i, i < l.length → (l.getD i default).t.length ≤ 1000000 ∧ (l.getD i default).fields.length ≤ 1000000

set_option maxHeartbeats 4000000 in
theorem pair_unlike_p (a b : List Stp) (ha : ListOk a) (hb : ListOk b) : AC P pair_unlike_api_Step.id [encSs a, encSs b, .func 72 []] [] (.int .i64 (unl a b)) [] := by
  have hla := ha.len
  have hlb := hb.len
  refine pair_unlike_api_Step.intro rfl (Goes.run ?_)
  conv => whnf
  refine ⟨rfl, ?_⟩
  refine Run.loopN (ι := Nat) (fun i => i ≤ min a.length b.length ∧ ∀ j, j < i → sameQ (a.getD j default) (b.getD j default) = true) (fun i => [(0, encSs a), (1, encSs b), (2, .func 72 []), (7, .int .i64 (i : Int))])
    (fun i => []) (fun i => a.length - i) 0 ⟨Nat.zero_le _, fun j hj => absurd hj (Nat.not_lt_zero _)⟩ (Wk.ofEnv (Wk.cons (.refl _) (Wk.cons (.refl _) (Wk.cons (.refl _) (Wk.cons (.refl _) Wk.done))))) fun i ⟨hi, hp⟩ => ?_
  conv => whnf
  refine ⟨rfl, ?_⟩
  have hm : (i : Int) < (if (b.length : Int) < (a.length : Int) then (b.length : Int) else (a.length : Int)) → i < min a.length b.length := fun h => by split at h <;> omega
  have hm' : i < min a.length b.length → (i : Int) < (if (b.length : Int) < (a.length : Int) then (b.length : Int) else (a.length : Int)) := fun h => by split <;> omega
  refine Run.iaD rfl rfl rfl rfl rfl (fun hg => by have := hm (of_decide_eq_true hg.1); exact ⟨by omega, by omega⟩) rfl ?_
  conv => whnf
  refine ⟨rfl, ?_⟩
  refine Run.iaD rfl rfl rfl rfl rfl (fun hg => by have := hm (of_decide_eq_true hg.1); exact ⟨by omega, by omega⟩) rfl ?_
  conv => whnf
  refine ⟨rfl, ?_⟩
  refine Run.callvD (rv := .bool (sameQ (a.getD i default) (b.getD i default))) (av := [.agg (a.getD i default).cells, .agg (b.getD i default).cells]) Try.func72 (by kernel_rfl) rfl rfl rfl rfl (fun hg => by
    have h := hm (of_decide_eq_true hg.1)
    have := step_same_spec (a.getD i default) (b.getD i default) (ha.sz i (by omega)).1 (ha.sz i (by omega)).2
    rw [sameQ_eq (ha.wf i (by omega)) (hb.wf i (by omega))] at this
    exact this) rfl rfl rfl ?_
  conv => whnf
  refine ⟨rfl, ?_⟩
  refine Run.condC rfl (fun h => ?_) (fun h => ?_) <;> (conv => whnf) <;> refine ⟨rfl, ?_⟩
  · have h2 := (Bool.and_eq_true _ _).mp h
    have hlt := hm (of_decide_eq_true h2.1)
    refine Run.endR ⟨i + 1, ⟨by omega, fun j hj => ?_⟩, by omega, Wk.ofEnv (Wk.cons (.refl _) (Wk.cons (.refl _) (Wk.cons (.refl _) (Wk.cons (.int ?_) Wk.done))))⟩
    · by_cases e1 : j < i
      · exact hp j e1
      · obtain rfl : j = i := by omega
        exact h2.2
    · rw [wrap_of (by omega) (by omega)]
      simp
  · refine Run.exitR rfl rfl ?_
    conv => whnf
    refine ⟨rfl, ?_⟩
    refine Run.retP ?_
    conv => whnf
    refine ⟨rfl, .int ?_⟩
    by_cases hlt : i < min a.length b.length
    · have hs : sameQ (a.getD i default) (b.getD i default) = false := by
        rcases (Bool.and_eq_false_iff).mp h with h | h
        · exact absurd (hm' hlt) (of_decide_eq_false h)
        · exact h
      rw [unl_some hlt hp hs]
    · have : i = min a.length b.length := by omega
      subst this
      rw [unl_none hp]
end Go.Proofs.Ytbpcjahjbkiofaa.Sp

set_option linter.unusedVariables false
set_option linter.unusedSimpArgs false
namespace Go.Proofs.Ytbpcjahjbkiofaa.Sp
open Go Go.Proofs.Ytbpcjahjbkiofaa.AV Go.Proofs.Ytbpcjahjbkiofaa.Fn
set_option maxRecDepth 10000

def chkS (s : Sch) (l m : List Stp) : Int × Int := bif (allOn s l).2.2 != 0 then ((allOn s l).2.1, (allOn s l).2.2) else
  bif decide (unl (bkS s l).1 m < max (bkS s l).1.length m.length) then ((unl (bkS s l).1 m : Int), 18) else (0, 0)

theorem allOn_zero {s : Sch} {l : List Stp} (h : (allOn s l).2.2 = 0) : ∀ j, j < l.length → aErr s l j = 0 := by
  intro j hj
  unfold allOn at h
  split at h
  · rename_i i hi
    rw [List.find?_range_eq_some] at hi
    have := hi.1
    simp at this
    exact absurd h this
  · rename_i hn
    rw [List.find?_range_eq_none] at hn
    simpa using hn j hj
theorem bk_zero {s : Sch} {l : List Stp} (h : (allOn s l).2.2 = 0) : (bkS s l).2 = 0 ∧ (bkS s l).1 = (bL s l l.length).reverse := by
  rw [bkS_ok (allOn_zero h)]
  exact ⟨rfl, rfl⟩
theorem bk_ok {s : Sch} {l : List Stp} (hs : Small s) (hl : WayOk l) (ht : ∀ i, i < l.length → (l.getD i default).t.length ≤ 100) (h : (allOn s l).2.2 = 0) : ListOk (bkS s l).1 := by
  have hz := bkS_small hs hl ht
  refine ⟨hz.1, fun i hi => ?_, fun i hi => by have := hz.2 i hi; omega⟩
  have hb := (bk_zero h).2
  rw [hb] at hi ⊢
  have key : ∀ x ∈ (bL s l l.length).reverse, Wf6 x := fun x hx => by
    rw [List.mem_reverse] at hx
    unfold bL at hx
    rw [List.mem_map] at hx
    obtain ⟨j, hj, rfl⟩ := hx
    rw [List.mem_range] at hj
    have G := tOn_good (s := aSt s l j) (t := l.getD j default) (allOn_zero h j hj)
    have hb2 := G.b
    simp only [badOn, Bool.or_eq_false_iff, Bool.not_eq_false', decide_eq_false_iff_not] at hb2
    exact invP_wf (aSt_small hs hl j (by omega)) (hl.wf j hj) hb2.1.1.2
  rw [getD_at hi]
  exact key _ (List.getElem_mem hi)

set_option maxHeartbeats 4000000 in
theorem pair_check (s : Sch) (l m : List Stp) (hs : Small s) (hl : WayOk l) (ht : ∀ i, i < l.length → (l.getD i default).t.length ≤ 100) (hm : ListOk m) :
    AC P pair_Check.id [.agg s.cells, encSs l, encSs m] [] (.tuple [.int .i64 (chkS s l m).1, .int .i64 (chkS s l m).2]) [] := by
  have h1 := typing_all s l hs hl
  have h2 := pair_back s l hs hl
  have hC : chkS s l m = bif (allOn s l).2.2 != 0 then ((allOn s l).2.1, (allOn s l).2.2) else bif decide (unl (bkS s l).1 m < max (bkS s l).1.length m.length) then ((unl (bkS s l).1 m : Int), 18) else (0, 0) := rfl
  have hz : (allOn s l).2.2 = 0 → (bkS s l).2 = 0 ∧ ListOk (bkS s l).1 := fun h => ⟨(bk_zero h).1, bk_ok hs hl ht h⟩
  generalize (allOn s l).1 = y at h1
  generalize (allOn s l).2.1 = at_ at h1 hC
  generalize (allOn s l).2.2 = e at h1 hC hz
  generalize (bkS s l).1 = w at h2 hC hz
  generalize (bkS s l).2 = e' at h2 hz
  refine pair_Check.intro rfl (Goes.run ?_)
  conv => whnf
  refine ⟨rfl, ?_⟩
  refine Run.callC (av := [.agg s.cells, encSs l]) rfl rfl rfl (fun _ => h1) rfl rfl ?_
  conv => whnf
  refine ⟨rfl, ?_⟩
  refine Run.condC rfl (fun he => ?_) (fun he => ?_) <;> (conv => whnf) <;> refine ⟨rfl, ?_⟩
  · refine Run.retP ?_
    conv => whnf
    rw [hC, show (e != 0) = true from he, cond_true]
    exact ⟨rfl, .refl _⟩
  rw [show (e != 0) = false from he, cond_false] at hC
  obtain ⟨he', hw⟩ := hz (by simpa using he)
  subst he'
  have h3 := pair_unlike_p w m hw hm
  have hlw := hw.len
  have hlm := hm.len
  refine Run.callC (av := [.agg s.cells, encSs l]) rfl rfl rfl (fun _ => h2) rfl rfl ?_
  conv => whnf
  refine ⟨rfl, ?_⟩
  refine Run.condC rfl (fun h => ?_) (fun h => ?_) <;> (conv => whnf) <;> refine ⟨rfl, ?_⟩
  · exfalso; simp at h
  refine Run.callC (av := [encSs w, encSs m, .func 72 []]) rfl rfl rfl (fun _ => h3) rfl rfl ?_
  conv => whnf
  refine ⟨rfl, ?_⟩
  have hmx : decide ((unl w m : Int) < if (m.length : Int) > (w.length : Int) then (m.length : Int) else (w.length : Int)) = decide (unl w m < max w.length m.length) := by
    rw [Bool.eq_iff_iff]
    simp only [decide_eq_true_eq]
    split <;> omega
  refine Run.condC rfl (fun h => ?_) (fun h => ?_) <;> (conv => whnf) <;> refine ⟨rfl, ?_⟩
  · refine Run.retP ?_
    conv => whnf
    rw [hC, show decide (unl w m < max w.length m.length) = true from hmx ▸ h, cond_true]
    exact ⟨rfl, .refl _⟩
  · refine Run.retP ?_
    conv => whnf
    rw [hC, show decide (unl w m < max w.length m.length) = false from hmx ▸ h, cond_false]
    exact ⟨rfl, .refl _⟩

set_option maxHeartbeats 4000000 in
theorem r17_check (s : Sch) (l m : List Stp) (hs : Small s) (hl : WayOk l) (ht : ∀ i, i < l.length → (l.getD i default).t.length ≤ 100) (hm : ListOk m) :
    AC P R17_Check.id [.agg s.cells, encSs l, encSs m] [] (.tuple [.int .i64 (chkS s l m).1, .int .i64 (chkS s l m).2]) [] := by
  have h1 := r16_all s l hs hl
  have h2 := r17_back s l hs hl
  have hC : chkS s l m = bif (allOn s l).2.2 != 0 then ((allOn s l).2.1, (allOn s l).2.2) else bif decide (unl (bkS s l).1 m < max (bkS s l).1.length m.length) then ((unl (bkS s l).1 m : Int), 18) else (0, 0) := rfl
  have hz : (allOn s l).2.2 = 0 → (bkS s l).2 = 0 ∧ ListOk (bkS s l).1 := fun h => ⟨(bk_zero h).1, bk_ok hs hl ht h⟩
  generalize (allOn s l).1 = y at h1
  generalize (allOn s l).2.1 = at_ at h1 hC
  generalize (allOn s l).2.2 = e at h1 hC hz
  generalize (bkS s l).1 = w at h2 hC hz
  generalize (bkS s l).2 = e' at h2 hz
  refine R17_Check.intro rfl (Goes.run ?_)
  conv => whnf
  refine ⟨rfl, ?_⟩
  refine Run.callC (av := [.agg s.cells, encSs l]) rfl rfl rfl (fun _ => h1) rfl rfl ?_
  conv => whnf
  refine ⟨rfl, ?_⟩
  refine Run.condC rfl (fun he => ?_) (fun he => ?_) <;> (conv => whnf) <;> refine ⟨rfl, ?_⟩
  · refine Run.retP ?_
    conv => whnf
    rw [hC, show (e != 0) = true from he, cond_true]
    exact ⟨rfl, .refl _⟩
  rw [show (e != 0) = false from he, cond_false] at hC
  obtain ⟨he', hw⟩ := hz (by simpa using he)
  subst he'
  have hlw := hw.len
  have hlm := hm.len
  refine Run.callC (av := [.agg s.cells, encSs l]) rfl rfl rfl (fun _ => h2) rfl rfl ?_
  conv => whnf
  refine ⟨rfl, ?_⟩
  refine Run.loopN (ι := Nat) (fun i => i ≤ min w.length m.length ∧ ∀ j, j < i → sameQ (w.getD j default) (m.getD j default) = true) (fun i => [(2, encSs m), (11, encSs w), (13, .int .i64 (i : Int))])
    (fun i => [.box s.cells, .box y.cells]) (fun i => w.length - i) 0 ⟨Nat.zero_le _, fun j hj => absurd hj (Nat.not_lt_zero _)⟩ (Wk.ofEnv (Wk.cons (.refl _) (Wk.cons (.refl _) (Wk.cons (.refl _) Wk.done)))) fun i ⟨hi, hp⟩ => ?_
  conv => whnf
  refine ⟨rfl, ?_⟩
  refine Run.condC rfl (fun h => ?_) (fun h => ?_) <;> (conv => whnf) <;> refine ⟨rfl, ?_⟩
  · have h2 := (Bool.and_eq_true _ _).mp h
    have hlt : i < w.length ∧ i < m.length := by have a := of_decide_eq_true h2.1; have b := of_decide_eq_true h2.2; omega
    refine Run.iaD rfl rfl rfl rfl rfl (fun _ => ⟨by omega, by omega⟩) rfl ?_
    conv => whnf
    refine ⟨rfl, ?_⟩
    refine Run.iaD rfl rfl rfl rfl rfl (fun _ => ⟨by omega, by omega⟩) rfl ?_
    conv => whnf
    refine ⟨rfl, ?_⟩
    refine Run.callD (av := [.agg (w.getD i default).cells, .agg (m.getD i default).cells]) rfl rfl rfl (fun _ => r15_same _ _ (hw.sz i hlt.1).1 (hw.sz i hlt.1).2) rfl rfl rfl ?_
    conv => whnf
    refine ⟨rfl, ?_⟩
    refine Run.condC rfl (fun h => ?_) (fun h => ?_) <;> (conv => whnf) <;> refine ⟨rfl, ?_⟩
    · refine Run.retR ?_
      conv => whnf
      have hs : sameQ (w.getD i default) (m.getD i default) = false := by simpa using h
      rw [hC, unl_some (by omega) hp hs, show decide (i < max w.length m.length) = true by simp; omega, cond_true]
      exact ⟨rfl, .refl _⟩
    · have hs : sameQ (w.getD i default) (m.getD i default) = true := by simpa using h
      refine Run.endR ⟨i + 1, ⟨by omega, fun j hj => ?_⟩, by omega, Wk.ofEnv (Wk.cons (.refl _) (Wk.cons (.refl _) (Wk.cons (.int ?_) Wk.done)))⟩
      · by_cases e1 : j < i
        · exact hp j e1
        · obtain rfl : j = i := by omega
          exact hs
      · rw [wrap_of (by omega) (by omega)]
        simp
  · have hge : i = min w.length m.length := by
      rcases (Bool.and_eq_false_iff).mp h with h | h
      · have := of_decide_eq_false h; omega
      · have := of_decide_eq_false h; omega
    subst hge
    rw [unl_none hp] at hC
    refine Run.exitR rfl rfl ?_
    conv => whnf
    refine ⟨rfl, ?_⟩
    refine Run.condC rfl (fun h => ?_) (fun h => ?_) <;> (conv => whnf) <;> refine ⟨rfl, ?_⟩
    · have hne : w.length ≠ m.length := by simp at h; omega
      refine Run.retP ?_
      conv => whnf
      rw [hC, show decide (min w.length m.length < max w.length m.length) = true by simp; omega, cond_true]
      refine ⟨rfl, Le.tuple (.cons (.int ?_) (.cons (.refl _) .nil))⟩
      show (if (m.length : Int) < (w.length : Int) then (m.length : Int) else (w.length : Int)) = _
      split <;> omega
    · have he : w.length = m.length := by simp at h; omega
      refine Run.retP ?_
      conv => whnf
      rw [hC, show decide (min w.length m.length < max w.length m.length) = false by simp; omega, cond_false]
      exact ⟨rfl, .refl _⟩
end Go.Proofs.Ytbpcjahjbkiofaa.Sp

set_option linter.unusedVariables false
set_option linter.unusedSimpArgs false
namespace Go.Proofs.Ytbpcjahjbkiofaa.Sp
open Go Go.Proofs.Ytbpcjahjbkiofaa.AV Go.Proofs.Ytbpcjahjbkiofaa.Fn
set_option maxRecDepth 10000

/-- What is known of a step that came in. -/
structure WfT (t : Stp) : Prop where
  s : WfS t
  o : inR t.op
theorem WfT.six {t : Stp} (h : WfT t) : Wf6 t := ⟨h.o, h.s.form, h.s.field, h.s.place, h.s.to, h.s.a, h.s.b⟩
theorem lGreat_small {l : List Stp} (h : lGreat l = false) : l.length ≤ 60 ∧ ∀ i, i < l.length → (l.getD i default).t.length ≤ 100 ∧ (l.getD i default).fields.length ≤ 40 := by
  simp only [lGreat, Bool.or_eq_false_iff, decide_eq_false_iff_not] at h
  have h3 := any_range h.1
  refine ⟨by omega, fun i hi => ?_⟩
  have := h3 i (by omega)
  simp only [bigStep, Bool.or_eq_false_iff, decide_eq_false_iff_not] at this
  omega
theorem listOk_of {l : List Stp} (h : lGreat l = false) (hw : ∀ i, i < l.length → WfT (l.getD i default)) : ListOk l := by
  obtain ⟨h1, h2⟩ := lGreat_small h
  exact ⟨by omega, fun i hi => (hw i hi).six, fun i hi => by have := h2 i hi; omega⟩

set_option maxHeartbeats 4000000 in
theorem l17_PairChecks (s : Sch) (l m : List Stp) (hw : ∀ i, i < l.length → WfT (l.getD i default)) (hwm : ∀ i, i < m.length → WfT (m.getD i default)) : AC P L17_PairChecks.id [.agg s.cells, encSs l, encSs m] [] (.bool true) [] := by
  refine L17_PairChecks.intro rfl (Goes.run ?_)
  conv => whnf
  refine ⟨rfl, ?_⟩
  refine Run.callC (av := [.agg s.cells, encSs l]) rfl rfl rfl (fun _ => l17_great s l) rfl rfl ?_
  conv => whnf
  refine ⟨rfl, ?_⟩
  refine Run.callC (av := [encSs m]) rfl rfl rfl (fun _ => r15_great m) rfl rfl ?_
  conv => whnf
  refine ⟨rfl, ?_⟩
  refine Run.condC rfl (fun hg => ?_) (fun hg => ?_) <;> (conv => whnf) <;> refine ⟨rfl, ?_⟩
  · refine Run.callC (av := []) rfl rfl rfl (fun _ => l17_awake) rfl rfl ?_
    conv => whnf
    refine ⟨rfl, ?_⟩
    refine Run.retP ?_
    conv => whnf
    exact ⟨rfl, .bool rfl⟩
  have hg' : sGreat s l = false ∧ lGreat m = false := by simpa using hg
  obtain ⟨⟨q1, q2⟩, q3, q4⟩ := great_small hg'.1
  have hsm : Small s := ⟨by omega, fun i => by have := q2 i; omega⟩
  have hwo : WayOk l := ⟨by omega, fun i hi => (hw i hi).s, fun i hi => by have := (q4 i hi).1; omega, fun i hi => by have := (q4 i hi).2; omega⟩
  have hmo := listOk_of hg'.2 hwm
  have h1 := pair_check s l m hsm hwo (fun i hi => (q4 i hi).1) hmo
  have h2 := r17_check s l m hsm hwo (fun i hi => (q4 i hi).1) hmo
  generalize (chkS s l m).1 = x at h1 h2
  generalize (chkS s l m).2 = y at h1 h2
  refine Run.callC (av := [.agg s.cells, encSs l, encSs m]) rfl rfl rfl (fun _ => h1) rfl rfl ?_
  conv => whnf
  refine ⟨rfl, ?_⟩
  refine Run.callC (av := [.agg s.cells, encSs l, encSs m]) rfl rfl rfl (fun _ => h2) rfl rfl ?_
  conv => whnf
  refine ⟨rfl, ?_⟩
  refine Run.callC (av := []) rfl rfl rfl (fun _ => l17_awake) rfl rfl ?_
  conv => whnf
  refine ⟨rfl, ?_⟩
  refine Run.retP ?_
  conv => whnf
  exact ⟨rfl, .bool (by simp)⟩
end Go.Proofs.Ytbpcjahjbkiofaa.Sp

set_option linter.unusedVariables false
set_option linter.unusedSimpArgs false
namespace Go.Proofs.Ytbpcjahjbkiofaa.Sp
open Go Go.Proofs.Ytbpcjahjbkiofaa.AV Go.Proofs.Ytbpcjahjbkiofaa.Fn
set_option maxRecDepth 10000

abbrev okW (w : World) : Nat → Prop := fun b => b < w.heap.size
abbrev mu0 : Nat → Option Nat := fun _ => none

/-- Cells that are known so. -/
structure Rds (w : World) (cs : List Value) (l : List AV) : Prop where
  len : cs.length = l.length
  rv : ∀ j, j < l.length → (cs.getD j undef).oneCell' = true ∧ RV w (okW w) mu0 [] true (cs.getD j undef) (lget l j)

section
variable {w : World}
theorem Rds.nil : Rds w [] [] := ⟨rfl, fun j hj => absurd hj (by simp)⟩
theorem Rds.cons {c : Value} {cs : List Value} {x : AV} {l : List AV} (h1 : c.oneCell' = true) (hv : RV w (okW w) mu0 [] true c x) (h : Rds w cs l) : Rds w (c :: cs) (x :: l) :=
  ⟨by rw [List.length_cons, List.length_cons, h.len], fun j hj => match j with
    | 0 => ⟨h1, hv⟩
    | j + 1 => by
      have := h.rv j (by simpa using hj)
      exact this⟩
theorem Rds.int (n : Int) : Rds w [.int .i64 n] [.int .i64 n] := .cons rfl (.int _ _ _) .nil
theorem Rds.str (s : ByteArray) : Rds w [.string s] [.str s] := .cons rfl (.str _ _) .nil
theorem Rds.app {cs ds : List Value} {l m : List AV} (h : Rds w cs l) (k : Rds w ds m) : Rds w (cs ++ ds) (l ++ m) := by
  induction cs generalizing l with
  | nil =>
    cases l with
    | nil => exact k
    | cons x r => exact absurd h.len (by simp)
  | cons c cs ih =>
    cases l with
    | nil => exact absurd h.len (by simp)
    | cons x r =>
      have h0 := h.rv 0 (by simp)
      exact .cons h0.1 h0.2 (ih ⟨by simpa using h.len, fun j hj => h.rv (j + 1) (by simpa using hj)⟩)

/-- A value of a struct. -/
theorem Rds.agg {cs : Array Value} {l : List AV} (h : Rds w cs.toList l) : RV w (okW w) mu0 [] false (.agg cs) (.agg l) := by
  have e : ∀ j, cs.getD j undef = cs.toList.getD j undef := fun j => by simp [Array.getD_eq_getD_getElem?, List.getD_eq_getElem?_getD]
  exact .agg _ _ _ (by simpa using h.len) (fun j hj => by rw [e]; exact (h.rv j hj).1) fun j hj => by rw [e]; exact (h.rv j hj).2.thaw
end

section
variable {H : Type} {enc : TypeId × Value → H} {W : World} {sp : Nat → Bool} {fuel : Nat} {x : DataW H × List MemPlace}

theorem c3 : P.cellsOf 3 = 1 := by kernel_rfl
theorem cstr : P.cellsOf 9 = 1 := by kernel_rfl
theorem c26 : P.cellsOf 26 = 5 := by kernel_rfl
theorem c28 : P.cellsOf 28 = 2 := by kernel_rfl
theorem c29 : P.cellsOf 29 = 1 := by kernel_rfl
theorem c30 : P.cellsOf 30 = 1 := by kernel_rfl
theorem c22 : P.cellsOf 22 = 1 := by kernel_rfl
theorem c52 : P.cellsOf 52 = 2 := by kernel_rfl
theorem c24 : P.cellsOf 24 = 2 := by kernel_rfl
theorem c32 : P.cellsOf 32 = 16 := by kernel_rfl

theorem opn_int {cs : List Value} (h : DataW.trod enc P W 0 sp true fuel 3 cs = some x) : ∃ n, cs = [.int .i64 n] ∧ inR n := by
  obtain ⟨n, e, _, hw⟩ := DataW.trod_int Try.underlying3 h
  refine ⟨n, e, ?_⟩
  simp [Lit.wf, IntKind.min, IntKind.max, IntKind.wrap, IntKind.bits, IntKind.signed] at hw
  unfold inR
  omega

theorem opn_slice {α : Type} [Inhabited α] {en : α → List AV} {Good : α → Prop} {t e : TypeId} {sz : Nat} {cs : List Value} (ht : P.underlying t = some (.slice e)) (hc : P.cellsOf e = sz) (hsz : 0 < sz) (hen : ∀ a, (en a).length = sz)
    (ih : ∀ (n : Nat) (cs : List Value) (x : DataW H × List MemPlace), DataW.trod enc P W 0 sp true n e cs = some x → ∃ a : α, Good a ∧ Rds W cs (en a)) (h : DataW.trod enc P W 0 sp true fuel t cs = some x) :
    ∃ l : List α, (∀ i, i < l.length → Good (l.getD i default)) ∧ Rds W cs [.list sz l.length fun i => en (l.getD i default)] := by
  rcases DataW.trod_slice ht h with ⟨rfl, _⟩ | ⟨a, len, cap, elems, rest, n, rfl, rfl, rfl, hb, hl, hm, hlen, hel, hsp, hns⟩
  · exact ⟨[], fun i hi => absurd hi (by simp), .cons rfl (.list _ _ _ _ _ _ (fun _ _ => undef) (Nat.le_refl _) (Nat.zero_le _) hsz (fun h => absurd h (by simp)) (fun i hi => absurd hi (by simp)) (fun i o hi => absurd hi (by simp)) fun i o hi => absurd hi (by simp)) .nil⟩
  have each : ∀ i, ∃ b : α, i < len → Good b ∧ ∃ cs', W.cells? 0 (a.add (i * sz)) sz = some cs' ∧ Rds W cs' (en b) := fun i => by
    by_cases hi : i < len
    · have h1 := hel i hi
      rw [List.getElem?_eq_getElem (by omega), hc, Option.bind_eq_some_iff] at h1
      obtain ⟨cs', h2, h3⟩ := h1
      obtain ⟨b, h4, h5⟩ := ih _ _ _ h3
      exact ⟨b, fun _ => ⟨h4, cs', h2, h5⟩⟩
    · exact ⟨default, fun h => absurd h hi⟩
  obtain ⟨g, hg⟩ := Classical.skolem.1 each
  have hgl : ∀ i, i < len → ((List.range len).map g).getD i default = g i := fun i hi => by simp [List.getD_eq_getElem?_getD, hi]
  have hll : ((List.range len).map g).length = len := by simp
  have hspot : 0 < len → a.spot = none ∧ a.block < W.heap.size := fun h0 => by
    obtain ⟨_, cs', h2, h3⟩ := hg 0 h0
    obtain ⟨_, h4, h5⟩ := World.cells?_some h2
    have h6 := h5 0 hsz
    rw [Nat.zero_mul] at h6
    have h7 : W.cell? a = some (cs'[0]'(by omega)) := by
      have : (a.add 0).add 0 = a := by simp [Addr.add]
      rw [this] at h6
      rw [h6, List.getElem?_eq_getElem (by omega)]
    unfold World.cell? at h7
    split at h7
    · rename_i c _ _ hh
      refine ⟨?_, ?_⟩
      · cases hs : a.spot with
        | none => rfl
        | some q => rw [hs] at h7; simp at h7
      · exact (Array.getElem?_eq_some_iff.1 hh).1
    · simp at h7
  have hcell : ∀ i o, i < len → o < sz → ∃ v, W.cell? ⟨a.block, a.off + (i * sz + o), none⟩ = some v ∧ v.oneCell' = true ∧ RV W (okW W) mu0 [] true v (lget (en (g i)) o) := fun i o hi ho => by
    obtain ⟨_, cs', h2, h3⟩ := hg i hi
    obtain ⟨_, h4, h5⟩ := World.cells?_some h2
    have h6 := h5 o ho
    have h7 := h3.rv o (by rw [hen]; exact ho)
    have e : (a.add (i * sz)).add o = ⟨a.block, a.off + (i * sz + o), none⟩ := by
      have hs := (hspot (by omega)).1
      cases a with
      | mk b off s =>
        simp only at hs
        subst hs
        unfold Addr.add
        split <;> split <;> simp <;> omega
    rw [e, List.getElem?_eq_getElem (by omega)] at h6
    refine ⟨cs'[o]'(by omega), h6, ?_⟩
    rwa [List.getD_eq_getElem?_getD, List.getElem?_eq_getElem (by omega)] at h7
  refine ⟨(List.range len).map g, fun i hi => ?_, ?_⟩
  · rw [hll] at hi
    rw [hgl i hi]
    exact (hg i hi).1
  · rw [hll]
    refine .cons rfl (.list _ _ _ _ _ _ (fun i o => (W.cell? ⟨a.block, a.off + (i * sz + o), none⟩).getD undef) hl hm hsz (fun h0 => ?_) (fun i hi => by rw [hen]) (fun i o hi ho => ?_) fun i o hi ho => ?_) .nil
    · obtain ⟨hs, hlt⟩ := hspot h0
      refine ⟨a.block, a.off, ?_, hlt, fun i o hi ho => ?_⟩
      · cases a; simp only at hs; subst hs; rfl
      · obtain ⟨v, h1, _⟩ := hcell i o hi ho
        rw [h1]; rfl
    · obtain ⟨v, h1, h2, _⟩ := hcell i o hi ho
      rw [h1]; exact h2
    · obtain ⟨v, h1, _, h3⟩ := hcell i o hi ho
      rw [h1, hgl i hi]; exact h3

theorem fld_at {fs : Array Field} {xs : List (DataW H × List MemPlace)} {n : Nat} {cs : List Value} (hx : xs.length = fs.size)
    (hf : ∀ (i : Nat) (f : Field), fs[i]? = some f → DataW.trod enc P W 0 sp true n f.type ((cs.drop f.offset).take (P.cellsOf f.type)) = xs[i]?) (i off : Nat) {ty : TypeId} {sz : Nat} (hc : P.cellsOf ty = sz) (h : (fs[i]?).map (fun f => (f.type, f.offset)) = some (ty, off)) :
    ∃ y, DataW.trod enc P W 0 sp true n ty ((cs.drop off).take sz) = some y := by
  rw [Option.map_eq_some_iff] at h
  obtain ⟨f, h1, h2⟩ := h
  injection h2 with h3 h4
  have hi : i < xs.length := by rw [hx]; exact (Array.getElem?_eq_some_iff.1 h1).1
  have := (hf i f h1).trans (List.getElem?_eq_getElem hi)
  rw [h3, h4, hc] at this
  exact ⟨_, this⟩

theorem opn_fld {cs : List Value} (h : DataW.trod enc P W 0 sp true fuel 26 cs = some x) : ∃ f : Fld, True ∧ Rds W cs f.cells := by
  obtain ⟨xs, n, rfl, rfl, hlen, hxs, hf⟩ := DataW.trod_struct Try.underlying26 h
  rw [c26] at hlen
  have F := fld_at hxs hf
  match cs, hlen with
  | [a0, a1, a2, a3, a4], _ =>
    obtain ⟨_, g0⟩ := F 0 0 c3 rfl
    obtain ⟨_, g1⟩ := F 1 1 c3 rfl
    obtain ⟨_, g2⟩ := F 2 2 c3 rfl
    obtain ⟨_, g3⟩ := F 3 3 c3 rfl
    obtain ⟨_, g4⟩ := F 4 4 c3 rfl
    obtain ⟨n0, e0, _⟩ := opn_int g0
    obtain ⟨n1, e1, _⟩ := opn_int g1
    obtain ⟨n2, e2, _⟩ := opn_int g2
    obtain ⟨n3, e3, _⟩ := opn_int g3
    obtain ⟨n4, e4, _⟩ := opn_int g4
    obtain rfl : a0 = .int .i64 n0 := by simpa using e0
    obtain rfl : a1 = .int .i64 n1 := by simpa using e1
    obtain rfl : a2 = .int .i64 n2 := by simpa using e2
    obtain rfl : a3 = .int .i64 n3 := by simpa using e3
    obtain rfl : a4 = .int .i64 n4 := by simpa using e4
    exact ⟨⟨n0, n1, n2, n3, n4⟩, trivial, .cons rfl (.int _ _ _) (.cons rfl (.int _ _ _) (.cons rfl (.int _ _ _) (.cons rfl (.int _ _ _) (.cons rfl (.int _ _ _) .nil))))⟩

theorem opn_flds {cs : List Value} (h : DataW.trod enc P W 0 sp true fuel 30 cs = some x) : ∃ l : List Fld, Rds W cs [encFs l] := by
  obtain ⟨l, _, h⟩ := opn_slice (en := Fld.cells) (Good := fun _ => True) Try.underlying30 c26 (by omega) (fun _ => rfl) (fun n cs x h => opn_fld h) h
  exact ⟨l, h⟩
theorem opn_ints {cs : List Value} (h : DataW.trod enc P W 0 sp true fuel 29 cs = some x) : ∃ l : List Int, Rds W cs [encIs l] := by
  obtain ⟨l, _, h⟩ := opn_slice (en := fun n : Int => [AV.int .i64 n]) (Good := fun _ => True) Try.underlying29 c3 (by omega) (fun _ => rfl) (fun n cs x h => by
    obtain ⟨n, rfl, _⟩ := opn_int h
    exact ⟨n, trivial, .int n⟩) h
  exact ⟨l, h⟩

theorem opn_frm {cs : List Value} (h : DataW.trod enc P W 0 sp true fuel 52 cs = some x) : ∃ f : Frm, True ∧ Rds W cs f.cells := by
  obtain ⟨xs, n, rfl, rfl, hlen, hxs, hf⟩ := DataW.trod_struct Try.underlying52 h
  rw [c52] at hlen
  have F := fld_at hxs hf
  match cs, hlen with
  | [a0, a1], _ =>
    obtain ⟨_, g0⟩ := F 0 0 c3 rfl
    obtain ⟨_, g1⟩ := F 1 1 c30 rfl
    obtain ⟨n0, e0, _⟩ := opn_int g0
    obtain ⟨l, e1⟩ := opn_flds g1
    obtain rfl : a0 = .int .i64 n0 := by simpa using e0
    exact ⟨⟨n0, l⟩, trivial, .app (.int n0) e1⟩

theorem opn_sch {cs : List Value} (h : DataW.trod enc P W 0 sp true fuel 24 cs = some x) : ∃ s : Sch, True ∧ Rds W cs s.cells := by
  obtain ⟨xs, n, rfl, rfl, hlen, hxs, hf⟩ := DataW.trod_struct Try.underlying24 h
  rw [c24] at hlen
  have F := fld_at hxs hf
  match cs, hlen with
  | [a0, a1], _ =>
    obtain ⟨_, g0⟩ := F 0 0 c3 rfl
    obtain ⟨_, g1⟩ := F 1 1 c22 rfl
    obtain ⟨n0, e0, _⟩ := opn_int g0
    obtain rfl : a0 = .int .i64 n0 := by simpa using e0
    obtain ⟨l, _, e1⟩ := opn_slice (en := Frm.cells) (Good := fun _ => True) Try.underlying22 c52 (by omega) (fun _ => rfl) (fun n cs x h => opn_frm h) g1
    exact ⟨⟨n0, l⟩, trivial, .app (.int n0) e1⟩

theorem opn_val {cs : List Value} (h : DataW.trod enc P W 0 sp true fuel 28 cs = some x) : ∃ (n : Int) (s : ByteArray), Rds W cs [.int .i64 n, .str s] := by
  obtain ⟨xs, n, rfl, rfl, hlen, hxs, hf⟩ := DataW.trod_struct Try.underlying28 h
  rw [c28] at hlen
  have F := fld_at hxs hf
  match cs, hlen with
  | [a0, a1], _ =>
    obtain ⟨_, g0⟩ := F 0 0 c3 rfl
    obtain ⟨_, g1⟩ := F 1 1 cstr rfl
    obtain ⟨n0, e0, _⟩ := opn_int g0
    obtain rfl : a0 = .int .i64 n0 := by simpa using e0
    obtain ⟨s, e1, _⟩ := DataW.trod_string Try.underlying9 g1
    obtain rfl : a1 = .string s := by simpa using e1
    exact ⟨n0, s, .app (.int n0) (.str s)⟩

theorem opn_stpO {cs : List Value} (h : DataW.trod enc P W 0 sp true fuel 32 cs = some x) : ∃ t : Stp, (WfS t ∧ inR t.op) ∧ Rds W cs t.cells := by
  obtain ⟨xs, n, rfl, rfl, hlen, hxs, hf⟩ := DataW.trod_struct Try.underlying32 h
  rw [c32] at hlen
  have F := fld_at hxs hf
  match cs, hlen with
  | [a0, a1, a2, a3, a4, a5, a6, a7, a8, a9, a10, a11, a12, a13, a14, a15], _ =>
    obtain ⟨_, g0⟩ := F 0 0 c3 rfl
    obtain ⟨_, g1⟩ := F 1 1 c3 rfl
    obtain ⟨_, g2⟩ := F 2 2 c3 rfl
    obtain ⟨_, g3⟩ := F 3 3 c3 rfl
    obtain ⟨_, g4⟩ := F 4 4 c3 rfl
    obtain ⟨_, g5⟩ := F 5 5 c3 rfl
    obtain ⟨_, g6⟩ := F 6 6 c3 rfl
    obtain ⟨_, g7⟩ := F 7 7 c26 rfl
    obtain ⟨_, g8⟩ := F 8 12 c28 rfl
    obtain ⟨_, g9⟩ := F 9 14 c29 rfl
    obtain ⟨_, g10⟩ := F 10 15 c30 rfl
    obtain ⟨n0, e0, w0⟩ := opn_int g0
    obtain ⟨n1, e1, w1⟩ := opn_int g1
    obtain ⟨n2, e2, w2⟩ := opn_int g2
    obtain ⟨n3, e3, w3⟩ := opn_int g3
    obtain ⟨n4, e4, w4⟩ := opn_int g4
    obtain ⟨n5, e5, w5⟩ := opn_int g5
    obtain ⟨n6, e6, w6⟩ := opn_int g6
    obtain ⟨f, _, e7⟩ := opn_fld g7
    obtain ⟨vn, vs, e8⟩ := opn_val g8
    obtain ⟨l, e9⟩ := opn_ints g9
    obtain ⟨fl, e10⟩ := opn_flds g10
    obtain rfl : a0 = .int .i64 n0 := by simpa using e0
    obtain rfl : a1 = .int .i64 n1 := by simpa using e1
    obtain rfl : a2 = .int .i64 n2 := by simpa using e2
    obtain rfl : a3 = .int .i64 n3 := by simpa using e3
    obtain rfl : a4 = .int .i64 n4 := by simpa using e4
    obtain rfl : a5 = .int .i64 n5 := by simpa using e5
    obtain rfl : a6 = .int .i64 n6 := by simpa using e6
    exact ⟨⟨n0, n1, n2, n3, n4, n5, n6, f, vn, vs, l, fl⟩, ⟨⟨w1, w2, w3, w4, w5, w6⟩, w0⟩,
      .app (.int n0) (.app (.int n1) (.app (.int n2) (.app (.int n3) (.app (.int n4) (.app (.int n5) (.app (.int n6) (.app e7 (.app e8 (.app e9 e10)))))))))⟩
theorem opn_stp {cs : List Value} (h : DataW.trod enc P W 0 sp true fuel 32 cs = some x) : ∃ t : Stp, WfS t ∧ Rds W cs t.cells := by
  obtain ⟨t, h1, h2⟩ := opn_stpO h
  exact ⟨t, h1.1, h2⟩
end

/-- A struct argument. -/
theorem opn_arg {H : Type} {enc : TypeId × Value → H} {W : World} {sp : Nat → Bool} {α : Type} {en : α → List AV} {Good : α → Prop} {t : TypeId} {fs : Array Field} {r : Reach} {b0 : Nat} {v : Value} {d : DataW H} {ps : List MemPlace} (ht : P.underlying t = some (.struct fs))
    (hval : Value.okWide P W r b0 t v) (ho : ∀ (n : Nat) (cs : List Value) (x : DataW H × List MemPlace), DataW.trod enc P W 0 sp true n t cs = some x → ∃ a : α, Good a ∧ Rds W cs (en a)) (h : DataW.Trod enc P W 0 sp true t v d ps) :
    ∃ a : α, Good a ∧ RV W (okW W) mu0 [] false v (.agg (en a)) := by
  obtain ⟨cs, rfl, _⟩ := WideShapes.okWide_struct ht hval
  obtain ⟨fuel, hf⟩ := h
  obtain ⟨a, h1, h2⟩ := ho _ _ _ hf
  exact ⟨a, h1, h2.agg⟩
/-- A slice argument. -/
theorem opn_sl {H : Type} {enc : TypeId × Value → H} {W : World} {sp : Nat → Bool} {α : Type} [Inhabited α] {en : α → List AV} {Good : α → Prop} {t e : TypeId} {sz : Nat} {r : Reach} {b0 : Nat} {v : Value} {d : DataW H} {ps : List MemPlace} (ht : P.underlying t = some (.slice e)) (hc : P.cellsOf e = sz) (hsz : 0 < sz) (hen : ∀ a, (en a).length = sz)
    (hval : Value.okWide P W r b0 t v) (ho : ∀ (n : Nat) (cs : List Value) (x : DataW H × List MemPlace), DataW.trod enc P W 0 sp true n e cs = some x → ∃ a : α, Good a ∧ Rds W cs (en a)) (h : DataW.Trod enc P W 0 sp true t v d ps) :
    ∃ l : List α, (∀ i, i < l.length → Good (l.getD i default)) ∧ RV W (okW W) mu0 [] false v (.list sz l.length fun i => en (l.getD i default)) := by
  obtain ⟨a, len, cap, rfl⟩ := WideShapes.okWide_slice ht hval
  obtain ⟨fuel, hf⟩ := h
  obtain ⟨l, h1, h2⟩ := opn_slice ht hc hsz hen ho hf
  exact ⟨l, h1, (h2.rv 0 (by simp)).2.thaw⟩

/-- A contract over no table, over a world. -/
theorem AC.below {f : FuncId} {args : List AV} {b : Bool} {W : World} {vs : Array Value} (h : AC P f args [] (.bool b) []) (hs : vs.size = args.length) (hv : ∀ j, j < args.length → RV W (okW W) mu0 [] false (vs.getD j undef) (lget args j)) :
    Calls P f vs W fun e w' => e = .returned (.bool b) ∧ RowKit.Below W.heap.size W w' := by
  refine (h.out W (okW W) mu0 (Inv.empty mu0 fun b hb => hb) vs hs hv).mono fun e w' ⟨v, ok', mu', he, N, hr⟩ => ?_
  refine ⟨?_, N.os, N.tape, N.output, N.size, fun k hk => N.keep k hk fun i hi => by cases hi⟩
  rw [he]
  cases hr
  rfl
end Go.Proofs.Ytbpcjahjbkiofaa.Sp

set_option linter.unusedVariables false
set_option linter.unusedSimpArgs false
namespace Go.Proofs.Ytbpcjahjbkiofaa.Sp
open Go Go.Proofs.Ytbpcjahjbkiofaa.AV Go.Proofs.Ytbpcjahjbkiofaa.Fn
theorem opn_stpT {H : Type} {enc : TypeId × Value → H} {W : World} {sp : Nat → Bool} {fuel : Nat} {x : DataW H × List MemPlace} {cs : List Value} (h : DataW.trod enc P W 0 sp true fuel 32 cs = some x) : ∃ t : Stp, WfT t ∧ Rds W cs t.cells := by
  obtain ⟨t, h1, h2⟩ := opn_stpO h
  exact ⟨t, ⟨h1.1, h1.2⟩, h2⟩
end Go.Proofs.Ytbpcjahjbkiofaa.Sp

set_option linter.unusedVariables false
set_option linter.unusedSimpArgs false
namespace Go.Proofs.Ytbpcjahjbkiofaa.Sp
open Go Go.Proofs.Ytbpcjahjbkiofaa.AV Go.Proofs.Ytbpcjahjbkiofaa.Fn
set_option maxRecDepth 10000

def slQ (a b : List Stp) : Bool := decide (a.length = b.length) && decide (unl a b = a.length)
set_option maxHeartbeats 4000000 in
theorem r15_sameList (a b : List Stp) (hla : a.length ≤ 1000) (hb : b.length ≤ 100000) (hsz : ∀ i, i < a.length → (a.getD i default).t.length ≤ 1000000 ∧ (a.getD i default).fields.length ≤ 1000000) : AC P R15_SameList.id [encSs a, encSs b] [] (.bool (slQ a b)) [] := by
  refine R15_SameList.intro rfl (Goes.run ?_)
  conv => whnf
  refine ⟨rfl, ?_⟩
  refine Run.condC rfl (fun h => ?_) (fun h => ?_) <;> (conv => whnf) <;> refine ⟨rfl, ?_⟩
  · refine Run.retP ?_
    conv => whnf
    refine ⟨rfl, .ff ?_⟩
    have : ¬ a.length = b.length := by simp at h; omega
    rw [slQ, show decide (a.length = b.length) = false by simpa using this, Bool.false_and]
  have hl : a.length = b.length := by simp at h; omega
  have hm : min a.length b.length = a.length := by omega
  clear h
  refine Run.loopN (ι := Nat) (fun i => i ≤ a.length ∧ ∀ j, j < i → sameQ (a.getD j default) (b.getD j default) = true) (fun i => [(0, encSs a), (1, encSs b), (5, .int .i64 (i : Int))])
    (fun i => []) (fun i => a.length - i) 0 ⟨Nat.zero_le _, fun j hj => absurd hj (Nat.not_lt_zero _)⟩ (Wk.ofEnv (Wk.cons (.refl _) (Wk.cons (.refl _) (Wk.cons (.refl _) Wk.done)))) fun i ⟨hi, hp⟩ => ?_
  conv => whnf
  refine ⟨rfl, ?_⟩
  refine Run.condC rfl (fun h => ?_) (fun h => ?_) <;> (conv => whnf) <;> refine ⟨rfl, ?_⟩
  · have hlt : i < a.length := by simpa using h
    refine Run.iaD rfl rfl rfl rfl rfl (fun _ => ⟨by omega, by omega⟩) rfl ?_
    conv => whnf
    refine ⟨rfl, ?_⟩
    refine Run.iaD rfl rfl rfl rfl rfl (fun _ => ⟨by omega, by omega⟩) rfl ?_
    conv => whnf
    refine ⟨rfl, ?_⟩
    refine Run.callD (av := [.agg (a.getD i default).cells, .agg (b.getD i default).cells]) rfl rfl rfl (fun _ => r15_same _ _ (hsz i hlt).1 (hsz i hlt).2) rfl rfl rfl ?_
    conv => whnf
    refine ⟨rfl, ?_⟩
    refine Run.condC rfl (fun h => ?_) (fun h => ?_) <;> (conv => whnf) <;> refine ⟨rfl, ?_⟩
    · refine Run.retR ?_
      conv => whnf
      refine ⟨rfl, .ff ?_⟩
      rw [slQ, unl_some (by omega) hp (by simpa using h), show decide (i = a.length) = false by simp; omega, Bool.and_false]
    · refine Run.endR ⟨i + 1, ⟨by omega, fun j hj => ?_⟩, by omega, Wk.ofEnv (Wk.cons (.refl _) (Wk.cons (.refl _) (Wk.cons (.int ?_) Wk.done)))⟩
      · by_cases e1 : j < i
        · exact hp j e1
        · obtain rfl : j = i := by omega
          simpa using h
      · rw [wrap_of (by omega) (by omega)]
        simp
  · have hge : i = a.length := by simp at h; omega
    subst hge
    refine Run.exitR rfl rfl ?_
    conv => whnf
    refine ⟨rfl, ?_⟩
    refine Run.retP ?_
    conv => whnf
    refine ⟨rfl, .tt ?_⟩
    rw [slQ, unl_none (by rw [hm]; exact hp), hm, show decide (a.length = b.length) = true by simpa using hl]
    simp

theorem sameQ_self (a : Stp) : sameQ a a = true := by
  unfold sameQ headD
  rw [fldB_eq]
  simp [negB, ba_self]
theorem unl_self (a : List Stp) : unl a a = a.length := by
  rw [unl_none fun j _ => sameQ_self _]
  omega
/-- A list is one with another where no place tells them apart. -/
theorem slQ_iff (a b : List Stp) : slQ a b = !decide (unl a b < max a.length b.length) := by
  have := unl_le a b
  unfold slQ
  rw [Bool.eq_iff_iff]
  simp only [Bool.and_eq_true, decide_eq_true_eq, Bool.not_eq_true', decide_eq_false_iff_not]
  omega
theorem chk_self {s : Sch} {l : List Stp} (h : (allOn s l).2.2 = 0) : chkS s l (bkS s l).1 = (0, 0) := by
  unfold chkS
  rw [h, unl_self]
  simp
theorem chk_other {s : Sch} {l m : List Stp} (h : (allOn s l).2.2 = 0) : ((chkS s l m).2 == 0) = slQ (bkS s l).1 m := by
  rw [slQ_iff]
  unfold chkS
  rw [h]
  cases decide (unl (bkS s l).1 m < max (bkS s l).1.length m.length) <;> rfl
theorem chk_bad {s : Sch} {l m : List Stp} (h : (allOn s l).2.2 ≠ 0) : chkS s l m = ((allOn s l).2.1, (allOn s l).2.2) := by
  unfold chkS
  rw [show ((allOn s l).2.2 != 0) = true by simpa using h]
  rfl
theorem bk_bad {s : Sch} {l : List Stp} (h : (allOn s l).2.2 ≠ 0) : (bkS s l).1 = [] ∧ (bkS s l).2 = (allOn s l).2.2 := by
  unfold allOn at h ⊢
  unfold bkS
  split
  · rename_i i hi
    rw [hi]
    exact ⟨rfl, rfl⟩
  · rename_i hn
    rw [hn] at h
    exact absurd rfl h
end Go.Proofs.Ytbpcjahjbkiofaa.Sp

set_option linter.unusedVariables false
set_option linter.unusedSimpArgs false
namespace Go.Proofs.Ytbpcjahjbkiofaa.Sp
open Go Go.Proofs.Ytbpcjahjbkiofaa.AV Go.Proofs.Ytbpcjahjbkiofaa.Fn
set_option maxRecDepth 10000

theorem right_of {x : Stp} (hu : negB false ((usesS x.op).toList == (ByteArray.mk #[]).toList) = false) (hz : zeroB x = true) (h1 : btw x.form 0 200 = true) (h2 : btw x.field 0 255 = true) (h3 : btw x.place 0 8 = true) (h4 : btw x.to 0 255 = true) (h5 : numB x = true)
    (h6 : bad2 x = false) (h7 : bad3 x = false) (h8 : bad4 x = false) (h9 : bad5 x = false) (h10 : (!hasB x.op 76 || fFine ⟨x.form, x.fields⟩) = true) : stRight x = true := by
  simp only [stRight, bad1, hu, hz, h1, h2, h3, h4, h5, h6, h7, h8, h9, h10, Bool.not_true, Bool.not_false, Bool.or_self, Bool.and_self]
structure StAll (t : Stp) : Prop where
  form : btw t.form 0 200 = true
  field : btw t.field 0 255 = true
  to : btw t.to 0 255 = true
  num : numB t = true
  b2 : bad2 t = false
theorem st_all {t : Stp} (h : stRight t = true) : StAll t := by
  simp only [stRight, Bool.and_eq_true, Bool.not_eq_true'] at h
  obtain ⟨h1, h2, _⟩ := h
  simp only [bad1, Bool.or_eq_false_iff, Bool.not_eq_false'] at h1
  obtain ⟨⟨⟨⟨⟨⟨u1, u2⟩, u3⟩, u4⟩, u5⟩, u6⟩, u7⟩ := h1
  exact ⟨u3, u4, u6, u7, h2⟩
theorem ownA_btw {s : Sch} (hs : sRight s = true) (id fid : Int) : btw (ownA (fmG s.forms id).fields fid) 0 8 = true := by
  unfold ownA btw
  split
  · rename_i a ha
    have h1 := fAt_lt ha
    have h2 : (fmG s.forms id).fields.length ≤ 8 := by
      unfold fmG
      split
      · exact (sRight_len hs).2 _
      · exact Nat.zero_le _
    simp
    omega
  · decide
theorem tabB_mono {l : List Int} {a b : Int} (h : tabB l a = true) (hab : a ≤ b) : tabB l b = true := by
  simp only [tabB, Bool.and_eq_true, List.all_eq_true, List.mem_range] at h ⊢
  refine ⟨fun i hi => ?_, h.2⟩
  have := h.1 i hi
  simp only [tabAt, btw, Bool.and_eq_true, decide_eq_true_eq] at this ⊢
  exact ⟨⟨this.1.1, by omega⟩, this.2⟩
/-- What is known of the field that a step names. -/
structure OwnOk (s : Sch) (t : Stp) : Prop where
  r : fRight (ownF (fmG s.forms t.form).fields t.field) = true
  id : (ownF (fmG s.forms t.form).fields t.field).id = t.field
theorem own_ok {s : Sch} {t : Stp} (h : TOk s t) (h9 : (t.op == 9) = false) (h10 : (t.op == 10) = false) (h1 : (t.op == 1) = false) : OwnOk s t := by
  have hb2 := h.b
  simp only [badOn, Bool.or_eq_false_iff, Bool.not_eq_false', decide_eq_false_iff_not] at hb2
  obtain ⟨⟨⟨hsr, hst⟩, _⟩, _⟩ := hb2
  obtain ⟨a, ha, hlt⟩ := (nm_ok h).a h9 h10 h1
  obtain ⟨k, hk, hkl, hkx⟩ := (nm_ok h).f h9
  have e : ownF (fmG s.forms t.form).fields t.field = (fmG s.forms t.form).fields.getD a default := by simp only [ownF, ha]
  rw [hkx] at ha hlt e
  refine ⟨?_, ?_⟩
  · rw [hkx, e]
    exact fFine_fld (sRight_fine hsr hkl) hlt
  · rw [hkx, e]
    unfold fAt at ha
    rw [List.findIdx?_eq_some_iff_getElem] at ha
    obtain ⟨_, h1, _⟩ := ha
    rw [getD_at hlt]
    simpa using h1
theorem own_has {s : Sch} {t : Stp} (h : TOk s t) (h2 : t.op = 2) (h0 : (tOn s t).2 = 0) : fHas (ownF (fmG s.forms t.form).fields t.field) t.vn t.vs = true := by
  have hr := on_eq s t
  have h0' : (rOn s t).2 = 0 := by rw [hr]; exact h0
  have hb2 := h.b
  have hsr0 := hb2
  simp only [badOn, Bool.or_eq_false_iff, Bool.not_eq_false', decide_eq_false_iff_not] at hsr0
  have hnm : nmErr s.forms t = 0 := by rw [err_eq (sRight_srt hsr0.1.1.1) (st_r hsr0.1.1.2)]; exact h.th
  unfold rOn at h0'
  rw [bad_eq, hb2, hnm] at h0'
  have h3 : is3 t = false := by simp only [is3, h2]; decide
  rw [h3] at h0'
  simp only [cond_false, Bool.not_false, Bool.true_and] at h0'
  have ho : tyO (rF s.forms t) t = true := by
    cases hq : tyO (rF s.forms t) t with
    | true => rfl
    | false => rw [hq] at h0'; simp at h0'
  obtain ⟨k, hk, hrk, hkl, n1, _⟩ := nm_facts hnm (by rw [h2]; decide)
  obtain ⟨g1, g2⟩ := nm_at n1 h3
  have e : (fmG s.forms t.form).fields = rFs s.forms t := by simp only [fmG, hk, rFs, hrk]
  have e2 : ownF (fmG s.forms t.form).fields t.field = rF s.forms t := by rw [e]; simp only [ownF, g1, rF]
  rw [e2]
  unfold tyO at ho
  rw [h2] at ho
  exact ho

theorem inv_right {s : Sch} {t : Stp} (h0 : (tOn s t).2 = 0) : stRight (invP s t) = true := by
  have h := tOn_good h0
  have hb2 := h.b
  simp only [badOn, Bool.or_eq_false_iff, Bool.not_eq_false', decide_eq_false_iff_not] at hb2
  obtain ⟨⟨⟨hsr, hst⟩, b1⟩, b2⟩ := hb2
  have hA := ownA_btw hsr t.form t.field
  have S := st_all hst
  have hOwn := own_ok h
  have hHas := fun e => own_has h e h0
  have hf0 := st_f0 hst
  have hcase : t.op = 1 ∨ t.op = 2 ∨ t.op = 3 ∨ t.op = 4 ∨ t.op = 5 ∨ t.op = 6 ∨ t.op = 7 ∨ t.op = 8 ∨ t.op = 9 ∨ t.op = 10 := by omega
  have hfr : t.op = 1 → fRight t.f = true := fun e => by
    have := S.b2
    unfold bad2 at this
    rw [e] at this
    rw [show hasB 1 70 = true by decide, show hasB 1 116 = false by decide] at this
    simpa using this
  have hne : t.op = 6 ∨ t.op = 8 → (t.to == t.field) = false := fun e => by
    have := S.b2
    unfold bad2 at this
    rcases e with e | e <;> rw [e] at this
    · rw [show hasB 6 70 = false by decide, show hasB 6 116 = true by decide] at this
      simpa using this
    · rw [show hasB 8 70 = false by decide, show hasB 8 116 = true by decide] at this
      simpa using this
  have hnum := S.num
  rw [← invR_eq h]
  unfold invR
  have hz : (ByteArray.empty == ByteArray.mk #[]) = true := ba_self _
  rcases hcase with e | e | e | e | e | e | e | e | e | e
  · simp only [e, Int.reduceBEq, cond_true, cond_false]
    have R := fRight_cases (hfr e)
    refine right_of (show negB false ((usesS 21).toList == (ByteArray.mk #[]).toList) = false by kernel_rfl) ?_ S.form (by simp only [btw]; simp; omega) (show btw 0 0 8 = true by decide) (show btw 0 0 255 = true by decide) ?_ ?_ ?_ ?_ ?_ ?_
    · simp only [zeroB, zStp, show hasB 21 100 = true by decide, show hasB 21 112 = false by decide, show hasB 21 116 = false by decide, show hasB 21 97 = false by decide, show hasB 21 98 = false by decide, show hasB 21 70 = false by decide, show hasB 21 86 = false by decide, show hasB 21 84 = false by decide, show hasB 21 76 = false by decide, Bool.true_or, Bool.false_or, Bool.or_true, Bool.and_true, Bool.true_and, Bool.or_false]
      first | done | rfl | (simp only [hz]; rfl) | (simp [hz, fZero, zF]; done)
    · rfl
    · simp only [bad2, zStp, show hasB 21 100 = true by decide, show hasB 21 112 = false by decide, show hasB 21 116 = false by decide, show hasB 21 97 = false by decide, show hasB 21 98 = false by decide, show hasB 21 70 = false by decide, show hasB 21 86 = false by decide, show hasB 21 84 = false by decide, show hasB 21 76 = false by decide, Bool.false_and, Bool.true_and, Bool.not_true, Bool.and_false, Bool.or_false, Bool.false_or, Bool.or_self]
    · simp only [bad3, zStp, show hasB 21 100 = true by decide, show hasB 21 112 = false by decide, show hasB 21 116 = false by decide, show hasB 21 97 = false by decide, show hasB 21 98 = false by decide, show hasB 21 70 = false by decide, show hasB 21 86 = false by decide, show hasB 21 84 = false by decide, show hasB 21 76 = false by decide, Bool.false_and, Bool.true_and, Bool.not_true, Bool.and_false, Bool.or_false, Bool.false_or, Bool.or_self]
    · rfl
    · simp only [bad5, zStp, show hasB 21 100 = true by decide, show hasB 21 112 = false by decide, show hasB 21 116 = false by decide, show hasB 21 97 = false by decide, show hasB 21 98 = false by decide, show hasB 21 70 = false by decide, show hasB 21 86 = false by decide, show hasB 21 84 = false by decide, show hasB 21 76 = false by decide, Bool.false_and, Bool.true_and, Bool.not_true, Bool.and_false, Bool.or_false, Bool.false_or, Bool.or_self]
    · simp only [zStp, show hasB 21 100 = true by decide, show hasB 21 112 = false by decide, show hasB 21 116 = false by decide, show hasB 21 97 = false by decide, show hasB 21 98 = false by decide, show hasB 21 70 = false by decide, show hasB 21 86 = false by decide, show hasB 21 84 = false by decide, show hasB 21 76 = false by decide, Bool.not_false, Bool.true_or, Bool.not_true, Bool.false_or]
  · simp only [e, Int.reduceBEq, cond_true, cond_false]
    have O := hOwn (by rw [e]; decide) (by rw [e]; decide) (by rw [e]; decide)
    refine right_of (show negB false ((usesS 22).toList == (ByteArray.mk #[]).toList) = false by kernel_rfl) ?_ S.form (show btw 0 0 255 = true by decide) hA (show btw 0 0 255 = true by decide) ?_ ?_ ?_ ?_ ?_ ?_
    · simp only [zeroB, zStp, show hasB 22 100 = false by decide, show hasB 22 112 = true by decide, show hasB 22 116 = false by decide, show hasB 22 97 = false by decide, show hasB 22 98 = false by decide, show hasB 22 70 = true by decide, show hasB 22 86 = true by decide, show hasB 22 84 = false by decide, show hasB 22 76 = false by decide, Bool.true_or, Bool.false_or, Bool.or_true, Bool.and_true, Bool.true_and, Bool.or_false]
      first | done | rfl | (simp only [hz]; rfl) | (simp [hz, fZero, zF]; done)
    · rfl
    · simp only [bad2, zStp, show hasB 22 100 = false by decide, show hasB 22 112 = true by decide, show hasB 22 116 = false by decide, show hasB 22 97 = false by decide, show hasB 22 98 = false by decide, show hasB 22 70 = true by decide, show hasB 22 86 = true by decide, show hasB 22 84 = false by decide, show hasB 22 76 = false by decide, Bool.false_and, Bool.true_and, Bool.not_true, Bool.and_false, Bool.or_false, Bool.false_or, Bool.or_self, O.r]
    · simp only [bad3, zStp, show hasB 22 100 = false by decide, show hasB 22 112 = true by decide, show hasB 22 116 = false by decide, show hasB 22 97 = false by decide, show hasB 22 98 = false by decide, show hasB 22 70 = true by decide, show hasB 22 86 = true by decide, show hasB 22 84 = false by decide, show hasB 22 76 = false by decide, Bool.false_and, Bool.true_and, Bool.not_true, Bool.and_false, Bool.or_false, Bool.false_or, Bool.or_self, O.id]
    · rfl
    · simp only [bad5, zStp, show hasB 22 100 = false by decide, show hasB 22 112 = true by decide, show hasB 22 116 = false by decide, show hasB 22 97 = false by decide, show hasB 22 98 = false by decide, show hasB 22 70 = true by decide, show hasB 22 86 = true by decide, show hasB 22 84 = false by decide, show hasB 22 76 = false by decide, Bool.false_and, Bool.true_and, Bool.not_true, Bool.and_false, Bool.or_false, Bool.false_or, Bool.or_self, hHas e]
    · simp only [zStp, show hasB 22 100 = false by decide, show hasB 22 112 = true by decide, show hasB 22 116 = false by decide, show hasB 22 97 = false by decide, show hasB 22 98 = false by decide, show hasB 22 70 = true by decide, show hasB 22 86 = true by decide, show hasB 22 84 = false by decide, show hasB 22 76 = false by decide, Bool.not_false, Bool.true_or, Bool.not_true, Bool.false_or]
  · simp only [e, Int.reduceBEq, cond_true, cond_false]
    have O := hOwn (by rw [e]; decide) (by rw [e]; decide) (by rw [e]; decide)
    refine right_of (show negB false ((usesS 23).toList == (ByteArray.mk #[]).toList) = false by kernel_rfl) ?_ S.form S.field (show btw 0 0 8 = true by decide) (show btw 0 0 255 = true by decide) ?_ ?_ ?_ ?_ ?_ ?_
    · simp only [zeroB, zStp, show hasB 23 100 = true by decide, show hasB 23 112 = false by decide, show hasB 23 116 = false by decide, show hasB 23 97 = false by decide, show hasB 23 98 = false by decide, show hasB 23 70 = true by decide, show hasB 23 86 = false by decide, show hasB 23 84 = false by decide, show hasB 23 76 = false by decide, Bool.true_or, Bool.false_or, Bool.or_true, Bool.and_true, Bool.true_and, Bool.or_false]
      first | done | rfl | (simp only [hz]; rfl) | (simp [hz, fZero, zF]; done)
    · rfl
    · simp only [bad2, zStp, show hasB 23 100 = true by decide, show hasB 23 112 = false by decide, show hasB 23 116 = false by decide, show hasB 23 97 = false by decide, show hasB 23 98 = false by decide, show hasB 23 70 = true by decide, show hasB 23 86 = false by decide, show hasB 23 84 = false by decide, show hasB 23 76 = false by decide, Bool.false_and, Bool.true_and, Bool.not_true, Bool.and_false, Bool.or_false, Bool.false_or, Bool.or_self, O.r]
    · simp only [bad3, zStp, show hasB 23 100 = true by decide, show hasB 23 112 = false by decide, show hasB 23 116 = false by decide, show hasB 23 97 = false by decide, show hasB 23 98 = false by decide, show hasB 23 70 = true by decide, show hasB 23 86 = false by decide, show hasB 23 84 = false by decide, show hasB 23 76 = false by decide, Bool.false_and, Bool.true_and, Bool.not_true, Bool.and_false, Bool.or_false, Bool.false_or, Bool.or_self, O.id]
      first | done | simp
    · rfl
    · simp only [bad5, zStp, show hasB 23 100 = true by decide, show hasB 23 112 = false by decide, show hasB 23 116 = false by decide, show hasB 23 97 = false by decide, show hasB 23 98 = false by decide, show hasB 23 70 = true by decide, show hasB 23 86 = false by decide, show hasB 23 84 = false by decide, show hasB 23 76 = false by decide, Bool.false_and, Bool.true_and, Bool.not_true, Bool.and_false, Bool.or_false, Bool.false_or, Bool.or_self]
    · simp only [zStp, show hasB 23 100 = true by decide, show hasB 23 112 = false by decide, show hasB 23 116 = false by decide, show hasB 23 97 = false by decide, show hasB 23 98 = false by decide, show hasB 23 70 = true by decide, show hasB 23 86 = false by decide, show hasB 23 84 = false by decide, show hasB 23 76 = false by decide, Bool.not_false, Bool.true_or, Bool.not_true, Bool.false_or]
  · simp only [e, Int.reduceBEq, cond_true, cond_false]
    have O := hOwn (by rw [e]; decide) (by rw [e]; decide) (by rw [e]; decide)
    unfold numB at hnum
    rw [e] at hnum
    simp only [Int.reduceBEq, Bool.or_false, Bool.or_true, Bool.true_or, Bool.false_or, cond_true, cond_false] at hnum
    refine right_of (show negB false ((usesS 24).toList == (ByteArray.mk #[]).toList) = false by kernel_rfl) ?_ S.form S.field (show btw 0 0 8 = true by decide) (show btw 0 0 255 = true by decide) ?_ ?_ ?_ ?_ ?_ ?_
    · simp only [zeroB, zStp, show hasB 24 100 = true by decide, show hasB 24 112 = false by decide, show hasB 24 116 = false by decide, show hasB 24 97 = false by decide, show hasB 24 98 = true by decide, show hasB 24 70 = true by decide, show hasB 24 86 = false by decide, show hasB 24 84 = false by decide, show hasB 24 76 = false by decide, Bool.true_or, Bool.false_or, Bool.or_true, Bool.and_true, Bool.true_and, Bool.or_false]
      first | done | rfl | (simp only [hz]; rfl) | (simp [hz, fZero, zF]; done)
    · unfold numB; simp only [Int.reduceBEq, Bool.or_false, Bool.or_true, Bool.true_or, Bool.false_or, cond_true, cond_false]; exact hnum
    · simp only [bad2, zStp, show hasB 24 100 = true by decide, show hasB 24 112 = false by decide, show hasB 24 116 = false by decide, show hasB 24 97 = false by decide, show hasB 24 98 = true by decide, show hasB 24 70 = true by decide, show hasB 24 86 = false by decide, show hasB 24 84 = false by decide, show hasB 24 76 = false by decide, Bool.false_and, Bool.true_and, Bool.not_true, Bool.and_false, Bool.or_false, Bool.false_or, Bool.or_self, O.r]
    · simp only [bad3, zStp, show hasB 24 100 = true by decide, show hasB 24 112 = false by decide, show hasB 24 116 = false by decide, show hasB 24 97 = false by decide, show hasB 24 98 = true by decide, show hasB 24 70 = true by decide, show hasB 24 86 = false by decide, show hasB 24 84 = false by decide, show hasB 24 76 = false by decide, Bool.false_and, Bool.true_and, Bool.not_true, Bool.and_false, Bool.or_false, Bool.false_or, Bool.or_self, O.id]
      first | done | simp
    · rfl
    · simp only [bad5, zStp, show hasB 24 100 = true by decide, show hasB 24 112 = false by decide, show hasB 24 116 = false by decide, show hasB 24 97 = false by decide, show hasB 24 98 = true by decide, show hasB 24 70 = true by decide, show hasB 24 86 = false by decide, show hasB 24 84 = false by decide, show hasB 24 76 = false by decide, Bool.false_and, Bool.true_and, Bool.not_true, Bool.and_false, Bool.or_false, Bool.false_or, Bool.or_self]
    · simp only [zStp, show hasB 24 100 = true by decide, show hasB 24 112 = false by decide, show hasB 24 116 = false by decide, show hasB 24 97 = false by decide, show hasB 24 98 = true by decide, show hasB 24 70 = true by decide, show hasB 24 86 = false by decide, show hasB 24 84 = false by decide, show hasB 24 76 = false by decide, Bool.not_false, Bool.true_or, Bool.not_true, Bool.false_or]
  · simp only [e, Int.reduceBEq, cond_true, cond_false]
    have O := hOwn (by rw [e]; decide) (by rw [e]; decide) (by rw [e]; decide)
    unfold numB at hnum
    rw [e] at hnum
    simp only [Int.reduceBEq, Bool.or_false, Bool.or_true, Bool.true_or, Bool.false_or, cond_true, cond_false] at hnum
    refine right_of (show negB false ((usesS 25).toList == (ByteArray.mk #[]).toList) = false by kernel_rfl) ?_ S.form S.field (show btw 0 0 8 = true by decide) (show btw 0 0 255 = true by decide) ?_ ?_ ?_ ?_ ?_ ?_
    · simp only [zeroB, zStp, show hasB 25 100 = true by decide, show hasB 25 112 = false by decide, show hasB 25 116 = false by decide, show hasB 25 97 = false by decide, show hasB 25 98 = false by decide, show hasB 25 70 = false by decide, show hasB 25 86 = false by decide, show hasB 25 84 = true by decide, show hasB 25 76 = false by decide, Bool.true_or, Bool.false_or, Bool.or_true, Bool.and_true, Bool.true_and, Bool.or_false]
      first | done | rfl | (simp only [hz]; rfl) | (simp [hz, fZero, zF]; done)
    · unfold numB; simp only [Int.reduceBEq, Bool.or_false, Bool.or_true, Bool.true_or, Bool.false_or, cond_true, cond_false]; simp only [btw, Bool.and_eq_true, decide_eq_true_eq] at hnum; exact tabB_mono hnum.2 (by omega)
    · simp only [bad2, zStp, show hasB 25 100 = true by decide, show hasB 25 112 = false by decide, show hasB 25 116 = false by decide, show hasB 25 97 = false by decide, show hasB 25 98 = false by decide, show hasB 25 70 = false by decide, show hasB 25 86 = false by decide, show hasB 25 84 = true by decide, show hasB 25 76 = false by decide, Bool.false_and, Bool.true_and, Bool.not_true, Bool.and_false, Bool.or_false, Bool.false_or, Bool.or_self, O.r]
    · simp only [bad3, zStp, show hasB 25 100 = true by decide, show hasB 25 112 = false by decide, show hasB 25 116 = false by decide, show hasB 25 97 = false by decide, show hasB 25 98 = false by decide, show hasB 25 70 = false by decide, show hasB 25 86 = false by decide, show hasB 25 84 = true by decide, show hasB 25 76 = false by decide, Bool.false_and, Bool.true_and, Bool.not_true, Bool.and_false, Bool.or_false, Bool.false_or, Bool.or_self, O.id]
    · rfl
    · simp only [bad5, zStp, show hasB 25 100 = true by decide, show hasB 25 112 = false by decide, show hasB 25 116 = false by decide, show hasB 25 97 = false by decide, show hasB 25 98 = false by decide, show hasB 25 70 = false by decide, show hasB 25 86 = false by decide, show hasB 25 84 = true by decide, show hasB 25 76 = false by decide, Bool.false_and, Bool.true_and, Bool.not_true, Bool.and_false, Bool.or_false, Bool.false_or, Bool.or_self]
    · simp only [zStp, show hasB 25 100 = true by decide, show hasB 25 112 = false by decide, show hasB 25 116 = false by decide, show hasB 25 97 = false by decide, show hasB 25 98 = false by decide, show hasB 25 70 = false by decide, show hasB 25 86 = false by decide, show hasB 25 84 = true by decide, show hasB 25 76 = false by decide, Bool.not_false, Bool.true_or, Bool.not_true, Bool.false_or]
  · simp only [e, Int.reduceBEq, cond_true, cond_false]
    have O := hOwn (by rw [e]; decide) (by rw [e]; decide) (by rw [e]; decide)
    unfold numB at hnum
    rw [e] at hnum
    simp only [Int.reduceBEq, Bool.or_false, Bool.or_true, Bool.true_or, Bool.false_or, cond_true, cond_false] at hnum
    refine right_of (show negB false ((usesS 26).toList == (ByteArray.mk #[]).toList) = false by kernel_rfl) ?_ S.form S.field (show btw 0 0 8 = true by decide) S.to ?_ ?_ ?_ ?_ ?_ ?_
    · simp only [zeroB, zStp, show hasB 26 100 = true by decide, show hasB 26 112 = false by decide, show hasB 26 116 = true by decide, show hasB 26 97 = true by decide, show hasB 26 98 = false by decide, show hasB 26 70 = true by decide, show hasB 26 86 = false by decide, show hasB 26 84 = false by decide, show hasB 26 76 = false by decide, Bool.true_or, Bool.false_or, Bool.or_true, Bool.and_true, Bool.true_and, Bool.or_false]
      first | done | rfl | (simp only [hz]; rfl) | (simp [hz, fZero, zF]; done)
    · unfold numB; simp only [Int.reduceBEq, Bool.or_false, Bool.or_true, Bool.true_or, Bool.false_or, cond_true, cond_false]; exact hnum
    · simp only [bad2, zStp, show hasB 26 100 = true by decide, show hasB 26 112 = false by decide, show hasB 26 116 = true by decide, show hasB 26 97 = true by decide, show hasB 26 98 = false by decide, show hasB 26 70 = true by decide, show hasB 26 86 = false by decide, show hasB 26 84 = false by decide, show hasB 26 76 = false by decide, Bool.false_and, Bool.true_and, Bool.not_true, Bool.and_false, Bool.or_false, Bool.false_or, Bool.or_self, O.r, hne (.inl e)]
    · simp only [bad3, zStp, show hasB 26 100 = true by decide, show hasB 26 112 = false by decide, show hasB 26 116 = true by decide, show hasB 26 97 = true by decide, show hasB 26 98 = false by decide, show hasB 26 70 = true by decide, show hasB 26 86 = false by decide, show hasB 26 84 = false by decide, show hasB 26 76 = false by decide, Bool.false_and, Bool.true_and, Bool.not_true, Bool.and_false, Bool.or_false, Bool.false_or, Bool.or_self, O.id]
      first | done | simp
    · rfl
    · simp only [bad5, zStp, show hasB 26 100 = true by decide, show hasB 26 112 = false by decide, show hasB 26 116 = true by decide, show hasB 26 97 = true by decide, show hasB 26 98 = false by decide, show hasB 26 70 = true by decide, show hasB 26 86 = false by decide, show hasB 26 84 = false by decide, show hasB 26 76 = false by decide, Bool.false_and, Bool.true_and, Bool.not_true, Bool.and_false, Bool.or_false, Bool.false_or, Bool.or_self]
    · simp only [zStp, show hasB 26 100 = true by decide, show hasB 26 112 = false by decide, show hasB 26 116 = true by decide, show hasB 26 97 = true by decide, show hasB 26 98 = false by decide, show hasB 26 70 = true by decide, show hasB 26 86 = false by decide, show hasB 26 84 = false by decide, show hasB 26 76 = false by decide, Bool.not_false, Bool.true_or, Bool.not_true, Bool.false_or]
  · simp only [e, Int.reduceBEq, cond_true, cond_false]
    have O := hOwn (by rw [e]; decide) (by rw [e]; decide) (by rw [e]; decide)
    refine right_of (show negB false ((usesS 27).toList == (ByteArray.mk #[]).toList) = false by kernel_rfl) ?_ S.form S.field hA (show btw 0 0 255 = true by decide) ?_ ?_ ?_ ?_ ?_ ?_
    · simp only [zeroB, zStp, show hasB 27 100 = true by decide, show hasB 27 112 = true by decide, show hasB 27 116 = false by decide, show hasB 27 97 = false by decide, show hasB 27 98 = false by decide, show hasB 27 70 = false by decide, show hasB 27 86 = false by decide, show hasB 27 84 = false by decide, show hasB 27 76 = false by decide, Bool.true_or, Bool.false_or, Bool.or_true, Bool.and_true, Bool.true_and, Bool.or_false]
      first | done | rfl | (simp only [hz]; rfl) | (simp [hz, fZero, zF]; done)
    · rfl
    · simp only [bad2, zStp, show hasB 27 100 = true by decide, show hasB 27 112 = true by decide, show hasB 27 116 = false by decide, show hasB 27 97 = false by decide, show hasB 27 98 = false by decide, show hasB 27 70 = false by decide, show hasB 27 86 = false by decide, show hasB 27 84 = false by decide, show hasB 27 76 = false by decide, Bool.false_and, Bool.true_and, Bool.not_true, Bool.and_false, Bool.or_false, Bool.false_or, Bool.or_self, O.r]
    · simp only [bad3, zStp, show hasB 27 100 = true by decide, show hasB 27 112 = true by decide, show hasB 27 116 = false by decide, show hasB 27 97 = false by decide, show hasB 27 98 = false by decide, show hasB 27 70 = false by decide, show hasB 27 86 = false by decide, show hasB 27 84 = false by decide, show hasB 27 76 = false by decide, Bool.false_and, Bool.true_and, Bool.not_true, Bool.and_false, Bool.or_false, Bool.false_or, Bool.or_self, O.id]
    · rfl
    · simp only [bad5, zStp, show hasB 27 100 = true by decide, show hasB 27 112 = true by decide, show hasB 27 116 = false by decide, show hasB 27 97 = false by decide, show hasB 27 98 = false by decide, show hasB 27 70 = false by decide, show hasB 27 86 = false by decide, show hasB 27 84 = false by decide, show hasB 27 76 = false by decide, Bool.false_and, Bool.true_and, Bool.not_true, Bool.and_false, Bool.or_false, Bool.false_or, Bool.or_self]
    · simp only [zStp, show hasB 27 100 = true by decide, show hasB 27 112 = true by decide, show hasB 27 116 = false by decide, show hasB 27 97 = false by decide, show hasB 27 98 = false by decide, show hasB 27 70 = false by decide, show hasB 27 86 = false by decide, show hasB 27 84 = false by decide, show hasB 27 76 = false by decide, Bool.not_false, Bool.true_or, Bool.not_true, Bool.false_or]
  · simp only [e, Int.reduceBEq, cond_true, cond_false]
    have O := hOwn (by rw [e]; decide) (by rw [e]; decide) (by rw [e]; decide)
    refine right_of (show negB false ((usesS 28).toList == (ByteArray.mk #[]).toList) = false by kernel_rfl) ?_ S.form S.to (show btw 0 0 8 = true by decide) S.field ?_ ?_ ?_ ?_ ?_ ?_
    · simp only [zeroB, zStp, show hasB 28 100 = true by decide, show hasB 28 112 = false by decide, show hasB 28 116 = true by decide, show hasB 28 97 = false by decide, show hasB 28 98 = false by decide, show hasB 28 70 = false by decide, show hasB 28 86 = false by decide, show hasB 28 84 = false by decide, show hasB 28 76 = false by decide, Bool.true_or, Bool.false_or, Bool.or_true, Bool.and_true, Bool.true_and, Bool.or_false]
      first | done | rfl | (simp only [hz]; rfl) | (simp [hz, fZero, zF]; done)
    · rfl
    · simp only [bad2, zStp, show hasB 28 100 = true by decide, show hasB 28 112 = false by decide, show hasB 28 116 = true by decide, show hasB 28 97 = false by decide, show hasB 28 98 = false by decide, show hasB 28 70 = false by decide, show hasB 28 86 = false by decide, show hasB 28 84 = false by decide, show hasB 28 76 = false by decide, Bool.false_and, Bool.true_and, Bool.not_true, Bool.and_false, Bool.or_false, Bool.false_or, Bool.or_self, O.r]
      have hq := hne (.inr e)
      first | exact hq | (simp only [beq_eq_false_iff_ne] at hq ⊢; exact fun q => hq q.symm)
    · simp only [bad3, zStp, show hasB 28 100 = true by decide, show hasB 28 112 = false by decide, show hasB 28 116 = true by decide, show hasB 28 97 = false by decide, show hasB 28 98 = false by decide, show hasB 28 70 = false by decide, show hasB 28 86 = false by decide, show hasB 28 84 = false by decide, show hasB 28 76 = false by decide, Bool.false_and, Bool.true_and, Bool.not_true, Bool.and_false, Bool.or_false, Bool.false_or, Bool.or_self, O.id]
    · rfl
    · simp only [bad5, zStp, show hasB 28 100 = true by decide, show hasB 28 112 = false by decide, show hasB 28 116 = true by decide, show hasB 28 97 = false by decide, show hasB 28 98 = false by decide, show hasB 28 70 = false by decide, show hasB 28 86 = false by decide, show hasB 28 84 = false by decide, show hasB 28 76 = false by decide, Bool.false_and, Bool.true_and, Bool.not_true, Bool.and_false, Bool.or_false, Bool.false_or, Bool.or_self]
    · simp only [zStp, show hasB 28 100 = true by decide, show hasB 28 112 = false by decide, show hasB 28 116 = true by decide, show hasB 28 97 = false by decide, show hasB 28 98 = false by decide, show hasB 28 70 = false by decide, show hasB 28 86 = false by decide, show hasB 28 84 = false by decide, show hasB 28 76 = false by decide, Bool.not_false, Bool.true_or, Bool.not_true, Bool.false_or]
  · simp only [e, Int.reduceBEq, cond_true, cond_false]
    refine right_of (show negB false ((usesS 29).toList == (ByteArray.mk #[]).toList) = false by kernel_rfl) ?_ S.form (show btw 0 0 255 = true by decide) (show btw 0 0 8 = true by decide) (show btw 0 0 255 = true by decide) ?_ ?_ ?_ ?_ ?_ ?_
    · simp only [zeroB, zStp, show hasB 29 100 = false by decide, show hasB 29 112 = false by decide, show hasB 29 116 = false by decide, show hasB 29 97 = false by decide, show hasB 29 98 = false by decide, show hasB 29 70 = false by decide, show hasB 29 86 = false by decide, show hasB 29 84 = false by decide, show hasB 29 76 = false by decide, Bool.true_or, Bool.false_or, Bool.or_true, Bool.and_true, Bool.true_and, Bool.or_false]
      first | done | rfl | (simp only [hz]; rfl) | (simp [hz, fZero, zF]; done)
    · rfl
    · simp only [bad2, zStp, show hasB 29 100 = false by decide, show hasB 29 112 = false by decide, show hasB 29 116 = false by decide, show hasB 29 97 = false by decide, show hasB 29 98 = false by decide, show hasB 29 70 = false by decide, show hasB 29 86 = false by decide, show hasB 29 84 = false by decide, show hasB 29 76 = false by decide, Bool.false_and, Bool.true_and, Bool.not_true, Bool.and_false, Bool.or_false, Bool.false_or, Bool.or_self]
    · simp only [bad3, zStp, show hasB 29 100 = false by decide, show hasB 29 112 = false by decide, show hasB 29 116 = false by decide, show hasB 29 97 = false by decide, show hasB 29 98 = false by decide, show hasB 29 70 = false by decide, show hasB 29 86 = false by decide, show hasB 29 84 = false by decide, show hasB 29 76 = false by decide, Bool.false_and, Bool.true_and, Bool.not_true, Bool.and_false, Bool.or_false, Bool.false_or, Bool.or_self]
    · rfl
    · simp only [bad5, zStp, show hasB 29 100 = false by decide, show hasB 29 112 = false by decide, show hasB 29 116 = false by decide, show hasB 29 97 = false by decide, show hasB 29 98 = false by decide, show hasB 29 70 = false by decide, show hasB 29 86 = false by decide, show hasB 29 84 = false by decide, show hasB 29 76 = false by decide, Bool.false_and, Bool.true_and, Bool.not_true, Bool.and_false, Bool.or_false, Bool.false_or, Bool.or_self]
    · simp only [zStp, show hasB 29 100 = false by decide, show hasB 29 112 = false by decide, show hasB 29 116 = false by decide, show hasB 29 97 = false by decide, show hasB 29 98 = false by decide, show hasB 29 70 = false by decide, show hasB 29 86 = false by decide, show hasB 29 84 = false by decide, show hasB 29 76 = false by decide, Bool.not_false, Bool.true_or, Bool.not_true, Bool.false_or]
  · simp only [e, Int.reduceBEq, cond_true, cond_false]
    obtain ⟨k, hk, hkl, hkx⟩ := (nm_ok h).f (by rw [e]; decide)
    have hid : (fmG s.forms t.form).id = t.form := by rw [hkx]; exact (pos_of_find (sRight_srt hsr) hk).2.2.2
    have hff : fFine ⟨t.form, (fmG s.forms t.form).fields⟩ = true := by
      have h := sRight_fine hsr hkl
      rw [← hkx] at h
      generalize fmG s.forms t.form = x at h hid ⊢
      cases x with
      | mk i fs =>
        simp only at hid
        rw [← hid]
        exact h
    refine right_of (show negB false ((usesS 30).toList == (ByteArray.mk #[]).toList) = false by kernel_rfl) ?_ S.form (show btw 0 0 255 = true by decide) (show btw 0 0 8 = true by decide) (show btw 0 0 255 = true by decide) ?_ ?_ ?_ ?_ ?_ ?_
    · simp only [zeroB, zStp, show hasB 30 100 = false by decide, show hasB 30 112 = false by decide, show hasB 30 116 = false by decide, show hasB 30 97 = false by decide, show hasB 30 98 = false by decide, show hasB 30 70 = false by decide, show hasB 30 86 = false by decide, show hasB 30 84 = false by decide, show hasB 30 76 = true by decide, Bool.true_or, Bool.false_or, Bool.or_true, Bool.and_true, Bool.true_and, Bool.or_false]
      first | done | rfl | (simp only [hz]; rfl) | (simp [hz, fZero, zF]; done)
    · rfl
    · simp only [bad2, zStp, show hasB 30 100 = false by decide, show hasB 30 112 = false by decide, show hasB 30 116 = false by decide, show hasB 30 97 = false by decide, show hasB 30 98 = false by decide, show hasB 30 70 = false by decide, show hasB 30 86 = false by decide, show hasB 30 84 = false by decide, show hasB 30 76 = true by decide, Bool.false_and, Bool.true_and, Bool.not_true, Bool.and_false, Bool.or_false, Bool.false_or, Bool.or_self]
    · simp only [bad3, zStp, show hasB 30 100 = false by decide, show hasB 30 112 = false by decide, show hasB 30 116 = false by decide, show hasB 30 97 = false by decide, show hasB 30 98 = false by decide, show hasB 30 70 = false by decide, show hasB 30 86 = false by decide, show hasB 30 84 = false by decide, show hasB 30 76 = true by decide, Bool.false_and, Bool.true_and, Bool.not_true, Bool.and_false, Bool.or_false, Bool.false_or, Bool.or_self]
    · rfl
    · simp only [bad5, zStp, show hasB 30 100 = false by decide, show hasB 30 112 = false by decide, show hasB 30 116 = false by decide, show hasB 30 97 = false by decide, show hasB 30 98 = false by decide, show hasB 30 70 = false by decide, show hasB 30 86 = false by decide, show hasB 30 84 = false by decide, show hasB 30 76 = true by decide, Bool.false_and, Bool.true_and, Bool.not_true, Bool.and_false, Bool.or_false, Bool.false_or, Bool.or_self]
    · simp only [zStp, show hasB 30 100 = false by decide, show hasB 30 112 = false by decide, show hasB 30 116 = false by decide, show hasB 30 97 = false by decide, show hasB 30 98 = false by decide, show hasB 30 70 = false by decide, show hasB 30 86 = false by decide, show hasB 30 84 = false by decide, show hasB 30 76 = true by decide, Bool.not_false, Bool.true_or, Bool.not_true, Bool.false_or, hff]
end Go.Proofs.Ytbpcjahjbkiofaa.Sp

set_option linter.unusedVariables false
set_option linter.unusedSimpArgs false
namespace Go.Proofs.Ytbpcjahjbkiofaa.Sp
open Go Go.Proofs.Ytbpcjahjbkiofaa.AV Go.Proofs.Ytbpcjahjbkiofaa.Fn
set_option maxRecDepth 10000

theorem invP_op (s : Sch) (t : Stp) : (invP s t).op = IntKind.i64.wrap (t.op + 20) := by
  unfold invP
  cases t.op == 1 with
  | true => rfl
  | false =>
    cases t.op == 2 with
    | true => rfl
    | false =>
      cases t.op == 4 with
      | true => rfl
      | false =>
        cases t.op == 6 with
        | true => rfl
        | false =>
          cases t.op == 3 with
          | true => rfl
          | false =>
            cases t.op == 5 with
            | true => rfl
            | false =>
              cases t.op == 7 with
              | true => rfl
              | false =>
                cases t.op == 8 with
                | true => rfl
                | false =>
                  cases t.op == 10 with
                  | true => rfl
                  | false =>
                    rfl
structure BkOk (s : Sch) (l w : List Stp) : Prop where
  len : w.length = l.length
  right : ∀ i, i < l.length → stRight (w.getD i default) = true
  op : ∀ i, i < l.length → (w.getD i default).op = IntKind.i64.wrap ((l.getD (l.length - 1 - i) default).op + 20)
theorem bk_all {s : Sch} {l : List Stp} (h : (allOn s l).2.2 = 0) : BkOk s l (bkS s l).1 := by
  rw [(bk_zero h).2]
  have hlen : (bL s l l.length).reverse.length = l.length := by rw [List.length_reverse, bL_len]
  have hat : ∀ i, i < l.length → (bL s l l.length).reverse.getD i default = invP (aSt s l (l.length - 1 - i)) (l.getD (l.length - 1 - i) default) := fun i hi => by
    rw [getD_at (by omega), List.getElem_reverse]
    unfold bL
    simp [hi]
  refine ⟨hlen, fun i hi => ?_, fun i hi => ?_⟩
  · rw [hat i hi]
    exact inv_right (allOn_zero h _ (by omega))
  · rw [hat i hi, invP_op]

set_option maxHeartbeats 4000000 in
theorem l17_PairBack (s : Sch) (l m : List Stp) (hw : ∀ i, i < l.length → WfT (l.getD i default)) (hwm : ∀ i, i < m.length → WfT (m.getD i default)) : AC P L17_PairBack.id [.agg s.cells, encSs l, encSs m] [] (.bool true) [] := by
  refine L17_PairBack.intro rfl (Goes.run ?_)
  conv => whnf
  refine ⟨rfl, ?_⟩
  refine Run.callC (av := [.agg s.cells, encSs l]) rfl rfl rfl (fun _ => l17_great s l) rfl rfl ?_
  conv => whnf
  refine ⟨rfl, ?_⟩
  refine Run.callC (av := [encSs m]) rfl rfl rfl (fun _ => r15_great m) rfl rfl ?_
  conv => whnf
  refine ⟨rfl, ?_⟩
  refine Run.condC rfl (fun hg => ?_) (fun hg => ?_) <;> (conv => whnf) <;> refine ⟨rfl, ?_⟩
  · refine Run.callC (av := []) rfl rfl rfl (fun _ => l17_awake) rfl rfl ?_
    conv => whnf
    refine ⟨rfl, ?_⟩
    refine Run.retP ?_
    conv => whnf
    exact ⟨rfl, .bool rfl⟩
  have hg' : sGreat s l = false ∧ lGreat m = false := by simpa using hg
  obtain ⟨⟨q1, q2⟩, q3, q4⟩ := great_small hg'.1
  have hsm : Small s := ⟨by omega, fun i => by have := q2 i; omega⟩
  have hwo : WayOk l := ⟨by omega, fun i hi => (hw i hi).s, fun i hi => by have := (q4 i hi).1; omega, fun i hi => by have := (q4 i hi).2; omega⟩
  have hmo := listOk_of hg'.2 hwm
  have ht : ∀ i, i < l.length → (l.getD i default).t.length ≤ 100 := fun i hi => (q4 i hi).1
  have h1 := pair_back s l hsm hwo
  have h2 := r16_all s l hsm hwo
  have h3 := pair_check s l m hsm hwo ht hmo
  have hz := bkS_small hsm hwo ht
  have hok := fun h => bk_ok hsm hwo ht h
  have h4 := fun h => pair_check s l (bkS s l).1 hsm hwo ht (hok h)
  have hbad := bk_bad (s := s) (l := l)
  have hcbad := chk_bad (s := s) (l := l) (m := m)
  have hself := chk_self (s := s) (l := l)
  have hother := chk_other (s := s) (l := l) (m := m)
  have hall := bk_all (s := s) (l := l)
  have hbz := fun h => (bk_zero (s := s) (l := l) h).1
  have hlm := hmo.len
  have h5 := r15_sameList (bkS s l).1 m hz.1 (by omega) fun i hi => by have := hz.2 i hi; omega
  generalize (allOn s l).1 = y at h2
  generalize (allOn s l).2.1 = at_ at h2 hcbad
  generalize (allOn s l).2.2 = e at h2 h4 hbad hcbad hself hother hall hbz hok
  generalize (bkS s l).1 = w at *
  generalize (bkS s l).2 = e' at *
  generalize chkS s l m = c at *
  generalize chkS s l w = c2 at *
  refine Run.callC (av := [.agg s.cells, encSs l]) rfl rfl rfl (fun _ => h1) rfl rfl ?_
  conv => whnf
  refine ⟨rfl, ?_⟩
  refine Run.callC (av := [.agg s.cells, encSs l]) rfl rfl rfl (fun _ => h2) rfl rfl ?_
  conv => whnf
  refine ⟨rfl, ?_⟩
  refine Run.condC rfl (fun he => ?_) (fun he => ?_) <;> (conv => whnf) <;> refine ⟨rfl, ?_⟩
  · have hne : e ≠ 0 := by simpa using he
    obtain ⟨rfl, rfl⟩ := hbad hne
    have hc := hcbad hne
    subst hc
    refine Run.callC (av := [.agg s.cells, encSs l, encSs m]) rfl rfl rfl (fun _ => h3) rfl rfl ?_
    conv => whnf
    refine ⟨rfl, ?_⟩
    refine Run.callC (av := []) rfl rfl rfl (fun _ => l17_awake) rfl rfl ?_
    conv => whnf
    refine ⟨rfl, ?_⟩
    refine Run.retP ?_
    conv => whnf
    exact ⟨rfl, .bool (by simp)⟩
  have he0 : e = 0 := by simpa using he
  have h4 := h4 he0
  have hself := hself he0
  have hother := hother he0
  obtain ⟨b1, b2, b3⟩ := hall he0
  have hbz := hbz he0
  subst hself
  subst hbz
  refine Run.condC rfl (fun h => ?_) (fun h => ?_) <;> (conv => whnf) <;> refine ⟨rfl, ?_⟩
  · exfalso
    rw [b1] at h
    simp at h
  clear h
  refine Run.loopN (ι := Nat) (fun i => i ≤ l.length) (fun i => [(1, encSs l), (2, encSs m), (3, .ptr 0 0 0 0), (7, encSs w), (14, .int .i64 (i : Int))])
    (fun i => [.box s.cells, .box y.cells]) (fun i => l.length - i) 0 (Nat.zero_le _) (Wk.ofEnv (Wk.cons (.refl _) (Wk.cons (.refl _) (Wk.cons (.refl _) (Wk.cons (.refl _) (Wk.cons (.refl _) Wk.done)))))) fun i hi => ?_
  conv => whnf
  refine ⟨rfl, ?_⟩
  refine Run.condC rfl (fun h => ?_) (fun h => ?_) <;> (conv => whnf) <;> refine ⟨rfl, ?_⟩
  · have hlt : i < l.length := by simpa using h
    have hsz := hz.2 i (by omega)
    have hr := r15_right (w.getD i default) (by omega) (by omega)
    rw [b2 i hlt] at hr
    have hix : IntKind.i64.wrap (IntKind.i64.wrap ((l.length : Int) - 1) - (i : Int)) = ((l.length - 1 - i : Nat) : Int) := by
      rw [wrap_of (x := (l.length : Int) - 1) (by omega) (by omega), wrap_of (by omega) (by omega)]
      omega
    refine Run.iaD rfl rfl rfl rfl rfl (fun _ => ⟨by omega, by omega⟩) rfl ?_
    conv => whnf
    refine ⟨rfl, ?_⟩
    refine Run.callD (av := [.agg (w.getD i default).cells]) rfl rfl rfl (fun _ => hr) rfl rfl rfl ?_
    conv => whnf
    refine ⟨rfl, ?_⟩
    refine Run.iaD rfl rfl rfl rfl rfl (fun _ => ⟨by omega, by omega⟩) rfl ?_
    conv => whnf
    refine ⟨rfl, ?_⟩
    refine Run.iaD rfl rfl rfl rfl rfl (fun _ => by rw [hix]; exact ⟨by omega, by omega⟩) rfl ?_
    conv => whnf
    refine ⟨rfl, ?_⟩
    refine Run.condC rfl (fun h => ?_) (fun h => ?_) <;> (conv => whnf) <;> refine ⟨rfl, ?_⟩
    · exfalso
      have h' : ((w.getD i default).op != IntKind.i64.wrap ((l.getD (IntKind.i64.wrap (IntKind.i64.wrap ((l.length : Int) - 1) - (i : Int))).toNat default).op + 20)) = true := by simpa using h
      rw [hix, b3 i hlt] at h'
      simp at h'
    · refine Run.endR ⟨i + 1, by omega, by omega, Wk.ofEnv (Wk.cons (.refl _) (Wk.cons (.refl _) (Wk.cons (.refl _) (Wk.cons (.refl _) (Wk.cons (.int ?_) Wk.done)))))⟩
      rw [wrap_of (by omega) (by omega)]
      simp
  · refine Run.exitR rfl rfl ?_
    conv => whnf
    refine ⟨rfl, ?_⟩
    refine Run.callC (av := [.agg s.cells, encSs l, encSs w]) rfl rfl rfl (fun _ => h4) rfl rfl ?_
    conv => whnf
    refine ⟨rfl, ?_⟩
    refine Run.callC (av := [.agg s.cells, encSs l, encSs m]) rfl rfl rfl (fun _ => h3) rfl rfl ?_
    conv => whnf
    refine ⟨rfl, ?_⟩
    refine Run.callC (av := [encSs w, encSs m]) rfl rfl rfl (fun _ => h5) rfl rfl ?_
    conv => whnf
    refine ⟨rfl, ?_⟩
    refine Run.callC (av := []) rfl rfl rfl (fun _ => l17_awake) rfl rfl ?_
    conv => whnf
    refine ⟨rfl, ?_⟩
    refine Run.retP ?_
    conv => whnf
    refine ⟨rfl, .bool ?_⟩
    rw [hother]
    simp [negB]
end Go.Proofs.Ytbpcjahjbkiofaa.Sp

namespace Go.Proofs.Ytbpcjahjbkiofaa.pairBack
open Go Go.ChangeShapes Go.WideShapes Go.ChangeAt Go.RowKit
set_option linter.unusedVariables false
theorem own : ownKnob Try.prog.godebug = none := by kernel_rfl
theorem laidOut : laidOutB Try.prog = true := by kernel_rfl
set_option maxRecDepth 100000 in
theorem lifted (os : Os) (started : os.Started) (H : Type) (enc : TypeId × Value → H) :
    ReturnsInHanded {} Try.checked os 8 .any (Rows.pairBackSpec.pre6 enc Try.prog Try.f8 Rows.pairBackRow.domain false) (Rows.pairBackSpec.post enc Try.prog Try.f8 false true false false) := by
  refine returnsInHanded_of_change (C := Try.checked) own started (by kernel_rfl) Try.func8
    (ChangeSpec.witness6 (enc := enc) (C := Try.checked) false ⟨#[], #[.agg #[.int .i64 0, .slice none 0 0], .slice none 0 0, .slice none 0 0], []⟩ 8 (by kernel_rfl) (by kernel_rfl) (by kernel_rfl) (by kernel_rfl)) ?_
  intro W base args ds gs before hval0 hW hcnd _
  have hval : ∀ (j : Nat) t v, Try.f8.params[j]? = some t → args[j]? = some v → Value.okWide Try.prog W .any base t v := hval0
  have hW' := hW
  obtain ⟨p, q, hA0, hV, rfl, hfz, hnd⟩ := hW
  have hA : DataW.TrodAll enc Try.prog W 0 (fun _ => true) true Try.f8.params.toList args.toList ds p := hA0
  rw [Try.params8] at hA hval
  obtain ⟨v0, vs0, d0, ds0, p0, q0, hargs, rfl, rfl, h0, r0⟩ := trodAll_cons hA
  obtain ⟨v1, vs1, d1, ds1, p1, q1, rfl, rfl, rfl, h1, r1⟩ := trodAll_cons r0
  obtain ⟨v2, vs2, d2, ds2, p2, q2, rfl, rfl, rfl, h2, r2⟩ := trodAll_cons r1
  obtain ⟨rfl, rfl, rfl⟩ := trodAll_nil r2
  obtain rfl : args = #[v0, v1, v2] := by cases args; simp_all
  obtain ⟨rfl, rfl⟩ := trodVars_none hV
  have lt0 : ∀ x ∈ p0, x.block < W.heap.size := by obtain ⟨m, hm⟩ := h0; exact DataW.trod_lt m _ _ _ hm
  obtain ⟨a0, g0, e0⟩ := (Sp.opn_arg (en := Sp.Sch.cells) Try.underlying24 (hval 0 24 v0 rfl rfl) (fun _ _ _ h => Sp.opn_sch h) h0)
  have lt1 : ∀ x ∈ p1, x.block < W.heap.size := by obtain ⟨m, hm⟩ := h1; exact DataW.trod_lt m _ _ _ hm
  obtain ⟨a1, g1, e1⟩ := (Sp.opn_sl (en := Sp.Stp.cells) Try.underlying34 Sp.c32 (by omega) (fun _ => rfl) (hval 1 34 v1 rfl rfl) (fun _ _ _ h => Sp.opn_stpT h) h1)
  have lt2 : ∀ x ∈ p2, x.block < W.heap.size := by obtain ⟨m, hm⟩ := h2; exact DataW.trod_lt m _ _ _ hm
  obtain ⟨a2, g2, e2⟩ := (Sp.opn_sl (en := Sp.Stp.cells) Try.underlying34 Sp.c32 (by omega) (fun _ => rfl) (hval 2 34 v2 rfl rfl) (fun _ _ _ h => Sp.opn_stpT h) h2)
  clear hA0 hval0
  refine (Sp.AC.below (Sp.l17_PairBack a0 a1 a2 g1 g2) rfl fun j hj => ?_).mono fun e W' ⟨he, bel⟩ => ?_
  · match j, hj with
    | 0, _ => exact e0
    | 1, _ => exact e1
    | 2, _ => exact e2
  · subst he
    exact ⟨_, rfl, _, _, _, [], _, [], hW', trodAll_mk1 (shut_bool Try.underlying4 _), (trodAll_cons_mk (Below.trod laidOut (by kernel_rfl) (of_decide_eq_true (by kernel_rfl)) h0 bel lt0) (trodAll_cons_mk (Below.trod laidOut (by kernel_rfl) (of_decide_eq_true (by kernel_rfl)) h1 bel lt1) (trodAll_cons_mk (Below.trod laidOut (by kernel_rfl) (of_decide_eq_true (by kernel_rfl)) h2 bel lt2) trodAll_mk0))), rfl, bel.frame _, fun h => by cases h⟩
theorem over : Rows.pairBackRow.holds Try.pinned (OpenSpec.ofChange Rows.pairBackSpec) :=
  OpenClaim.holds_of_wide 8 Try.f8 rfl rfl rfl rfl rfl rfl rfl ⟨rfl, rfl, rfl, rfl, rfl⟩ rfl rfl rfl rfl rfl (by kernel_rfl) Try.func8 (by kernel_rfl)
    (of_decide_eq_true (by kernel_rfl)) (by unfold Func.isWrapper; first | (rw [if_pos (by decide +kernel)]; kernel_rfl) | (rw [if_neg (by decide +kernel)]; exact ⟨rfl, rfl⟩))
    (fun os started H enc _ => lifted os started H enc)
theorem proved : Rows.PairBackSaid := over
#print axioms proved
end Go.Proofs.Ytbpcjahjbkiofaa.pairBack
namespace Go.Proofs.Ytbpcjahjbkiofaa
theorem pairBack_holds : Rows.PairBackSaid := pairBack.proved
end Go.Proofs.Ytbpcjahjbkiofaa

