/- Part 5 of the proof of PairBack: S19, S2, S20, S30, S11, S12, S31, S32, S33, S21, S22, S23, S24, S25, S26, S34, S35, S36, S37, S38, S39, S57, S40, S41, S13, S14, S15, S16, S42, S43, S46. -/
import Derived.Test.YtbpcjahjbkiofaaMPairBack3
set_option linter.unusedVariables false
namespace Go.Proofs.Ytbpcjahjbkiofaa.Sp
open Go Go.Proofs.Ytbpcjahjbkiofaa.AV Go.Proofs.Ytbpcjahjbkiofaa.Fn
set_option maxRecDepth 10000

/-- With m elements g in place of those from i on, up to j. -/
def repF (i j m : Nat) (g f : Nat → List AV) : Nat → List AV := fun k => if k < i then f k else if k < i + m then g (k - i) else f (k - (i + m) + j)

theorem replace_fld {n i j m : Nat} {f g : Nat → List AV} (hij : i ≤ j) (hj : j ≤ n) (hm : i = j → 1 ≤ m) (hn : n ≤ 1000000) (hm2 : m ≤ 1000000) :
    AC P slices_Replace_api_Field_api_Field.id [.row 5 0 0 0 n, .int .i64 i, .int .i64 j, .list 5 m g] [.row 5 n 0 f] (.row 5 0 3 0 (n - (j - i) + m)) [.row 5 (n - (j - i) + m) 3 (repF i j m g f)] := by
  refine slices_Replace_api_Field_api_Field.intro rfl (Goes.run ?_)
  conv => whnf
  refine ⟨rfl, ?_⟩
  have hw1 : IntKind.i64.wrap ((i : Int) + (m : Int)) = ((i + m : Nat) : Int) := by rw [wrap_of (by omega) (by omega)]; omega
  rcases Nat.lt_or_ge i j with hlt | hge
  · refine Run.doesC rfl rfl (fun _ => Does.slRX (i := i) (j := j) rfl rfl rfl rfl rfl rfl rfl (.inl hlt) hij (by omega)) ?_
    conv => whnf
    refine ⟨rfl, ?_⟩
    refine Run.condC rfl (fun h => ?_) (fun h => ?_) <;> (conv => whnf) <;> refine ⟨rfl, ?_⟩
    · exfalso; simp at h; omega
    refine Run.condC rfl (fun h => ?_) (fun h => ?_) <;> (conv => whnf) <;> refine ⟨rfl, ?_⟩
    · have hjn : j = n := by simp at h; omega
      subst hjn
      refine Run.capO 0 1 rfl rfl fun C hC hCm => ?_
      conv => whnf
      refine ⟨rfl, ?_⟩
      refine Run.doesC rfl rfl (fun _ => Does.slRX (i := 0) (j := i) rfl rfl rfl rfl rfl rfl rfl (.inr rfl) (Nat.zero_le _) (by omega)) ?_
      conv => whnf
      refine ⟨rfl, ?_⟩
      rcases Nat.lt_or_ge C (i + m) with hgr | hfit
      · refine Run.doesT (id := 2) rfl (Does.appNew (nid := 2) (cid := 1) (C := C) rfl rfl rfl rfl rfl rfl (by omega) (by simp only [maxLen]; omega) (by omega)) ?_
        conv => whnf
        refine ⟨rfl, ?_⟩
        refine Run.condC rfl (fun h => ?_) (fun h => ?_) <;> (conv => whnf) <;> refine ⟨rfl, ?_⟩
        · exfalso; simp at h; omega
        refine Run.retS ?_
        conv => whnf
        rw [show i - 0 + m = j - (j - i) + m by omega]
        refine FinS.row (j := 2) rfl rfl rfl (by omega) fun k hk => leL_eq ?_
        unfold repF
        by_cases h1 : k < i
        · rw [if_pos h1, fapp_lt (by omega)]; exact if_pos (by omega)
        · rw [if_neg h1, if_pos (by omega), fapp_ge (by omega)]; rfl
      · refine Run.doesT (id := 0) rfl (Does.appIn rfl rfl rfl rfl (by omega)) ?_
        conv => whnf
        refine ⟨rfl, ?_⟩
        refine Run.condC rfl (fun h => ?_) (fun h => ?_) <;> (conv => whnf) <;> refine ⟨rfl, ?_⟩
        · have hm0 : i + m < j := by simp at h; omega
          refine Run.doesC rfl rfl (fun _ => Does.slRX (i := i + m) (j := j) rfl rfl rfl rfl rfl rfl rfl (.inl hm0) (by omega) (by omega)) ?_
          conv => whnf
          refine ⟨rfl, ?_⟩
          refine Run.doesT (id := 0) rfl (Does.clr rfl rfl rfl (by omega)) ?_
          conv => whnf
          refine ⟨rfl, ?_⟩
          refine Run.retS ?_
          conv => whnf
          rw [show i - 0 + m = j - (j - i) + m by omega]
          refine FinS.row (j := 0) rfl rfl rfl (by omega) fun k hk => leL_eq ?_
          simp only [fput, repF, fext]
          (repeat' split) <;> first | (exfalso; omega) | rfl | exact congrArg g (by omega) | exact congrArg f (by omega)
        · refine Run.retS ?_
          conv => whnf
          rw [show i - 0 + m = j - (j - i) + m by omega]
          refine FinS.row (j := 0) rfl rfl rfl (by omega) fun k hk => leL_eq ?_
          simp only [fput, repF, fext]
          (repeat' split) <;> first | (exfalso; omega) | rfl | exact congrArg g (by omega) | exact congrArg f (by omega)
    have hjn : j < n := by simp at h; omega
    refine Run.slXD (i := 0) (j := i) rfl rfl rfl rfl rfl rfl rfl rfl (.inr rfl) (Nat.zero_le _) (by omega) rfl ?_
    conv => whnf
    refine ⟨rfl, ?_⟩
    refine Run.slXD (i := j) (j := n) rfl rfl rfl rfl rfl rfl rfl rfl (.inl hjn) hj (by omega) rfl ?_
    conv => whnf
    refine ⟨rfl, ?_⟩
    have hw2 : IntKind.i64.wrap (IntKind.i64.wrap ((i - 0 : Nat) + (m : Int)) + (n - j : Nat)) = ((n - (j - i) + m : Nat) : Int) := by rw [Nat.sub_zero, hw1, wrap_of (by omega) (by omega)]; omega
    refine Run.capO 0 1 rfl rfl fun C hC hCm => ?_
    conv => whnf
    refine ⟨rfl, ?_⟩
    refine Run.doesC rfl rfl (fun _ => Does.cap (cid := 1) (C := C) rfl rfl rfl rfl) ?_
    conv => whnf
    refine ⟨rfl, ?_⟩
    refine Run.condC rfl (fun h => ?_) (fun h => ?_) <;> (conv => whnf) <;> refine ⟨rfl, ?_⟩
    · have hgr : C < n - (j - i) + m := by rw [hw2] at h; simp at h; omega
      refine Run.doesC rfl rfl (fun _ => Does.slRX (i := 0) (j := i) rfl rfl rfl rfl rfl rfl rfl (.inr rfl) (Nat.zero_le _) (by omega)) ?_
      conv => whnf
      refine ⟨rfl, ?_⟩
      refine Run.doesT (id := 2) rfl (Does.appzNew (nid := 2) (cid := 1) (C := C) (m := n - (j - i) + m - i) rfl rfl rfl rfl rfl rfl ?_ (by omega) (by omega) (by simp only [maxLen]; omega) (by omega)) ?_
      · rw [hw2, wrap_of (by omega) (by omega)]; omega
      conv => whnf
      refine ⟨rfl, ?_⟩
      refine Run.doesC rfl rfl (fun _ => Does.slRX (i := i) (j := n - (j - i) + m) rfl rfl rfl rfl rfl rfl ?_ (.inl (by omega)) (by omega) (by omega)) ?_
      · show ((i - 0 + (n - (j - i) + m - i) : Nat) : Int) = _; omega
      conv => whnf
      refine ⟨rfl, ?_⟩
      refine Run.doesT (id := 2) rfl (Does.copy rfl rfl rfl (by omega) rfl) ?_
      conv => whnf
      refine ⟨rfl, ?_⟩
      refine Run.slXD (i := i + m) (j := n - (j - i) + m) rfl rfl rfl rfl rfl rfl hw1 ?_ (.inl (by omega)) (by omega) (by omega) rfl ?_
      · show ((i - 0 + (n - (j - i) + m - i) : Nat) : Int) = _; omega
      conv => whnf
      refine ⟨rfl, ?_⟩
      refine Run.slXD (i := j) (j := n) rfl rfl rfl rfl rfl rfl rfl rfl (.inl hjn) hj (by omega) rfl ?_
      conv => whnf
      refine ⟨rfl, ?_⟩
      refine Run.copyD rfl rfl rfl rfl (by omega) rfl rfl ?_
      conv => whnf
      refine ⟨rfl, ?_⟩
      refine Run.retS ?_
      conv => whnf
      rw [show i - 0 + (n - (j - i) + m - i) = n - (j - i) + m by omega]
      refine FinS.row (j := 2) rfl rfl rfl (by omega) fun k hk => leL_eq ?_
      simp only [fput, repF, fext]
      (repeat' split) <;> first | (exfalso; omega) | (rw [fapp_lt (by omega)]; first | rfl | exact if_pos (by omega)) | exact congrArg g (by omega) | exact congrArg f (by omega)
    have hfit : n - (j - i) + m ≤ C := by rw [hw2] at h; simp at h; omega
    refine Run.doesC rfl rfl (fun _ => Does.slRX (i := 0) (j := n - (j - i) + m) rfl rfl rfl rfl rfl rfl hw2 (.inr rfl) (Nat.zero_le _) (by omega)) ?_
    conv => whnf
    refine ⟨rfl, ?_⟩
    refine Run.condC rfl (fun h => ?_) (fun h => ?_) <;> (conv => whnf) <;> refine ⟨rfl, ?_⟩
    · have hmj : i + m ≤ j := by rw [hw1] at h; simp at h; omega
      refine Run.doesC rfl rfl (fun _ => Does.slRX (i := i) (j := n - (j - i) + m) rfl rfl rfl rfl rfl rfl rfl (.inl (by omega)) (by omega) (by omega)) ?_
      conv => whnf
      refine ⟨rfl, ?_⟩
      refine Run.doesT (id := 0) rfl (Does.copy rfl rfl rfl (by omega) rfl) ?_
      conv => whnf
      refine ⟨rfl, ?_⟩
      refine Run.slXD (i := i + m) (j := n - (j - i) + m) rfl rfl rfl rfl rfl rfl hw1 rfl (.inl (by omega)) (by omega) (by omega) rfl ?_
      conv => whnf
      refine ⟨rfl, ?_⟩
      refine Run.slXD (i := j) (j := n) rfl rfl rfl rfl rfl rfl rfl rfl (.inl hjn) hj (by omega) rfl ?_
      conv => whnf
      refine ⟨rfl, ?_⟩
      refine Run.copyD rfl rfl rfl rfl (by omega) rfl rfl ?_
      conv => whnf
      refine ⟨rfl, ?_⟩
      rcases Nat.lt_or_ge (n - (j - i) + m) n with hsh | hsm
      · refine Run.doesC rfl rfl (fun _ => Does.slRX (i := n - (j - i) + m) (j := n) rfl rfl rfl rfl rfl hw2 rfl (.inl hsh) (by omega) (by omega)) ?_
        conv => whnf
        refine ⟨rfl, ?_⟩
        refine Run.doesT (id := 0) rfl (Does.clr rfl rfl rfl (by omega)) ?_
        conv => whnf
        refine ⟨rfl, ?_⟩
        refine Run.retS ?_
        conv => whnf
        rw [show n - (j - i) + m - 0 = n - (j - i) + m by omega]
        refine FinS.row (j := 0) rfl rfl rfl (by omega) fun k hk => leL_eq ?_
        simp only [fput, repF, fext]
        (repeat' split) <;> first | (exfalso; omega) | rfl | exact congrArg g (by omega) | exact congrArg f (by omega)
      · refine Run.doesC rfl rfl (fun _ => Does.slRE (i := n - (j - i) + m) (j := n) rfl rfl rfl rfl rfl hw2 rfl (by omega) (by omega)) ?_
        conv => whnf
        refine ⟨rfl, ?_⟩
        refine Run.doesC rfl rfl (fun _ => Does.clrE rfl) ?_
        conv => whnf
        refine ⟨rfl, ?_⟩
        refine Run.retS ?_
        conv => whnf
        rw [show n - (j - i) + m - 0 = n - (j - i) + m by omega]
        refine FinS.row (j := 0) rfl rfl rfl (by omega) fun k hk => leL_eq ?_
        simp only [fput, repF, fext]
        (repeat' split) <;> first | (exfalso; omega) | rfl | exact congrArg g (by omega) | exact congrArg f (by omega)
    have hmj : j < i + m := by rw [hw1] at h; simp at h; omega
    refine Run.doesC rfl rfl (fun _ => Does.slRX (i := i + m) (j := n - (j - i) + m) rfl rfl rfl rfl rfl hw1 rfl (.inl (by omega)) (by omega) (by omega)) ?_
    conv => whnf
    refine ⟨rfl, ?_⟩
    refine Run.doesC rfl rfl (fun _ => (Does.ovlLR ovl_fld rfl rfl rfl rfl).2) ?_
    conv => whnf
    refine ⟨rfl, ?_⟩
    refine Run.slXD (i := i + m) (j := n - (j - i) + m) rfl rfl rfl rfl rfl rfl hw1 rfl (.inl (by omega)) (by omega) (by omega) rfl ?_
    conv => whnf
    refine ⟨rfl, ?_⟩
    refine Run.slXD (i := j) (j := n) rfl rfl rfl rfl rfl rfl rfl rfl (.inl hjn) hj (by omega) rfl ?_
    conv => whnf
    refine ⟨rfl, ?_⟩
    refine Run.copyD rfl rfl rfl rfl (by omega) rfl rfl ?_
    conv => whnf
    refine ⟨rfl, ?_⟩
    refine Run.doesC rfl rfl (fun _ => Does.slRX (i := i) (j := n - (j - i) + m) rfl rfl rfl rfl rfl rfl rfl (.inl (by omega)) (by omega) (by omega)) ?_
    conv => whnf
    refine ⟨rfl, ?_⟩
    refine Run.doesT (id := 0) rfl (Does.copy rfl rfl rfl (by omega) rfl) ?_
    conv => whnf
    refine ⟨rfl, ?_⟩
    refine Run.retS ?_
    conv => whnf
    rw [show n - (j - i) + m - 0 = n - (j - i) + m by omega]
    refine FinS.row (j := 0) rfl rfl rfl (by omega) fun k hk => leL_eq ?_
    simp only [fput, repF, fext]
    (repeat' split) <;> first | (exfalso; omega) | rfl | exact congrArg g (by omega) | exact congrArg f (by omega)
  · obtain rfl : i = j := by omega
    refine Run.doesC rfl rfl (fun _ => Does.slRE (i := i) (j := i) rfl rfl rfl rfl rfl rfl rfl rfl (by omega)) ?_
    conv => whnf
    refine ⟨rfl, ?_⟩
    refine Run.condC rfl (fun h => ?_) (fun h => ?_) <;> (conv => whnf) <;> refine ⟨rfl, ?_⟩
    · refine Run.callG [0] (insert_fld hj (hm rfl) hn hm2) rfl rfl rfl ⟨rfl, trivial⟩ ?_
      conv => whnf
      refine ⟨rfl, ?_⟩
      refine Run.retS ?_
      conv => whnf
      rw [show n - (i - i) + m = n + m by omega]
      refine FinS.row (j := 0) rfl rfl rfl (Nat.le_refl _) fun k hk => leL_eq ?_
      simp only [insF, repF]
      (repeat' split) <;> first | rfl | exact congrArg f (by omega)
    · exfalso; simp at h
end Go.Proofs.Ytbpcjahjbkiofaa.Sp

set_option linter.unusedVariables false
namespace Go.Proofs.Ytbpcjahjbkiofaa.Sp
open Go Go.Proofs.Ytbpcjahjbkiofaa.AV Go.Proofs.Ytbpcjahjbkiofaa.Fn
set_option maxRecDepth 10000

def fput (l : List Fld) (at_ : Nat) (f : Fld) : List Fld := l.take at_ ++ f :: l.drop at_

theorem put_spec (l : List Fld) (k : Nat) (f : Fld) (hk : k ≤ l.length) (hb : l.length ≤ 1000) : AC P R16_put.id [encFs l, .int .i64 k, .agg f.cells] [] (encFs (fput l k f)) [] := by
  refine R16_put.intro rfl (Goes.run ?_)
  conv => whnf
  refine ⟨rfl, ?_⟩
  refine Run.doesC rfl rfl (fun _ => Does.slN (i := 0) (j := k) rfl rfl rfl rfl rfl (by omega) hk) ?_
  conv => whnf
  refine ⟨rfl, ?_⟩
  refine Run.doesT (id := 1) rfl (Does.appZ (nid := 1) rfl rfl rfl (by unfold maxLen; omega) (by omega)) ?_
  conv => whnf
  refine ⟨rfl, ?_⟩
  refine Run.appRD rfl rfl rfl rfl (by simp only [maxLen, List.length_cons, List.length_nil]; omega) (by simp only [List.length_cons, List.length_nil]; omega) rfl ?_
  conv => whnf
  refine ⟨rfl, ?_⟩
  refine Run.slND (i := k) (j := l.length) rfl rfl rfl rfl rfl rfl hk (Nat.le_refl _) rfl ?_
  conv => whnf
  refine ⟨rfl, ?_⟩
  refine Run.appRD rfl rfl rfl rfl (by simp only [maxLen, List.length_cons, List.length_nil]; omega) (by simp only [List.length_cons, List.length_nil]; omega) rfl ?_
  conv => whnf
  refine ⟨rfl, ?_⟩
  refine Run.retZ ?_
  conv => whnf
  refine ⟨rfl, IsL.le (enc := Fld.cells) (IsL.eq (((((IsL.all Fld.cells l).sub (i := 0) (j := k) (by omega) hk).app (IsL.one f)).app ((IsL.all Fld.cells l).sub (i := k) (j := l.length) hk (Nat.le_refl _))).from0) ?_)⟩
  have e : (l.drop k).take (l.length - k) = l.drop k := List.take_of_length_le (by simp)
  simp [fput, e]

def fcut (l : List Fld) (k : Nat) : List Fld := l.take k ++ l.drop (k + 1)

theorem cut_spec (l : List Fld) (k : Nat) (hk : k < l.length) (hb : l.length ≤ 1000) : AC P R16_cut.id [encFs l, .int .i64 k] [] (encFs (fcut l k)) [] := by
  refine R16_cut.intro rfl (Goes.run ?_)
  conv => whnf
  refine ⟨rfl, ?_⟩
  refine Run.slND (i := 0) (j := k) rfl rfl rfl rfl rfl rfl (by omega) (by omega) rfl ?_
  conv => whnf
  refine ⟨rfl, ?_⟩
  refine Run.appZD (nid := 0) rfl rfl rfl rfl (by unfold maxLen; omega) (by omega) rfl ?_
  conv => whnf
  refine ⟨rfl, ?_⟩
  refine Run.slND (i := k + 1) (j := l.length) rfl rfl rfl rfl ?_ rfl (by omega) (Nat.le_refl _) rfl ?_
  · rw [wrap_of (by omega) (by omega)]; rfl
  conv => whnf
  refine ⟨rfl, ?_⟩
  refine Run.appRD rfl rfl rfl rfl (by unfold maxLen; omega) (by omega) rfl ?_
  conv => whnf
  refine ⟨rfl, ?_⟩
  refine Run.retZ ?_
  conv => whnf
  refine ⟨rfl, IsL.le (enc := Fld.cells) (IsL.eq ((((IsL.all Fld.cells l).sub (i := 0) (j := k) (by omega) (by omega)).app ((IsL.all Fld.cells l).sub (i := k + 1) (j := l.length) (by omega) (Nat.le_refl _))).from0) ?_)⟩
  have e : (l.drop (k + 1)).take (l.length - (k + 1)) = l.drop (k + 1) := List.take_of_length_le (by simp)
  simp [fcut, e]

theorem clone_spec (l : List Fld) (hb : l.length ≤ 1000000) : AC P slices_Clone_api_Field_api_Field.id [encFs l] [] (encFs l) [] := by
  refine slices_Clone_api_Field_api_Field.intro rfl (Goes.run ?_)
  conv => whnf
  refine ⟨rfl, ?_⟩
  refine Run.eqNilC rfl rfl fun b hn => ?_
  conv => whnf
  refine ⟨rfl, ?_⟩
  refine Run.condC rfl (fun h => ?_) (fun h => ?_) <;> (conv => whnf) <;> refine ⟨rfl, ?_⟩
  · refine Run.retZ ?_
    conv => whnf
    refine ⟨rfl, ?_⟩
    have : l = [] := by simpa using hn (by simpa [negB] using h)
    subst this
    exact Le.zsl (by omega)
  · refine Run.doesT (id := 0) rfl (Does.appR rfl rfl rfl (by simp only [maxLen, List.length_nil]; omega) (by simp only [List.length_nil]; omega)) ?_
    conv => whnf
    refine ⟨rfl, ?_⟩
    refine Run.retZ ?_
    conv => whnf
    exact ⟨rfl, IsL.le (enc := Fld.cells) (((IsL.nil _).app (IsL.all Fld.cells l)).from0)⟩
end Go.Proofs.Ytbpcjahjbkiofaa.Sp

set_option linter.unusedVariables false
namespace Go.Proofs.Ytbpcjahjbkiofaa.Sp
open Go Go.Proofs.Ytbpcjahjbkiofaa.AV Go.Proofs.Ytbpcjahjbkiofaa.Fn
set_option maxRecDepth 10000

def fldF (l : List Fld) : Nat → List AV := fun i => Fld.cells (l.getD i default)
def frmF (l : List Frm) : Nat → List AV := fun i => Frm.cells (l.getD i default)

theorem clone_new (l : List Fld) (hb : l.length ≤ 1000000) : AC P slices_Clone_api_Field_api_Field.id [encFs l] [] (.row 5 0 0 0 l.length) [.row 5 l.length 0 (fldF l)] := by
  refine slices_Clone_api_Field_api_Field.intro rfl (Goes.run ?_)
  conv => whnf
  refine ⟨rfl, ?_⟩
  refine Run.eqNilC rfl rfl fun b hn => ?_
  conv => whnf
  refine ⟨rfl, ?_⟩
  refine Run.condC rfl (fun h => ?_) (fun h => ?_) <;> (conv => whnf) <;> refine ⟨rfl, ?_⟩
  · refine Run.retS ?_
    conv => whnf
    have : l = [] := by simpa using hn (by simpa [negB] using h)
    subst this
    exact FinS.newZ rfl
  · refine Run.doesT (id := 0) rfl (Does.appR rfl rfl rfl (by simp only [maxLen, List.length_nil]; omega) (by simp only [List.length_nil]; omega)) ?_
    conv => whnf
    refine ⟨rfl, ?_⟩
    refine Run.retS ?_
    conv => whnf
    rw [show [].length + l.length = l.length by simp]
    refine FinS.new (j := 0) rfl (by simp) fun k hk => leL_eq ?_
    show fapp 0 (nthL []) (fun i => Fld.cells (l.getD i default)) k = _
    rw [fapp_ge (Nat.zero_le _)]
    rfl

theorem copied_new (s : Sch) (hb : s.forms.length ≤ 1000) (hf : ∀ i, (s.forms.getD i default).fields.length ≤ 1000) :
    AC P typing_copied.id [.agg s.cells] [] (.agg [.int .i64 s.version, .row 2 0 0 0 s.forms.length]) [.row 2 s.forms.length 0 (frmF s.forms)] := by
  refine typing_copied.intro rfl (Goes.run ?_)
  conv => whnf
  refine ⟨rfl, ?_⟩
  refine Run.loopN (ι := Nat) (fun i => i ≤ s.forms.length) (fun i => [(1, .ptr 0 0 0 0), (2, .ptr 1 0 0 0), (3, .ptr 2 0 0 0), (10, encFms s.forms), (11, .int .i64 (s.forms.length : Int)), (12, .int .i64 (i : Int))])
    (fun i => [.box s.cells, .box [.int .i64 0, .zsl], .box [.int .i64 s.version, .row 2 3 i 0 i], .row 2 i i (frmF s.forms)])
    (fun i => s.forms.length - i) 0 (Nat.zero_le _) (Wk.trans (Wk.virt (b := 2) (nid := 3) (sz := 2) 1 (frmF s.forms) rfl rfl rfl rfl rfl) (Wk.ofEnv (Wk.cons (.refl _) (Wk.cons (.refl _) (Wk.cons (.refl _) (Wk.cons (.refl _) (Wk.cons (.refl _) (Wk.cons (.refl _) Wk.done)))))))) fun i hi => ?_
  conv => whnf
  refine ⟨rfl, ?_⟩
  refine Run.condC rfl (fun h => ?_) (fun h => ?_) <;> (conv => whnf) <;> refine ⟨rfl, ?_⟩
  · have hlt : i < s.forms.length := by simpa using h
    refine Run.iaC rfl rfl rfl rfl rfl (fun _ => ⟨by omega, by omega⟩) ?_
    conv => whnf
    refine ⟨rfl, ?_⟩
    refine Run.callD (av := [encFs (s.forms.getD i default).fields]) rfl rfl rfl (fun _ => clone_spec _ (by have := hf i; omega)) rfl rfl rfl ?_
    conv => whnf
    refine ⟨rfl, ?_⟩
    refine Run.appRD rfl rfl rfl rfl (by simp only [maxLen, List.length_cons, List.length_nil]; omega) (by simp only [List.length_cons, List.length_nil]; omega) rfl ?_
    conv => whnf
    refine ⟨rfl, ?_⟩
    refine Run.endR ⟨i + 1, by omega, by omega, Wk.trans (e2 := [(1, .ptr 0 0 0 0), (2, .ptr 1 0 0 0), (3, .ptr 2 0 0 0), (10, encFms s.forms), (11, .int .i64 (s.forms.length : Int)), (12, .int .i64 ((i + 1 : Nat) : Int))]) (Wk.cut 4 rfl rfl rfl rfl (Wk.cons (.refl _) (Wk.cons (.refl _) (Wk.cons (.refl _) (Wk.cons (.refl _) (Wk.cons (.refl _) (Wk.cons (.int ?_) Wk.done)))))) ) (Wk.tab fun k => ?_)⟩
    · rw [wrap_of (by omega) (by omega)]
      simp
    · match k with
      | 0 => exact LeOb.refl _
      | 1 => exact LeOb.refl _
      | 2 => exact LeOb.refl _
      | 3 =>
        refine ⟨rfl, rfl, rfl, fun k hk => leL_eq ?_⟩
        by_cases h1 : k < i
        · exact fapp_lt h1
        · obtain rfl : k = i := by
            have hk' : k < i + 1 := hk
            omega
          rw [fapp_ge (Nat.le_refl _), Nat.sub_self]
          rfl
      | k + 4 => exact .inl rfl
  · have hge : i = s.forms.length := by simp at h; omega
    refine Run.exitR rfl rfl ?_
    conv => whnf
    refine ⟨rfl, ?_⟩
    refine Run.retS ?_
    conv => whnf
    subst hge
    exact FinS.newA (j := 3) rfl rfl (Nat.le_refl _) fun k hk => LeL.refl _
end Go.Proofs.Ytbpcjahjbkiofaa.Sp

set_option linter.unusedVariables false
set_option linter.unusedSimpArgs false
namespace Go.Proofs.Ytbpcjahjbkiofaa.Sp
open Go Go.Proofs.Ytbpcjahjbkiofaa.AV Go.Proofs.Ytbpcjahjbkiofaa.Fn
set_option maxRecDepth 10000

/-- The parts that a step has, each a number. -/
def usesP (op : Int) : List Int := bif (op == 1 || op == 22) then [0, 2, 6, 7] else bif (op == 2) then [0, 1, 7] else bif (op == 3 || op == 23) then [0, 1, 6] else bif (op == 4) then [0, 1, 5] else bif (op == 24) then [0, 1, 5, 6] else bif (op == 5) then [0, 1, 4, 8] else bif (op == 25) then [0, 1, 8] else bif (op == 6) then [0, 1, 4, 3] else bif (op == 26) then [0, 1, 4, 3, 6] else bif (op == 7 || op == 27) then [0, 1, 2] else bif (op == 8 || op == 28) then [0, 1, 3] else bif (op == 9 || op == 30) then [0, 9] else bif (op == 10 || op == 29) then [0] else bif (op == 21) then [0, 1] else []

theorem nthL_map {α : Type} (f : α → List AV) (d : α) : ∀ (l : List α) (i : Nat), i < l.length → nthL (l.map f) i = f (l.getD i d)
  | [], i, h => by simp at h
  | x :: r, 0, _ => rfl
  | x :: r, i + 1, h => by
    show nthL (r.map f) i = _
    rw [nthL_map f d r i (by simpa using h)]
    rfl
theorem encIs_lit (l : List Int) : Le (.list 1 l.length (nthL (l.map fun x => [.int .i64 x]))) (encIs l) :=
  Le.list rfl fun i hi => leL_eq (nthL_map _ 0 l i hi)

theorem encIs_lit0 (l : List Int) : Le (.list 1 l.length (fun i => nthL (l.map fun x => [.int .i64 x]) (0 + i))) (encIs l) :=
  Le.list rfl fun i hi => leL_eq (by rw [Nat.zero_add]; exact nthL_map _ 0 l i hi)

theorem encIs_of0 {n : Nat} {f : Nat → List AV} (l : List Int) (hn : n = l.length) (hf : f = fun i => nthL (l.map fun x => [.int .i64 x]) (0 + i)) : Le (.list 1 n f) (encIs l) := by
  subst hn
  subst hf
  exact encIs_lit0 l

theorem step_uses_spec (op : Int) : AC P step_uses.id [.int .i64 op] [] (encIs (usesP op)) [] := by
  refine step_uses.intro rfl (Goes.run ?_)
  conv => whnf
  refine ⟨rfl, ?_⟩
  repeat' first | (refine Run.condC rfl (fun h => ?_) (fun h => ?_) <;> (conv => whnf) <;> refine ⟨rfl, ?_⟩) | (refine Run.retZ ?_; (conv => whnf); refine ⟨rfl, ?_⟩)
  all_goals (simp only [usesP, *, cond_true, cond_false, Bool.or_true, Bool.true_or, Bool.or_false, Bool.false_or]; first | exact encIs_of0 _ rfl rfl | exact Le.zsl (sz := 1) (by omega))

theorem step_in_spec (n lo hi : Int) : AC P step_in.id [.int .i64 n, .int .i64 lo, .int .i64 hi] [] (.bool (btw n lo hi)) [] := by
  refine step_in.intro rfl (Goes.run ?_)
  conv => whnf
  refine ⟨rfl, ?_⟩
  refine Run.retP ?_
  conv => whnf
  refine ⟨rfl, .bool ?_⟩
  unfold btw
  cases decide (n ≥ lo) <;> rfl

def seenI (l : List Int) (j : Nat) (k : Int) : Bool := (l.take j).any fun y => y == k
theorem seenI_succ {l : List Int} {j : Nat} (h : j < l.length) (k : Int) : seenI l (j + 1) k = (seenI l j k || l.getD j 0 == k) := by
  unfold seenI
  rw [List.take_add_one, List.any_append]
  simp [h]
theorem tab_seen {l : List Int} {below : Int} {i : Nat} (hi : i < l.length) : tabAt l below i = (btw (l.getD i 0) 0 (below - 1) && !seenI l i (l.getD i 0)) := by
  unfold tabAt
  congr 2
  unfold seenI
  apply bool_eq
  rw [List.any_eq_true, List.any_eq_true]
  constructor
  · rintro ⟨k, hk, h⟩
    rw [List.mem_range] at hk
    refine ⟨l[k], List.mem_iff_getElem.2 ⟨k, by simp; omega, by simp⟩, ?_⟩
    rwa [show l.getD k 0 = l[k] by simp [List.getD_eq_getElem?_getD, (by omega : k < l.length)]] at h
  · rintro ⟨y, hy, h⟩
    obtain ⟨k, hk, rfl⟩ := List.mem_iff_getElem.1 hy
    simp only [List.length_take] at hk
    refine ⟨k, List.mem_range.2 (by omega), ?_⟩
    rw [List.getElem_take] at h
    rwa [show l.getD k 0 = l[k] by simp [List.getD_eq_getElem?_getD, (by omega : k < l.length)]]

theorem step_apart_spec (l : List Int) (below : Int) (hb : -1000000 ≤ below ∧ below ≤ 1000) (hl : l.length ≤ 1000000) : AC P step_apart.id [encIs l, .int .i64 below] [] (.bool (tabB l below)) [] := by
  refine step_apart.intro rfl (Goes.run ?_)
  conv => whnf
  refine ⟨rfl, ?_⟩
  have hw : IntKind.i64.wrap (below - 1) = below - 1 := wrap_of (by omega) (by omega)
  refine Run.loopN (ι := Nat) (fun i => i ≤ l.length ∧ ∀ j, j < i → tabAt l below j = true) (fun i => [(0, encIs l), (1, .int .i64 below), (5, .ptr 0 0 0 0), (8, encIs l), (9, .int .i64 (l.length : Int)), (10, .int .i64 (i : Int))])
    (fun i => [.row 1 1000 0 (fun k => [.bool (seenI l i (k : Int))]), .dead, .dead, .dead])
    (fun i => l.length - i) 0 ⟨Nat.zero_le _, fun j hj => absurd hj (Nat.not_lt_zero _)⟩ ?_ fun i ⟨hi, hp⟩ => ?_
  · refine Wk.trans (Wk.ofEnv (Wk.cons (.refl _) (Wk.cons (.refl _) (Wk.cons (.refl _) (Wk.cons (.refl _) (Wk.cons (.refl _) (Wk.cons (.refl _) Wk.done))))))) (Wk.tab fun i => ?_)
    match i with
    | 0 => exact ⟨rfl, rfl, rfl, fun k _ => .cons (.ff (by simp [seenI])) .nil⟩
    | 1 => exact .inr rfl
    | 2 => exact .inr rfl
    | 3 => exact .inr rfl
    | i + 4 => exact .inl rfl
  conv => whnf
  refine ⟨rfl, ?_⟩
  refine Run.condC rfl (fun h => ?_) (fun h => ?_) <;> (conv => whnf) <;> refine ⟨rfl, ?_⟩
  · have hlt : i < l.length := by simpa using h
    refine Run.iaC rfl rfl rfl rfl rfl (fun _ => ⟨by omega, by omega⟩) ?_
    conv => whnf
    refine ⟨rfl, ?_⟩
    refine Run.callC (av := [.int .i64 (l.getD i 0), .int .i64 0, .int .i64 (IntKind.i64.wrap (below - 1))]) rfl rfl rfl (fun _ => step_in_spec _ _ _) rfl rfl ?_
    conv => whnf
    refine ⟨rfl, ?_⟩
    rw [hw]
    refine Run.doesC rfl rfl (fun hg => Does.iaArr (i := l.getD i 0) rfl rfl rfl rfl rfl ?_ ?_) ?_
    · have : btw (l.getD i 0) 0 (below - 1) = true := by simpa [pol] using hg.1
      simp only [btw, Bool.and_eq_true, decide_eq_true_eq] at this
      omega
    · have : btw (l.getD i 0) 0 (below - 1) = true := by simpa [pol] using hg.1
      simp only [btw, Bool.and_eq_true, decide_eq_true_eq] at this
      omega
    conv => whnf
    refine ⟨rfl, ?_⟩
    have hts := tab_seen (below := below) hlt
    refine Run.condC rfl (fun h => ?_) (fun h => ?_) <;> (conv => whnf) <;> refine ⟨rfl, ?_⟩
    · refine Run.retR ?_
      conv => whnf
      refine ⟨rfl, .ff ?_⟩
      have hbad : tabAt l below i = false := by
        rw [hts]
        cases hr : btw (l.getD i 0) 0 (below - 1)
        · rfl
        · rw [hr] at h
          have h2 : seenI l i (((l.getD i 0).toNat : Nat) : Int) = true := by simpa using h
          simp only [btw, Bool.and_eq_true, decide_eq_true_eq] at hr
          rw [Int.toNat_of_nonneg (by omega)] at h2
          rw [h2]; rfl
      unfold tabB
      have : (List.range l.length).all (tabAt l below) = false := by
        rw [List.all_eq_false]
        exact ⟨i, List.mem_range.2 hlt, by rw [hbad]; simp⟩
      rw [this, Bool.false_and]
    · have hr : btw (l.getD i 0) 0 (below - 1) = true := by
        cases hr : btw (l.getD i 0) 0 (below - 1)
        · rw [hr] at h; simp at h
        · rfl
      have hr' := hr
      simp only [btw, Bool.and_eq_true, decide_eq_true_eq] at hr'
      have hgood : tabAt l below i = true := by
        rw [hts, hr]
        rw [hr] at h
        have h2 : seenI l i (((l.getD i 0).toNat : Nat) : Int) = false := by simpa using h
        rw [Int.toNat_of_nonneg (by omega)] at h2
        rw [h2]; rfl
      refine Run.doesC rfl rfl (fun _ => Does.iaArr (i := l.getD i 0) rfl rfl rfl rfl rfl (by omega) (by omega)) ?_
      conv => whnf
      refine ⟨rfl, ?_⟩
      refine Run.endR ⟨i + 1, ⟨by omega, fun j hj => ?_⟩, by omega, Wk.trans (e2 := [(0, encIs l), (1, .int .i64 below), (5, .ptr 0 0 0 0), (8, encIs l), (9, .int .i64 (l.length : Int)), (10, .int .i64 ((i + 1 : Nat) : Int))]) (Wk.ofEnv (Wk.cons (.refl _) (Wk.cons (.refl _) (Wk.cons (.refl _) (Wk.cons (.refl _) (Wk.cons (.refl _) (Wk.cons (.int ?_) Wk.done))))))) (Wk.tab fun k => ?_)⟩
      · by_cases e : j < i
        · exact hp j e
        · obtain rfl : j = i := by omega
          exact hgood
      · rw [wrap_of (by omega) (by omega)]
        simp
      · match k with
        | 0 =>
          refine ⟨rfl, rfl, rfl, fun k _ => ?_⟩
          show LeL (bif Nat.beq k (l.getD i 0).toNat then _ else _) _
          cases hk : Nat.beq k (l.getD i 0).toNat with
          | true =>
            have hk' := Nat.eq_of_beq_eq_true hk
            refine .cons (.tt ?_) .nil
            rw [seenI_succ hlt, hk', Int.toNat_of_nonneg (by omega)]
            simp
          | false =>
            refine .cons (.bool ?_) .nil
            rw [seenI_succ hlt]
            have : (l.getD i 0 == (k : Int)) = false := by
              simp only [beq_eq_false_iff_ne, ne_eq]
              intro e
              rw [e] at hk
              simp at hk
            rw [this, Bool.or_false]
        | 1 => exact LeOb.refl _
        | 2 => exact LeOb.refl _
        | 3 => exact LeOb.refl _
        | k + 4 => exact .inl rfl
  · have hge : l.length ≤ i := by simpa using h
    refine Run.exitR rfl rfl ?_
    conv => whnf
    refine ⟨rfl, ?_⟩
    refine Run.callC (av := [.int .i64 (l.length : Int), .int .i64 1, .int .i64 64]) rfl rfl rfl (fun _ => step_in_spec _ _ _) rfl rfl ?_
    conv => whnf
    refine ⟨rfl, ?_⟩
    refine Run.retP ?_
    conv => whnf
    refine ⟨rfl, .bool ?_⟩
    have : (List.range l.length).all (tabAt l below) = true := by
      rw [List.all_eq_true]
      intro j hj
      exact hp j (by rw [List.mem_range] at hj; omega)
    unfold tabB
    rw [this, Bool.true_and]
    exact bool_eq (by simp [btw]; omega)
end Go.Proofs.Ytbpcjahjbkiofaa.Sp

set_option linter.unusedVariables false
namespace Go.Proofs.Ytbpcjahjbkiofaa.Sp
open Go Go.Proofs.Ytbpcjahjbkiofaa.AV Go.Proofs.Ytbpcjahjbkiofaa.Fn
set_option maxRecDepth 10000

def seenB (l : List Fld) (j : Nat) (k : Int) : Bool := (l.take j).any fun y => y.id == k

theorem seenB_zero (l : List Fld) (k : Int) : seenB l 0 k = false := by simp [seenB]
theorem seenB_succ {l : List Fld} {j : Nat} (h : j < l.length) (k : Int) : seenB l (j + 1) k = (seenB l j k || (l.getD j default).id == k) := by
  unfold seenB
  rw [List.take_add_one, List.any_append]
  simp [h]

theorem good_seen {l : List Fld} {i : Nat} (hi : i < l.length) : goodAt l i = (fRight (l.getD i default) && !seenB l i (l.getD i default).id) := by
  unfold goodAt
  congr 1
  obtain ⟨k, hk, hki⟩ := fAt_le hi
  rw [hk]
  unfold fAt at hk
  rw [List.findIdx?_eq_some_iff_getElem] at hk
  obtain ⟨h1, h2, h3⟩ := hk
  cases hs : seenB l i (l.getD i default).id with
  | true =>
    unfold seenB at hs
    rw [List.any_eq_true] at hs
    obtain ⟨y, hy, hyid⟩ := hs
    obtain ⟨m, hm, rfl⟩ := List.mem_iff_getElem.1 hy
    simp only [List.length_take] at hm
    have hne : k ≠ i := fun e => by
      subst e
      have := h3 m (by omega)
      rw [List.getElem_take] at hyid
      rw [hyid] at this
      exact this rfl
    simp [hne]
  | false =>
    unfold seenB at hs
    have he : k = i := by
      rcases Nat.lt_or_ge k i with g | g
      · exfalso
        rw [List.any_eq_false] at hs
        have hmem : l[k] ∈ l.take i := List.mem_iff_getElem.2 ⟨k, by simp; omega, by simp⟩
        exact hs _ hmem h2
      · omega
    simp [he]

theorem schema_fine (x : Frm) (hb : x.fields.length ≤ 1000) : AC P schema_Fine.id [.agg x.cells] [] (.bool (fFine x)) [] := by
  refine schema_Fine.intro rfl (Goes.run ?_)
  conv => whnf
  refine ⟨rfl, ?_⟩
  refine Run.callC (av := [.agg x.cells]) rfl rfl rfl (fun _ => schema_long x hb) rfl rfl ?_
  conv => whnf
  refine ⟨rfl, ?_⟩
  refine Run.condC rfl (fun h => ?_) (fun h => ?_) <;> (conv => whnf) <;> refine ⟨rfl, ?_⟩
  · refine Run.retP ?_
    conv => whnf
    refine ⟨rfl, .ff ?_⟩
    have : ¬ ((0 ≤ x.id ∧ x.id ≤ 200 ∧ 1 ≤ x.fields.length ∧ x.fields.length ≤ 8) ∧ fLong x.fields ≤ 64) := by simp at h; omega
    unfold fFine
    cases h1 : decide (0 ≤ x.id ∧ x.id ≤ 200 ∧ 1 ≤ x.fields.length ∧ x.fields.length ≤ 8)
    · simp
    · have : ¬ fLong x.fields ≤ 64 := fun h2 => this ⟨of_decide_eq_true h1, h2⟩
      simp [this]
  have hh : (0 ≤ x.id ∧ x.id ≤ 200 ∧ 1 ≤ x.fields.length ∧ x.fields.length ≤ 8) ∧ fLong x.fields ≤ 64 := by simp at h; omega
  refine Run.loopN (ι := Nat) (fun i => i ≤ x.fields.length ∧ ∀ j, j < i → goodAt x.fields j = true) (fun i => [(1, .ptr 0 0 0 0), (3, .ptr 1 0 0 0), (32, encFs x.fields), (33, .int .i64 (x.fields.length : Int)), (34, .int .i64 (i : Int))])
    (fun i => [.box x.cells, .row 1 256 0 (fun k => [.bool (seenB x.fields i (k : Int))]), .dead, .dead])
    (fun i => x.fields.length - i) 0 ⟨Nat.zero_le _, fun j hj => absurd hj (Nat.not_lt_zero _)⟩ ?_ fun i ⟨hi, hp⟩ => ?_
  · refine Wk.trans (Wk.ofEnv (Wk.cons (.refl _) (Wk.cons (.refl _) (Wk.cons (.refl _) (Wk.cons (.refl _) (Wk.cons (.refl _) Wk.done)))))) (Wk.tab fun i => ?_)
    match i with
    | 0 => exact LeOb.refl _
    | 1 => exact ⟨rfl, rfl, rfl, fun k _ => .cons (.ff (seenB_zero _ _)) .nil⟩
    | 2 => exact .inr rfl
    | 3 => exact .inr rfl
    | i + 4 => exact .inl rfl
  conv => whnf
  refine ⟨rfl, ?_⟩
  refine Run.condC rfl (fun h => ?_) (fun h => ?_) <;> (conv => whnf) <;> refine ⟨rfl, ?_⟩
  · have hlt : i < x.fields.length := by simpa using h
    refine Run.iaC rfl rfl rfl rfl rfl (fun _ => ⟨by omega, by omega⟩) ?_
    conv => whnf
    refine ⟨rfl, ?_⟩
    refine Run.callC (av := [.agg (x.fields.getD i default).cells]) rfl rfl rfl (fun _ => field_right _) rfl rfl ?_
    conv => whnf
    refine ⟨rfl, ?_⟩
    have hid : AllT [pol false !fRight (x.fields.getD i default)] → 0 ≤ (x.fields.getD i default).id ∧ (x.fields.getD i default).id < (256 : Nat) := fun hg => by
      have hr : fRight (x.fields.getD i default) = true := by simpa [pol] using hg.1
      obtain ⟨q1, q2, _⟩ := fRight_cases hr
      omega
    refine Run.doesC rfl rfl (fun hg => Does.iaArr rfl rfl rfl rfl rfl (hid hg).1 (hid hg).2) ?_
    conv => whnf
    refine ⟨rfl, ?_⟩
    have hgs := good_seen hlt
    refine Run.condC rfl (fun h => ?_) (fun h => ?_) <;> (conv => whnf) <;> refine ⟨rfl, ?_⟩
    · refine Run.retR ?_
      conv => whnf
      refine ⟨rfl, .ff ?_⟩
      have hbad : goodAt x.fields i = false := by
        rw [hgs]
        cases hr : fRight (x.fields.getD i default)
        · rfl
        · obtain ⟨q1, q2, _⟩ := fRight_cases hr
          rw [hr] at h
          have h2 : seenB x.fields i (((x.fields.getD i default).id.toNat : Nat) : Int) = true := by simpa using h
          rw [Int.toNat_of_nonneg q1] at h2
          rw [h2]; rfl
      have : (List.range x.fields.length).all (goodAt x.fields) = false := by
        rw [List.all_eq_false]
        exact ⟨i, List.mem_range.2 hlt, by rw [hbad]; simp⟩
      simp only [fFine, this, Bool.and_false, Bool.false_and]
    · have hr : fRight (x.fields.getD i default) = true := by
        cases hr : fRight (x.fields.getD i default)
        · rw [hr] at h; simp at h
        · rfl
      obtain ⟨q1, q2, _⟩ := fRight_cases hr
      have hgood : goodAt x.fields i = true := by
        rw [hgs, hr]
        rw [hr] at h
        have h2 : seenB x.fields i (((x.fields.getD i default).id.toNat : Nat) : Int) = false := by simpa using h
        rw [Int.toNat_of_nonneg q1] at h2
        rw [h2]; rfl
      refine Run.doesC rfl rfl (fun _ => Does.iaArr (i := (x.fields.getD i default).id) rfl rfl rfl rfl rfl q1 (by omega)) ?_
      conv => whnf
      refine ⟨rfl, ?_⟩
      refine Run.endR ⟨i + 1, ⟨by omega, fun j hj => ?_⟩, by omega, Wk.trans (e2 := [(1, .ptr 0 0 0 0), (3, .ptr 1 0 0 0), (32, encFs x.fields), (33, .int .i64 (x.fields.length : Int)), (34, .int .i64 ((i + 1 : Nat) : Int))]) (Wk.cut 4 rfl rfl rfl rfl (Wk.cons (.refl _) (Wk.cons (.refl _) (Wk.cons (.refl _) (Wk.cons (.refl _) (Wk.cons (.int ?_) Wk.done)))))) (Wk.tab fun k => ?_)⟩
      · by_cases e : j < i
        · exact hp j e
        · obtain rfl : j = i := by omega
          exact hgood
      · rw [wrap_of (by omega) (by omega)]
        simp
      · match k with
        | 0 => exact LeOb.refl _
        | 1 =>
          refine ⟨rfl, rfl, rfl, fun k _ => ?_⟩
          show LeL (bif Nat.beq k (x.fields.getD i default).id.toNat then _ else _) _
          cases hk : Nat.beq k (x.fields.getD i default).id.toNat with
          | true =>
            have hk' := Nat.eq_of_beq_eq_true hk
            refine .cons (.tt ?_) .nil
            rw [seenB_succ hlt, hk', Int.toNat_of_nonneg q1]
            simp
          | false =>
            refine .cons (.bool ?_) .nil
            rw [seenB_succ hlt]
            have : ((x.fields.getD i default).id == (k : Int)) = false := by
              simp only [beq_eq_false_iff_ne, ne_eq]
              intro e
              rw [e] at hk
              simp at hk
            rw [this, Bool.or_false]
        | 2 => exact LeOb.refl _
        | 3 => exact LeOb.refl _
        | k + 4 => exact .inl rfl
  · have hge : x.fields.length ≤ i := by simpa using h
    refine Run.exitR rfl rfl ?_
    conv => whnf
    refine ⟨rfl, ?_⟩
    refine Run.retP ?_
    conv => whnf
    refine ⟨rfl, .tt ?_⟩
    have : (List.range x.fields.length).all (goodAt x.fields) = true := by
      rw [List.all_eq_true]
      intro j hj
      exact hp j (by rw [List.mem_range] at hj; omega)
    simp only [fFine, this, hh, and_self, decide_true, Bool.and_true]
end Go.Proofs.Ytbpcjahjbkiofaa.Sp

set_option linter.unusedVariables false
namespace Go.Proofs.Ytbpcjahjbkiofaa.Sp
open Go Go.Proofs.Ytbpcjahjbkiofaa.AV Go.Proofs.Ytbpcjahjbkiofaa.Fn
set_option maxRecDepth 10000

def lastId (l : List Frm) (i : Nat) : Int := if i = 0 then -1 else (l.getD (i - 1) default).id

theorem okAt_last (l : List Frm) (i : Nat) : okAt l i = !((!fFine (l.getD i default)) || decide ((l.getD i default).id ≤ lastId l i)) := by
  unfold okAt lastId
  cases hf : fFine (l.getD i default) with
  | false => simp
  | true =>
    have h0 : 0 ≤ (l.getD i default).id := by
      simp only [fFine, Bool.and_eq_true, decide_eq_true_eq] at hf
      exact hf.1.1.1
    by_cases hi : i = 0
    · subst hi
      have : ¬ (l.getD 0 default).id ≤ -1 := by omega
      simp only [if_true, decide_eq_false this]
      simp
    · have h2 : (i == 0) = false := by simp; exact hi
      rw [h2, if_neg hi]
      simp only [Bool.true_and, Bool.false_or, Bool.not_true]
      rw [← decide_not]
      simp

theorem schema_right (s : Sch) (hs : Small s) : AC P schema_Right.id [.agg s.cells] [] (.bool (sRight s)) [] := by
  obtain ⟨hb, hf⟩ := hs
  refine schema_Right.intro rfl (Goes.run ?_)
  conv => whnf
  refine ⟨rfl, ?_⟩
  refine Run.condC rfl (fun h => ?_) (fun h => ?_) <;> (conv => whnf) <;> refine ⟨rfl, ?_⟩
  · refine Run.retP ?_
    conv => whnf
    refine ⟨rfl, .ff ?_⟩
    have : ¬ (1 ≤ s.version ∧ s.version ≤ 65535 ∧ s.forms.length ≤ 8) := by simp at h; omega
    simp [sRight, this]
  have hh : 1 ≤ s.version ∧ s.version ≤ 65535 ∧ s.forms.length ≤ 8 := by simp at h; omega
  refine Run.loopN (ι := Nat) (fun i => i ≤ s.forms.length ∧ ∀ j, j < i → okAt s.forms j = true) (fun i => [(1, .ptr 0 0 0 0), (3, .int .i64 (lastId s.forms i)), (21, encFms s.forms), (22, .int .i64 (s.forms.length : Int)), (23, .int .i64 (i : Int))]) (fun _ => [.box s.cells, .dead, .dead, .dead])
    (fun i => s.forms.length - i) 0 ⟨Nat.zero_le _, fun j hj => absurd hj (Nat.not_lt_zero _)⟩ (Wk.trans (Wk.pad 4) (Wk.ofEnv (Wk.cons (.refl _) (Wk.cons (.refl _) (Wk.cons (.refl _) (Wk.cons (.refl _) (Wk.cons (.refl _) Wk.done))))))) fun i ⟨hi, hp⟩ => ?_
  conv => whnf
  refine ⟨rfl, ?_⟩
  refine Run.condC rfl (fun h => ?_) (fun h => ?_) <;> (conv => whnf) <;> refine ⟨rfl, ?_⟩
  · have hlt : i < s.forms.length := by simpa using h
    refine Run.iaC rfl rfl rfl rfl rfl (fun _ => ⟨by omega, by omega⟩) ?_
    conv => whnf
    refine ⟨rfl, ?_⟩
    refine Run.callC (av := [.agg (s.forms.getD i default).cells]) rfl rfl rfl (fun _ => schema_fine _ (hf i)) rfl rfl ?_
    conv => whnf
    refine ⟨rfl, ?_⟩
    have hk := okAt_last s.forms i
    refine Run.condC rfl (fun h => ?_) (fun h => ?_) <;> (conv => whnf) <;> refine ⟨rfl, ?_⟩
    · refine Run.retR ?_
      conv => whnf
      refine ⟨rfl, .ff ?_⟩
      have hbad : okAt s.forms i = false := by rw [hk]; exact congrArg not h
      have : (List.range s.forms.length).all (okAt s.forms) = false := by
        rw [List.all_eq_false]
        exact ⟨i, List.mem_range.2 hlt, by rw [hbad]; simp⟩
      simp only [sRight, this, Bool.and_false]
    · have hgood : okAt s.forms i = true := by rw [hk]; exact congrArg not h
      refine Run.endR ⟨i + 1, ⟨by omega, fun j hj => ?_⟩, by omega, Wk.cut 4 rfl rfl rfl rfl (Wk.cons (.refl _) (Wk.cons (.int ?_) (Wk.cons (.refl _) (Wk.cons (.refl _) (Wk.cons (.int ?_) Wk.done)))))⟩
      · by_cases e : j < i
        · exact hp j e
        · obtain rfl : j = i := by omega
          exact hgood
      · unfold lastId
        rw [if_neg (by omega)]
        rfl
      · rw [wrap_of (by omega) (by omega)]
        simp
  · have hge : s.forms.length ≤ i := by simpa using h
    refine Run.exitR rfl rfl ?_
    conv => whnf
    refine ⟨rfl, ?_⟩
    refine Run.retP ?_
    conv => whnf
    refine ⟨rfl, .tt ?_⟩
    have : (List.range s.forms.length).all (okAt s.forms) = true := by
      rw [List.all_eq_true]
      intro j hj
      exact hp j (by rw [List.mem_range] at hj; omega)
    simp only [sRight, this, hh, and_self, decide_true, Bool.and_true]
end Go.Proofs.Ytbpcjahjbkiofaa.Sp

set_option linter.unusedVariables false
set_option linter.unusedSimpArgs false
namespace Go.Proofs.Ytbpcjahjbkiofaa.Sp
open Go Go.Proofs.Ytbpcjahjbkiofaa.AV Go.Proofs.Ytbpcjahjbkiofaa.Fn
set_option maxRecDepth 10000

def fitB (t : Stp) (p : Int) : Bool :=
  bif p == 0 then btw t.form 0 200 else bif p == 1 then btw t.field 0 255 else bif p == 2 then btw t.place 0 8 else bif p == 3 then btw t.to 0 255 && t.to != t.field else
  bif p == 4 then (t.op == 5 && btw t.a 1 1000) || (t.op != 5 && btw t.a 2 1048576) else bif p == 5 then (btw t.a (-1048576) 1048576 && t.a != 0) && btw t.b (-1099511627776) 1099511627776 else
  bif p == 6 then fRight t.f && ((t.op == 1 || t.op == 22) || t.f.id == t.field) else bif p == 7 then (bif t.op == 2 then btw t.vn (-1099511627776) 1099511627776 && decide ((t.vs.size : Int) ≤ 32) else fHas t.f t.vn t.vs) else
  bif p == 8 then (bif t.op == 5 then tabB t.t t.a else tabB t.t 1000) else fFine ⟨t.form, t.fields⟩

theorem step_fits_spec (t : Stp) (p : Int) (hl : t.t.length ≤ 1000000) (hf : t.fields.length ≤ 1000) (h5 : p = 8 → t.op = 5 → 1 ≤ t.a ∧ t.a ≤ 1000) : AC P step_fits.id [.agg t.cells, .int .i64 p] [] (.bool (fitB t p)) [] := by
  refine step_fits.intro rfl (Goes.run ?_)
  conv => whnf
  refine ⟨rfl, ?_⟩
  refine Run.condC rfl (fun h0 => ?_) (fun h0 => ?_) <;> (conv => whnf) <;> refine ⟨rfl, ?_⟩
  · refine Run.callC (av := [.int .i64 t.form, .int .i64 0, .int .i64 200]) rfl rfl rfl (fun _ => step_in_spec _ _ _) rfl rfl ?_
    conv => whnf
    refine ⟨rfl, ?_⟩
    refine Run.retP ?_
    conv => whnf
    refine ⟨rfl, .bool ?_⟩
    simp only [fitB, h0, cond_true]
  refine Run.condC rfl (fun h1 => ?_) (fun h1 => ?_) <;> (conv => whnf) <;> refine ⟨rfl, ?_⟩
  · refine Run.callC (av := [.int .i64 t.field, .int .i64 0, .int .i64 255]) rfl rfl rfl (fun _ => step_in_spec _ _ _) rfl rfl ?_
    conv => whnf
    refine ⟨rfl, ?_⟩
    refine Run.retP ?_
    conv => whnf
    refine ⟨rfl, .bool ?_⟩
    simp only [fitB, h0, h1, cond_true, cond_false]
  refine Run.condC rfl (fun h2 => ?_) (fun h2 => ?_) <;> (conv => whnf) <;> refine ⟨rfl, ?_⟩
  · refine Run.callC (av := [.int .i64 t.place, .int .i64 0, .int .i64 8]) rfl rfl rfl (fun _ => step_in_spec _ _ _) rfl rfl ?_
    conv => whnf
    refine ⟨rfl, ?_⟩
    refine Run.retP ?_
    conv => whnf
    refine ⟨rfl, .bool ?_⟩
    simp only [fitB, h0, h1, h2, cond_true, cond_false]
  refine Run.condC rfl (fun h3 => ?_) (fun h3 => ?_) <;> (conv => whnf) <;> refine ⟨rfl, ?_⟩
  · refine Run.callC (av := [.int .i64 t.to, .int .i64 0, .int .i64 255]) rfl rfl rfl (fun _ => step_in_spec _ _ _) rfl rfl ?_
    conv => whnf
    refine ⟨rfl, ?_⟩
    refine Run.retP ?_
    conv => whnf
    refine ⟨rfl, .bool ?_⟩
    simp only [fitB, h0, h1, h2, h3, cond_true, cond_false]
  refine Run.condC rfl (fun h4 => ?_) (fun h4 => ?_) <;> (conv => whnf) <;> refine ⟨rfl, ?_⟩
  · refine Run.callC (av := [.int .i64 t.a, .int .i64 1, .int .i64 1000]) rfl rfl rfl (fun _ => step_in_spec _ _ _) rfl rfl ?_
    conv => whnf
    refine ⟨rfl, ?_⟩
    refine Run.callC (av := [.int .i64 t.a, .int .i64 2, .int .i64 1048576]) rfl rfl rfl (fun _ => step_in_spec _ _ _) rfl rfl ?_
    conv => whnf
    refine ⟨rfl, ?_⟩
    refine Run.retP ?_
    conv => whnf
    refine ⟨rfl, .bool ?_⟩
    simp only [fitB, h0, h1, h2, h3, h4, cond_true, cond_false]
  refine Run.condC rfl (fun h5' => ?_) (fun h5' => ?_) <;> (conv => whnf) <;> refine ⟨rfl, ?_⟩
  · refine Run.callC (av := [.int .i64 t.a, .int .i64 (-1048576), .int .i64 1048576]) rfl rfl rfl (fun _ => step_in_spec _ _ _) rfl rfl ?_
    conv => whnf
    refine ⟨rfl, ?_⟩
    refine Run.callC (av := [.int .i64 t.b, .int .i64 (-1099511627776), .int .i64 1099511627776]) rfl rfl rfl (fun _ => step_in_spec _ _ _) rfl rfl ?_
    conv => whnf
    refine ⟨rfl, ?_⟩
    refine Run.retP ?_
    conv => whnf
    refine ⟨rfl, .bool ?_⟩
    simp only [fitB, h0, h1, h2, h3, h4, h5', cond_true, cond_false]
  refine Run.condC rfl (fun h6 => ?_) (fun h6 => ?_) <;> (conv => whnf) <;> refine ⟨rfl, ?_⟩
  · refine Run.callC (av := [.agg t.f.cells]) rfl rfl rfl (fun _ => field_right _) rfl rfl ?_
    conv => whnf
    refine ⟨rfl, ?_⟩
    refine Run.retP ?_
    conv => whnf
    refine ⟨rfl, .bool ?_⟩
    simp only [fitB, h0, h1, h2, h3, h4, h5', h6, cond_true, cond_false]
  refine Run.condC rfl (fun h7 => ?_) (fun h7 => ?_) <;> (conv => whnf) <;> refine ⟨rfl, ?_⟩
  · refine Run.condC rfl (fun h8 => ?_) (fun h8 => ?_) <;> (conv => whnf) <;> refine ⟨rfl, ?_⟩
    · refine Run.callC (av := [.int .i64 t.vn, .int .i64 (-1099511627776), .int .i64 1099511627776]) rfl rfl rfl (fun _ => step_in_spec _ _ _) rfl rfl ?_
      conv => whnf
      refine ⟨rfl, ?_⟩
      refine Run.retP ?_
      conv => whnf
      refine ⟨rfl, .bool ?_⟩
      simp only [fitB, h0, h1, h2, h3, h4, h5', h6, h7, h8, cond_true, cond_false]
    · refine Run.callC (av := [.agg t.f.cells, .agg [.int .i64 t.vn, .str t.vs]]) rfl rfl rfl (fun _ => field_has _ _ _) rfl rfl ?_
      conv => whnf
      refine ⟨rfl, ?_⟩
      refine Run.retP ?_
      conv => whnf
      refine ⟨rfl, .bool ?_⟩
      simp only [fitB, h0, h1, h2, h3, h4, h5', h6, h7, h8, cond_true, cond_false]
  refine Run.condC rfl (fun h8 => ?_) (fun h8 => ?_) <;> (conv => whnf) <;> refine ⟨rfl, ?_⟩
  · refine Run.condC rfl (fun h9 => ?_) (fun h9 => ?_) <;> (conv => whnf) <;> refine ⟨rfl, ?_⟩
    · have h59 := h5 (by simpa using h8) (by simpa using h9)
      refine Run.callC (av := [encIs t.t, .int .i64 t.a]) rfl rfl rfl (fun _ => step_apart_spec _ _ (by omega) hl) rfl rfl ?_
      conv => whnf
      refine ⟨rfl, ?_⟩
      refine Run.retP ?_
      conv => whnf
      refine ⟨rfl, .bool ?_⟩
      simp only [fitB, h0, h1, h2, h3, h4, h5', h6, h7, h8, h9, cond_true, cond_false]
    · refine Run.callC (av := [encIs t.t, .int .i64 1000]) rfl rfl rfl (fun _ => step_apart_spec _ _ (by omega) hl) rfl rfl ?_
      conv => whnf
      refine ⟨rfl, ?_⟩
      refine Run.retP ?_
      conv => whnf
      refine ⟨rfl, .bool ?_⟩
      simp only [fitB, h0, h1, h2, h3, h4, h5', h6, h7, h8, h9, cond_true, cond_false]
  refine Run.callC (av := [.agg (Frm.cells ⟨t.form, t.fields⟩)]) rfl rfl rfl (fun _ => schema_fine ⟨t.form, t.fields⟩ hf) rfl rfl ?_
  conv => whnf
  refine ⟨rfl, ?_⟩
  refine Run.retP ?_
  conv => whnf
  refine ⟨rfl, .bool ?_⟩
  simp only [fitB, h0, h1, h2, h3, h4, h5', h6, h7, h8, cond_true, cond_false]

def setP (t x : Stp) (p : Int) : Stp :=
  bif p == 0 then { x with form := t.form } else bif p == 1 then { x with field := t.field } else bif p == 2 then { x with place := t.place } else bif p == 3 then { x with to := t.to } else
  bif p == 5 then { x with b := t.b, a := t.a } else bif p == 4 then { x with a := t.a } else bif p == 6 then { x with f := t.f } else bif p == 7 then { x with vn := t.vn, vs := t.vs } else
  bif p == 8 then { x with t := t.t } else bif p == 9 then { x with fields := t.fields } else x
def onlyAt (t : Stp) (i : Nat) : Stp := ((usesP t.op).take i).foldl (setP t) { (default : Stp) with op := t.op }
def onlyP (t : Stp) : Stp := (usesP t.op).foldl (setP t) { (default : Stp) with op := t.op }

theorem onlyAt_succ {t : Stp} {i : Nat} (hi : i < (usesP t.op).length) : onlyAt t (i + 1) = setP t (onlyAt t i) ((usesP t.op).getD i 0) := by
  unfold onlyAt
  rw [List.take_add_one, List.foldl_append]
  simp [hi, List.getD_eq_getElem?_getD]

theorem usesP_len (op : Int) : (usesP op).length ≤ 5 := by
  unfold usesP
  repeat' (rw [cond_eq_ite]; split)
  all_goals simp

theorem step_only_spec (t : Stp) : AC P step_only.id [.agg t.cells] [] (.agg (onlyP t).cells) [] := by
  refine step_only.intro rfl (Goes.run ?_)
  conv => whnf
  refine ⟨rfl, ?_⟩
  refine Run.callC (av := [.int .i64 t.op]) rfl rfl rfl (fun _ => step_uses_spec _) rfl rfl ?_
  conv => whnf
  refine ⟨rfl, ?_⟩
  have hlen := usesP_len t.op
  refine Run.loopN (ι := Nat) (fun i => i ≤ (usesP t.op).length) (fun i => [(1, .ptr 0 0 0 0), (2, .ptr 1 0 0 0), (3, .ptr 2 0 0 0), (11, encIs (usesP t.op)), (12, .int .i64 ((usesP t.op).length : Int)), (13, .int .i64 (i : Int))])
    (fun i => [.box t.cells, .box (Stp.cells default), .box (onlyAt t i).cells])
    (fun i => (usesP t.op).length - i) 0 (Nat.zero_le _) ?_ fun i hi => ?_
  · refine Wk.trans (Wk.ofEnv (Wk.cons (.refl _) (Wk.cons (.refl _) (Wk.cons (.refl _) (Wk.cons (.refl _) (Wk.cons (.refl _) (Wk.cons (.refl _) Wk.done))))))) (Wk.tab fun i => ?_)
    have hz : ∀ (op : Int), LeL [.int .i64 op, .int .i64 0, .int .i64 0, .int .i64 0, .int .i64 0, .int .i64 0, .int .i64 0, .int .i64 0, .int .i64 0, .int .i64 0, .int .i64 0, .int .i64 0, .int .i64 0, .str ByteArray.empty, .zsl, .zsl] ({ (default : Stp) with op := op }).cells := fun op =>
      .cons (.refl _) (.cons (.refl _) (.cons (.refl _) (.cons (.refl _) (.cons (.refl _) (.cons (.refl _) (.cons (.refl _) (.cons (.refl _) (.cons (.refl _) (.cons (.refl _) (.cons (.refl _) (.cons (.refl _) (.cons (.refl _) (.cons (.refl _) (.cons (Le.zsl (by omega)) (.cons (Le.zsl (by omega)) .nil)))))))))))))))
    match i with
    | 0 => exact LeOb.refl _
    | 1 => exact hz 0
    | 2 => exact hz t.op
    | i + 3 => exact .inl rfl
  have hstep := onlyAt_succ (t := t) (i := i)
  generalize hx : onlyAt t i = x at hstep ⊢
  conv => whnf
  refine ⟨rfl, ?_⟩
  refine Run.condC rfl (fun h => ?_) (fun h => ?_) <;> (conv => whnf) <;> refine ⟨rfl, ?_⟩
  · have hlt : i < (usesP t.op).length := by simpa using h
    replace hstep := hstep hlt
    refine Run.iaC rfl rfl rfl rfl rfl (fun _ => ⟨by omega, by omega⟩) ?_
    conv => whnf
    refine ⟨rfl, ?_⟩
    generalize hq : (usesP t.op).getD (Int.toNat (i : Int)) 0 = p
    rw [show (usesP t.op).getD i 0 = p from hq] at hstep
    have fin : ∀ (e : Env) (y : Stp), setP t x p = y → (∀ q ∈ [(1, AV.ptr 0 0 0 0), (2, .ptr 1 0 0 0), (3, .ptr 2 0 0 0), (11, encIs (usesP t.op)), (12, .int .i64 ((usesP t.op).length : Int)), (13, .int .i64 ((i + 1 : Nat) : Int))], Le (eget e q.1) q.2) →
        Wk e [.box t.cells, .box (Stp.cells default), .box y.cells] [(1, .ptr 0 0 0 0), (2, .ptr 1 0 0 0), (3, .ptr 2 0 0 0), (11, encIs (usesP t.op)), (12, .int .i64 ((usesP t.op).length : Int)), (13, .int .i64 ((i + 1 : Nat) : Int))] [.box t.cells, .box (Stp.cells default), .box (onlyAt t (i + 1)).cells] := fun e y hy he => by
      rw [hstep, hy]
      exact Wk.ofEnv he
    have hwi : IntKind.i64.wrap ((i : Int) + 1) = ((i + 1 : Nat) : Int) := by rw [wrap_of (by omega) (by omega)]; simp
    refine Run.condC rfl (fun h0 => ?_) (fun h0 => ?_) <;> (conv => whnf) <;> refine ⟨rfl, ?_⟩
    · refine Run.endR ⟨i + 1, by omega, by omega, fin _ { x with form := t.form } (by simp only [setP, h0, cond_true]) (Wk.cons (.refl _) (Wk.cons (.refl _) (Wk.cons (.refl _) (Wk.cons (.refl _) (Wk.cons (.refl _) (Wk.cons (.int hwi) Wk.done))))))⟩
    refine Run.condC rfl (fun h1 => ?_) (fun h1 => ?_) <;> (conv => whnf) <;> refine ⟨rfl, ?_⟩
    · refine Run.endR ⟨i + 1, by omega, by omega, fin _ { x with field := t.field } (by simp only [setP, h0, h1, cond_true, cond_false]) (Wk.cons (.refl _) (Wk.cons (.refl _) (Wk.cons (.refl _) (Wk.cons (.refl _) (Wk.cons (.refl _) (Wk.cons (.int hwi) Wk.done))))))⟩
    refine Run.condC rfl (fun h2 => ?_) (fun h2 => ?_) <;> (conv => whnf) <;> refine ⟨rfl, ?_⟩
    · refine Run.endR ⟨i + 1, by omega, by omega, fin _ { x with place := t.place } (by simp only [setP, h0, h1, h2, cond_true, cond_false]) (Wk.cons (.refl _) (Wk.cons (.refl _) (Wk.cons (.refl _) (Wk.cons (.refl _) (Wk.cons (.refl _) (Wk.cons (.int hwi) Wk.done))))))⟩
    refine Run.condC rfl (fun h3 => ?_) (fun h3 => ?_) <;> (conv => whnf) <;> refine ⟨rfl, ?_⟩
    · refine Run.endR ⟨i + 1, by omega, by omega, fin _ { x with to := t.to } (by simp only [setP, h0, h1, h2, h3, cond_true, cond_false]) (Wk.cons (.refl _) (Wk.cons (.refl _) (Wk.cons (.refl _) (Wk.cons (.refl _) (Wk.cons (.refl _) (Wk.cons (.int hwi) Wk.done))))))⟩
    refine Run.condC rfl (fun h5 => ?_) (fun h5 => ?_) <;> (conv => whnf) <;> refine ⟨rfl, ?_⟩
    · refine Run.endR ⟨i + 1, by omega, by omega, fin _ { x with b := t.b, a := t.a } (by simp only [setP, h0, h1, h2, h3, h5, cond_true, cond_false]) (Wk.cons (.refl _) (Wk.cons (.refl _) (Wk.cons (.refl _) (Wk.cons (.refl _) (Wk.cons (.refl _) (Wk.cons (.int hwi) Wk.done))))))⟩
    refine Run.condC rfl (fun h4 => ?_) (fun h4 => ?_) <;> (conv => whnf) <;> refine ⟨rfl, ?_⟩
    · refine Run.endR ⟨i + 1, by omega, by omega, fin _ { x with a := t.a } (by simp only [setP, h0, h1, h2, h3, h5, h4, cond_true, cond_false]) (Wk.cons (.refl _) (Wk.cons (.refl _) (Wk.cons (.refl _) (Wk.cons (.refl _) (Wk.cons (.refl _) (Wk.cons (.int hwi) Wk.done))))))⟩
    refine Run.condC rfl (fun h6 => ?_) (fun h6 => ?_) <;> (conv => whnf) <;> refine ⟨rfl, ?_⟩
    · refine Run.endR ⟨i + 1, by omega, by omega, fin _ { x with f := t.f } (by simp only [setP, h0, h1, h2, h3, h5, h4, h6, cond_true, cond_false]) (Wk.cons (.refl _) (Wk.cons (.refl _) (Wk.cons (.refl _) (Wk.cons (.refl _) (Wk.cons (.refl _) (Wk.cons (.int hwi) Wk.done))))))⟩
    refine Run.condC rfl (fun h7 => ?_) (fun h7 => ?_) <;> (conv => whnf) <;> refine ⟨rfl, ?_⟩
    · refine Run.endR ⟨i + 1, by omega, by omega, fin _ { x with vn := t.vn, vs := t.vs } (by simp only [setP, h0, h1, h2, h3, h5, h4, h6, h7, cond_true, cond_false]) (Wk.cons (.refl _) (Wk.cons (.refl _) (Wk.cons (.refl _) (Wk.cons (.refl _) (Wk.cons (.refl _) (Wk.cons (.int hwi) Wk.done))))))⟩
    refine Run.condC rfl (fun h8 => ?_) (fun h8 => ?_) <;> (conv => whnf) <;> refine ⟨rfl, ?_⟩
    · refine Run.endR ⟨i + 1, by omega, by omega, fin _ { x with t := t.t } (by simp only [setP, h0, h1, h2, h3, h5, h4, h6, h7, h8, cond_true, cond_false]) (Wk.cons (.refl _) (Wk.cons (.refl _) (Wk.cons (.refl _) (Wk.cons (.refl _) (Wk.cons (.refl _) (Wk.cons (.int hwi) Wk.done))))))⟩
    refine Run.condC rfl (fun h9 => ?_) (fun h9 => ?_) <;> (conv => whnf) <;> refine ⟨rfl, ?_⟩
    · refine Run.endR ⟨i + 1, by omega, by omega, fin _ { x with fields := t.fields } (by simp only [setP, h0, h1, h2, h3, h5, h4, h6, h7, h8, h9, cond_true, cond_false]) (Wk.cons (.refl _) (Wk.cons (.refl _) (Wk.cons (.refl _) (Wk.cons (.refl _) (Wk.cons (.refl _) (Wk.cons (.int hwi) Wk.done))))))⟩
    refine Run.endR ⟨i + 1, by omega, by omega, fin _ x (by simp only [setP, h0, h1, h2, h3, h5, h4, h6, h7, h8, h9, cond_false]) (Wk.cons (.refl _) (Wk.cons (.refl _) (Wk.cons (.refl _) (Wk.cons (.refl _) (Wk.cons (.refl _) (Wk.cons (.int hwi) Wk.done))))))⟩
  · have hge : (usesP t.op).length ≤ i := by simpa using h
    have hx2 : x = onlyP t := hx.symm.trans (by unfold onlyAt onlyP; rw [List.take_of_length_le hge])
    subst hx2
    refine Run.exitR rfl rfl ?_
    conv => whnf
    refine ⟨rfl, ?_⟩
    refine Run.retP ?_
    conv => whnf
    exact ⟨rfl, .refl _⟩
end Go.Proofs.Ytbpcjahjbkiofaa.Sp

set_option linter.unusedVariables false
set_option linter.unusedSimpArgs false
namespace Go.Proofs.Ytbpcjahjbkiofaa.Sp
open Go Go.Proofs.Ytbpcjahjbkiofaa.AV Go.Proofs.Ytbpcjahjbkiofaa.Fn
set_option maxRecDepth 10000

theorem list_eq_of {α : Type} [Inhabited α] {l m : List α} (hl : l.length = m.length) (h : ∀ j, j < l.length → l.getD j default = m.getD j default) : l = m := by
  apply List.ext_getElem hl
  intro i h1 h2
  have := h i h1
  simpa [List.getD_eq_getElem?_getD, h1, h2] using this

theorem equal_ints (l m : List Int) (hl : l.length ≤ 1000000) : AC P slices_Equal_int_int.id [encIs l, encIs m] [] (.bool (decide (l = m))) [] := by
  refine slices_Equal_int_int.intro rfl (Goes.run ?_)
  conv => whnf
  refine ⟨rfl, ?_⟩
  refine Run.condC rfl (fun h => ?_) (fun h => ?_) <;> (conv => whnf) <;> refine ⟨rfl, ?_⟩
  · refine Run.retP ?_
    conv => whnf
    refine ⟨rfl, .ff (decide_eq_false fun e => ?_)⟩
    subst e
    simp at h
  have hlm : l.length = m.length := by simp at h; omega
  refine Run.loopN (ι := Nat) (fun i => i ≤ l.length ∧ ∀ j, j < i → l.getD j 0 = m.getD j 0) (fun i => [(0, encIs l), (1, encIs m), (12, .int .i64 (l.length : Int)), (13, .int .i64 (i : Int))]) (fun _ => [])
    (fun i => l.length - i) 0 ⟨Nat.zero_le _, fun j hj => absurd hj (Nat.not_lt_zero _)⟩ (Wk.ofEnv (Wk.cons (.refl _) (Wk.cons (.refl _) (Wk.cons (.refl _) (Wk.cons (.refl _) Wk.done))))) fun i ⟨hi, hp⟩ => ?_
  conv => whnf
  refine ⟨rfl, ?_⟩
  refine Run.condC rfl (fun h => ?_) (fun h => ?_) <;> (conv => whnf) <;> refine ⟨rfl, ?_⟩
  · have hlt : i < l.length := by simpa using h
    refine Run.iaD rfl rfl rfl rfl rfl (fun _ => ⟨by omega, by omega⟩) rfl ?_
    conv => whnf
    refine ⟨rfl, ?_⟩
    refine Run.iaD rfl rfl rfl rfl rfl (fun _ => ⟨by omega, by omega⟩) rfl ?_
    conv => whnf
    refine ⟨rfl, ?_⟩
    refine Run.condC rfl (fun h => ?_) (fun h => ?_) <;> (conv => whnf) <;> refine ⟨rfl, ?_⟩
    · refine Run.retR ?_
      conv => whnf
      refine ⟨rfl, .ff (decide_eq_false fun e => ?_)⟩
      subst e
      simp at h
    · have he : l.getD i 0 = m.getD i 0 := by
        have h' : (l.getD i 0 != m.getD i 0) = false := h
        simpa using h'
      refine Run.endR ⟨i + 1, ⟨by omega, fun j hj => ?_⟩, by omega, Wk.ofEnv (Wk.cons (.refl _) (Wk.cons (.refl _) (Wk.cons (.refl _) (Wk.cons (.int ?_) Wk.done))))⟩
      · by_cases e : j < i
        · exact hp j e
        · obtain rfl : j = i := by omega
          exact he
      · rw [wrap_of (by omega) (by omega)]
        simp
  · have hge : l.length ≤ i := by simpa using h
    refine Run.exitR rfl rfl ?_
    conv => whnf
    refine ⟨rfl, ?_⟩
    refine Run.retP ?_
    conv => whnf
    exact ⟨rfl, .tt (decide_eq_true (list_eq_of hlm fun j hj => hp j (by omega)))⟩

theorem fld_eq (a b : Fld) : (a.id == b.id && (a.kind == b.kind && (a.lo == b.lo && (a.hi == b.hi && (a.most == b.most && true))))) = decide (a = b) := by
  apply bool_eq
  simp only [Bool.and_eq_true, beq_iff_eq, decide_eq_true_eq, and_true]
  constructor
  · rintro ⟨h1, h2, h3, h4, h5⟩
    cases a; cases b; simp_all
  · rintro rfl
    exact ⟨rfl, rfl, rfl, rfl, rfl⟩

theorem equal_flds (l m : List Fld) (hl : l.length ≤ 1000000) : AC P slices_Equal_api_Field_api_Field.id [encFs l, encFs m] [] (.bool (decide (l = m))) [] := by
  refine slices_Equal_api_Field_api_Field.intro rfl (Goes.run ?_)
  conv => whnf
  refine ⟨rfl, ?_⟩
  refine Run.condC rfl (fun h => ?_) (fun h => ?_) <;> (conv => whnf) <;> refine ⟨rfl, ?_⟩
  · refine Run.retP ?_
    conv => whnf
    refine ⟨rfl, .ff (decide_eq_false fun e => ?_)⟩
    subst e
    simp at h
  have hlm : l.length = m.length := by simp at h; omega
  refine Run.loopN (ι := Nat) (fun i => i ≤ l.length ∧ ∀ j, j < i → l.getD j default = m.getD j default) (fun i => [(0, encFs l), (1, encFs m), (12, .int .i64 (l.length : Int)), (13, .int .i64 (i : Int))]) (fun _ => [])
    (fun i => l.length - i) 0 ⟨Nat.zero_le _, fun j hj => absurd hj (Nat.not_lt_zero _)⟩ (Wk.ofEnv (Wk.cons (.refl _) (Wk.cons (.refl _) (Wk.cons (.refl _) (Wk.cons (.refl _) Wk.done))))) fun i ⟨hi, hp⟩ => ?_
  conv => whnf
  refine ⟨rfl, ?_⟩
  refine Run.condC rfl (fun h => ?_) (fun h => ?_) <;> (conv => whnf) <;> refine ⟨rfl, ?_⟩
  · have hlt : i < l.length := by simpa using h
    refine Run.iaD rfl rfl rfl rfl rfl (fun _ => ⟨by omega, by omega⟩) rfl ?_
    conv => whnf
    refine ⟨rfl, ?_⟩
    refine Run.iaD rfl rfl rfl rfl rfl (fun _ => ⟨by omega, by omega⟩) rfl ?_
    conv => whnf
    refine ⟨rfl, ?_⟩
    refine Run.condC rfl (fun h => ?_) (fun h => ?_) <;> (conv => whnf) <;> refine ⟨rfl, ?_⟩
    · refine Run.retR ?_
      conv => whnf
      refine ⟨rfl, .ff (decide_eq_false fun e => ?_)⟩
      subst e
      have h' : negB true ((l.getD i default).id == (l.getD i default).id && ((l.getD i default).kind == (l.getD i default).kind && ((l.getD i default).lo == (l.getD i default).lo && ((l.getD i default).hi == (l.getD i default).hi && ((l.getD i default).most == (l.getD i default).most && true))))) = true := h
      rw [fld_eq] at h'
      simp [negB] at h'
    · have he : l.getD i default = m.getD i default := by
        have h' : negB true ((l.getD i default).id == (m.getD i default).id && ((l.getD i default).kind == (m.getD i default).kind && ((l.getD i default).lo == (m.getD i default).lo && ((l.getD i default).hi == (m.getD i default).hi && ((l.getD i default).most == (m.getD i default).most && true))))) = false := h
        rw [fld_eq] at h'
        unfold negB at h'
        exact of_decide_eq_true (by simpa only [Bool.not_eq_false'] using h')
      refine Run.endR ⟨i + 1, ⟨by omega, fun j hj => ?_⟩, by omega, Wk.ofEnv (Wk.cons (.refl _) (Wk.cons (.refl _) (Wk.cons (.refl _) (Wk.cons (.int ?_) Wk.done))))⟩
      · by_cases e : j < i
        · exact hp j e
        · obtain rfl : j = i := by omega
          exact he
      · rw [wrap_of (by omega) (by omega)]
        simp
  · have hge : l.length ≤ i := by simpa using h
    refine Run.exitR rfl rfl ?_
    conv => whnf
    refine ⟨rfl, ?_⟩
    refine Run.retP ?_
    conv => whnf
    exact ⟨rfl, .tt (decide_eq_true (list_eq_of hlm fun j hj => hp j (by omega)))⟩

def wz (a b : Int) : Bool := IntKind.i64.wrap (a - b) == 0
def sameP (a b : Stp) : Bool :=
  decide (a.t = b.t) && decide (a.fields = b.fields) && (wz a.op b.op && (wz a.form b.form && (wz a.field b.field && (wz a.place b.place && (wz a.to b.to && (wz a.a b.a && (wz a.b b.b && true))))))) && decide (a.f = b.f) && (a.vn == b.vn && (a.vs == b.vs && true))

theorem step_same_spec (a b : Stp) (hl : a.t.length ≤ 1000000) (hf : a.fields.length ≤ 1000000) : AC P step_Same.id [.agg a.cells, .agg b.cells] [] (.bool (sameP a b)) [] := by
  refine step_Same.intro rfl (Goes.run ?_)
  conv => whnf
  refine ⟨rfl, ?_⟩
  refine Run.callC (av := [encIs a.t, encIs b.t]) rfl rfl rfl (fun _ => equal_ints _ _ hl) rfl rfl ?_
  conv => whnf
  refine ⟨rfl, ?_⟩
  refine Run.callC (av := [encFs a.fields, encFs b.fields]) rfl rfl rfl (fun _ => equal_flds _ _ hf) rfl rfl ?_
  conv => whnf
  refine ⟨rfl, ?_⟩
  refine Run.retP ?_
  conv => whnf
  refine ⟨rfl, .bool ?_⟩
  simp only [negB, fld_eq]
  rfl

def pRight (t : Stp) : Bool := (List.range (usesP t.op).length).all (fun i => fitB t ((usesP t.op).getD i 0)) && (decide (0 < (usesP t.op).length) && sameP t (onlyP t))

theorem uses_8 {op : Int} {i : Nat} (h5 : op = 5) (h : (usesP op).getD i 0 = 8) : 2 < i := by
  subst h5
  match i, h with
  | 0, h => exact absurd h (by decide)
  | 1, h => exact absurd h (by decide)
  | 2, h => exact absurd h (by decide)
  | i + 3, _ => omega

theorem step_right_p (t : Stp) (hl : t.t.length ≤ 1000000) (hf : t.fields.length ≤ 1000) : AC P step_Right.id [.agg t.cells] [] (.bool (pRight t)) [] := by
  refine step_Right.intro rfl (Goes.run ?_)
  conv => whnf
  refine ⟨rfl, ?_⟩
  refine Run.callC (av := [.int .i64 t.op]) rfl rfl rfl (fun _ => step_uses_spec _) rfl rfl ?_
  conv => whnf
  refine ⟨rfl, ?_⟩
  have hlen := usesP_len t.op
  refine Run.loopN (ι := Nat) (fun i => i ≤ (usesP t.op).length ∧ ∀ j, j < i → fitB t ((usesP t.op).getD j 0) = true) (fun i => [(1, .ptr 0 0 0 0), (3, encIs (usesP t.op)), (9, encIs (usesP t.op)), (10, .int .i64 ((usesP t.op).length : Int)), (11, .int .i64 (i : Int))])
    (fun i => [.box t.cells])
    (fun i => (usesP t.op).length - i) 0 ⟨Nat.zero_le _, fun j hj => absurd hj (Nat.not_lt_zero _)⟩ (Wk.ofEnv (Wk.cons (.refl _) (Wk.cons (.refl _) (Wk.cons (.refl _) (Wk.cons (.refl _) (Wk.cons (.refl _) Wk.done)))))) fun i ⟨hi, hp⟩ => ?_
  conv => whnf
  refine ⟨rfl, ?_⟩
  refine Run.condC rfl (fun h => ?_) (fun h => ?_) <;> (conv => whnf) <;> refine ⟨rfl, ?_⟩
  · have hlt : i < (usesP t.op).length := by simpa using h
    refine Run.iaC rfl rfl rfl rfl rfl (fun _ => ⟨by omega, by omega⟩) ?_
    conv => whnf
    refine ⟨rfl, ?_⟩
    refine Run.callC (av := [.agg t.cells, .int .i64 ((usesP t.op).getD i 0)]) rfl rfl rfl (fun _ => step_fits_spec t _ hl hf fun h8 h5 => ?_) rfl rfl ?_
    · have h2 := hp 2 (uses_8 h5 h8)
      rw [h5] at h2
      have h3 : fitB t 4 = true := h2
      simp [fitB, h5, btw] at h3
      omega
    conv => whnf
    refine ⟨rfl, ?_⟩
    refine Run.condC rfl (fun h => ?_) (fun h => ?_) <;> (conv => whnf) <;> refine ⟨rfl, ?_⟩
    · refine Run.retR ?_
      conv => whnf
      refine ⟨rfl, .ff ?_⟩
      have hbad : fitB t ((usesP t.op).getD i 0) = false := by simpa only [Bool.not_eq_true'] using h
      unfold pRight
      have : (List.range (usesP t.op).length).all (fun i => fitB t ((usesP t.op).getD i 0)) = false := by
        rw [List.all_eq_false]
        exact ⟨i, List.mem_range.2 hlt, by rw [hbad]; simp⟩
      rw [this, Bool.false_and]
    · have hgood : fitB t ((usesP t.op).getD i 0) = true := by simpa only [Bool.not_eq_false'] using h
      refine Run.endR ⟨i + 1, ⟨by omega, fun j hj => ?_⟩, by omega, Wk.ofEnv (Wk.cons (.refl _) (Wk.cons (.refl _) (Wk.cons (.refl _) (Wk.cons (.refl _) (Wk.cons (.int ?_) Wk.done)))))⟩
      · by_cases e : j < i
        · exact hp j e
        · obtain rfl : j = i := by omega
          exact hgood
      · rw [wrap_of (by omega) (by omega)]
        simp
  · have hge : (usesP t.op).length ≤ i := by simpa using h
    have hall : (List.range (usesP t.op).length).all (fun i => fitB t ((usesP t.op).getD i 0)) = true := by
      rw [List.all_eq_true]
      intro j hj
      exact hp j (by rw [List.mem_range] at hj; omega)
    refine Run.exitR rfl rfl ?_
    conv => whnf
    refine ⟨rfl, ?_⟩
    refine Run.callD (av := [.agg t.cells]) rfl rfl rfl (fun _ => step_only_spec _) rfl rfl rfl ?_
    conv => whnf
    refine ⟨rfl, ?_⟩
    refine Run.callD (av := [.agg t.cells, .agg (onlyP t).cells]) rfl rfl rfl (fun _ => step_same_spec _ _ hl (by omega)) rfl rfl rfl ?_
    conv => whnf
    refine ⟨rfl, ?_⟩
    refine Run.retP ?_
    conv => whnf
    refine ⟨rfl, .bool ?_⟩
    unfold pRight
    rw [hall, Bool.true_and]
    congr 1
    exact bool_eq (by simp)
end Go.Proofs.Ytbpcjahjbkiofaa.Sp

set_option linter.unusedVariables false
set_option linter.unusedSimpArgs false
namespace Go.Proofs.Ytbpcjahjbkiofaa.Sp
open Go Go.Proofs.Ytbpcjahjbkiofaa.AV Go.Proofs.Ytbpcjahjbkiofaa.Fn
set_option maxRecDepth 10000

theorem ba_beq (a b : ByteArray) : (a == b) = (a.data == b.data) := by
  cases a; cases b; simp [BEq.beq, ByteArray.beq]
theorem ba_refl (vs : ByteArray) : (vs == vs) = true := by rw [ba_beq]; exact beq_self_eq_true _
def inR (x : Int) : Prop := -9223372036854775808 ≤ x ∧ x ≤ 9223372036854775807
theorem wz_self (x : Int) : wz x x = true := by simp [wz]; decide
theorem wz_zero {x : Int} (h : inR x) : wz x 0 = (x == 0) := by
  unfold wz
  rw [Int.sub_zero, wrap_of h.1 h.2]
structure WfS (t : Stp) : Prop where
  form : inR t.form
  field : inR t.field
  place : inR t.place
  to : inR t.to
  a : inR t.a
  b : inR t.b

theorem range_all {g : Int → Bool} (l : List Int) : (List.range l.length).all (fun i => g (l.getD i 0)) = l.all g := by
  apply bool_eq
  rw [List.all_eq_true, List.all_eq_true]
  constructor
  · intro h x hx
    obtain ⟨i, hi, rfl⟩ := List.mem_iff_getElem.1 hx
    have := h i (List.mem_range.2 hi)
    rwa [show l.getD i 0 = l[i] by simp [List.getD_eq_getElem?_getD, hi]] at this
  · intro h i hi
    rw [List.mem_range] at hi
    exact h _ (by rw [show l.getD i 0 = l[i] by simp [List.getD_eq_getElem?_getD, hi]]; exact List.getElem_mem hi)

theorem fZero_eq (f : Fld) : fZero f = decide (f = default) := fld_eq f default
theorem len_zero {α : Type} [DecidableEq α] (l : List α) : (((l.length : Nat) : Int) == 0) = decide (l = []) := by
  cases l with
  | nil => rfl
  | cons x r =>
    apply bool_eq
    simp
    omega

theorem loop_len (s : ByteArray) : ∀ (n i : Nat) (r : List UInt8), s.size - i = n → (ByteArray.toList.loop s i r).length = r.length + (s.size - i) := by
  intro n
  induction n with
  | zero =>
    intro i r h
    unfold ByteArray.toList.loop
    rw [if_neg (by omega)]
    simp
    omega
  | succ n ih =>
    intro i r h
    unfold ByteArray.toList.loop
    rw [if_pos (by omega), ih (i + 1) _ (by omega)]
    simp
    omega
theorem toList_len (s : ByteArray) : s.toList.length = s.size := by
  unfold ByteArray.toList
  rw [loop_len s s.size 0 [] rfl]
  simp
theorem nonempty {s : ByteArray} (h : 0 < s.size) : (s.toList == (ByteArray.mk #[]).toList) = false := by
  have h1 := toList_len s
  have h2 : (ByteArray.mk #[]).toList = [] := List.eq_nil_of_length_eq_zero (toList_len _)
  rw [h2]
  cases hs : s.toList with
  | nil => rw [hs] at h1; simp at h1; omega
  | cons x r => rfl
theorem empty_list : ((bs []).toList == (ByteArray.mk #[]).toList) = true := by
  have h1 : (bs []).toList = [] := List.eq_nil_of_length_eq_zero (toList_len _)
  have h2 : (ByteArray.mk #[]).toList = [] := List.eq_nil_of_length_eq_zero (toList_len _)
  rw [h1, h2]; rfl

theorem st_1 (t : Stp) (hw : WfS t) (h : t.op = 1) : pRight t = stRight t := by
  obtain ⟨h1, h2, h3, h4, h5, h6⟩ := hw
  obtain ⟨op, form, field, place, to, a, b, f, vn, vs, T, fields⟩ := t
  simp only at h h1 h2 h3 h4 h5 h6
  subst h
  have eP : usesP 1 = [0, 2, 6, 7] := by decide
  have eS : ((usesS 1).toList == (ByteArray.mk #[]).toList) = false := nonempty (by decide)
  have hd : hasB 1 100 = false := by decide
  have hp : hasB 1 112 = true := by decide
  have ht : hasB 1 116 = false := by decide
  have ha : hasB 1 97 = false := by decide
  have hb : hasB 1 98 = false := by decide
  have hF : hasB 1 70 = true := by decide
  have hV : hasB 1 86 = true := by decide
  have hT : hasB 1 84 = false := by decide
  have hL : hasB 1 76 = false := by decide
  have eo : onlyP ⟨1, form, field, place, to, a, b, f, vn, vs, T, fields⟩ = ⟨1, form, 0, place, 0, 0, 0, f, vn, vs, [], []⟩ := by
    unfold onlyP
    rw [eP]
    rfl
  simp only [pRight, range_all, eo, eP, sameP, wz_self, wz_zero h1, wz_zero h2, wz_zero h3, wz_zero h4, wz_zero h5, wz_zero h6, stRight, bad1, bad2, bad3, bad4, bad5, zeroB, numB, hd, hp, ht, ha, hb, hF, hV, hT, hL, eS, fZero_eq, len_zero]
  simp only [show (ByteArray.mk #[]) = ByteArray.empty from rfl]
  simp [fitB, negB, ba_refl, show btw 0 0 255 = true by decide, show btw 0 0 8 = true by decide]
  try grind [btw]

theorem st_2 (t : Stp) (hw : WfS t) (h : t.op = 2) : pRight t = stRight t := by
  obtain ⟨h1, h2, h3, h4, h5, h6⟩ := hw
  obtain ⟨op, form, field, place, to, a, b, f, vn, vs, T, fields⟩ := t
  simp only at h h1 h2 h3 h4 h5 h6
  subst h
  have eP : usesP 2 = [0, 1, 7] := by decide
  have eS : ((usesS 2).toList == (ByteArray.mk #[]).toList) = false := nonempty (by decide)
  have hd : hasB 2 100 = true := by decide
  have hp : hasB 2 112 = false := by decide
  have ht : hasB 2 116 = false := by decide
  have ha : hasB 2 97 = false := by decide
  have hb : hasB 2 98 = false := by decide
  have hF : hasB 2 70 = false := by decide
  have hV : hasB 2 86 = true := by decide
  have hT : hasB 2 84 = false := by decide
  have hL : hasB 2 76 = false := by decide
  have eo : onlyP ⟨2, form, field, place, to, a, b, f, vn, vs, T, fields⟩ = ⟨2, form, field, 0, 0, 0, 0, default, vn, vs, [], []⟩ := by
    unfold onlyP
    rw [eP]
    rfl
  simp only [pRight, range_all, eo, eP, sameP, wz_self, wz_zero h1, wz_zero h2, wz_zero h3, wz_zero h4, wz_zero h5, wz_zero h6, stRight, bad1, bad2, bad3, bad4, bad5, zeroB, numB, hd, hp, ht, ha, hb, hF, hV, hT, hL, eS, fZero_eq, len_zero]
  simp only [show (ByteArray.mk #[]) = ByteArray.empty from rfl]
  simp [fitB, negB, ba_refl, show btw 0 0 255 = true by decide, show btw 0 0 8 = true by decide]
  try grind [btw]

theorem st_3 (t : Stp) (hw : WfS t) (h : t.op = 3) : pRight t = stRight t := by
  obtain ⟨h1, h2, h3, h4, h5, h6⟩ := hw
  obtain ⟨op, form, field, place, to, a, b, f, vn, vs, T, fields⟩ := t
  simp only at h h1 h2 h3 h4 h5 h6
  subst h
  have eP : usesP 3 = [0, 1, 6] := by decide
  have eS : ((usesS 3).toList == (ByteArray.mk #[]).toList) = false := nonempty (by decide)
  have hd : hasB 3 100 = true := by decide
  have hp : hasB 3 112 = false := by decide
  have ht : hasB 3 116 = false := by decide
  have ha : hasB 3 97 = false := by decide
  have hb : hasB 3 98 = false := by decide
  have hF : hasB 3 70 = true := by decide
  have hV : hasB 3 86 = false := by decide
  have hT : hasB 3 84 = false := by decide
  have hL : hasB 3 76 = false := by decide
  have eo : onlyP ⟨3, form, field, place, to, a, b, f, vn, vs, T, fields⟩ = ⟨3, form, field, 0, 0, 0, 0, f, 0, ByteArray.empty, [], []⟩ := by
    unfold onlyP
    rw [eP]
    rfl
  simp only [pRight, range_all, eo, eP, sameP, wz_self, wz_zero h1, wz_zero h2, wz_zero h3, wz_zero h4, wz_zero h5, wz_zero h6, stRight, bad1, bad2, bad3, bad4, bad5, zeroB, numB, hd, hp, ht, ha, hb, hF, hV, hT, hL, eS, fZero_eq, len_zero]
  simp only [show (ByteArray.mk #[]) = ByteArray.empty from rfl]
  simp [fitB, negB, ba_refl, show btw 0 0 255 = true by decide, show btw 0 0 8 = true by decide]
  try grind [btw]

theorem st_4 (t : Stp) (hw : WfS t) (h : t.op = 4) : pRight t = stRight t := by
  obtain ⟨h1, h2, h3, h4, h5, h6⟩ := hw
  obtain ⟨op, form, field, place, to, a, b, f, vn, vs, T, fields⟩ := t
  simp only at h h1 h2 h3 h4 h5 h6
  subst h
  have eP : usesP 4 = [0, 1, 5] := by decide
  have eS : ((usesS 4).toList == (ByteArray.mk #[]).toList) = false := nonempty (by decide)
  have hd : hasB 4 100 = true := by decide
  have hp : hasB 4 112 = false := by decide
  have ht : hasB 4 116 = false := by decide
  have ha : hasB 4 97 = false := by decide
  have hb : hasB 4 98 = true := by decide
  have hF : hasB 4 70 = false := by decide
  have hV : hasB 4 86 = false := by decide
  have hT : hasB 4 84 = false := by decide
  have hL : hasB 4 76 = false := by decide
  have eo : onlyP ⟨4, form, field, place, to, a, b, f, vn, vs, T, fields⟩ = ⟨4, form, field, 0, 0, a, b, default, 0, ByteArray.empty, [], []⟩ := by
    unfold onlyP
    rw [eP]
    rfl
  simp only [pRight, range_all, eo, eP, sameP, wz_self, wz_zero h1, wz_zero h2, wz_zero h3, wz_zero h4, wz_zero h5, wz_zero h6, stRight, bad1, bad2, bad3, bad4, bad5, zeroB, numB, hd, hp, ht, ha, hb, hF, hV, hT, hL, eS, fZero_eq, len_zero]
  simp only [show (ByteArray.mk #[]) = ByteArray.empty from rfl]
  simp [fitB, negB, ba_refl, show btw 0 0 255 = true by decide, show btw 0 0 8 = true by decide]
  try grind [btw]

theorem st_5 (t : Stp) (hw : WfS t) (h : t.op = 5) : pRight t = stRight t := by
  obtain ⟨h1, h2, h3, h4, h5, h6⟩ := hw
  obtain ⟨op, form, field, place, to, a, b, f, vn, vs, T, fields⟩ := t
  simp only at h h1 h2 h3 h4 h5 h6
  subst h
  have eP : usesP 5 = [0, 1, 4, 8] := by decide
  have eS : ((usesS 5).toList == (ByteArray.mk #[]).toList) = false := nonempty (by decide)
  have hd : hasB 5 100 = true := by decide
  have hp : hasB 5 112 = false := by decide
  have ht : hasB 5 116 = false := by decide
  have ha : hasB 5 97 = true := by decide
  have hb : hasB 5 98 = false := by decide
  have hF : hasB 5 70 = false := by decide
  have hV : hasB 5 86 = false := by decide
  have hT : hasB 5 84 = true := by decide
  have hL : hasB 5 76 = false := by decide
  have eo : onlyP ⟨5, form, field, place, to, a, b, f, vn, vs, T, fields⟩ = ⟨5, form, field, 0, 0, a, 0, default, 0, ByteArray.empty, T, []⟩ := by
    unfold onlyP
    rw [eP]
    rfl
  simp only [pRight, range_all, eo, eP, sameP, wz_self, wz_zero h1, wz_zero h2, wz_zero h3, wz_zero h4, wz_zero h5, wz_zero h6, stRight, bad1, bad2, bad3, bad4, bad5, zeroB, numB, hd, hp, ht, ha, hb, hF, hV, hT, hL, eS, fZero_eq, len_zero]
  simp only [show (ByteArray.mk #[]) = ByteArray.empty from rfl]
  simp [fitB, negB, ba_refl, show btw 0 0 255 = true by decide, show btw 0 0 8 = true by decide]
  try grind [btw]

theorem st_6 (t : Stp) (hw : WfS t) (h : t.op = 6) : pRight t = stRight t := by
  obtain ⟨h1, h2, h3, h4, h5, h6⟩ := hw
  obtain ⟨op, form, field, place, to, a, b, f, vn, vs, T, fields⟩ := t
  simp only at h h1 h2 h3 h4 h5 h6
  subst h
  have eP : usesP 6 = [0, 1, 4, 3] := by decide
  have eS : ((usesS 6).toList == (ByteArray.mk #[]).toList) = false := nonempty (by decide)
  have hd : hasB 6 100 = true := by decide
  have hp : hasB 6 112 = false := by decide
  have ht : hasB 6 116 = true := by decide
  have ha : hasB 6 97 = true := by decide
  have hb : hasB 6 98 = false := by decide
  have hF : hasB 6 70 = false := by decide
  have hV : hasB 6 86 = false := by decide
  have hT : hasB 6 84 = false := by decide
  have hL : hasB 6 76 = false := by decide
  have eo : onlyP ⟨6, form, field, place, to, a, b, f, vn, vs, T, fields⟩ = ⟨6, form, field, 0, to, a, 0, default, 0, ByteArray.empty, [], []⟩ := by
    unfold onlyP
    rw [eP]
    rfl
  simp only [pRight, range_all, eo, eP, sameP, wz_self, wz_zero h1, wz_zero h2, wz_zero h3, wz_zero h4, wz_zero h5, wz_zero h6, stRight, bad1, bad2, bad3, bad4, bad5, zeroB, numB, hd, hp, ht, ha, hb, hF, hV, hT, hL, eS, fZero_eq, len_zero]
  simp only [show (ByteArray.mk #[]) = ByteArray.empty from rfl]
  simp [fitB, negB, ba_refl, show btw 0 0 255 = true by decide, show btw 0 0 8 = true by decide]
  try grind [btw]

theorem st_7 (t : Stp) (hw : WfS t) (h : t.op = 7) : pRight t = stRight t := by
  obtain ⟨h1, h2, h3, h4, h5, h6⟩ := hw
  obtain ⟨op, form, field, place, to, a, b, f, vn, vs, T, fields⟩ := t
  simp only at h h1 h2 h3 h4 h5 h6
  subst h
  have eP : usesP 7 = [0, 1, 2] := by decide
  have eS : ((usesS 7).toList == (ByteArray.mk #[]).toList) = false := nonempty (by decide)
  have hd : hasB 7 100 = true := by decide
  have hp : hasB 7 112 = true := by decide
  have ht : hasB 7 116 = false := by decide
  have ha : hasB 7 97 = false := by decide
  have hb : hasB 7 98 = false := by decide
  have hF : hasB 7 70 = false := by decide
  have hV : hasB 7 86 = false := by decide
  have hT : hasB 7 84 = false := by decide
  have hL : hasB 7 76 = false := by decide
  have eo : onlyP ⟨7, form, field, place, to, a, b, f, vn, vs, T, fields⟩ = ⟨7, form, field, place, 0, 0, 0, default, 0, ByteArray.empty, [], []⟩ := by
    unfold onlyP
    rw [eP]
    rfl
  simp only [pRight, range_all, eo, eP, sameP, wz_self, wz_zero h1, wz_zero h2, wz_zero h3, wz_zero h4, wz_zero h5, wz_zero h6, stRight, bad1, bad2, bad3, bad4, bad5, zeroB, numB, hd, hp, ht, ha, hb, hF, hV, hT, hL, eS, fZero_eq, len_zero]
  simp only [show (ByteArray.mk #[]) = ByteArray.empty from rfl]
  simp [fitB, negB, ba_refl, show btw 0 0 255 = true by decide, show btw 0 0 8 = true by decide]
  try grind [btw]

theorem st_8 (t : Stp) (hw : WfS t) (h : t.op = 8) : pRight t = stRight t := by
  obtain ⟨h1, h2, h3, h4, h5, h6⟩ := hw
  obtain ⟨op, form, field, place, to, a, b, f, vn, vs, T, fields⟩ := t
  simp only at h h1 h2 h3 h4 h5 h6
  subst h
  have eP : usesP 8 = [0, 1, 3] := by decide
  have eS : ((usesS 8).toList == (ByteArray.mk #[]).toList) = false := nonempty (by decide)
  have hd : hasB 8 100 = true := by decide
  have hp : hasB 8 112 = false := by decide
  have ht : hasB 8 116 = true := by decide
  have ha : hasB 8 97 = false := by decide
  have hb : hasB 8 98 = false := by decide
  have hF : hasB 8 70 = false := by decide
  have hV : hasB 8 86 = false := by decide
  have hT : hasB 8 84 = false := by decide
  have hL : hasB 8 76 = false := by decide
  have eo : onlyP ⟨8, form, field, place, to, a, b, f, vn, vs, T, fields⟩ = ⟨8, form, field, 0, to, 0, 0, default, 0, ByteArray.empty, [], []⟩ := by
    unfold onlyP
    rw [eP]
    rfl
  simp only [pRight, range_all, eo, eP, sameP, wz_self, wz_zero h1, wz_zero h2, wz_zero h3, wz_zero h4, wz_zero h5, wz_zero h6, stRight, bad1, bad2, bad3, bad4, bad5, zeroB, numB, hd, hp, ht, ha, hb, hF, hV, hT, hL, eS, fZero_eq, len_zero]
  simp only [show (ByteArray.mk #[]) = ByteArray.empty from rfl]
  simp [fitB, negB, ba_refl, show btw 0 0 255 = true by decide, show btw 0 0 8 = true by decide]
  try grind [btw]

theorem st_9 (t : Stp) (hw : WfS t) (h : t.op = 9) : pRight t = stRight t := by
  obtain ⟨h1, h2, h3, h4, h5, h6⟩ := hw
  obtain ⟨op, form, field, place, to, a, b, f, vn, vs, T, fields⟩ := t
  simp only at h h1 h2 h3 h4 h5 h6
  subst h
  have eP : usesP 9 = [0, 9] := by decide
  have eS : ((usesS 9).toList == (ByteArray.mk #[]).toList) = false := nonempty (by decide)
  have hd : hasB 9 100 = false := by decide
  have hp : hasB 9 112 = false := by decide
  have ht : hasB 9 116 = false := by decide
  have ha : hasB 9 97 = false := by decide
  have hb : hasB 9 98 = false := by decide
  have hF : hasB 9 70 = false := by decide
  have hV : hasB 9 86 = false := by decide
  have hT : hasB 9 84 = false := by decide
  have hL : hasB 9 76 = true := by decide
  have eo : onlyP ⟨9, form, field, place, to, a, b, f, vn, vs, T, fields⟩ = ⟨9, form, 0, 0, 0, 0, 0, default, 0, ByteArray.empty, [], fields⟩ := by
    unfold onlyP
    rw [eP]
    rfl
  simp only [pRight, range_all, eo, eP, sameP, wz_self, wz_zero h1, wz_zero h2, wz_zero h3, wz_zero h4, wz_zero h5, wz_zero h6, stRight, bad1, bad2, bad3, bad4, bad5, zeroB, numB, hd, hp, ht, ha, hb, hF, hV, hT, hL, eS, fZero_eq, len_zero]
  simp only [show (ByteArray.mk #[]) = ByteArray.empty from rfl]
  simp [fitB, negB, ba_refl, show btw 0 0 255 = true by decide, show btw 0 0 8 = true by decide]
  try grind [btw]

theorem st_10 (t : Stp) (hw : WfS t) (h : t.op = 10) : pRight t = stRight t := by
  obtain ⟨h1, h2, h3, h4, h5, h6⟩ := hw
  obtain ⟨op, form, field, place, to, a, b, f, vn, vs, T, fields⟩ := t
  simp only at h h1 h2 h3 h4 h5 h6
  subst h
  have eP : usesP 10 = [0] := by decide
  have eS : ((usesS 10).toList == (ByteArray.mk #[]).toList) = false := nonempty (by decide)
  have hd : hasB 10 100 = false := by decide
  have hp : hasB 10 112 = false := by decide
  have ht : hasB 10 116 = false := by decide
  have ha : hasB 10 97 = false := by decide
  have hb : hasB 10 98 = false := by decide
  have hF : hasB 10 70 = false := by decide
  have hV : hasB 10 86 = false := by decide
  have hT : hasB 10 84 = false := by decide
  have hL : hasB 10 76 = false := by decide
  have eo : onlyP ⟨10, form, field, place, to, a, b, f, vn, vs, T, fields⟩ = ⟨10, form, 0, 0, 0, 0, 0, default, 0, ByteArray.empty, [], []⟩ := by
    unfold onlyP
    rw [eP]
    rfl
  simp only [pRight, range_all, eo, eP, sameP, wz_self, wz_zero h1, wz_zero h2, wz_zero h3, wz_zero h4, wz_zero h5, wz_zero h6, stRight, bad1, bad2, bad3, bad4, bad5, zeroB, numB, hd, hp, ht, ha, hb, hF, hV, hT, hL, eS, fZero_eq, len_zero]
  simp only [show (ByteArray.mk #[]) = ByteArray.empty from rfl]
  simp [fitB, negB, ba_refl, show btw 0 0 255 = true by decide, show btw 0 0 8 = true by decide]
  try grind [btw]

theorem st_21 (t : Stp) (hw : WfS t) (h : t.op = 21) : pRight t = stRight t := by
  obtain ⟨h1, h2, h3, h4, h5, h6⟩ := hw
  obtain ⟨op, form, field, place, to, a, b, f, vn, vs, T, fields⟩ := t
  simp only at h h1 h2 h3 h4 h5 h6
  subst h
  have eP : usesP 21 = [0, 1] := by decide
  have eS : ((usesS 21).toList == (ByteArray.mk #[]).toList) = false := nonempty (by decide)
  have hd : hasB 21 100 = true := by decide
  have hp : hasB 21 112 = false := by decide
  have ht : hasB 21 116 = false := by decide
  have ha : hasB 21 97 = false := by decide
  have hb : hasB 21 98 = false := by decide
  have hF : hasB 21 70 = false := by decide
  have hV : hasB 21 86 = false := by decide
  have hT : hasB 21 84 = false := by decide
  have hL : hasB 21 76 = false := by decide
  have eo : onlyP ⟨21, form, field, place, to, a, b, f, vn, vs, T, fields⟩ = ⟨21, form, field, 0, 0, 0, 0, default, 0, ByteArray.empty, [], []⟩ := by
    unfold onlyP
    rw [eP]
    rfl
  simp only [pRight, range_all, eo, eP, sameP, wz_self, wz_zero h1, wz_zero h2, wz_zero h3, wz_zero h4, wz_zero h5, wz_zero h6, stRight, bad1, bad2, bad3, bad4, bad5, zeroB, numB, hd, hp, ht, ha, hb, hF, hV, hT, hL, eS, fZero_eq, len_zero]
  simp only [show (ByteArray.mk #[]) = ByteArray.empty from rfl]
  simp [fitB, negB, ba_refl, show btw 0 0 255 = true by decide, show btw 0 0 8 = true by decide]
  try grind [btw]

theorem st_22 (t : Stp) (hw : WfS t) (h : t.op = 22) : pRight t = stRight t := by
  obtain ⟨h1, h2, h3, h4, h5, h6⟩ := hw
  obtain ⟨op, form, field, place, to, a, b, f, vn, vs, T, fields⟩ := t
  simp only at h h1 h2 h3 h4 h5 h6
  subst h
  have eP : usesP 22 = [0, 2, 6, 7] := by decide
  have eS : ((usesS 22).toList == (ByteArray.mk #[]).toList) = false := nonempty (by decide)
  have hd : hasB 22 100 = false := by decide
  have hp : hasB 22 112 = true := by decide
  have ht : hasB 22 116 = false := by decide
  have ha : hasB 22 97 = false := by decide
  have hb : hasB 22 98 = false := by decide
  have hF : hasB 22 70 = true := by decide
  have hV : hasB 22 86 = true := by decide
  have hT : hasB 22 84 = false := by decide
  have hL : hasB 22 76 = false := by decide
  have eo : onlyP ⟨22, form, field, place, to, a, b, f, vn, vs, T, fields⟩ = ⟨22, form, 0, place, 0, 0, 0, f, vn, vs, [], []⟩ := by
    unfold onlyP
    rw [eP]
    rfl
  simp only [pRight, range_all, eo, eP, sameP, wz_self, wz_zero h1, wz_zero h2, wz_zero h3, wz_zero h4, wz_zero h5, wz_zero h6, stRight, bad1, bad2, bad3, bad4, bad5, zeroB, numB, hd, hp, ht, ha, hb, hF, hV, hT, hL, eS, fZero_eq, len_zero]
  simp only [show (ByteArray.mk #[]) = ByteArray.empty from rfl]
  simp [fitB, negB, ba_refl, show btw 0 0 255 = true by decide, show btw 0 0 8 = true by decide]
  try grind [btw]

theorem st_23 (t : Stp) (hw : WfS t) (h : t.op = 23) : pRight t = stRight t := by
  obtain ⟨h1, h2, h3, h4, h5, h6⟩ := hw
  obtain ⟨op, form, field, place, to, a, b, f, vn, vs, T, fields⟩ := t
  simp only at h h1 h2 h3 h4 h5 h6
  subst h
  have eP : usesP 23 = [0, 1, 6] := by decide
  have eS : ((usesS 23).toList == (ByteArray.mk #[]).toList) = false := nonempty (by decide)
  have hd : hasB 23 100 = true := by decide
  have hp : hasB 23 112 = false := by decide
  have ht : hasB 23 116 = false := by decide
  have ha : hasB 23 97 = false := by decide
  have hb : hasB 23 98 = false := by decide
  have hF : hasB 23 70 = true := by decide
  have hV : hasB 23 86 = false := by decide
  have hT : hasB 23 84 = false := by decide
  have hL : hasB 23 76 = false := by decide
  have eo : onlyP ⟨23, form, field, place, to, a, b, f, vn, vs, T, fields⟩ = ⟨23, form, field, 0, 0, 0, 0, f, 0, ByteArray.empty, [], []⟩ := by
    unfold onlyP
    rw [eP]
    rfl
  simp only [pRight, range_all, eo, eP, sameP, wz_self, wz_zero h1, wz_zero h2, wz_zero h3, wz_zero h4, wz_zero h5, wz_zero h6, stRight, bad1, bad2, bad3, bad4, bad5, zeroB, numB, hd, hp, ht, ha, hb, hF, hV, hT, hL, eS, fZero_eq, len_zero]
  simp only [show (ByteArray.mk #[]) = ByteArray.empty from rfl]
  simp [fitB, negB, ba_refl, show btw 0 0 255 = true by decide, show btw 0 0 8 = true by decide]
  try grind [btw]

theorem st_24 (t : Stp) (hw : WfS t) (h : t.op = 24) : pRight t = stRight t := by
  obtain ⟨h1, h2, h3, h4, h5, h6⟩ := hw
  obtain ⟨op, form, field, place, to, a, b, f, vn, vs, T, fields⟩ := t
  simp only at h h1 h2 h3 h4 h5 h6
  subst h
  have eP : usesP 24 = [0, 1, 5, 6] := by decide
  have eS : ((usesS 24).toList == (ByteArray.mk #[]).toList) = false := nonempty (by decide)
  have hd : hasB 24 100 = true := by decide
  have hp : hasB 24 112 = false := by decide
  have ht : hasB 24 116 = false := by decide
  have ha : hasB 24 97 = false := by decide
  have hb : hasB 24 98 = true := by decide
  have hF : hasB 24 70 = true := by decide
  have hV : hasB 24 86 = false := by decide
  have hT : hasB 24 84 = false := by decide
  have hL : hasB 24 76 = false := by decide
  have eo : onlyP ⟨24, form, field, place, to, a, b, f, vn, vs, T, fields⟩ = ⟨24, form, field, 0, 0, a, b, f, 0, ByteArray.empty, [], []⟩ := by
    unfold onlyP
    rw [eP]
    rfl
  simp only [pRight, range_all, eo, eP, sameP, wz_self, wz_zero h1, wz_zero h2, wz_zero h3, wz_zero h4, wz_zero h5, wz_zero h6, stRight, bad1, bad2, bad3, bad4, bad5, zeroB, numB, hd, hp, ht, ha, hb, hF, hV, hT, hL, eS, fZero_eq, len_zero]
  simp only [show (ByteArray.mk #[]) = ByteArray.empty from rfl]
  simp [fitB, negB, ba_refl, show btw 0 0 255 = true by decide, show btw 0 0 8 = true by decide]
  try grind [btw]

theorem st_25 (t : Stp) (hw : WfS t) (h : t.op = 25) : pRight t = stRight t := by
  obtain ⟨h1, h2, h3, h4, h5, h6⟩ := hw
  obtain ⟨op, form, field, place, to, a, b, f, vn, vs, T, fields⟩ := t
  simp only at h h1 h2 h3 h4 h5 h6
  subst h
  have eP : usesP 25 = [0, 1, 8] := by decide
  have eS : ((usesS 25).toList == (ByteArray.mk #[]).toList) = false := nonempty (by decide)
  have hd : hasB 25 100 = true := by decide
  have hp : hasB 25 112 = false := by decide
  have ht : hasB 25 116 = false := by decide
  have ha : hasB 25 97 = false := by decide
  have hb : hasB 25 98 = false := by decide
  have hF : hasB 25 70 = false := by decide
  have hV : hasB 25 86 = false := by decide
  have hT : hasB 25 84 = true := by decide
  have hL : hasB 25 76 = false := by decide
  have eo : onlyP ⟨25, form, field, place, to, a, b, f, vn, vs, T, fields⟩ = ⟨25, form, field, 0, 0, 0, 0, default, 0, ByteArray.empty, T, []⟩ := by
    unfold onlyP
    rw [eP]
    rfl
  simp only [pRight, range_all, eo, eP, sameP, wz_self, wz_zero h1, wz_zero h2, wz_zero h3, wz_zero h4, wz_zero h5, wz_zero h6, stRight, bad1, bad2, bad3, bad4, bad5, zeroB, numB, hd, hp, ht, ha, hb, hF, hV, hT, hL, eS, fZero_eq, len_zero]
  simp only [show (ByteArray.mk #[]) = ByteArray.empty from rfl]
  simp [fitB, negB, ba_refl, show btw 0 0 255 = true by decide, show btw 0 0 8 = true by decide]
  try grind [btw]

theorem st_26 (t : Stp) (hw : WfS t) (h : t.op = 26) : pRight t = stRight t := by
  obtain ⟨h1, h2, h3, h4, h5, h6⟩ := hw
  obtain ⟨op, form, field, place, to, a, b, f, vn, vs, T, fields⟩ := t
  simp only at h h1 h2 h3 h4 h5 h6
  subst h
  have eP : usesP 26 = [0, 1, 4, 3, 6] := by decide
  have eS : ((usesS 26).toList == (ByteArray.mk #[]).toList) = false := nonempty (by decide)
  have hd : hasB 26 100 = true := by decide
  have hp : hasB 26 112 = false := by decide
  have ht : hasB 26 116 = true := by decide
  have ha : hasB 26 97 = true := by decide
  have hb : hasB 26 98 = false := by decide
  have hF : hasB 26 70 = true := by decide
  have hV : hasB 26 86 = false := by decide
  have hT : hasB 26 84 = false := by decide
  have hL : hasB 26 76 = false := by decide
  have eo : onlyP ⟨26, form, field, place, to, a, b, f, vn, vs, T, fields⟩ = ⟨26, form, field, 0, to, a, 0, f, 0, ByteArray.empty, [], []⟩ := by
    unfold onlyP
    rw [eP]
    rfl
  simp only [pRight, range_all, eo, eP, sameP, wz_self, wz_zero h1, wz_zero h2, wz_zero h3, wz_zero h4, wz_zero h5, wz_zero h6, stRight, bad1, bad2, bad3, bad4, bad5, zeroB, numB, hd, hp, ht, ha, hb, hF, hV, hT, hL, eS, fZero_eq, len_zero]
  simp only [show (ByteArray.mk #[]) = ByteArray.empty from rfl]
  simp [fitB, negB, ba_refl, show btw 0 0 255 = true by decide, show btw 0 0 8 = true by decide]
  try grind [btw]

theorem st_27 (t : Stp) (hw : WfS t) (h : t.op = 27) : pRight t = stRight t := by
  obtain ⟨h1, h2, h3, h4, h5, h6⟩ := hw
  obtain ⟨op, form, field, place, to, a, b, f, vn, vs, T, fields⟩ := t
  simp only at h h1 h2 h3 h4 h5 h6
  subst h
  have eP : usesP 27 = [0, 1, 2] := by decide
  have eS : ((usesS 27).toList == (ByteArray.mk #[]).toList) = false := nonempty (by decide)
  have hd : hasB 27 100 = true := by decide
  have hp : hasB 27 112 = true := by decide
  have ht : hasB 27 116 = false := by decide
  have ha : hasB 27 97 = false := by decide
  have hb : hasB 27 98 = false := by decide
  have hF : hasB 27 70 = false := by decide
  have hV : hasB 27 86 = false := by decide
  have hT : hasB 27 84 = false := by decide
  have hL : hasB 27 76 = false := by decide
  have eo : onlyP ⟨27, form, field, place, to, a, b, f, vn, vs, T, fields⟩ = ⟨27, form, field, place, 0, 0, 0, default, 0, ByteArray.empty, [], []⟩ := by
    unfold onlyP
    rw [eP]
    rfl
  simp only [pRight, range_all, eo, eP, sameP, wz_self, wz_zero h1, wz_zero h2, wz_zero h3, wz_zero h4, wz_zero h5, wz_zero h6, stRight, bad1, bad2, bad3, bad4, bad5, zeroB, numB, hd, hp, ht, ha, hb, hF, hV, hT, hL, eS, fZero_eq, len_zero]
  simp only [show (ByteArray.mk #[]) = ByteArray.empty from rfl]
  simp [fitB, negB, ba_refl, show btw 0 0 255 = true by decide, show btw 0 0 8 = true by decide]
  try grind [btw]

theorem st_28 (t : Stp) (hw : WfS t) (h : t.op = 28) : pRight t = stRight t := by
  obtain ⟨h1, h2, h3, h4, h5, h6⟩ := hw
  obtain ⟨op, form, field, place, to, a, b, f, vn, vs, T, fields⟩ := t
  simp only at h h1 h2 h3 h4 h5 h6
  subst h
  have eP : usesP 28 = [0, 1, 3] := by decide
  have eS : ((usesS 28).toList == (ByteArray.mk #[]).toList) = false := nonempty (by decide)
  have hd : hasB 28 100 = true := by decide
  have hp : hasB 28 112 = false := by decide
  have ht : hasB 28 116 = true := by decide
  have ha : hasB 28 97 = false := by decide
  have hb : hasB 28 98 = false := by decide
  have hF : hasB 28 70 = false := by decide
  have hV : hasB 28 86 = false := by decide
  have hT : hasB 28 84 = false := by decide
  have hL : hasB 28 76 = false := by decide
  have eo : onlyP ⟨28, form, field, place, to, a, b, f, vn, vs, T, fields⟩ = ⟨28, form, field, 0, to, 0, 0, default, 0, ByteArray.empty, [], []⟩ := by
    unfold onlyP
    rw [eP]
    rfl
  simp only [pRight, range_all, eo, eP, sameP, wz_self, wz_zero h1, wz_zero h2, wz_zero h3, wz_zero h4, wz_zero h5, wz_zero h6, stRight, bad1, bad2, bad3, bad4, bad5, zeroB, numB, hd, hp, ht, ha, hb, hF, hV, hT, hL, eS, fZero_eq, len_zero]
  simp only [show (ByteArray.mk #[]) = ByteArray.empty from rfl]
  simp [fitB, negB, ba_refl, show btw 0 0 255 = true by decide, show btw 0 0 8 = true by decide]
  try grind [btw]

theorem st_29 (t : Stp) (hw : WfS t) (h : t.op = 29) : pRight t = stRight t := by
  obtain ⟨h1, h2, h3, h4, h5, h6⟩ := hw
  obtain ⟨op, form, field, place, to, a, b, f, vn, vs, T, fields⟩ := t
  simp only at h h1 h2 h3 h4 h5 h6
  subst h
  have eP : usesP 29 = [0] := by decide
  have eS : ((usesS 29).toList == (ByteArray.mk #[]).toList) = false := nonempty (by decide)
  have hd : hasB 29 100 = false := by decide
  have hp : hasB 29 112 = false := by decide
  have ht : hasB 29 116 = false := by decide
  have ha : hasB 29 97 = false := by decide
  have hb : hasB 29 98 = false := by decide
  have hF : hasB 29 70 = false := by decide
  have hV : hasB 29 86 = false := by decide
  have hT : hasB 29 84 = false := by decide
  have hL : hasB 29 76 = false := by decide
  have eo : onlyP ⟨29, form, field, place, to, a, b, f, vn, vs, T, fields⟩ = ⟨29, form, 0, 0, 0, 0, 0, default, 0, ByteArray.empty, [], []⟩ := by
    unfold onlyP
    rw [eP]
    rfl
  simp only [pRight, range_all, eo, eP, sameP, wz_self, wz_zero h1, wz_zero h2, wz_zero h3, wz_zero h4, wz_zero h5, wz_zero h6, stRight, bad1, bad2, bad3, bad4, bad5, zeroB, numB, hd, hp, ht, ha, hb, hF, hV, hT, hL, eS, fZero_eq, len_zero]
  simp only [show (ByteArray.mk #[]) = ByteArray.empty from rfl]
  simp [fitB, negB, ba_refl, show btw 0 0 255 = true by decide, show btw 0 0 8 = true by decide]
  try grind [btw]

theorem st_30 (t : Stp) (hw : WfS t) (h : t.op = 30) : pRight t = stRight t := by
  obtain ⟨h1, h2, h3, h4, h5, h6⟩ := hw
  obtain ⟨op, form, field, place, to, a, b, f, vn, vs, T, fields⟩ := t
  simp only at h h1 h2 h3 h4 h5 h6
  subst h
  have eP : usesP 30 = [0, 9] := by decide
  have eS : ((usesS 30).toList == (ByteArray.mk #[]).toList) = false := nonempty (by decide)
  have hd : hasB 30 100 = false := by decide
  have hp : hasB 30 112 = false := by decide
  have ht : hasB 30 116 = false := by decide
  have ha : hasB 30 97 = false := by decide
  have hb : hasB 30 98 = false := by decide
  have hF : hasB 30 70 = false := by decide
  have hV : hasB 30 86 = false := by decide
  have hT : hasB 30 84 = false := by decide
  have hL : hasB 30 76 = true := by decide
  have eo : onlyP ⟨30, form, field, place, to, a, b, f, vn, vs, T, fields⟩ = ⟨30, form, 0, 0, 0, 0, 0, default, 0, ByteArray.empty, [], fields⟩ := by
    unfold onlyP
    rw [eP]
    rfl
  simp only [pRight, range_all, eo, eP, sameP, wz_self, wz_zero h1, wz_zero h2, wz_zero h3, wz_zero h4, wz_zero h5, wz_zero h6, stRight, bad1, bad2, bad3, bad4, bad5, zeroB, numB, hd, hp, ht, ha, hb, hF, hV, hT, hL, eS, fZero_eq, len_zero]
  simp only [show (ByteArray.mk #[]) = ByteArray.empty from rfl]
  simp [fitB, negB, ba_refl, show btw 0 0 255 = true by decide, show btw 0 0 8 = true by decide]
  try grind [btw]

theorem pRight_eq (t : Stp) (hw : WfS t) : pRight t = stRight t := by
  by_cases h1 : t.op = 1
  · exact st_1 t hw h1
  by_cases h2 : t.op = 2
  · exact st_2 t hw h2
  by_cases h3 : t.op = 3
  · exact st_3 t hw h3
  by_cases h4 : t.op = 4
  · exact st_4 t hw h4
  by_cases h5 : t.op = 5
  · exact st_5 t hw h5
  by_cases h6 : t.op = 6
  · exact st_6 t hw h6
  by_cases h7 : t.op = 7
  · exact st_7 t hw h7
  by_cases h8 : t.op = 8
  · exact st_8 t hw h8
  by_cases h9 : t.op = 9
  · exact st_9 t hw h9
  by_cases h10 : t.op = 10
  · exact st_10 t hw h10
  by_cases h21 : t.op = 21
  · exact st_21 t hw h21
  by_cases h22 : t.op = 22
  · exact st_22 t hw h22
  by_cases h23 : t.op = 23
  · exact st_23 t hw h23
  by_cases h24 : t.op = 24
  · exact st_24 t hw h24
  by_cases h25 : t.op = 25
  · exact st_25 t hw h25
  by_cases h26 : t.op = 26
  · exact st_26 t hw h26
  by_cases h27 : t.op = 27
  · exact st_27 t hw h27
  by_cases h28 : t.op = 28
  · exact st_28 t hw h28
  by_cases h29 : t.op = 29
  · exact st_29 t hw h29
  by_cases h30 : t.op = 30
  · exact st_30 t hw h30
  have eP : usesP t.op = [] := by simp only [usesP, Bool.or_false, cond_false, show (t.op == 1) = false from beq_eq_false_iff_ne.2 h1, show (t.op == 2) = false from beq_eq_false_iff_ne.2 h2, show (t.op == 3) = false from beq_eq_false_iff_ne.2 h3, show (t.op == 4) = false from beq_eq_false_iff_ne.2 h4, show (t.op == 5) = false from beq_eq_false_iff_ne.2 h5, show (t.op == 6) = false from beq_eq_false_iff_ne.2 h6, show (t.op == 7) = false from beq_eq_false_iff_ne.2 h7, show (t.op == 8) = false from beq_eq_false_iff_ne.2 h8, show (t.op == 9) = false from beq_eq_false_iff_ne.2 h9, show (t.op == 10) = false from beq_eq_false_iff_ne.2 h10, show (t.op == 21) = false from beq_eq_false_iff_ne.2 h21, show (t.op == 22) = false from beq_eq_false_iff_ne.2 h22, show (t.op == 23) = false from beq_eq_false_iff_ne.2 h23, show (t.op == 24) = false from beq_eq_false_iff_ne.2 h24, show (t.op == 25) = false from beq_eq_false_iff_ne.2 h25, show (t.op == 26) = false from beq_eq_false_iff_ne.2 h26, show (t.op == 27) = false from beq_eq_false_iff_ne.2 h27, show (t.op == 28) = false from beq_eq_false_iff_ne.2 h28, show (t.op == 29) = false from beq_eq_false_iff_ne.2 h29, show (t.op == 30) = false from beq_eq_false_iff_ne.2 h30]
  have eS : usesS t.op = bs [] := by simp only [usesS, Bool.or_false, cond_false, show (t.op == 1) = false from beq_eq_false_iff_ne.2 h1, show (t.op == 2) = false from beq_eq_false_iff_ne.2 h2, show (t.op == 3) = false from beq_eq_false_iff_ne.2 h3, show (t.op == 4) = false from beq_eq_false_iff_ne.2 h4, show (t.op == 5) = false from beq_eq_false_iff_ne.2 h5, show (t.op == 6) = false from beq_eq_false_iff_ne.2 h6, show (t.op == 7) = false from beq_eq_false_iff_ne.2 h7, show (t.op == 8) = false from beq_eq_false_iff_ne.2 h8, show (t.op == 9) = false from beq_eq_false_iff_ne.2 h9, show (t.op == 10) = false from beq_eq_false_iff_ne.2 h10, show (t.op == 21) = false from beq_eq_false_iff_ne.2 h21, show (t.op == 22) = false from beq_eq_false_iff_ne.2 h22, show (t.op == 23) = false from beq_eq_false_iff_ne.2 h23, show (t.op == 24) = false from beq_eq_false_iff_ne.2 h24, show (t.op == 25) = false from beq_eq_false_iff_ne.2 h25, show (t.op == 26) = false from beq_eq_false_iff_ne.2 h26, show (t.op == 27) = false from beq_eq_false_iff_ne.2 h27, show (t.op == 28) = false from beq_eq_false_iff_ne.2 h28, show (t.op == 29) = false from beq_eq_false_iff_ne.2 h29, show (t.op == 30) = false from beq_eq_false_iff_ne.2 h30]
  have e1 : bad1 t = true := by simp only [bad1, eS, empty_list, negB, Bool.true_or]
  simp only [pRight, eP, stRight, e1]
  rfl

theorem step_right (t : Stp) (hw : WfS t) (hl : t.t.length ≤ 1000000) (hf : t.fields.length ≤ 1000) : AC P step_Right.id [.agg t.cells] [] (.bool (stRight t)) [] := by
  rw [← pRight_eq t hw]
  exact step_right_p t hl hf
end Go.Proofs.Ytbpcjahjbkiofaa.Sp

set_option linter.unusedVariables false
namespace Go.Proofs.Ytbpcjahjbkiofaa.Sp
open Go Go.Proofs.Ytbpcjahjbkiofaa.AV Go.Proofs.Ytbpcjahjbkiofaa.Fn
set_option maxRecDepth 10000

theorem at_1 (x : Fld) (id : Int) : AC P schema_At_1.id [.agg x.cells, .ptr 0 0 0 0] [.box [.int .i64 id]] (.bool (x.id == id)) [.box [.int .i64 id]] := by
  refine schema_At_1.intro rfl (Goes.run ?_)
  conv => whnf
  refine ⟨rfl, ?_⟩
  refine Run.retS ?_
  conv => whnf
  exact FinS.keep 1 rfl rfl rfl rfl (.refl _)

theorem indexFunc_at (l : List Fld) (id : Int) (hb : l.length ≤ 1000) : AC P slices_IndexFunc_api_Field_api_Field.id [encFs l, .func 131 [.ptr 0 0 0 0]] [.box [.int .i64 id]] (.int .i64 (placeI (fAt l id))) [.box [.int .i64 id]] := by
  refine slices_IndexFunc_api_Field_api_Field.intro rfl (Goes.run ?_)
  conv => whnf
  refine ⟨rfl, ?_⟩
  refine Run.loopN (ι := Nat) (fun i => i ≤ l.length ∧ ∀ j, j < i → ((l.getD j default).id == id) = false) (fun i => [(0, encFs l), (1, .func 131 [.ptr 0 0 0 0]), (7, .int .i64 (l.length : Int)), (8, .int .i64 (i : Int))]) (fun _ => [.box [.int .i64 id]])
    (fun i => l.length - i) 0 ⟨Nat.zero_le _, fun j hj => absurd hj (Nat.not_lt_zero _)⟩ (Wk.ofEnv (Wk.cons (.refl _) (Wk.cons (.refl _) (Wk.cons (.refl _) (Wk.cons (.refl _) Wk.done))))) fun i ⟨hi, hp⟩ => ?_
  conv => whnf
  refine ⟨rfl, ?_⟩
  refine Run.condC rfl (fun h => ?_) (fun h => ?_) <;> (conv => whnf) <;> refine ⟨rfl, ?_⟩
  · have hlt : i < l.length := by simpa using h
    refine Run.iaC rfl rfl rfl rfl rfl (fun _ => ⟨by omega, by omega⟩) ?_
    conv => whnf
    refine ⟨rfl, ?_⟩
    refine Run.callvG [0] Try.func131 (by kernel_rfl) rfl (at_1 (l.getD i default) id) rfl rfl ⟨rfl, trivial⟩ ?_
    conv => whnf
    refine ⟨rfl, ?_⟩
    refine Run.condC rfl (fun h => ?_) (fun h => ?_) <;> (conv => whnf) <;> refine ⟨rfl, ?_⟩
    · refine Run.retSR ?_
      conv => whnf
      refine FinS.keep 1 rfl rfl rfl rfl (.int ?_)
      have : fAt l id = some i := findIdx_hit hlt h hp
      rw [this]
      rfl
    · refine Run.endR ⟨i + 1, ⟨by omega, fun j hj => ?_⟩, by omega, Wk.ofEnv (Wk.cons (.refl _) (Wk.cons (.refl _) (Wk.cons (.refl _) (Wk.cons (.int ?_) Wk.done))))⟩
      · by_cases e : j < i
        · exact hp j e
        · obtain rfl : j = i := by omega
          exact h
      · rw [wrap_of (by omega) (by omega)]
        simp
  · have hge : l.length ≤ i := by simpa using h
    refine Run.exitR rfl rfl ?_
    conv => whnf
    refine ⟨rfl, ?_⟩
    refine Run.retS ?_
    conv => whnf
    refine FinS.keep 1 rfl rfl rfl rfl (.int ?_)
    have : fAt l id = none := findIdx_miss fun j hj => hp j (by omega)
    rw [this]
    rfl

theorem schema_at (x : Frm) (id : Int) (hb : x.fields.length ≤ 1000) : AC P schema_At.id [.agg x.cells, .int .i64 id] [] (.int .i64 (placeI (fAt x.fields id))) [] := by
  refine schema_At.intro rfl (Goes.run ?_)
  conv => whnf
  refine ⟨rfl, ?_⟩
  refine Run.callG [1] (indexFunc_at x.fields id hb) rfl rfl rfl ⟨rfl, trivial⟩ ?_
  conv => whnf
  refine ⟨rfl, ?_⟩
  refine Run.retP ?_
  conv => whnf
  exact ⟨rfl, .refl _⟩
end Go.Proofs.Ytbpcjahjbkiofaa.Sp

set_option linter.unusedVariables false
namespace Go.Proofs.Ytbpcjahjbkiofaa.Sp
open Go Go.Proofs.Ytbpcjahjbkiofaa.AV Go.Proofs.Ytbpcjahjbkiofaa.Fn
set_option maxRecDepth 10000

/-- A 'made' in cells: the step, the version, the forms, the form's place, the field's place. -/
def mB (t : Stp) (v : Int) (forms : AV) (fm at_ : Int) : List AV := [.int .i64 t.op, .int .i64 t.form, .int .i64 t.field, .int .i64 t.place, .int .i64 t.to, .int .i64 t.a, .int .i64 t.b,
  .int .i64 t.f.id, .int .i64 t.f.kind, .int .i64 t.f.lo, .int .i64 t.f.hi, .int .i64 t.f.most, .int .i64 t.vn, .str t.vs, encIs t.t, encFs t.fields, .int .i64 v, forms, .int .i64 fm, .int .i64 at_]

/-- Where a form of that number stands, or would have to stand. -/
def fPos (l : List Frm) (id : Int) : Nat := l.findIdx fun x => decide (id ≤ x.id)
def hasPos (l : List Frm) (id : Int) : Bool := decide (fPos l id < l.length) && ((l.getD (fPos l id) default).id == id)

theorem fPos_le (l : List Frm) (id : Int) : fPos l id ≤ l.length := List.findIdx_le_length

theorem fPos_eq {l : List Frm} {id : Int} {i : Nat} (hi : i ≤ l.length) (h1 : ∀ j, j < i → (l.getD j default).id < id) (h2 : i < l.length → ¬ (l.getD i default).id < id) : fPos l id = i := by
  unfold fPos
  rcases Nat.lt_or_ge i l.length with h | h
  · rw [List.findIdx_eq h]
    have e : ∀ (j : Nat) (h : j < l.length), l.getD j default = l[j] := fun j h => by simp [List.getD_eq_getElem?_getD, h]
    refine ⟨?_, fun j hj => ?_⟩
    · have := h2 h
      rw [e i h] at this
      simp; omega
    · have := h1 j hj
      rw [e j (by omega)] at this
      simp; omega
  · have : i = l.length := by omega
    subst this
    rw [List.findIdx_eq_length]
    intro x hx
    obtain ⟨j, hj, rfl⟩ := List.mem_iff_getElem.1 hx
    have := h1 j hj
    rw [show l.getD j default = l[j] by simp [List.getD_eq_getElem?_getD, hj]] at this
    simp; omega

theorem made_find (t : Stp) (v : Int) (l : List Frm) (fm at_ : Int) (hb : l.length ≤ 1000) :
    AC P typing_made_find.id [.ptr 0 0 0 0] [.box (mB t v (.row 2 1 0 0 l.length) fm at_), .row 2 l.length 0 (frmF l)] (.bool (hasPos l t.form)) [.box (mB t v (.row 2 1 0 0 l.length) (fPos l t.form) at_), .row 2 l.length 0 (frmF l)] := by
  refine typing_made_find.intro rfl (Goes.run ?_)
  conv => whnf
  refine ⟨rfl, ?_⟩
  refine Run.loopN (ι := Nat) (fun i => i ≤ l.length ∧ ∀ j, j < i → (l.getD j default).id < t.form) (fun i => [(0, .ptr 0 0 0 0)]) (fun i => [.box (mB t v (.row 2 1 0 0 l.length) i at_), .row 2 l.length 0 (frmF l)])
    (fun i => l.length - i) 0 ⟨Nat.zero_le _, fun j hj => absurd hj (Nat.not_lt_zero _)⟩ (Wk.ofEnv (Wk.cons (.refl _) Wk.done)) fun i ⟨hi, hp⟩ => ?_
  conv => whnf
  refine ⟨rfl, ?_⟩
  refine Run.iaRD rfl rfl rfl rfl rfl rfl rfl (fun h => ⟨by omega, ?_⟩) (j := i) ?_ rfl ?_
  · have := h.1
    simpa [pol] using this
  · rw [Nat.zero_add]; rfl
  conv => whnf
  refine ⟨rfl, ?_⟩
  refine Run.condC rfl (fun h => ?_) (fun h => ?_) <;> (conv => whnf) <;> refine ⟨rfl, ?_⟩
  · have h2 : i < l.length ∧ (l.getD i default).id < t.form := by
      simpa using h
    refine Run.endR ⟨i + 1, ⟨by omega, fun j hj => ?_⟩, by omega, Wk.trans (Wk.ofEnv (Wk.cons (.refl _) Wk.done)) (Wk.tab fun k => ?_)⟩
    · by_cases e : j < i
      · exact hp j e
      · obtain rfl : j = i := by omega
        exact h2.2
    · match k with
      | 0 =>
        have e : IntKind.i64.wrap ((i : Int) + 1) = ((i + 1 : Nat) : Int) := by rw [wrap_of (by omega) (by omega)]; simp
        exact leL_eq (by rw [e]; rfl)
      | 1 => exact LeOb.refl _
      | k + 2 => exact .inl rfl
  · have h2 : i < l.length → ¬ (l.getD i default).id < t.form := fun hlt hlt2 => by
      simp [hlt] at h
      rw [show l.getD i default = l[i] by simp [List.getD_eq_getElem?_getD, hlt]] at hlt2
      omega
    have hpos : fPos l t.form = i := fPos_eq hi hp h2
    refine Run.exitR rfl rfl ?_
    conv => whnf
    refine ⟨rfl, ?_⟩
    refine Run.iaRD rfl rfl rfl rfl rfl rfl rfl (fun h => ⟨by omega, ?_⟩) (j := i) ?_ rfl ?_
    · have := h.1
      simpa [pol] using this
    · rw [Nat.zero_add]; rfl
    conv => whnf
    refine ⟨rfl, ?_⟩
    refine Run.retS ?_
    conv => whnf
    rw [hpos]
    refine FinS.keep 2 rfl rfl rfl rfl (Le.bool ?_)
    unfold hasPos
    rw [hpos]
    show _ = (decide (i < l.length) && ((l.getD i default).id == t.form))
    simp only [Int.ofNat_lt]
end Go.Proofs.Ytbpcjahjbkiofaa.Sp

set_option linter.unusedVariables false
set_option linter.unusedSimpArgs false
namespace Go.Proofs.Ytbpcjahjbkiofaa.Sp
open Go Go.Proofs.Ytbpcjahjbkiofaa.AV Go.Proofs.Ytbpcjahjbkiofaa.Fn
set_option maxRecDepth 10000

def thAt0 (fs : List Fld) (t : Stp) : Int := bif t.op == 1 then t.place else bif (t.op == 6 || t.op == 8) then placeI (fAt fs t.field) else bif t.op == 10 then 0 else placeI (fAt fs t.field)
def thFresh (t : Stp) : Int := bif t.op == 1 then t.f.id else bif (t.op == 6 || t.op == 8) then t.to else -1
def thFs (l : List Frm) (t : Stp) : List Fld := (l.getD (fPos l t.form) default).fields
def thErr (l : List Frm) (t : Stp) : Int :=
  bif t.op == 9 then (bif hasPos l t.form then 9 else 0) else bif hasPos l t.form then
    (bif decide (thAt0 (thFs l t) t < 0) then 8 else bif (decide (thFresh t ≥ 0) && decide (placeI (fAt (thFs l t) (thFresh t)) ≥ 0)) then 9 else
      bif (t.op == 1 && decide (t.place > ((thFs l t).length : Int))) || (t.op == 7 && decide (t.place ≥ ((thFs l t).length : Int))) then 3 else 0)
  else 8
def thAt (l : List Frm) (t : Stp) (at_ : Int) : Int := bif t.op == 9 then at_ else bif hasPos l t.form then thAt0 (thFs l t) t else at_

theorem made_there (t : Stp) (v : Int) (l : List Frm) (fm at_ : Int) (hb : l.length ≤ 1000) (hf : ∀ i, (l.getD i default).fields.length ≤ 1000) :
    AC P typing_made_there.id [.ptr 0 0 0 0] [.box (mB t v (.row 2 1 0 0 l.length) fm at_), .row 2 l.length 0 (frmF l)] (.int .i64 (thErr l t)) [.box (mB t v (.row 2 1 0 0 l.length) (fPos l t.form) (thAt l t at_)), .row 2 l.length 0 (frmF l)] := by
  refine typing_made_there.intro rfl (Goes.run ?_)
  conv => whnf
  refine ⟨rfl, ?_⟩
  refine Run.callG [0, 1] (made_find t v l fm at_ hb) rfl rfl rfl ⟨rfl, rfl, trivial⟩ ?_
  conv => whnf
  refine ⟨rfl, ?_⟩
  refine Run.condC rfl (fun h9 => ?_) (fun h9 => ?_) <;> (conv => whnf) <;> refine ⟨rfl, ?_⟩
  · refine Run.condC rfl (fun hh => ?_) (fun hh => ?_) <;> (conv => whnf) <;> refine ⟨rfl, ?_⟩
    · refine Run.retS ?_
      conv => whnf
      rw [show thErr l t = 9 by simp only [thErr, h9, hh, cond_true], show thAt l t at_ = at_ by simp only [thAt, h9, cond_true]]
      exact FinS.keep 2 rfl rfl rfl rfl (.refl _)
    · refine Run.retS ?_
      conv => whnf
      rw [show thErr l t = 0 by simp only [thErr, h9, hh, cond_true, cond_false], show thAt l t at_ = at_ by simp only [thAt, h9, cond_true]]
      exact FinS.keep 2 rfl rfl rfl rfl (.refl _)
  refine Run.condC rfl (fun hh => ?_) (fun hh => ?_) <;> (conv => whnf) <;> refine ⟨rfl, ?_⟩
  · refine Run.retS ?_
    conv => whnf
    simp only [Bool.not_eq_true'] at hh
    rw [show thErr l t = 8 by simp only [thErr, h9, hh, cond_false], show thAt l t at_ = at_ by simp only [thAt, h9, hh, cond_false]]
    exact FinS.keep 2 rfl rfl rfl rfl (.refl _)
  simp only [Bool.not_eq_false'] at hh
  have hlt : fPos l t.form < l.length := by
    unfold hasPos at hh
    simp only [Bool.and_eq_true, decide_eq_true_eq] at hh
    exact hh.1
  refine Run.iaRD rfl rfl rfl rfl rfl rfl rfl (fun _ => ⟨by omega, by omega⟩) (j := fPos l t.form) (by rw [Nat.zero_add]; rfl) rfl ?_
  conv => whnf
  refine ⟨rfl, ?_⟩
  refine Run.callD (av := [.agg (l.getD (fPos l t.form) default).cells, .int .i64 t.field]) rfl rfl rfl (fun _ => schema_at _ _ (hf _)) rfl rfl rfl ?_
  conv => whnf
  refine ⟨rfl, ?_⟩
  refine Run.condC rfl (fun k1 => ?_) (fun k1 => ?_) <;> (conv => whnf) <;> refine ⟨rfl, ?_⟩
  · have e0 : thAt0 (thFs l t) t = t.place := by simp only [thAt0, k1, cond_true, cond_false, Bool.or_true, Bool.true_or, Bool.or_false]
    have ef : thFresh t = t.f.id := by simp only [thFresh, k1, cond_true, cond_false, Bool.or_true, Bool.true_or, Bool.or_false]
    have ea : thAt l t at_ = t.place := by simp only [thAt, h9, hh, cond_true, cond_false, e0]
    rw [ea]
    refine Run.condC rfl (fun h1 => ?_) (fun h1 => ?_) <;> (conv => whnf) <;> refine ⟨rfl, ?_⟩
    · refine Run.retS ?_
      conv => whnf
      have h1' : decide (t.place < 0) = true := h1
      rw [show thErr l t = 8 by simp only [thErr, h9, hh, e0, h1', cond_true, cond_false]]
      exact FinS.keep 2 rfl rfl rfl rfl (.refl _)
    have h1' : decide (t.place < 0) = false := h1
    refine Run.callC (av := [.agg (l.getD (fPos l t.form) default).cells, .int .i64 (t.f.id)]) rfl rfl rfl (fun _ => schema_at _ _ (hf _)) rfl rfl ?_
    conv => whnf
    refine ⟨rfl, ?_⟩
    refine Run.condC rfl (fun h2 => ?_) (fun h2 => ?_) <;> (conv => whnf) <;> refine ⟨rfl, ?_⟩
    · refine Run.retS ?_
      conv => whnf
      have h2' : (decide (t.f.id ≥ 0) && decide (placeI (fAt (thFs l t) (t.f.id)) ≥ 0)) = true := h2
      rw [show thErr l t = 9 by simp only [thErr, h9, hh, e0, ef, h1', h2', cond_true, cond_false]]
      exact FinS.keep 2 rfl rfl rfl rfl (.refl _)
    have h2' : (decide (t.f.id ≥ 0) && decide (placeI (fAt (thFs l t) (t.f.id)) ≥ 0)) = false := h2
    refine Run.condC rfl (fun h3 => ?_) (fun h3 => ?_) <;> (conv => whnf) <;> refine ⟨rfl, ?_⟩
    · refine Run.retS ?_
      conv => whnf
      have h3' : (t.op == 1 && decide (t.place > ((thFs l t).length : Int))) = true := h3
      rw [show thErr l t = 3 by simp only [thErr, h9, hh, e0, ef, h1', h2', h3', cond_true, cond_false, Bool.true_or]]
      exact FinS.keep 2 rfl rfl rfl rfl (.refl _)
    have h3' : (t.op == 1 && decide (t.place > ((thFs l t).length : Int))) = false := h3
    refine Run.condC rfl (fun h4 => ?_) (fun h4 => ?_) <;> (conv => whnf) <;> refine ⟨rfl, ?_⟩
    · refine Run.retS ?_
      conv => whnf
      have h4' : (t.op == 7 && decide (t.place ≥ ((thFs l t).length : Int))) = true := h4
      rw [show thErr l t = 3 by simp only [thErr, h9, hh, e0, ef, h1', h2', h3', h4', cond_true, cond_false, Bool.false_or]]
      exact FinS.keep 2 rfl rfl rfl rfl (.refl _)
    have h4' : (t.op == 7 && decide (t.place ≥ ((thFs l t).length : Int))) = false := h4
    refine Run.retS ?_
    conv => whnf
    rw [show thErr l t = 0 by simp only [thErr, h9, hh, e0, ef, h1', h2', h3', h4', cond_true, cond_false, Bool.false_or]]
    exact FinS.keep 2 rfl rfl rfl rfl (.refl _)
  refine Run.condC rfl (fun k6 => ?_) (fun k6 => ?_) <;> (conv => whnf) <;> refine ⟨rfl, ?_⟩
  · have e0 : thAt0 (thFs l t) t = placeI (fAt (thFs l t) t.field) := by simp only [thAt0, k1, k6, cond_true, cond_false, Bool.or_true, Bool.true_or, Bool.or_false]
    have ef : thFresh t = t.to := by simp only [thFresh, k1, k6, cond_true, cond_false, Bool.or_true, Bool.true_or, Bool.or_false]
    have ea : thAt l t at_ = placeI (fAt (thFs l t) t.field) := by simp only [thAt, h9, hh, cond_true, cond_false, e0]
    rw [ea]
    refine Run.condC rfl (fun h1 => ?_) (fun h1 => ?_) <;> (conv => whnf) <;> refine ⟨rfl, ?_⟩
    · refine Run.retS ?_
      conv => whnf
      have h1' : decide (placeI (fAt (thFs l t) t.field) < 0) = true := h1
      rw [show thErr l t = 8 by simp only [thErr, h9, hh, e0, h1', cond_true, cond_false]]
      exact FinS.keep 2 rfl rfl rfl rfl (.refl _)
    have h1' : decide (placeI (fAt (thFs l t) t.field) < 0) = false := h1
    refine Run.callC (av := [.agg (l.getD (fPos l t.form) default).cells, .int .i64 (t.to)]) rfl rfl rfl (fun _ => schema_at _ _ (hf _)) rfl rfl ?_
    conv => whnf
    refine ⟨rfl, ?_⟩
    refine Run.condC rfl (fun h2 => ?_) (fun h2 => ?_) <;> (conv => whnf) <;> refine ⟨rfl, ?_⟩
    · refine Run.retS ?_
      conv => whnf
      have h2' : (decide (t.to ≥ 0) && decide (placeI (fAt (thFs l t) (t.to)) ≥ 0)) = true := h2
      rw [show thErr l t = 9 by simp only [thErr, h9, hh, e0, ef, h1', h2', cond_true, cond_false]]
      exact FinS.keep 2 rfl rfl rfl rfl (.refl _)
    have h2' : (decide (t.to ≥ 0) && decide (placeI (fAt (thFs l t) (t.to)) ≥ 0)) = false := h2
    refine Run.condC rfl (fun h3 => ?_) (fun h3 => ?_) <;> (conv => whnf) <;> refine ⟨rfl, ?_⟩
    · refine Run.retS ?_
      conv => whnf
      have h3' : (t.op == 1 && decide (t.place > ((thFs l t).length : Int))) = true := h3
      rw [show thErr l t = 3 by simp only [thErr, h9, hh, e0, ef, h1', h2', h3', cond_true, cond_false, Bool.true_or]]
      exact FinS.keep 2 rfl rfl rfl rfl (.refl _)
    have h3' : (t.op == 1 && decide (t.place > ((thFs l t).length : Int))) = false := h3
    refine Run.condC rfl (fun h4 => ?_) (fun h4 => ?_) <;> (conv => whnf) <;> refine ⟨rfl, ?_⟩
    · refine Run.retS ?_
      conv => whnf
      have h4' : (t.op == 7 && decide (t.place ≥ ((thFs l t).length : Int))) = true := h4
      rw [show thErr l t = 3 by simp only [thErr, h9, hh, e0, ef, h1', h2', h3', h4', cond_true, cond_false, Bool.false_or]]
      exact FinS.keep 2 rfl rfl rfl rfl (.refl _)
    have h4' : (t.op == 7 && decide (t.place ≥ ((thFs l t).length : Int))) = false := h4
    refine Run.retS ?_
    conv => whnf
    rw [show thErr l t = 0 by simp only [thErr, h9, hh, e0, ef, h1', h2', h3', h4', cond_true, cond_false, Bool.false_or]]
    exact FinS.keep 2 rfl rfl rfl rfl (.refl _)
  refine Run.condC rfl (fun k8 => ?_) (fun k8 => ?_) <;> (conv => whnf) <;> refine ⟨rfl, ?_⟩
  · have e0 : thAt0 (thFs l t) t = placeI (fAt (thFs l t) t.field) := by simp only [thAt0, k1, k6, k8, cond_true, cond_false, Bool.or_true, Bool.true_or, Bool.or_false]
    have ef : thFresh t = t.to := by simp only [thFresh, k1, k6, k8, cond_true, cond_false, Bool.or_true, Bool.true_or, Bool.or_false]
    have ea : thAt l t at_ = placeI (fAt (thFs l t) t.field) := by simp only [thAt, h9, hh, cond_true, cond_false, e0]
    rw [ea]
    refine Run.condC rfl (fun h1 => ?_) (fun h1 => ?_) <;> (conv => whnf) <;> refine ⟨rfl, ?_⟩
    · refine Run.retS ?_
      conv => whnf
      have h1' : decide (placeI (fAt (thFs l t) t.field) < 0) = true := h1
      rw [show thErr l t = 8 by simp only [thErr, h9, hh, e0, h1', cond_true, cond_false]]
      exact FinS.keep 2 rfl rfl rfl rfl (.refl _)
    have h1' : decide (placeI (fAt (thFs l t) t.field) < 0) = false := h1
    refine Run.callC (av := [.agg (l.getD (fPos l t.form) default).cells, .int .i64 (t.to)]) rfl rfl rfl (fun _ => schema_at _ _ (hf _)) rfl rfl ?_
    conv => whnf
    refine ⟨rfl, ?_⟩
    refine Run.condC rfl (fun h2 => ?_) (fun h2 => ?_) <;> (conv => whnf) <;> refine ⟨rfl, ?_⟩
    · refine Run.retS ?_
      conv => whnf
      have h2' : (decide (t.to ≥ 0) && decide (placeI (fAt (thFs l t) (t.to)) ≥ 0)) = true := h2
      rw [show thErr l t = 9 by simp only [thErr, h9, hh, e0, ef, h1', h2', cond_true, cond_false]]
      exact FinS.keep 2 rfl rfl rfl rfl (.refl _)
    have h2' : (decide (t.to ≥ 0) && decide (placeI (fAt (thFs l t) (t.to)) ≥ 0)) = false := h2
    refine Run.condC rfl (fun h3 => ?_) (fun h3 => ?_) <;> (conv => whnf) <;> refine ⟨rfl, ?_⟩
    · refine Run.retS ?_
      conv => whnf
      have h3' : (t.op == 1 && decide (t.place > ((thFs l t).length : Int))) = true := h3
      rw [show thErr l t = 3 by simp only [thErr, h9, hh, e0, ef, h1', h2', h3', cond_true, cond_false, Bool.true_or]]
      exact FinS.keep 2 rfl rfl rfl rfl (.refl _)
    have h3' : (t.op == 1 && decide (t.place > ((thFs l t).length : Int))) = false := h3
    refine Run.condC rfl (fun h4 => ?_) (fun h4 => ?_) <;> (conv => whnf) <;> refine ⟨rfl, ?_⟩
    · refine Run.retS ?_
      conv => whnf
      have h4' : (t.op == 7 && decide (t.place ≥ ((thFs l t).length : Int))) = true := h4
      rw [show thErr l t = 3 by simp only [thErr, h9, hh, e0, ef, h1', h2', h3', h4', cond_true, cond_false, Bool.false_or]]
      exact FinS.keep 2 rfl rfl rfl rfl (.refl _)
    have h4' : (t.op == 7 && decide (t.place ≥ ((thFs l t).length : Int))) = false := h4
    refine Run.retS ?_
    conv => whnf
    rw [show thErr l t = 0 by simp only [thErr, h9, hh, e0, ef, h1', h2', h3', h4', cond_true, cond_false, Bool.false_or]]
    exact FinS.keep 2 rfl rfl rfl rfl (.refl _)
  refine Run.condC rfl (fun k10 => ?_) (fun k10 => ?_) <;> (conv => whnf) <;> refine ⟨rfl, ?_⟩
  · have e0 : thAt0 (thFs l t) t = 0 := by simp only [thAt0, k1, k6, k8, k10, cond_true, cond_false, Bool.or_true, Bool.true_or, Bool.or_false]
    have ef : thFresh t = -1 := by simp only [thFresh, k1, k6, k8, k10, cond_true, cond_false, Bool.or_true, Bool.true_or, Bool.or_false]
    have ea : thAt l t at_ = 0 := by simp only [thAt, h9, hh, cond_true, cond_false, e0]
    rw [ea]
    refine Run.condC rfl (fun h1 => ?_) (fun h1 => ?_) <;> (conv => whnf) <;> refine ⟨rfl, ?_⟩
    · refine Run.retS ?_
      conv => whnf
      have h1' : decide ((0 : Int) < 0) = true := h1
      rw [show thErr l t = 8 by simp only [thErr, h9, hh, e0, h1', cond_true, cond_false]]
      exact FinS.keep 2 rfl rfl rfl rfl (.refl _)
    have h1' : decide ((0 : Int) < 0) = false := h1
    refine Run.callC (av := [.agg (l.getD (fPos l t.form) default).cells, .int .i64 (-1)]) rfl rfl rfl (fun _ => schema_at _ _ (hf _)) rfl rfl ?_
    conv => whnf
    refine ⟨rfl, ?_⟩
    refine Run.condC rfl (fun h2 => ?_) (fun h2 => ?_) <;> (conv => whnf) <;> refine ⟨rfl, ?_⟩
    · refine Run.retS ?_
      conv => whnf
      have h2' : (decide ((-1 : Int) ≥ 0) && decide (placeI (fAt (thFs l t) (-1)) ≥ 0)) = true := h2
      rw [show thErr l t = 9 by simp only [thErr, h9, hh, e0, ef, h1', h2', cond_true, cond_false]]
      exact FinS.keep 2 rfl rfl rfl rfl (.refl _)
    have h2' : (decide ((-1 : Int) ≥ 0) && decide (placeI (fAt (thFs l t) (-1)) ≥ 0)) = false := h2
    refine Run.condC rfl (fun h3 => ?_) (fun h3 => ?_) <;> (conv => whnf) <;> refine ⟨rfl, ?_⟩
    · refine Run.retS ?_
      conv => whnf
      have h3' : (t.op == 1 && decide (t.place > ((thFs l t).length : Int))) = true := h3
      rw [show thErr l t = 3 by simp only [thErr, h9, hh, e0, ef, h1', h2', h3', cond_true, cond_false, Bool.true_or]]
      exact FinS.keep 2 rfl rfl rfl rfl (.refl _)
    have h3' : (t.op == 1 && decide (t.place > ((thFs l t).length : Int))) = false := h3
    refine Run.condC rfl (fun h4 => ?_) (fun h4 => ?_) <;> (conv => whnf) <;> refine ⟨rfl, ?_⟩
    · refine Run.retS ?_
      conv => whnf
      have h4' : (t.op == 7 && decide (t.place ≥ ((thFs l t).length : Int))) = true := h4
      rw [show thErr l t = 3 by simp only [thErr, h9, hh, e0, ef, h1', h2', h3', h4', cond_true, cond_false, Bool.false_or]]
      exact FinS.keep 2 rfl rfl rfl rfl (.refl _)
    have h4' : (t.op == 7 && decide (t.place ≥ ((thFs l t).length : Int))) = false := h4
    refine Run.retS ?_
    conv => whnf
    rw [show thErr l t = 0 by simp only [thErr, h9, hh, e0, ef, h1', h2', h3', h4', cond_true, cond_false, Bool.false_or]]
    exact FinS.keep 2 rfl rfl rfl rfl (.refl _)
  have e0 : thAt0 (thFs l t) t = placeI (fAt (thFs l t) t.field) := by simp only [thAt0, k1, k6, k8, k10, cond_true, cond_false, Bool.or_true, Bool.true_or, Bool.or_false]
  have ef : thFresh t = -1 := by simp only [thFresh, k1, k6, k8, k10, cond_true, cond_false, Bool.or_true, Bool.true_or, Bool.or_false]
  have ea : thAt l t at_ = placeI (fAt (thFs l t) t.field) := by simp only [thAt, h9, hh, cond_true, cond_false, e0]
  rw [ea]
  refine Run.condC rfl (fun h1 => ?_) (fun h1 => ?_) <;> (conv => whnf) <;> refine ⟨rfl, ?_⟩
  · refine Run.retS ?_
    conv => whnf
    have h1' : decide (placeI (fAt (thFs l t) t.field) < 0) = true := h1
    rw [show thErr l t = 8 by simp only [thErr, h9, hh, e0, h1', cond_true, cond_false]]
    exact FinS.keep 2 rfl rfl rfl rfl (.refl _)
  have h1' : decide (placeI (fAt (thFs l t) t.field) < 0) = false := h1
  refine Run.callC (av := [.agg (l.getD (fPos l t.form) default).cells, .int .i64 (-1)]) rfl rfl rfl (fun _ => schema_at _ _ (hf _)) rfl rfl ?_
  conv => whnf
  refine ⟨rfl, ?_⟩
  refine Run.condC rfl (fun h2 => ?_) (fun h2 => ?_) <;> (conv => whnf) <;> refine ⟨rfl, ?_⟩
  · refine Run.retS ?_
    conv => whnf
    have h2' : (decide ((-1 : Int) ≥ 0) && decide (placeI (fAt (thFs l t) (-1)) ≥ 0)) = true := h2
    rw [show thErr l t = 9 by simp only [thErr, h9, hh, e0, ef, h1', h2', cond_true, cond_false]]
    exact FinS.keep 2 rfl rfl rfl rfl (.refl _)
  have h2' : (decide ((-1 : Int) ≥ 0) && decide (placeI (fAt (thFs l t) (-1)) ≥ 0)) = false := h2
  refine Run.condC rfl (fun h3 => ?_) (fun h3 => ?_) <;> (conv => whnf) <;> refine ⟨rfl, ?_⟩
  · refine Run.retS ?_
    conv => whnf
    have h3' : (t.op == 1 && decide (t.place > ((thFs l t).length : Int))) = true := h3
    rw [show thErr l t = 3 by simp only [thErr, h9, hh, e0, ef, h1', h2', h3', cond_true, cond_false, Bool.true_or]]
    exact FinS.keep 2 rfl rfl rfl rfl (.refl _)
  have h3' : (t.op == 1 && decide (t.place > ((thFs l t).length : Int))) = false := h3
  refine Run.condC rfl (fun h4 => ?_) (fun h4 => ?_) <;> (conv => whnf) <;> refine ⟨rfl, ?_⟩
  · refine Run.retS ?_
    conv => whnf
    have h4' : (t.op == 7 && decide (t.place ≥ ((thFs l t).length : Int))) = true := h4
    rw [show thErr l t = 3 by simp only [thErr, h9, hh, e0, ef, h1', h2', h3', h4', cond_true, cond_false, Bool.false_or]]
    exact FinS.keep 2 rfl rfl rfl rfl (.refl _)
  have h4' : (t.op == 7 && decide (t.place ≥ ((thFs l t).length : Int))) = false := h4
  refine Run.retS ?_
  conv => whnf
  rw [show thErr l t = 0 by simp only [thErr, h9, hh, e0, ef, h1', h2', h3', h4', cond_true, cond_false, Bool.false_or]]
  exact FinS.keep 2 rfl rfl rfl rfl (.refl _)
end Go.Proofs.Ytbpcjahjbkiofaa.Sp

set_option linter.unusedVariables false
set_option linter.unusedSimpArgs false
namespace Go.Proofs.Ytbpcjahjbkiofaa.Sp
open Go Go.Proofs.Ytbpcjahjbkiofaa.AV Go.Proofs.Ytbpcjahjbkiofaa.Fn
set_option maxRecDepth 10000

theorem made_fields (t : Stp) (v : Int) (l : List Frm) (k : Nat) (at_ : Int) (hk : k < l.length) :
    AC P typing_made_fields.id [.ptr 0 0 0 0] [.box (mB t v (.row 2 1 0 0 l.length) k at_), .row 2 l.length 0 (frmF l)] (encFs (l.getD k default).fields) [.box (mB t v (.row 2 1 0 0 l.length) k at_), .row 2 l.length 0 (frmF l)] := by
  refine typing_made_fields.intro rfl (Goes.run ?_)
  conv => whnf
  refine ⟨rfl, ?_⟩
  refine Run.iaRD rfl rfl rfl rfl rfl rfl rfl (fun _ => ⟨by omega, by omega⟩) (j := k) (by rw [Nat.zero_add]; rfl) rfl ?_
  conv => whnf
  refine ⟨rfl, ?_⟩
  refine Run.retS ?_
  conv => whnf
  exact FinS.keep 2 rfl rfl rfl rfl (.refl _)

theorem made_own (t : Stp) (v : Int) (l : List Frm) (k a : Nat) (hk : k < l.length) (ha : a < (l.getD k default).fields.length) :
    AC P typing_made_own.id [.ptr 0 0 0 0] [.box (mB t v (.row 2 1 0 0 l.length) k a), .row 2 l.length 0 (frmF l)] (.agg ((l.getD k default).fields.getD a default).cells) [.box (mB t v (.row 2 1 0 0 l.length) k a), .row 2 l.length 0 (frmF l)] := by
  refine typing_made_own.intro rfl (Goes.run ?_)
  conv => whnf
  refine ⟨rfl, ?_⟩
  refine Run.callGN [0, 1] (made_fields t v l k a hk) rfl rfl rfl ⟨rfl, rfl, trivial⟩ ⟨rfl, rfl, trivial⟩ rfl ?_
  conv => whnf
  refine ⟨rfl, ?_⟩
  refine Run.iaD rfl rfl rfl rfl rfl (fun _ => ⟨by omega, by omega⟩) rfl ?_
  conv => whnf
  refine ⟨rfl, ?_⟩
  refine Run.retS ?_
  conv => whnf
  exact FinS.keep 2 rfl rfl rfl rfl (.refl _)

def sclI (a b x : Int) : Int := IntKind.i64.wrap (IntKind.i64.wrap (a * x) + b)
def scl (f : Fld) (a b : Int) : Fld := { f with lo := if sclI a b f.hi < sclI a b f.lo then sclI a b f.hi else sclI a b f.lo, hi := if sclI a b f.hi > sclI a b f.lo then sclI a b f.hi else sclI a b f.lo }

theorem typing_scaled_spec (f : Fld) (a b : Int) : AC P typing_scaled.id [.agg f.cells, .int .i64 a, .int .i64 b] [] (.tuple [.agg (scl f a b).cells, .bool (fRight (scl f a b))]) [] := by
  refine typing_scaled.intro rfl (Goes.run ?_)
  conv => whnf
  refine ⟨rfl, ?_⟩
  refine Run.callD (av := [.agg (scl f a b).cells]) rfl rfl rfl (fun _ => field_right _) rfl rfl rfl ?_
  conv => whnf
  refine ⟨rfl, ?_⟩
  refine Run.retP ?_
  conv => whnf
  exact ⟨rfl, .refl _⟩
end Go.Proofs.Ytbpcjahjbkiofaa.Sp

set_option linter.unusedVariables false
set_option linter.unusedSimpArgs false
namespace Go.Proofs.Ytbpcjahjbkiofaa.Sp
open Go Go.Proofs.Ytbpcjahjbkiofaa.AV Go.Proofs.Ytbpcjahjbkiofaa.Fn
set_option maxRecDepth 10000

/-- What comes in place of a field. -/
def tuL (f : Fld) (t : Stp) : List Fld :=
  bif t.op == 1 then [t.f] else bif t.op == 2 then [] else bif t.op == 3 then [t.f] else bif t.op == 4 then [bif f.kind == 1 then scl f t.a t.b else f] else bif t.op == 5 then [{ f with most := t.a }] else
  bif t.op == 6 then [{ f with hi := IntKind.i64.wrap (f.hi.tdiv t.a) }, ⟨t.to, 1, 0, if f.hi < IntKind.i64.wrap (t.a - 1) then f.hi else IntKind.i64.wrap (t.a - 1), 0⟩] else [{ f with id := t.to }]
def tuN (t : Stp) : Int := bif t.op == 1 then 0 else 1
def tuO (f : Fld) (t : Stp) : Bool :=
  bif t.op == 1 then true else bif t.op == 2 then fHas f t.vn t.vs else bif t.op == 3 then fWider f t.f else bif t.op == 4 then (bif f.kind == 1 then fRight (scl f t.a t.b) else false) else bif t.op == 5 then (f.kind == 3 && (f.most == (t.t.length : Int))) else
  bif t.op == 6 then (f.kind == 1 && (f.lo == 0)) else true

theorem IsL.two {α : Type} [Inhabited α] {enc : α → List AV} (x y : α) : IsL enc 2 (nthL [enc x, enc y]) [x, y] := ⟨rfl, fun i hi => by
  match i, hi with
  | 0, _ => rfl
  | 1, _ => rfl⟩

theorem made_turned (t : Stp) (v : Int) (l : List Frm) (k : Nat) (at_ : Int) (f : Fld) (h6 : t.op = 6 → t.a ≠ 0)
    (hf : (t.op == 1) = false → k < l.length ∧ ∃ a : Nat, at_ = a ∧ a < (l.getD k default).fields.length ∧ (l.getD k default).fields.getD a default = f) :
    AC P typing_made_turned.id [.ptr 0 0 0 0] [.box (mB t v (.row 2 1 0 0 l.length) k at_), .row 2 l.length 0 (frmF l)] (.tuple [encFs (tuL f t), .int .i64 (tuN t), .bool (tuO f t)]) [.box (mB t v (.row 2 1 0 0 l.length) k at_), .row 2 l.length 0 (frmF l)] := by
  refine typing_made_turned.intro rfl (Goes.run ?_)
  conv => whnf
  refine ⟨rfl, ?_⟩
  refine Run.condC rfl (fun h1 => ?_) (fun h1 => ?_) <;> (conv => whnf) <;> refine ⟨rfl, ?_⟩
  · refine Run.retS ?_
    conv => whnf
    rw [show tuL f t = [t.f] by simp only [tuL, h1, cond_true], show tuN t = 0 by simp only [tuN, h1, cond_true], show tuO f t = true by simp only [tuO, h1, cond_true]]
    exact FinS.keepP 2 rfl rfl rfl (Le.tuple (.cons (IsL.le (enc := Fld.cells) (IsL.one t.f)) (.cons (.refl _) (.cons (.tt rfl) .nil))))
  have en : tuN t = 1 := by simp only [tuN, h1, cond_false]
  rw [en]
  obtain ⟨hk, a, rfl, ha, rfl⟩ := hf h1
  refine Run.callG [0, 1] (made_own t v l k a hk ha) rfl rfl rfl ⟨rfl, rfl, trivial⟩ ?_
  conv => whnf
  refine ⟨rfl, ?_⟩
  generalize (l.getD k default).fields.getD a default = f
  refine Run.condC rfl (fun h2 => ?_) (fun h2 => ?_) <;> (conv => whnf) <;> refine ⟨rfl, ?_⟩
  · refine Run.callC (av := [.agg f.cells, .agg [.int .i64 t.vn, .str t.vs]]) rfl rfl rfl (fun _ => field_has _ _ _) rfl rfl ?_
    conv => whnf
    refine ⟨rfl, ?_⟩
    refine Run.retS ?_
    conv => whnf
    rw [show tuL f t = [] by simp only [tuL, h1, h2, cond_true, cond_false], show tuO f t = fHas f t.vn t.vs by simp only [tuO, h1, h2, cond_true, cond_false]]
    exact FinS.keepP 2 rfl rfl rfl (Le.tuple (.cons (Le.zsl (by omega)) (.cons (.refl _) (.cons (.refl _) .nil))))
  refine Run.condC rfl (fun h3 => ?_) (fun h3 => ?_) <;> (conv => whnf) <;> refine ⟨rfl, ?_⟩
  · refine Run.callD (av := [.agg f.cells, .agg t.f.cells]) rfl rfl rfl (fun _ => field_wider _ _) rfl rfl rfl ?_
    conv => whnf
    refine ⟨rfl, ?_⟩
    refine Run.retS ?_
    conv => whnf
    rw [show tuL f t = [t.f] by simp only [tuL, h1, h2, h3, cond_true, cond_false], show tuO f t = fWider f t.f by simp only [tuO, h1, h2, h3, cond_true, cond_false]]
    exact FinS.keepP 2 rfl rfl rfl (Le.tuple (.cons (IsL.le (enc := Fld.cells) (IsL.one t.f)) (.cons (.refl _) (.cons (.refl _) .nil))))
  refine Run.condC rfl (fun h4 => ?_) (fun h4 => ?_) <;> (conv => whnf) <;> refine ⟨rfl, ?_⟩
  · refine Run.condC rfl (fun hk1 => ?_) (fun hk1 => ?_) <;> (conv => whnf) <;> refine ⟨rfl, ?_⟩
    · refine Run.callC (av := [.agg f.cells, .int .i64 t.a, .int .i64 t.b]) rfl rfl rfl (fun _ => typing_scaled_spec _ _ _) rfl rfl ?_
      conv => whnf
      refine ⟨rfl, ?_⟩
      refine Run.retS ?_
      conv => whnf
      rw [show tuL f t = [scl f t.a t.b] by simp only [tuL, h1, h2, h3, h4, hk1, cond_true, cond_false], show tuO f t = fRight (scl f t.a t.b) by simp only [tuO, h1, h2, h3, h4, hk1, cond_true, cond_false]]
      exact FinS.keepP 2 rfl rfl rfl (Le.tuple (.cons (IsL.le (enc := Fld.cells) (IsL.one (scl f t.a t.b))) (.cons (.refl _) (.cons (.refl _) .nil))))
    · refine Run.retS ?_
      conv => whnf
      rw [show tuL f t = [f] by simp only [tuL, h1, h2, h3, h4, hk1, cond_true, cond_false], show tuO f t = false by simp only [tuO, h1, h2, h3, h4, hk1, cond_true, cond_false]]
      exact FinS.keepP 2 rfl rfl rfl (Le.tuple (.cons (IsL.le (enc := Fld.cells) (IsL.one f)) (.cons (.refl _) (.cons (.ff rfl) .nil))))
  refine Run.condC rfl (fun h5 => ?_) (fun h5 => ?_) <;> (conv => whnf) <;> refine ⟨rfl, ?_⟩
  · refine Run.retS ?_
    conv => whnf
    rw [show tuL f t = [{ f with most := t.a }] by simp only [tuL, h1, h2, h3, h4, h5, cond_true, cond_false], show tuO f t = (f.kind == 3 && (f.most == (t.t.length : Int))) by simp only [tuO, h1, h2, h3, h4, h5, cond_true, cond_false]]
    exact FinS.keepP 2 rfl rfl rfl (Le.tuple (.cons (IsL.le (enc := Fld.cells) (IsL.one { f with most := t.a })) (.cons (.refl _) (.cons (.refl _) .nil))))
  refine Run.condC rfl (fun h6' => ?_) (fun h6' => ?_) <;> (conv => whnf) <;> refine ⟨rfl, ?_⟩
  · refine Run.doesC rfl rfl (fun _ => Does.quo rfl rfl (h6 (by simpa using h6'))) ?_
    conv => whnf
    refine ⟨rfl, ?_⟩
    refine Run.retS ?_
    conv => whnf
    rw [show tuL f t = [{ f with hi := IntKind.i64.wrap (f.hi.tdiv t.a) }, ⟨t.to, 1, 0, if f.hi < IntKind.i64.wrap (t.a - 1) then f.hi else IntKind.i64.wrap (t.a - 1), 0⟩] by simp only [tuL, h1, h2, h3, h4, h5, h6', cond_true, cond_false], show tuO f t = (f.kind == 1 && (f.lo == 0)) by simp only [tuO, h1, h2, h3, h4, h5, h6', cond_true, cond_false]]
    exact FinS.keepP 2 rfl rfl rfl (Le.tuple (.cons (IsL.le (enc := Fld.cells) (IsL.two { f with hi := IntKind.i64.wrap (f.hi.tdiv t.a) } ⟨t.to, 1, 0, if f.hi < IntKind.i64.wrap (t.a - 1) then f.hi else IntKind.i64.wrap (t.a - 1), 0⟩)) (.cons (.refl _) (.cons (.refl _) .nil))))
  refine Run.retS ?_
  conv => whnf
  rw [show tuL f t = [{ f with id := t.to }] by simp only [tuL, h1, h2, h3, h4, h5, h6', cond_true, cond_false], show tuO f t = true by simp only [tuO, h1, h2, h3, h4, h5, h6', cond_true, cond_false]]
  exact FinS.keepP 2 rfl rfl rfl (Le.tuple (.cons (IsL.le (enc := Fld.cells) (IsL.one { f with id := t.to })) (.cons (.refl _) (.cons (.tt rfl) .nil))))
end Go.Proofs.Ytbpcjahjbkiofaa.Sp

set_option linter.unusedVariables false
set_option linter.unusedSimpArgs false
namespace Go.Proofs.Ytbpcjahjbkiofaa.Sp
open Go Go.Proofs.Ytbpcjahjbkiofaa.AV Go.Proofs.Ytbpcjahjbkiofaa.Fn
set_option maxRecDepth 10000

theorem fldF_nth (l : List Fld) (k : Nat) (x : Fld) (h : l[k]? = some x) : fldF l k = x.cells := by
  unfold fldF
  rw [List.getD_eq_getElem?_getD, h]
  rfl

/-- As functions: the lists with some taken out, put in. -/
theorem del_list {fs : List Fld} {a : Nat} {k : Nat} (ha : a < fs.length) (hk : k < fs.length - 1) : delF a (a + 1) (fldF fs) k = fldF (fcut fs a) k := by
  unfold delF fldF fcut
  have e : ∀ (l m : List Fld) (j : Nat), l[j]? = m[j]? → l.getD j default = m.getD j default := fun l m j h => by rw [List.getD_eq_getElem?_getD, List.getD_eq_getElem?_getD, h]
  have hl : (fs.take a).length = a := by simp; omega
  by_cases h : k < a
  · rw [if_pos h]
    congr 1
    rw [List.getD_eq_getElem?_getD, List.getD_eq_getElem?_getD, List.getElem?_append_left (by omega), List.getElem?_take, if_pos h]
  · rw [if_neg h]
    congr 1
    rw [List.getD_eq_getElem?_getD, List.getD_eq_getElem?_getD, List.getElem?_append_right (by omega), hl, List.getElem?_drop]
    congr 2
    omega

theorem ins_list {r l : List Fld} {F g : Nat → List AV} {i k : Nat} (hF : ∀ k, k < r.length → F k = fldF r k) (hg : ∀ k, k < l.length → g k = fldF l k) (hi : i ≤ r.length) (hk : k < r.length + l.length) : insF i l.length g F k = fldF (r.take i ++ l ++ r.drop i) k := by
  have hl : (r.take i).length = i := by simp; omega
  have hl2 : (r.take i ++ l).length = i + l.length := by simp; omega
  unfold insF
  by_cases h : k < i
  · rw [if_pos h, hF k (by omega)]
    unfold fldF
    congr 1
    rw [List.getD_eq_getElem?_getD, List.getD_eq_getElem?_getD, List.getElem?_append_left (by omega), List.getElem?_append_left (by omega), List.getElem?_take, if_pos h]
  · rw [if_neg h]
    by_cases h2 : k < i + l.length
    · rw [if_pos h2, hg _ (by omega)]
      unfold fldF
      congr 1
      rw [List.getD_eq_getElem?_getD, List.getD_eq_getElem?_getD, List.getElem?_append_left (by omega), List.getElem?_append_right (by omega), hl]
    · rw [if_neg h2, hF _ (by omega)]
      unfold fldF
      congr 1
      rw [List.getD_eq_getElem?_getD, List.getD_eq_getElem?_getD, List.getElem?_append_right (by omega), hl2, List.getElem?_drop]
      congr 2
      omega

theorem rep_list {r l : List Fld} {F g : Nat → List AV} {i j k : Nat} (hF : ∀ k, k < r.length → F k = fldF r k) (hg : ∀ k, k < l.length → g k = fldF l k) (hi : i ≤ j) (hj : j ≤ r.length) (hk : k < r.length - (j - i) + l.length) : repF i j l.length g F k = fldF (r.take i ++ l ++ r.drop j) k := by
  have hl : (r.take i).length = i := by simp; omega
  have hl2 : (r.take i ++ l).length = i + l.length := by simp; omega
  unfold repF
  by_cases h : k < i
  · rw [if_pos h, hF k (by omega)]
    unfold fldF
    congr 1
    rw [List.getD_eq_getElem?_getD, List.getD_eq_getElem?_getD, List.getElem?_append_left (by omega), List.getElem?_append_left (by omega), List.getElem?_take, if_pos h]
  · rw [if_neg h]
    by_cases h2 : k < i + l.length
    · rw [if_pos h2, hg _ (by omega)]
      unfold fldF
      congr 1
      rw [List.getD_eq_getElem?_getD, List.getD_eq_getElem?_getD, List.getElem?_append_left (by omega), List.getElem?_append_right (by omega), hl]
    · rw [if_neg h2, hF _ (by omega)]
      unfold fldF
      congr 1
      rw [List.getD_eq_getElem?_getD, List.getD_eq_getElem?_getD, List.getElem?_append_right (by omega), hl2, List.getElem?_drop]
      congr 2
      omega

def chL (fs : List Fld) (t : Stp) (a : Nat) : List Fld :=
  bif t.op == 7 then fput (fcut fs a) t.place.toNat (fs.getD a default) else fs.take a ++ tuL (fs.getD a default) t ++ fs.drop (a + (tuN t).toNat)
def chO (fs : List Fld) (t : Stp) (a : Nat) : Bool := t.op == 7 || tuO (fs.getD a default) t
def chForms (l : List Frm) (k : Nat) (t : Stp) (a : Nat) : List Frm :=
  bif chO (l.getD k default).fields t a then l.set k ⟨(l.getD k default).id, chL (l.getD k default).fields t a⟩ else l

theorem fput_len {l : List Fld} {k : Nat} {f : Fld} (h : k ≤ l.length) : (fput l k f).length = l.length + 1 := by
  simp [fput]; omega
theorem fcut_len {l : List Fld} {k : Nat} (h : k < l.length) : (fcut l k).length = l.length - 1 := by
  simp [fcut]; omega

/-- A form's fields told anew. -/
theorem set_tab {l : List Frm} {k m : Nat} {G : Nat → List AV} {new : List Fld} (hk : k < l.length) (hm : m = new.length) (hG : ∀ j, j < m → G j = fldF new j) : ∀ i, i < l.length → LeL (bif Nat.beq i k then lsets (frmF l i) (0 + 1) [.list 5 m G] else frmF l i) (frmF (l.set k ⟨(l.getD k default).id, new⟩) i) := by
  intro i hi
  cases hb : Nat.beq i k with
  | true =>
    obtain rfl := Nat.eq_of_beq_eq_true hb
    have e : frmF (l.set i ⟨(l.getD i default).id, new⟩) i = Frm.cells ⟨(l.getD i default).id, new⟩ := by
      unfold frmF
      congr 1
      simp [List.getD_eq_getElem?_getD, hi]
    rw [cond_true, e]
    exact .cons (.refl _) (.cons (Le.list hm fun j hj => by rw [hG j hj]; exact LeL.refl _) .nil)
  | false =>
    rw [cond_false]
    have hne : k ≠ i := fun e => by subst e; simp at hb
    have : frmF (l.set k ⟨(l.getD k default).id, new⟩) i = frmF l i := by
      unfold frmF
      congr 1
      simp [List.getD_eq_getElem?_getD, hne]
    rw [this]
    exact LeL.refl _

theorem delete_fld' {n i j : Nat} {f : Nat → List AV} {x y : Int} (ex : x = (i : Int)) (ey : y = (j : Int)) (hij : i < j) (hj : j ≤ n) (hn : n ≤ 1000000) :
    AC P slices_Delete_api_Field_api_Field.id [.row 5 0 0 0 n, .int .i64 x, .int .i64 y] [.row 5 n 0 f] (.row 5 0 1 0 (n - (j - i))) [.row 5 (n - (j - i)) 1 (delF i j f)] := by
  subst ex
  subst ey
  exact delete_fld hij hj hn
theorem insert_fld1' {n i m : Nat} {f g : Nat → List AV} {x : Int} (ex : x = (i : Int)) (hi : i ≤ n) (hm : 1 ≤ m) (hn : n ≤ 1000000) (hm2 : m ≤ 1000000) :
    AC P slices_Insert_api_Field_api_Field.id [.row 5 0 1 0 n, .int .i64 x, .list 5 m g] [.row 5 n 1 f] (.row 5 0 3 0 (n + m)) [.row 5 (n + m) 3 (insF i m g f)] := by
  subst ex
  exact insert_fld1 hi hm hn hm2
theorem replace_fld' {n i j m : Nat} {f g : Nat → List AV} {x y : Int} (ex : x = (i : Int)) (ey : y = (j : Int)) (hij : i ≤ j) (hj : j ≤ n) (hm : i = j → 1 ≤ m) (hn : n ≤ 1000000) (hm2 : m ≤ 1000000) :
    AC P slices_Replace_api_Field_api_Field.id [.row 5 0 0 0 n, .int .i64 x, .int .i64 y, .list 5 m g] [.row 5 n 0 f] (.row 5 0 3 0 (n - (j - i) + m)) [.row 5 (n - (j - i) + m) 3 (repF i j m g f)] := by
  subst ex
  subst ey
  exact replace_fld hij hj hm hn hm2

theorem tuL_len (f : Fld) (t : Stp) : (tuL f t).length ≤ 2 := by
  unfold tuL
  cases t.op == 1 <;> cases t.op == 2 <;> cases t.op == 3 <;> cases t.op == 4 <;> cases t.op == 5 <;> cases t.op == 6 <;> simp

theorem made_change (t : Stp) (v : Int) (l : List Frm) (k a : Nat) (hk : k < l.length) (ha : a ≤ (l.getD k default).fields.length) (ha1 : (t.op == 1) = false → a < (l.getD k default).fields.length)
    (h7 : t.op = 7 → 0 ≤ t.place ∧ t.place < (l.getD k default).fields.length) (h6 : t.op = 6 → t.a ≠ 0) (hb : (l.getD k default).fields.length ≤ 1000) :
    AC P typing_made_change.id [.ptr 0 0 0 0] [.box (mB t v (.row 2 1 0 0 l.length) k a), .row 2 l.length 0 (frmF l)] (.bool (chO (l.getD k default).fields t a)) [.box (mB t v (.row 2 1 0 0 l.length) k a), .row 2 l.length 0 (frmF (chForms l k t a))] := by
  refine typing_made_change.intro rfl (Goes.run ?_)
  conv => whnf
  refine ⟨rfl, ?_⟩
  refine Run.callG [0, 1] (made_fields t v l k a hk) rfl rfl rfl ⟨rfl, rfl, trivial⟩ ?_
  conv => whnf
  refine ⟨rfl, ?_⟩
  refine Run.callG [2] (clone_new (l.getD k default).fields (by omega)) rfl rfl rfl ⟨rfl, trivial⟩ ?_
  conv => whnf
  refine ⟨rfl, ?_⟩
  have hwa : IntKind.i64.wrap ((a : Int) + 1) = ((a + 1 : Nat) : Int) := by rw [wrap_of (by omega) (by omega)]; omega
  refine Run.condC rfl (fun h => ?_) (fun h => ?_) <;> (conv => whnf) <;> refine ⟨rfl, ?_⟩
  · have hop : t.op = 7 := by simpa using h
    have h1 : (t.op == 1) = false := by rw [hop]; rfl
    have haf := ha1 h1
    obtain ⟨hp0, hp1⟩ := h7 hop
    obtain ⟨p, hp⟩ : ∃ p : Nat, t.place = p := ⟨t.place.toNat, by omega⟩
    refine Run.callG [0, 1] (made_own t v l k a hk haf) rfl rfl rfl ⟨rfl, rfl, trivial⟩ ?_
    conv => whnf
    refine ⟨rfl, ?_⟩
    refine Run.callGD [2] 2 (delete_fld' (i := a) (j := a + 1) rfl hwa (by omega) (by omega) (by omega)) rfl rfl rfl ⟨rfl, trivial⟩ rfl ⟨rfl, trivial⟩ rfl ?_
    conv => whnf
    refine ⟨rfl, ?_⟩
    refine Run.callGDs [2] 2 (insert_fld1' (i := p) (m := 1) hp (by omega) (Nat.le_refl _) (by omega) (by omega)) rfl rfl rfl ⟨rfl, trivial⟩ rfl ⟨rfl, trivial⟩ rfl ?_
    conv => whnf
    refine ⟨rfl, ?_⟩
    refine Run.frzC 2 rfl ?_
    conv => whnf
    refine ⟨rfl, ?_⟩
    refine Run.iaRD rfl rfl rfl rfl rfl rfl rfl (fun _ => ⟨by omega, by omega⟩) (j := k) (by rw [Nat.zero_add]; rfl) rfl ?_
    conv => whnf
    refine ⟨rfl, ?_⟩
    refine Run.retS ?_
    conv => whnf
    have ec : chO (l.getD k default).fields t a = true := by simp [chO, hop]
    rw [ec]
    refine FinS.tab rfl (FinS.keep 2 rfl rfl rfl rfl (.tt rfl)) fun i => ?_
    match i with
    | 0 => exact LeOb.refl _
    | 1 =>
      refine ⟨rfl, rfl, rfl, ?_⟩
      simp only [chForms, ec, cond_true]
      have hl7 : chL (l.getD k default).fields t a = fput (fcut (l.getD k default).fields a) p ((l.getD k default).fields.getD a default) := by
        simp only [chL, h, cond_true]
        rw [hp]; rfl
      rw [hl7]
      refine set_tab hk ?_ fun j hj => ?_
      · rw [fput_len (by rw [fcut_len haf]; omega), fcut_len haf]
        omega
      · have hj' : j < (l.getD k default).fields.length - (a + 1 - a) + 1 := hj
        have hj2 : j < (l.getD k default).fields.length - 1 + 1 := by omega
        rw [Nat.zero_add]
        refine (ins_list (r := fcut (l.getD k default).fields a) (l := [(l.getD k default).fields.getD a default]) (fun q hq => del_list haf (by rw [fcut_len haf] at hq; exact hq)) (fun q hq => ?_) (by rw [fcut_len haf]; omega) (by rw [fcut_len haf]; exact hj2)).trans ?_
        · match q, hq with
          | 0, _ => rfl
        · congr 1
          simp [fput]
    | i + 2 => exact .inl rfl
  · have hN : tuN t = ((tuN t).toNat : Int) ∧ (tuN t).toNat ≤ 1 := by unfold tuN; cases t.op == 1 <;> simp
    refine Run.callG [0, 1] (made_turned t v l k a ((l.getD k default).fields.getD a default) h6 (fun h1 => ⟨hk, a, rfl, ha1 h1, rfl⟩)) rfl rfl rfl ⟨rfl, rfl, trivial⟩ ?_
    conv => whnf
    refine ⟨rfl, ?_⟩
    refine Run.condC rfl (fun ho => ?_) (fun ho => ?_) <;> (conv => whnf) <;> refine ⟨rfl, ?_⟩
    · have ec : chO (l.getD k default).fields t a = false := by
        unfold chO
        rw [h, Bool.false_or]
        simpa using ho
      refine Run.retS ?_
      conv => whnf
      rw [ec]
      simp only [chForms, ec, cond_false]
      exact FinS.keep 2 rfl rfl rfl rfl (.ff rfl)
    have ec : chO (l.getD k default).fields t a = true := by
      unfold chO
      rw [h, Bool.false_or]
      simpa using ho
    have han : a + (tuN t).toNat ≤ (l.getD k default).fields.length := by
      cases h1 : t.op == 1 with
      | true => simp only [tuN, h1, cond_true]; simpa using ha
      | false => have := ha1 h1; omega
    have hm1 : a = a + (tuN t).toNat → 1 ≤ (tuL ((l.getD k default).fields.getD a default) t).length := fun e => by
      cases h1 : t.op == 1 with
      | true => simp [tuL, h1]
      | false => simp only [tuN, h1, cond_false] at e; simp at e
    have hwn : IntKind.i64.wrap ((a : Int) + tuN t) = ((a + (tuN t).toNat : Nat) : Int) := by rw [wrap_of (by omega) (by omega)]; omega
    have htl := tuL_len ((l.getD k default).fields.getD a default) t
    refine Run.callGDs [2] 2 (replace_fld' (i := a) (j := a + (tuN t).toNat) rfl hwn (by omega) han hm1 (by omega) (by omega)) rfl rfl rfl ⟨rfl, trivial⟩ rfl ⟨rfl, trivial⟩ rfl ?_
    conv => whnf
    refine ⟨rfl, ?_⟩
    refine Run.frzC 2 rfl ?_
    conv => whnf
    refine ⟨rfl, ?_⟩
    refine Run.iaRD rfl rfl rfl rfl rfl rfl rfl (fun _ => ⟨by omega, by omega⟩) (j := k) (by rw [Nat.zero_add]; rfl) rfl ?_
    conv => whnf
    refine ⟨rfl, ?_⟩
    refine Run.retS ?_
    conv => whnf
    rw [ec]
    refine FinS.tab rfl (FinS.keep 2 rfl rfl rfl rfl (.tt rfl)) fun i => ?_
    match i with
    | 0 => exact LeOb.refl _
    | 1 =>
      refine ⟨rfl, rfl, rfl, ?_⟩
      simp only [chForms, ec, cond_true]
      have hl7 : chL (l.getD k default).fields t a = (l.getD k default).fields.take a ++ tuL ((l.getD k default).fields.getD a default) t ++ (l.getD k default).fields.drop (a + (tuN t).toNat) := by
        simp only [chL, h, cond_false]
      rw [hl7]
      refine set_tab hk ?_ fun j hj => ?_
      · rw [List.length_append, List.length_append, List.length_take, List.length_drop]
        omega
      · rw [Nat.zero_add]
        exact rep_list (fun q _ => rfl) (fun q _ => rfl) (by omega) han hj
    | i + 2 => exact .inl rfl
end Go.Proofs.Ytbpcjahjbkiofaa.Sp

set_option linter.unusedVariables false
set_option linter.unusedSimpArgs false
namespace Go.Proofs.Ytbpcjahjbkiofaa.Sp
open Go Go.Proofs.Ytbpcjahjbkiofaa.AV Go.Proofs.Ytbpcjahjbkiofaa.Fn
set_option maxRecDepth 10000

/-- The forms after a step. -/
def tForms (l : List Frm) (t : Stp) : List Frm :=
  bif t.op == 9 then l.take (fPos l t.form) ++ [⟨t.form, t.fields⟩] ++ l.drop (fPos l t.form) else bif t.op == 10 then l.take (fPos l t.form) ++ l.drop (fPos l t.form + 1) else chForms l (fPos l t.form) t (thAt l t 0).toNat
def badOn (s : Sch) (t : Stp) : Bool := !sRight s || !stRight t || decide (t.op < 1) || decide (t.op > 10)
def tOn (s : Sch) (t : Stp) : Sch × Int :=
  bif badOn s t then (⟨0, []⟩, 2) else bif thErr s.forms t != 0 then (⟨0, []⟩, thErr s.forms t) else
  bif t.op != 9 && (t.op != 10 && !chO (thFs s.forms t) t (thAt s.forms t 0).toNat) then (⟨0, []⟩, 17) else
  bif !sRight ⟨s.version, tForms s.forms t⟩ then (⟨0, []⟩, 7) else (⟨s.version, tForms s.forms t⟩, 0)

theorem st_place {t : Stp} (h : stRight t = true) : 0 ≤ t.place ∧ t.place ≤ 8 := by
  unfold stRight at h
  cases h1 : bad1 t with
  | true => rw [h1] at h; simp at h
  | false =>
    simp only [bad1, Bool.or_eq_false_iff, Bool.not_eq_false'] at h1
    have h2 := h1.1.1.2
    simp only [btw, Bool.and_eq_true, decide_eq_true_eq] at h2
    omega
theorem st_num {t : Stp} (h : stRight t = true) : numB t = true := by
  unfold stRight at h
  cases h1 : bad1 t with
  | true => rw [h1] at h; simp at h
  | false =>
    simp only [bad1, Bool.or_eq_false_iff, Bool.not_eq_false'] at h1
    exact h1.2
theorem st_a6 {t : Stp} (h : stRight t = true) (h6 : t.op = 6) : t.a ≠ 0 := by
  have h1 := st_num h
  simp [numB, h6, btw] at h1
  omega

theorem hasPos_lt {l : List Frm} {id : Int} (h : hasPos l id = true) : fPos l id < l.length := by
  unfold hasPos at h
  simp only [Bool.and_eq_true, decide_eq_true_eq] at h
  exact h.1

theorem fAt_lt {l : List Fld} {id : Int} {i : Nat} (h : fAt l id = some i) : i < l.length := by
  unfold fAt at h
  rw [List.findIdx?_eq_some_iff_getElem] at h
  exact h.1
theorem placeI_nat {l : List Fld} {id : Int} (h : ¬ placeI (fAt l id) < 0) : ∃ a : Nat, placeI (fAt l id) = a ∧ a < l.length := by
  cases h1 : fAt l id with
  | none => rw [h1] at h; simp [placeI] at h
  | some i => exact ⟨i, rfl, fAt_lt h1⟩

theorem th_has {l : List Frm} {t : Stp} (h : thErr l t = 0) (h9 : (t.op == 9) = false) : hasPos l t.form = true := by
  unfold thErr at h
  rw [h9, cond_false] at h
  cases hh : hasPos l t.form with
  | true => rfl
  | false => rw [hh, cond_false] at h; omega

theorem th_facts {l : List Frm} {t : Stp} (h : thErr l t = 0) (h9 : (t.op == 9) = false) (h10 : (t.op == 10) = false) (hp : 0 ≤ t.place) :
    ∃ a : Nat, thAt l t 0 = a ∧ a ≤ (thFs l t).length ∧ ((t.op == 1) = false → a < (thFs l t).length) ∧ (t.op = 7 → t.place < (thFs l t).length) := by
  have hh := th_has h h9
  unfold thErr at h
  rw [h9, hh, cond_false, cond_true] at h
  have e1 : thAt l t 0 = thAt0 (thFs l t) t := by simp only [thAt, h9, hh, cond_false, cond_true]
  rw [e1]
  cases hd : decide (thAt0 (thFs l t) t < 0) with
  | true => rw [hd, cond_true] at h; omega
  | false =>
    rw [hd, cond_false] at h
    simp only [decide_eq_false_iff_not] at hd
    cases hf : (decide (thFresh t ≥ 0) && decide (placeI (fAt (thFs l t) (thFresh t)) ≥ 0)) with
    | true => rw [hf, cond_true] at h; omega
    | false =>
      rw [hf, cond_false] at h
      cases hg : ((t.op == 1 && decide (t.place > ((thFs l t).length : Int))) || (t.op == 7 && decide (t.place ≥ ((thFs l t).length : Int)))) with
      | true => rw [hg, cond_true] at h; omega
      | false =>
        simp only [Bool.or_eq_false_iff, Bool.and_eq_false_iff, decide_eq_false_iff_not] at hg
        obtain ⟨g1, g7⟩ := hg
        have f7 : t.op = 7 → t.place < (thFs l t).length := fun e => by
          rcases g7 with g | g
          · rw [e] at g; simp at g
          · omega
        cases h1 : t.op == 1 with
        | true =>
          have e2 : thAt0 (thFs l t) t = t.place := by simp only [thAt0, h1, cond_true]
          rw [e2]
          rw [h1] at g1
          refine ⟨t.place.toNat, by omega, ?_, fun e => by simp at e, f7⟩
          rcases g1 with g | g
          · simp at g
          · omega
        | false =>
          have e2 : thAt0 (thFs l t) t = placeI (fAt (thFs l t) t.field) := by
            simp only [thAt0, h1, h10, cond_false]
            cases (t.op == 6 || t.op == 8) <;> rfl
          rw [e2] at hd ⊢
          obtain ⟨a, ha, hlt⟩ := placeI_nat hd
          exact ⟨a, ha, by omega, fun _ => hlt, f7⟩

/-- A schema that may be is small. -/
theorem fine_len {x : Frm} (h : fFine x = true) : x.fields.length ≤ 8 ∧ 1 ≤ x.fields.length := by
  simp only [fFine, Bool.and_eq_true, decide_eq_true_eq] at h
  omega
theorem sRight_len {s : Sch} (h : sRight s = true) : s.forms.length ≤ 8 ∧ ∀ i, (s.forms.getD i default).fields.length ≤ 8 := by
  simp only [sRight, Bool.and_eq_true, decide_eq_true_eq, List.all_eq_true] at h
  obtain ⟨h1, h2⟩ := h
  refine ⟨h1.2.2, fun i => ?_⟩
  by_cases hi : i < s.forms.length
  · have := h2 i (List.mem_range.2 hi)
    simp only [okAt, Bool.and_eq_true] at this
    exact (fine_len this.1).1
  · rw [List.getD_eq_getElem?_getD, List.getElem?_eq_none (by omega)]
    show ([] : List Fld).length ≤ 8
    simp

theorem chL_len {fs : List Fld} {t : Stp} {a : Nat} : (chL fs t a).length ≤ fs.length + 2 := by
  unfold chL
  have := tuL_len (fs.getD a default) t
  cases t.op == 7
  · rw [cond_false, List.length_append, List.length_append, List.length_take, List.length_drop]; omega
  · rw [cond_true]; simp [fput, fcut]; omega

theorem all_small {l : List Frm} {m : Nat} (h : ∀ x ∈ l, x.fields.length ≤ m) : ∀ i, (l.getD i default).fields.length ≤ m := by
  intro i
  by_cases hi : i < l.length
  · rw [show l.getD i default = l[i] by simp [List.getD_eq_getElem?_getD, hi]]
    exact h _ (List.getElem_mem hi)
  · rw [List.getD_eq_getElem?_getD, List.getElem?_eq_none (by omega)]
    exact Nat.zero_le _
theorem mem_small {l : List Frm} {m : Nat} (h : ∀ i, (l.getD i default).fields.length ≤ m) : ∀ x ∈ l, x.fields.length ≤ m := by
  intro x hx
  obtain ⟨i, hi, rfl⟩ := List.mem_iff_getElem.1 hx
  have := h i
  rwa [show l.getD i default = l[i] by simp [List.getD_eq_getElem?_getD, hi]] at this

theorem tForms_small {s : Sch} {t : Stp} (h : sRight s = true) (hf : t.fields.length ≤ 100) : Small ⟨s.version, tForms s.forms t⟩ := by
  obtain ⟨h1, h2⟩ := sRight_len h
  have hm := mem_small h2
  have key : (tForms s.forms t).length ≤ 9 ∧ ∀ x ∈ tForms s.forms t, x.fields.length ≤ 100 := by
    unfold tForms
    cases t.op == 9 with
    | true =>
      rw [cond_true]
      refine ⟨by simp; omega, fun x hx => ?_⟩
      simp only [List.mem_append, List.mem_singleton] at hx
      rcases hx with (hx | hx) | hx
      · have := hm x (List.mem_of_mem_take hx); omega
      · subst hx; exact hf
      · have := hm x (List.mem_of_mem_drop hx); omega
    | false =>
      rw [cond_false]
      cases t.op == 10 with
      | true =>
        rw [cond_true]
        refine ⟨by simp; omega, fun x hx => ?_⟩
        simp only [List.mem_append] at hx
        rcases hx with hx | hx
        · have := hm x (List.mem_of_mem_take hx); omega
        · have := hm x (List.mem_of_mem_drop hx); omega
      | false =>
        rw [cond_false]
        unfold chForms
        cases chO (s.forms.getD (fPos s.forms t.form) default).fields t (thAt s.forms t 0).toNat with
        | false => rw [cond_false]; exact ⟨by omega, fun x hx => by have := hm x hx; omega⟩
        | true =>
          rw [cond_true]
          refine ⟨by simp; omega, fun x hx => ?_⟩
          rcases List.mem_or_eq_of_mem_set hx with hx | hx
          · have := hm x hx; omega
          · subst hx
            have h3 := chL_len (fs := (s.forms.getD (fPos s.forms t.form) default).fields) (t := t) (a := (thAt s.forms t 0).toNat)
            have h4 := h2 (fPos s.forms t.form)
            show (chL _ _ _).length ≤ 100
            omega
  exact ⟨by have := key.1; show (tForms s.forms t).length ≤ 1000; omega, fun i => by have := all_small key.2 i; show ((tForms s.forms t).getD i default).fields.length ≤ 1000; omega⟩

/-- As functions. -/
theorem insM_list {l : List Frm} {x : Frm} {k i : Nat} (hk : k ≤ l.length) (hi : i < l.length + 1) : insF k 1 (nthL [x.cells]) (frmF l) i = frmF (l.take k ++ [x] ++ l.drop k) i := by
  have hl : (l.take k).length = k := by simp; omega
  have hl2 : (l.take k ++ [x]).length = k + 1 := by simp; omega
  unfold insF frmF
  by_cases h : i < k
  · rw [if_pos h]
    congr 1
    rw [List.getD_eq_getElem?_getD, List.getD_eq_getElem?_getD, List.getElem?_append_left (by omega), List.getElem?_append_left (by omega), List.getElem?_take, if_pos h]
  · rw [if_neg h]
    by_cases h2 : i < k + 1
    · rw [if_pos h2]
      obtain rfl : i = k := by omega
      rw [Nat.sub_self]
      show x.cells = _
      congr 1
      rw [List.getD_eq_getElem?_getD, List.getElem?_append_left (by omega), List.getElem?_append_right (by omega), hl]
      simp
    · rw [if_neg h2]
      congr 1
      rw [List.getD_eq_getElem?_getD, List.getD_eq_getElem?_getD, List.getElem?_append_right (by omega), hl2, List.getElem?_drop]
      congr 2
      omega
theorem delM_list {l : List Frm} {k i : Nat} (hk : k < l.length) (hi : i < l.length - 1) : delF k (k + 1) (frmF l) i = frmF (l.take k ++ l.drop (k + 1)) i := by
  have hl : (l.take k).length = k := by simp; omega
  unfold delF frmF
  by_cases h : i < k
  · rw [if_pos h]
    congr 1
    rw [List.getD_eq_getElem?_getD, List.getD_eq_getElem?_getD, List.getElem?_append_left (by omega), List.getElem?_take, if_pos h]
  · rw [if_neg h]
    congr 1
    rw [List.getD_eq_getElem?_getD, List.getD_eq_getElem?_getD, List.getElem?_append_right (by omega), hl, List.getElem?_drop]
    congr 2
    omega
theorem chForms_len {l : List Frm} {k a : Nat} {t : Stp} : (chForms l k t a).length = l.length := by
  unfold chForms
  cases chO (l.getD k default).fields t a <;> simp

theorem delete_frm' {n i j : Nat} {f : Nat → List AV} {x y : Int} (ex : x = (i : Int)) (ey : y = (j : Int)) (hij : i < j) (hj : j ≤ n) (hn : n ≤ 1000000) :
    AC P slices_Delete_api_Form_api_Form.id [.row 2 0 0 0 n, .int .i64 x, .int .i64 y] [.row 2 n 0 f] (.row 2 0 1 0 (n - (j - i))) [.row 2 (n - (j - i)) 1 (delF i j f)] := by
  subst ex
  subst ey
  exact delete_frm hij hj hn
theorem zsch : Le (.agg [.int .i64 0, .zsl]) (.agg (Sch.cells ⟨0, []⟩)) := Le.agg (.cons (.refl _) (.cons (Le.zsl (by omega)) .nil))
end Go.Proofs.Ytbpcjahjbkiofaa.Sp

set_option linter.unusedVariables false
set_option linter.unusedSimpArgs false
namespace Go.Proofs.Ytbpcjahjbkiofaa.Sp
open Go Go.Proofs.Ytbpcjahjbkiofaa.AV Go.Proofs.Ytbpcjahjbkiofaa.Fn
set_option maxRecDepth 10000

set_option maxHeartbeats 4000000 in
theorem typing_on (s : Sch) (t : Stp) (hs : Small s) (hw : WfS t) (hl : t.t.length ≤ 1000000) (hfl : t.fields.length ≤ 100) :
    AC P typing_On.id [.agg s.cells, .agg t.cells] [] (.tuple [.agg (tOn s t).1.cells, .int .i64 (tOn s t).2]) [] := by
  refine typing_On.intro rfl (Goes.run ?_)
  conv => whnf
  refine ⟨rfl, ?_⟩
  refine Run.callC (av := [.agg s.cells]) rfl rfl rfl (fun _ => schema_right s hs) rfl rfl ?_
  conv => whnf
  refine ⟨rfl, ?_⟩
  refine Run.callC (av := [.agg t.cells]) rfl rfl rfl (fun _ => step_right t hw hl (by omega)) rfl rfl ?_
  conv => whnf
  refine ⟨rfl, ?_⟩
  refine Run.condC rfl (fun hb => ?_) (fun hb => ?_) <;> (conv => whnf) <;> refine ⟨rfl, ?_⟩
  · refine Run.retZ ?_
    conv => whnf
    have e : tOn s t = (⟨0, []⟩, 2) := by simp only [tOn, show badOn s t = true from hb, cond_true]
    rw [e]
    exact ⟨rfl, Le.tuple (.cons zsch (.cons (.refl _) .nil))⟩
  have hbad : badOn s t = false := hb
  have hb2 := hbad
  simp only [badOn, Bool.or_eq_false_iff, Bool.not_eq_false', decide_eq_false_iff_not] at hb2
  obtain ⟨⟨⟨hsr, hst⟩, _⟩, _⟩ := hb2
  obtain ⟨hn8, hf8⟩ := sRight_len hsr
  have hpl := st_place hst
  refine Run.callGD [3] 3 (copied_new s (by omega) (fun i => by have := hf8 i; omega)) rfl rfl rfl ⟨rfl, trivial⟩ rfl ⟨rfl, trivial⟩ rfl ?_
  conv => whnf
  refine ⟨rfl, ?_⟩
  refine Run.callG [4, 3] (made_there t s.version s.forms 0 0 (by omega) (fun i => by have := hf8 i; omega)) rfl rfl rfl ⟨rfl, rfl, trivial⟩ ?_
  conv => whnf
  refine ⟨rfl, ?_⟩
  refine Run.condC rfl (fun he => ?_) (fun he => ?_) <;> (conv => whnf) <;> refine ⟨rfl, ?_⟩
  · refine Run.retZ ?_
    conv => whnf
    have e : tOn s t = (⟨0, []⟩, thErr s.forms t) := by simp only [tOn, hbad, show (thErr s.forms t != 0) = true from he, cond_true, cond_false]
    rw [e]
    exact ⟨rfl, Le.tuple (.cons zsch (.cons (.refl _) .nil))⟩
  have he0 : (thErr s.forms t != 0) = false := he
  have hth : thErr s.forms t = 0 := by simpa using he0
  have hple := fPos_le s.forms t.form
  refine Run.condC rfl (fun h9 => ?_) (fun h9 => ?_) <;> (conv => whnf) <;> refine ⟨rfl, ?_⟩
  · refine Run.callD (av := [encFs t.fields]) rfl rfl rfl (fun _ => clone_spec _ (by omega)) rfl rfl rfl ?_
    conv => whnf
    refine ⟨rfl, ?_⟩
    refine Run.callGD [3] 3 (insert_frm (i := fPos s.forms t.form) (m := 1) hple (Nat.le_refl _) (by omega) (by omega)) rfl rfl rfl ⟨rfl, trivial⟩ rfl ⟨rfl, trivial⟩ rfl ?_
    conv => whnf
    refine ⟨rfl, ?_⟩
    have hN : s.forms.length + 1 = (tForms s.forms t).length := by simp only [tForms, h9, cond_true]; simp; omega
    have hF : ∀ i, i < s.forms.length + 1 → insF (fPos s.forms t.form) 1 (nthL [Frm.cells ⟨t.form, t.fields⟩]) (frmF s.forms) i = Frm.cells ((tForms s.forms t).getD i default) := fun i hi => by
      rw [insM_list hple hi]
      simp only [tForms, h9, cond_true]
      rfl
    have hsm := tForms_small (t := t) hsr hfl
    refine Run.callB (av := [.agg [.int .i64 s.version, .list 2 (s.forms.length + 1) (fun i => insF (fPos s.forms t.form) 1 (nthL [Frm.cells ⟨t.form, t.fields⟩]) (frmF s.forms) (0 + i))]]) rfl rfl rfl (fun _ => (schema_right ⟨s.version, tForms s.forms t⟩ hsm).le_args (.cons (Le.agg (.cons (.refl _) (.cons (Le.list hN fun i hi => leL_eq (by rw [Nat.zero_add]; exact hF i hi)) .nil))) .nil)) rfl rfl ?_
    conv => whnf
    refine ⟨rfl, ?_⟩
    refine Run.condC rfl (fun hr => ?_) (fun hr => ?_) <;> (conv => whnf) <;> refine ⟨rfl, ?_⟩
    · refine Run.retZ ?_
      conv => whnf
      have e : tOn s t = (⟨0, []⟩, 7) := by simp only [tOn, hbad, he0, hr, show (t.op != 9) = false by simp only [bne, h9, Bool.not_true], cond_true, cond_false, Bool.false_and, Bool.and_false, Bool.not_true, Bool.not_false]
      rw [e]
      exact ⟨rfl, Le.tuple (.cons zsch (.cons (.refl _) .nil))⟩
    · refine Run.retZ ?_
      conv => whnf
      have e : tOn s t = (⟨s.version, tForms s.forms t⟩, 0) := by simp only [tOn, hbad, he0, hr, show (t.op != 9) = false by simp only [bne, h9, Bool.not_true], cond_true, cond_false, Bool.false_and, Bool.and_false, Bool.not_true, Bool.not_false]
      rw [e]
      exact ⟨rfl, Le.tuple (.cons (Le.agg (.cons (.refl _) (.cons (Le.list hN fun i hi => leL_eq (by rw [Nat.zero_add]; exact hF i hi)) .nil))) (.cons (.refl _) .nil))⟩
  have hhas := th_has hth h9
  have hlt := hasPos_lt hhas
  refine Run.condC rfl (fun h10 => ?_) (fun h10 => ?_) <;> (conv => whnf) <;> refine ⟨rfl, ?_⟩
  · have hwk : IntKind.i64.wrap ((fPos s.forms t.form : Int) + 1) = ((fPos s.forms t.form + 1 : Nat) : Int) := by rw [wrap_of (by omega) (by omega)]; omega
    refine Run.callGD [3] 3 (delete_frm' (i := fPos s.forms t.form) (j := fPos s.forms t.form + 1) rfl hwk (by omega) (by omega) (by omega)) rfl rfl rfl ⟨rfl, trivial⟩ rfl ⟨rfl, trivial⟩ rfl ?_
    conv => whnf
    refine ⟨rfl, ?_⟩
    have hN : s.forms.length - (fPos s.forms t.form + 1 - fPos s.forms t.form) = (tForms s.forms t).length := by simp only [tForms, h9, h10, cond_true, cond_false]; simp; omega
    have hF : ∀ i, i < s.forms.length - (fPos s.forms t.form + 1 - fPos s.forms t.form) → delF (fPos s.forms t.form) (fPos s.forms t.form + 1) (frmF s.forms) i = Frm.cells ((tForms s.forms t).getD i default) := fun i hi => by
      rw [delM_list hlt (by omega)]
      simp only [tForms, h9, h10, cond_true, cond_false]
      rfl
    have hsm := tForms_small (t := t) hsr hfl
    refine Run.callB (av := [.agg [.int .i64 s.version, .list 2 (s.forms.length - (fPos s.forms t.form + 1 - fPos s.forms t.form)) (fun i => delF (fPos s.forms t.form) (fPos s.forms t.form + 1) (frmF s.forms) (0 + i))]]) rfl rfl rfl (fun _ => (schema_right ⟨s.version, tForms s.forms t⟩ hsm).le_args (.cons (Le.agg (.cons (.refl _) (.cons (Le.list hN fun i hi => leL_eq (by rw [Nat.zero_add]; exact hF i hi)) .nil))) .nil)) rfl rfl ?_
    conv => whnf
    refine ⟨rfl, ?_⟩
    refine Run.condC rfl (fun hr => ?_) (fun hr => ?_) <;> (conv => whnf) <;> refine ⟨rfl, ?_⟩
    · refine Run.retZ ?_
      conv => whnf
      have e : tOn s t = (⟨0, []⟩, 7) := by simp only [tOn, hbad, he0, hr, show (t.op != 10) = false by simp only [bne, h10, Bool.not_true], cond_true, cond_false, Bool.false_and, Bool.and_false, Bool.not_true, Bool.not_false]
      rw [e]
      exact ⟨rfl, Le.tuple (.cons zsch (.cons (.refl _) .nil))⟩
    · refine Run.retZ ?_
      conv => whnf
      have e : tOn s t = (⟨s.version, tForms s.forms t⟩, 0) := by simp only [tOn, hbad, he0, hr, show (t.op != 10) = false by simp only [bne, h10, Bool.not_true], cond_true, cond_false, Bool.false_and, Bool.and_false, Bool.not_true, Bool.not_false]
      rw [e]
      exact ⟨rfl, Le.tuple (.cons (Le.agg (.cons (.refl _) (.cons (Le.list hN fun i hi => leL_eq (by rw [Nat.zero_add]; exact hF i hi)) .nil))) (.cons (.refl _) .nil))⟩
  obtain ⟨a, ha0, ha1, ha2, ha3⟩ := th_facts hth h9 h10 hpl.1
  have hch : (thAt s.forms t 0).toNat = a := by rw [ha0]; rfl
  refine Run.callG [4, 3] (made_change t s.version s.forms (fPos s.forms t.form) a hlt ha1 ha2 (fun h7 => ⟨hpl.1, ha3 h7⟩) (st_a6 hst) (by have := hf8 (fPos s.forms t.form); omega)) ?_ rfl rfl ⟨?_, rfl, trivial⟩ ?_
  · rfl
  · rw [← ha0]; rfl
  conv => whnf
  refine ⟨rfl, ?_⟩
  refine Run.condC rfl (fun ho => ?_) (fun ho => ?_) <;> (conv => whnf) <;> refine ⟨rfl, ?_⟩
  · refine Run.retZ ?_
    conv => whnf
    have ho' : chO (thFs s.forms t) t (thAt s.forms t 0).toNat = false := by rw [hch]; simpa only [Bool.not_eq_true'] using (show (!chO (thFs s.forms t) t a) = true from ho)
    have e : tOn s t = (⟨0, []⟩, 17) := by simp only [tOn, hbad, he0, ho', show (t.op != 9) = true by simp only [bne, h9, Bool.not_false], show (t.op != 10) = true by simp only [bne, h10, Bool.not_false], cond_true, cond_false, Bool.not_false, Bool.and_true]
    rw [e]
    exact ⟨rfl, Le.tuple (.cons zsch (.cons (.refl _) .nil))⟩
  have ho' : chO (thFs s.forms t) t (thAt s.forms t 0).toNat = true := by rw [hch]; simpa only [Bool.not_eq_false'] using (show (!chO (thFs s.forms t) t a) = false from ho)
  have hN : s.forms.length = (tForms s.forms t).length := by simp only [tForms, h9, h10, cond_false]; rw [chForms_len]
  have hF : ∀ i, i < s.forms.length → frmF (chForms s.forms (fPos s.forms t.form) t a) i = Frm.cells ((tForms s.forms t).getD i default) := fun i hi => by
    simp only [tForms, h9, h10, cond_false, hch]
    rfl
  have hsm := tForms_small (t := t) hsr hfl
  refine Run.callB (av := [.agg [.int .i64 s.version, .list 2 s.forms.length (fun i => frmF (chForms s.forms (fPos s.forms t.form) t a) (0 + i))]]) rfl rfl rfl (fun _ => (schema_right ⟨s.version, tForms s.forms t⟩ hsm).le_args (.cons (Le.agg (.cons (.refl _) (.cons (Le.list hN fun i hi => leL_eq (by rw [Nat.zero_add]; exact hF i hi)) .nil))) .nil)) rfl rfl ?_
  conv => whnf
  refine ⟨rfl, ?_⟩
  refine Run.condC rfl (fun hr => ?_) (fun hr => ?_) <;> (conv => whnf) <;> refine ⟨rfl, ?_⟩
  · refine Run.retZ ?_
    conv => whnf
    have e : tOn s t = (⟨0, []⟩, 7) := by simp only [tOn, hbad, he0, hr, ho', cond_true, cond_false, Bool.false_and, Bool.and_false, Bool.not_true, Bool.not_false]
    rw [e]
    exact ⟨rfl, Le.tuple (.cons zsch (.cons (.refl _) .nil))⟩
  · refine Run.retZ ?_
    conv => whnf
    have e : tOn s t = (⟨s.version, tForms s.forms t⟩, 0) := by simp only [tOn, hbad, he0, hr, ho', cond_true, cond_false, Bool.false_and, Bool.and_false, Bool.not_true, Bool.not_false]
    rw [e]
    exact ⟨rfl, Le.tuple (.cons (Le.agg (.cons (.refl _) (.cons (Le.list hN fun i hi => leL_eq (by rw [Nat.zero_add]; exact hF i hi)) .nil))) (.cons (.refl _) .nil))⟩
end Go.Proofs.Ytbpcjahjbkiofaa.Sp

set_option linter.unusedVariables false
set_option linter.unusedSimpArgs false
namespace Go.Proofs.Ytbpcjahjbkiofaa.Sp
open Go Go.Proofs.Ytbpcjahjbkiofaa.AV Go.Proofs.Ytbpcjahjbkiofaa.Fn
set_option maxRecDepth 10000

theorem r16_field (op : Int) : AC P R16_field.id [.int .i64 op] [] (.bool (op != 1 && op != 9 && op != 10)) [] := by
  refine R16_field.intro rfl (Goes.run ?_)
  conv => whnf
  refine ⟨rfl, ?_⟩
  refine Run.retP ?_
  conv => whnf
  exact ⟨rfl, .bool rfl⟩

def nm1 (fs : List Fld) (t : Stp) : Bool := (t.op != 1 && t.op != 9 && t.op != 10) && decide (placeI (fAt fs t.field) < 0)
def nm2 (fs : List Fld) (t : Stp) : Bool := (t.op == 1 && decide (placeI (fAt fs t.f.id) ≥ 0)) || ((t.op == 6 || t.op == 8) && decide (placeI (fAt fs t.to) ≥ 0))
def nm3 (fs : List Fld) (t : Stp) : Bool := (t.op == 1 && decide (t.place > (fs.length : Int))) || (t.op == 7 && decide (t.place ≥ (fs.length : Int)))
def nmErr (l : List Frm) (t : Stp) : Int :=
  match sFind l t.form with
  | none => bif t.op == 9 then 0 else 8
  | some k => bif t.op == 9 then 9 else bif nm1 (l.getD k default).fields t then 8 else bif nm2 (l.getD k default).fields t then 9 else bif nm3 (l.getD k default).fields t then 3 else 0

theorem sFind_lt {l : List Frm} {id : Int} {k : Nat} (h : sFind l id = some k) : k < l.length := by
  unfold sFind at h
  rw [List.findIdx?_eq_some_iff_getElem] at h
  exact h.1

theorem r16_names (s : Sch) (t : Stp) (hs : Small s) : AC P R16_names.id [.agg s.cells, .agg t.cells] [] (.int .i64 (nmErr s.forms t)) [] := by
  obtain ⟨hb, hf⟩ := hs
  have hfind := r13_find s t.form hb
  refine R16_names.intro rfl (Goes.run ?_)
  conv => whnf
  refine ⟨rfl, ?_⟩
  cases hk : sFind s.forms t.form with
  | none =>
    rw [hk] at hfind
    refine Run.callC (av := [.agg s.cells, .int .i64 t.form]) rfl rfl rfl (fun _ => hfind) rfl rfl ?_
    conv => whnf
    refine ⟨rfl, ?_⟩
    refine Run.condC rfl (fun h9 => ?_) (fun h9 => ?_) <;> (conv => whnf) <;> refine ⟨rfl, ?_⟩
    · refine Run.condC rfl (fun h => ?_) (fun h => ?_) <;> (conv => whnf) <;> refine ⟨rfl, ?_⟩
      · exfalso; simp [placeI] at h
      · refine Run.retP ?_
        conv => whnf
        refine ⟨rfl, .int ?_⟩
        simp only [nmErr, hk, h9, cond_true]
    · refine Run.condC rfl (fun h => ?_) (fun h => ?_) <;> (conv => whnf) <;> refine ⟨rfl, ?_⟩
      · refine Run.retP ?_
        conv => whnf
        refine ⟨rfl, .int ?_⟩
        simp only [nmErr, hk, h9, cond_false]
      · exfalso; simp [placeI] at h
  | some k =>
    have hlt := sFind_lt hk
    rw [hk] at hfind
    have hfind : AC P R13_Find.id [.agg s.cells, .int .i64 t.form] [] (.int .i64 (k : Int)) [] := hfind
    refine Run.callC (av := [.agg s.cells, .int .i64 t.form]) rfl rfl rfl (fun _ => hfind) rfl rfl ?_
    conv => whnf
    refine ⟨rfl, ?_⟩
    refine Run.condC rfl (fun h9 => ?_) (fun h9 => ?_) <;> (conv => whnf) <;> refine ⟨rfl, ?_⟩
    · refine Run.condC rfl (fun h => ?_) (fun h => ?_) <;> (conv => whnf) <;> refine ⟨rfl, ?_⟩
      · refine Run.retP ?_
        conv => whnf
        refine ⟨rfl, .int ?_⟩
        simp only [nmErr, hk, h9, cond_true]
      · exfalso; simp at h
    refine Run.condC rfl (fun h => ?_) (fun h => ?_) <;> (conv => whnf) <;> refine ⟨rfl, ?_⟩
    · exfalso; simp at h; omega
    refine Run.iaC rfl rfl rfl rfl rfl (fun _ => ⟨by omega, by omega⟩) ?_
    conv => whnf
    refine ⟨rfl, ?_⟩
    refine Run.callC (av := [.int .i64 t.op]) rfl rfl rfl (fun _ => r16_field _) rfl rfl ?_
    conv => whnf
    refine ⟨rfl, ?_⟩
    refine Run.callC (av := [.agg (s.forms.getD k default).cells, .int .i64 t.field]) rfl rfl rfl (fun _ => r13_at _ _ (hf k)) rfl rfl ?_
    conv => whnf
    refine ⟨rfl, ?_⟩
    refine Run.condC rfl (fun h1 => ?_) (fun h1 => ?_) <;> (conv => whnf) <;> refine ⟨rfl, ?_⟩
    · refine Run.retP ?_
      conv => whnf
      refine ⟨rfl, .int ?_⟩
      simp only [nmErr, hk, h9, show nm1 (s.forms.getD k default).fields t = true from h1, cond_true, cond_false]
    refine Run.callC (av := [.agg (s.forms.getD k default).cells, .int .i64 t.f.id]) rfl rfl rfl (fun _ => r13_at _ _ (hf k)) rfl rfl ?_
    conv => whnf
    refine ⟨rfl, ?_⟩
    refine Run.callC (av := [.agg (s.forms.getD k default).cells, .int .i64 t.to]) rfl rfl rfl (fun _ => r13_at _ _ (hf k)) rfl rfl ?_
    conv => whnf
    refine ⟨rfl, ?_⟩
    refine Run.condC rfl (fun h2 => ?_) (fun h2 => ?_) <;> (conv => whnf) <;> refine ⟨rfl, ?_⟩
    · refine Run.retP ?_
      conv => whnf
      refine ⟨rfl, .int ?_⟩
      simp only [nmErr, hk, h9, show nm1 (s.forms.getD k default).fields t = false from h1, show nm2 (s.forms.getD k default).fields t = true from h2, cond_true, cond_false]
    refine Run.condC rfl (fun h3 => ?_) (fun h3 => ?_) <;> (conv => whnf) <;> refine ⟨rfl, ?_⟩
    · refine Run.retP ?_
      conv => whnf
      refine ⟨rfl, .int ?_⟩
      simp only [nmErr, hk, h9, show nm1 (s.forms.getD k default).fields t = false from h1, show nm2 (s.forms.getD k default).fields t = false from h2, show nm3 (s.forms.getD k default).fields t = true from h3, cond_true, cond_false]
    refine Run.retP ?_
    conv => whnf
    refine ⟨rfl, .int ?_⟩
    simp only [nmErr, hk, h9, show nm1 (s.forms.getD k default).fields t = false from h1, show nm2 (s.forms.getD k default).fields t = false from h2, show nm3 (s.forms.getD k default).fields t = false from h3, cond_false]

def sclG (f : Fld) (a b : Int) : Fld := ⟨f.id, 1, if sclI a b f.hi < sclI a b f.lo then sclI a b f.hi else sclI a b f.lo, if sclI a b f.hi > sclI a b f.lo then sclI a b f.hi else sclI a b f.lo, 0⟩
def tyL (f : Fld) (t : Stp) : List Fld :=
  bif t.op == 2 then [] else bif t.op == 3 then [t.f] else bif t.op == 4 then [sclG f t.a t.b] else bif t.op == 5 then [⟨f.id, 3, 0, 0, t.a⟩] else
  bif t.op == 6 then [⟨f.id, 1, 0, IntKind.i64.wrap (f.hi.tdiv t.a), 0⟩, ⟨t.to, 1, 0, if IntKind.i64.wrap (t.a - 1) < f.hi then IntKind.i64.wrap (t.a - 1) else f.hi, 0⟩] else bif t.op == 8 then [{ f with id := t.to }] else [f]
def tyO (f : Fld) (t : Stp) : Bool :=
  bif t.op == 2 then fHas f t.vn t.vs else bif t.op == 3 then fWider f t.f else bif t.op == 4 then (f.kind == 1 && fRight (sclG f t.a t.b)) else bif t.op == 5 then (f.kind == 3 && (f.most == (t.t.length : Int))) else
  bif t.op == 6 then (f.kind == 1 && (f.lo == 0)) else true

theorem r16_types (f : Fld) (t : Stp) (h6 : t.op = 6 → t.a ≠ 0) : AC P R16_Types.id [.agg f.cells, .agg t.cells] [] (.tuple [encFs (tyL f t), .bool (tyO f t)]) [] := by
  refine R16_Types.intro rfl (Goes.run ?_)
  conv => whnf
  refine ⟨rfl, ?_⟩
  refine Run.condC rfl (fun h2 => ?_) (fun h2 => ?_) <;> (conv => whnf) <;> refine ⟨rfl, ?_⟩
  · refine Run.callC (av := [.agg f.cells, .agg [.int .i64 t.vn, .str t.vs]]) rfl rfl rfl (fun _ => r12_has _ _ _) rfl rfl ?_
    conv => whnf
    refine ⟨rfl, ?_⟩
    refine Run.retP ?_
    conv => whnf
    rw [show tyL f t = [] by simp only [tyL, h2, cond_true], show tyO f t = fHas f t.vn t.vs by simp only [tyO, h2, cond_true]]
    exact ⟨rfl, Le.tuple (.cons (Le.zsl (by omega)) (.cons (.refl _) .nil))⟩
  refine Run.condC rfl (fun h3 => ?_) (fun h3 => ?_) <;> (conv => whnf) <;> refine ⟨rfl, ?_⟩
  · refine Run.callD (av := [.agg f.cells, .agg t.f.cells]) rfl rfl rfl (fun _ => r12_wider _ _) rfl rfl rfl ?_
    conv => whnf
    refine ⟨rfl, ?_⟩
    refine Run.retP ?_
    conv => whnf
    rw [show tyL f t = [t.f] by simp only [tyL, h2, h3, cond_true, cond_false], show tyO f t = fWider f t.f by simp only [tyO, h2, h3, cond_true, cond_false]]
    exact ⟨rfl, Le.tuple (.cons (IsL.le (enc := Fld.cells) (IsL.one t.f)) (.cons (.refl _) .nil))⟩
  refine Run.condC rfl (fun h4 => ?_) (fun h4 => ?_) <;> (conv => whnf) <;> refine ⟨rfl, ?_⟩
  · refine Run.callD (av := [.agg (sclG f t.a t.b).cells]) rfl rfl rfl (fun _ => r12_right _) rfl rfl rfl ?_
    conv => whnf
    refine ⟨rfl, ?_⟩
    refine Run.retP ?_
    conv => whnf
    rw [show tyL f t = [sclG f t.a t.b] by simp only [tyL, h2, h3, h4, cond_true, cond_false], show tyO f t = (f.kind == 1 && fRight (sclG f t.a t.b)) by simp only [tyO, h2, h3, h4, cond_true, cond_false]]
    exact ⟨rfl, Le.tuple (.cons (IsL.le (enc := Fld.cells) (IsL.one (sclG f t.a t.b))) (.cons (.refl _) .nil))⟩
  refine Run.condC rfl (fun h5 => ?_) (fun h5 => ?_) <;> (conv => whnf) <;> refine ⟨rfl, ?_⟩
  · refine Run.retP ?_
    conv => whnf
    rw [show tyL f t = [⟨f.id, 3, 0, 0, t.a⟩] by simp only [tyL, h2, h3, h4, h5, cond_true, cond_false], show tyO f t = (f.kind == 3 && (f.most == (t.t.length : Int))) by simp only [tyO, h2, h3, h4, h5, cond_true, cond_false]]
    exact ⟨rfl, Le.tuple (.cons (IsL.le (enc := Fld.cells) (IsL.one ⟨f.id, 3, 0, 0, t.a⟩)) (.cons (.refl _) .nil))⟩
  refine Run.condC rfl (fun h6' => ?_) (fun h6' => ?_) <;> (conv => whnf) <;> refine ⟨rfl, ?_⟩
  · have h0 := h6 (by simpa using h6')
    refine Run.doesDN (v := .int .i64 (IntKind.i64.wrap (f.hi.tdiv t.a))) [] rfl (fun env' T' he _ => Does.quo (by rw [oval_congr fun n hn => he n (mem_lapp.2 (.inl hn))]; rfl) (by rw [oval_congr fun n hn => he n (mem_lapp.2 (.inr hn))]; rfl) h0) rfl ?_
    conv => whnf
    refine ⟨rfl, ?_⟩
    refine Run.retP ?_
    conv => whnf
    rw [show tyL f t = [⟨f.id, 1, 0, IntKind.i64.wrap (f.hi.tdiv t.a), 0⟩, ⟨t.to, 1, 0, if IntKind.i64.wrap (t.a - 1) < f.hi then IntKind.i64.wrap (t.a - 1) else f.hi, 0⟩] by simp only [tyL, h2, h3, h4, h5, h6', cond_true, cond_false], show tyO f t = (f.kind == 1 && (f.lo == 0)) by simp only [tyO, h2, h3, h4, h5, h6', cond_true, cond_false]]
    exact ⟨rfl, Le.tuple (.cons (IsL.le (enc := Fld.cells) (IsL.two ⟨f.id, 1, 0, IntKind.i64.wrap (f.hi.tdiv t.a), 0⟩ ⟨t.to, 1, 0, if IntKind.i64.wrap (t.a - 1) < f.hi then IntKind.i64.wrap (t.a - 1) else f.hi, 0⟩)) (.cons (.refl _) .nil))⟩
  refine Run.condC rfl (fun h8 => ?_) (fun h8 => ?_) <;> (conv => whnf) <;> refine ⟨rfl, ?_⟩
  · refine Run.retP ?_
    conv => whnf
    rw [show tyL f t = [{ f with id := t.to }] by simp only [tyL, h2, h3, h4, h5, h6', h8, cond_true, cond_false], show tyO f t = true by simp only [tyO, h2, h3, h4, h5, h6', h8, cond_true, cond_false]]
    exact ⟨rfl, Le.tuple (.cons (IsL.le (enc := Fld.cells) (IsL.one { f with id := t.to })) (.cons (.tt rfl) .nil))⟩
  refine Run.retP ?_
  conv => whnf
  rw [show tyL f t = [f] by simp only [tyL, h2, h3, h4, h5, h6', h8, cond_true, cond_false], show tyO f t = true by simp only [tyO, h2, h3, h4, h5, h6', h8, cond_true, cond_false]]
  exact ⟨rfl, Le.tuple (.cons (IsL.le (enc := Fld.cells) (IsL.one f)) (.cons (.tt rfl) .nil))⟩
end Go.Proofs.Ytbpcjahjbkiofaa.Sp

set_option linter.unusedVariables false
set_option linter.unusedSimpArgs false
namespace Go.Proofs.Ytbpcjahjbkiofaa.Sp
open Go Go.Proofs.Ytbpcjahjbkiofaa.AV Go.Proofs.Ytbpcjahjbkiofaa.Fn
set_option maxRecDepth 10000

/-- One round: what was done and put out before it, the form that comes; the next form. -/
def fmIns (f : Frm) (d : Bool) (x : Frm) : Bool := !d && decide (x.id ≥ f.id)
def fmD (f : Frm) (d : Bool) (x : Frm) : Bool := d || fmIns f d x
def fmO (f : Frm) (d : Bool) (o : List Frm) (x : Frm) : List Frm := (bif fmIns f d x then o ++ [f] else o) ++ (bif x.id != f.id then [x] else [])
def fmStep (f : Frm) (p : Bool × List Frm) (x : Frm) : Bool × List Frm := (fmD f p.1 x, fmO f p.1 p.2 x)
def fmAt (l : List Frm) (f : Frm) (i : Nat) : Bool × List Frm := (l.take i).foldl (fmStep f) ((f.fields.length : Int) == 0, [])
def rForms (l : List Frm) (f : Frm) : List Frm := (fmAt l f l.length).2 ++ (bif (fmAt l f l.length).1 then [] else [f])

theorem fmAt_succ {l : List Frm} {f : Frm} {i : Nat} (hi : i < l.length) : fmAt l f (i + 1) = fmStep f (fmAt l f i) (l.getD i default) := by
  unfold fmAt
  rw [List.take_add_one, List.foldl_append]
  simp [hi, List.getD_eq_getElem?_getD]

theorem fmO_len {f : Frm} {d : Bool} {o : List Frm} {x : Frm} : (fmO f d o x).length ≤ o.length + 2 := by
  unfold fmO
  cases fmIns f d x <;> cases (x.id != f.id) <;> simp

theorem fmAt_len {l : List Frm} {f : Frm} : ∀ i, i ≤ l.length → (fmAt l f i).2.length ≤ 2 * i
  | 0, _ => by simp [fmAt]
  | i + 1, h => by
    rw [fmAt_succ (by omega)]
    have := fmAt_len (l := l) (f := f) i (by omega)
    have h2 := fmO_len (f := f) (d := (fmAt l f i).1) (o := (fmAt l f i).2) (x := l.getD i default)
    show (fmO f _ _ _).length ≤ _
    omega

/-- A row to which one form has been appended. -/
theorem app_frm {o : List Frm} {x : Frm} {k : Nat} (hk : k < o.length + 1) : fapp o.length (frmF o) (nthL [x.cells]) k = frmF (o ++ [x]) k := by
  unfold frmF
  by_cases h : k < o.length
  · rw [fapp_lt h]
    congr 1
    rw [List.getD_eq_getElem?_getD, List.getD_eq_getElem?_getD, List.getElem?_append_left h]
  · obtain rfl : k = o.length := by omega
    rw [fapp_ge (Nat.le_refl _), Nat.sub_self]
    show x.cells = _
    congr 1
    rw [List.getD_eq_getElem?_getD, List.getElem?_append_right (Nat.le_refl _)]
    simp

theorem r16_forms (s : Sch) (f : Frm) (hs : Small s) (hf : f.fields.length ≤ 1000) : AC P R16_forms.id [.agg s.cells, .agg f.cells] [] (.agg (Sch.cells ⟨s.version, rForms s.forms f⟩)) [] := by
  obtain ⟨hb, hfs⟩ := hs
  refine R16_forms.intro rfl (Goes.run ?_)
  conv => whnf
  refine ⟨rfl, ?_⟩
  refine Run.loopN (ι := Nat) (fun i => i ≤ s.forms.length) (fun i => [(2, .ptr 0 0 0 0), (3, .ptr 1 0 0 0), (4, .ptr 2 0 0 0), (5, .ptr 3 0 0 0), (6, .bool (fmAt s.forms f i).1), (7, .int .i64 (i : Int))])
    (fun i => [.box s.cells, .box f.cells, .box [.int .i64 0, .zsl], .box [.int .i64 s.version, .row 2 4 (fmAt s.forms f i).2.length 0 (fmAt s.forms f i).2.length], .row 2 (fmAt s.forms f i).2.length (fmAt s.forms f i).2.length (frmF (fmAt s.forms f i).2)])
    (fun i => s.forms.length - i) 0 (Nat.zero_le _) ?_ fun i hi => ?_
  · exact Wk.trans (Wk.virt (b := 3) (nid := 4) (sz := 2) 1 (frmF []) rfl rfl rfl rfl rfl) (Wk.ofEnv (Wk.cons (.refl _) (Wk.cons (.refl _) (Wk.cons (.refl _) (Wk.cons (.refl _) (Wk.cons (.refl _) (Wk.cons (.refl _) Wk.done)))))))
  have hstep := fmAt_succ (l := s.forms) (f := f) (i := i)
  have hlen := fmAt_len (l := s.forms) (f := f) i hi
  generalize hd : (fmAt s.forms f i).1 = d at hstep hlen ⊢
  generalize ho : (fmAt s.forms f i).2 = o at hstep hlen ⊢
  conv => whnf
  refine ⟨rfl, ?_⟩
  refine Run.condC rfl (fun h => ?_) (fun h => ?_) <;> (conv => whnf) <;> refine ⟨rfl, ?_⟩
  · have hlt : i < s.forms.length := by simpa using h
    have hstep2 : fmAt s.forms f (i + 1) = (fmD f d (s.forms.getD i default), fmO f d o (s.forms.getD i default)) := by rw [hstep hlt, fmStep, hd, ho]
    have hwi : IntKind.i64.wrap ((i : Int) + 1) = ((i + 1 : Nat) : Int) := by rw [wrap_of (by omega) (by omega)]; simp
    generalize hx : s.forms.getD i default = x at hstep hstep2
    have hx' : s.forms.getD (Int.toNat (i : Int)) default = x := hx
    have fin : ∀ (e : Env) (m : Nat) (F : Nat → List AV) (o' : List Frm) (d' : Bool), o' = fmO f d o x → d' = fmD f d x → m = o'.length → (∀ k, k < m → F k = frmF o' k) →
        (∀ q ∈ [(2, AV.ptr 0 0 0 0), (3, .ptr 1 0 0 0), (4, .ptr 2 0 0 0), (5, .ptr 3 0 0 0), (6, .bool d'), (7, .int .i64 ((i + 1 : Nat) : Int))], Le (eget e q.1) q.2) →
        Wk e [.box s.cells, .box f.cells, .box [.int .i64 0, .zsl], .box [.int .i64 s.version, .row 2 4 m 0 m], .row 2 m m F]
          [(2, .ptr 0 0 0 0), (3, .ptr 1 0 0 0), (4, .ptr 2 0 0 0), (5, .ptr 3 0 0 0), (6, .bool (fmAt s.forms f (i + 1)).1), (7, .int .i64 ((i + 1 : Nat) : Int))]
          [.box s.cells, .box f.cells, .box [.int .i64 0, .zsl], .box [.int .i64 s.version, .row 2 4 (fmAt s.forms f (i + 1)).2.length 0 (fmAt s.forms f (i + 1)).2.length], .row 2 (fmAt s.forms f (i + 1)).2.length (fmAt s.forms f (i + 1)).2.length (frmF (fmAt s.forms f (i + 1)).2)] := by
      intro e m F o' d' h1 h2 h3 h4 h5
      rw [hstep2]
      simp only
      rw [← h1, ← h2]
      subst h3
      refine Wk.trans (Wk.ofEnv h5) (Wk.tab fun k => ?_)
      match k with
      | 0 => exact LeOb.refl _
      | 1 => exact LeOb.refl _
      | 2 => exact LeOb.refl _
      | 3 => exact LeOb.refl _
      | 4 => exact ⟨rfl, rfl, rfl, fun k hk => leL_eq (h4 k hk)⟩
      | k + 5 => exact .inl rfl
    refine Run.iaD rfl rfl rfl rfl rfl (fun _ => ⟨by omega, by omega⟩) rfl ?_
    conv => whnf
    rw [hx']
    refine ⟨rfl, ?_⟩
    refine Run.condC rfl (fun h1 => ?_) (fun h1 => ?_) <;> (conv => whnf) <;> refine ⟨rfl, ?_⟩
    · have hins : fmIns f d x = true := h1
      have hD : fmD f d x = true := by simp only [fmD, hins, Bool.or_true]
      refine Run.doesT (id := 4) rfl (Does.appR rfl rfl rfl (by simp only [maxLen, List.length_cons, List.length_nil]; omega) (by simp only [List.length_cons, List.length_nil]; omega)) ?_
      conv => whnf
      refine ⟨rfl, ?_⟩
      refine Run.iaD rfl rfl rfl rfl rfl (fun _ => ⟨by omega, by omega⟩) rfl ?_
      conv => whnf
      rw [hx']
      refine ⟨rfl, ?_⟩
      refine Run.condC rfl (fun h2 => ?_) (fun h2 => ?_) <;> (conv => whnf) <;> refine ⟨rfl, ?_⟩
      · refine Run.iaD rfl rfl rfl rfl rfl (fun _ => ⟨by omega, by omega⟩) rfl ?_
        conv => whnf
        rw [hx']
        refine ⟨rfl, ?_⟩
        refine Run.appRD rfl rfl rfl rfl (by simp only [maxLen, List.length_cons, List.length_nil]; omega) (by simp only [List.length_cons, List.length_nil]; omega) rfl ?_
        conv => whnf
        refine ⟨rfl, ?_⟩
        have hO : fmO f d o x = o ++ [f] ++ [x] := by simp only [fmO, hins, h2, cond_true]
        refine Run.endR ⟨i + 1, by omega, by omega, fin _ (o.length + 1 + 1) _ (o ++ [f] ++ [x]) true hO.symm hD.symm (by simp) (fun k hk => ?_) (Wk.cons (.refl _) (Wk.cons (.refl _) (Wk.cons (.refl _) (Wk.cons (.refl _) (Wk.cons (.tt rfl) (Wk.cons (.int hwi) Wk.done))))))⟩
        have hle : (o ++ [f]).length = o.length + 1 := by simp
        refine Eq.trans ?_ (app_frm (o := o ++ [f]) (x := x) (by rw [hle]; exact hk))
        rw [hle]
        show fapp (o.length + 1) (fapp o.length (frmF o) (nthL [f.cells])) (nthL [x.cells]) k = _
        by_cases hk1 : k < o.length + 1
        · rw [fapp_lt hk1, fapp_lt hk1, app_frm hk1]
        · rw [fapp_ge (by omega), fapp_ge (by omega)]
      · have hO : fmO f d o x = o ++ [f] := by simp only [fmO, hins, h2, cond_true, cond_false, List.append_nil]
        refine Run.endR ⟨i + 1, by omega, by omega, fin _ (o.length + 1) _ (o ++ [f]) true hO.symm hD.symm (by simp) (fun k hk => app_frm hk) (Wk.cons (.refl _) (Wk.cons (.refl _) (Wk.cons (.refl _) (Wk.cons (.refl _) (Wk.cons (.tt rfl) (Wk.cons (.int hwi) Wk.done))))))⟩
    · have hins : fmIns f d x = false := h1
      have hD : fmD f d x = d := by simp only [fmD, hins, Bool.or_false]
      refine Run.iaD rfl rfl rfl rfl rfl (fun _ => ⟨by omega, by omega⟩) rfl ?_
      conv => whnf
      rw [hx']
      refine ⟨rfl, ?_⟩
      refine Run.condC rfl (fun h2 => ?_) (fun h2 => ?_) <;> (conv => whnf) <;> refine ⟨rfl, ?_⟩
      · refine Run.iaD rfl rfl rfl rfl rfl (fun _ => ⟨by omega, by omega⟩) rfl ?_
        conv => whnf
        rw [hx']
        refine ⟨rfl, ?_⟩
        refine Run.appRD rfl rfl rfl rfl (by simp only [maxLen, List.length_cons, List.length_nil]; omega) (by simp only [List.length_cons, List.length_nil]; omega) rfl ?_
        conv => whnf
        refine ⟨rfl, ?_⟩
        have hO : fmO f d o x = o ++ [x] := by simp only [fmO, hins, h2, cond_true, cond_false]
        refine Run.endR ⟨i + 1, by omega, by omega, fin _ (o.length + 1) _ (o ++ [x]) d hO.symm hD.symm (by simp) (fun k hk => app_frm hk) (Wk.cons (.refl _) (Wk.cons (.refl _) (Wk.cons (.refl _) (Wk.cons (.refl _) (Wk.cons (.refl _) (Wk.cons (.int hwi) Wk.done))))))⟩
      · have hO : fmO f d o x = o := by simp only [fmO, hins, h2, cond_false, List.append_nil]
        refine Run.endR ⟨i + 1, by omega, by omega, fin _ o.length _ o d hO.symm hD.symm rfl (fun k hk => rfl) (Wk.cons (.refl _) (Wk.cons (.refl _) (Wk.cons (.refl _) (Wk.cons (.refl _) (Wk.cons (.refl _) (Wk.cons (.int hwi) Wk.done))))))⟩
  · have hge : i = s.forms.length := by simp at h; omega
    subst hge
    refine Run.exitR rfl rfl ?_
    conv => whnf
    refine ⟨rfl, ?_⟩
    refine Run.condC rfl (fun h1 => ?_) (fun h1 => ?_) <;> (conv => whnf) <;> refine ⟨rfl, ?_⟩
    · simp only [Bool.not_eq_true'] at h1
      refine Run.doesT (id := 4) rfl (Does.appR rfl rfl rfl (by simp only [maxLen, List.length_cons, List.length_nil]; omega) (by simp only [List.length_cons, List.length_nil]; omega)) ?_
      conv => whnf
      refine ⟨rfl, ?_⟩
      refine Run.retS ?_
      conv => whnf
      have e : rForms s.forms f = o ++ [f] := by simp only [rForms, hd, ho, h1, cond_false]
      rw [e]
      exact FinS.aggF (j := 4) rfl rfl rfl rfl (Le.agg (.cons (.refl _) (.cons (Le.list (by simp) fun k hk => leL_eq (by rw [Nat.zero_add]; exact app_frm hk)) .nil)))
    · simp only [Bool.not_eq_false'] at h1
      refine Run.retS ?_
      conv => whnf
      have e : rForms s.forms f = o := by simp only [rForms, hd, ho, h1, cond_true, List.append_nil]
      rw [e]
      exact FinS.aggF (j := 4) rfl rfl rfl rfl (Le.agg (.cons (.refl _) (.cons (Le.list rfl fun k hk => leL_eq (by rw [Nat.zero_add]; rfl)) .nil)))
end Go.Proofs.Ytbpcjahjbkiofaa.Sp

set_option linter.unusedVariables false
set_option linter.unusedSimpArgs false
namespace Go.Proofs.Ytbpcjahjbkiofaa.Sp
open Go Go.Proofs.Ytbpcjahjbkiofaa.AV Go.Proofs.Ytbpcjahjbkiofaa.Fn
set_option maxRecDepth 10000

def rK (l : List Frm) (t : Stp) : Nat := (sFind l t.form).getD 0
def rFs (l : List Frm) (t : Stp) : List Fld := (l.getD (rK l t) default).fields
def rA (l : List Frm) (t : Stp) : Nat := (fAt (rFs l t) t.field).getD 0
def rF (l : List Frm) (t : Stp) : Fld := (rFs l t).getD (rA l t) default
/-- What comes for a field, put in one by one. -/
def putI (x : List Fld) (p : Nat) (ts : List Fld) : Nat → List Fld
  | 0 => x
  | i + 1 => fput (putI x p ts i) (p + i) (ts.getD i default)
def rP (l : List Frm) (t : Stp) : Nat := bif t.op == 7 then t.place.toNat else rA l t
def rT (l : List Frm) (t : Stp) (i : Nat) : List Fld := putI (fcut (rFs l t) (rA l t)) (rP l t) (tyL (rF l t) t) i
def rB (l : List Frm) (t : Stp) : List Fld :=
  bif t.op == 9 then t.fields else bif t.op == 1 then fput (rFs l t) t.place.toNat t.f else bif t.op == 10 then [] else rT l t (tyL (rF l t) t).length
def rN (l : List Frm) (t : Stp) : List Frm := rForms l ⟨t.form, rB l t⟩
def badR (s : Sch) (t : Stp) : Bool := (!sRight s || !stRight t) || decide (t.op > 10)
def is3 (t : Stp) : Bool := t.op == 9 || t.op == 1 || t.op == 10
def rOn (s : Sch) (t : Stp) : Sch × Int :=
  bif badR s t then (⟨0, []⟩, 2) else bif nmErr s.forms t != 0 then (⟨0, []⟩, nmErr s.forms t) else
  bif !is3 t && !tyO (rF s.forms t) t then (⟨0, []⟩, 17) else bif !is3 t && (rB s.forms t).length == 0 then (⟨0, []⟩, 7) else
  bif !sRight ⟨s.version, rN s.forms t⟩ then (⟨0, []⟩, 7) else (⟨s.version, rN s.forms t⟩, 0)

theorem putI_len {x : List Fld} {p : Nat} {ts : List Fld} (h : p ≤ x.length) : ∀ i, (putI x p ts i).length = x.length + i
  | 0 => rfl
  | i + 1 => by show (fput _ _ _).length = _; rw [fput_len (by rw [putI_len h i]; omega), putI_len h i]; omega
theorem tyL_len (f : Fld) (t : Stp) : (tyL f t).length ≤ 2 := by
  unfold tyL
  cases (t.op == 2) <;> cases (t.op == 3) <;> cases (t.op == 4) <;> cases (t.op == 5) <;> cases (t.op == 6) <;> cases (t.op == 8) <;> simp

theorem fm_mem {l : List Frm} {f : Frm} : ∀ i, i ≤ l.length → ∀ x ∈ (fmAt l f i).2, x ∈ l ∨ x = f
  | 0, _, x, h => by simp [fmAt] at h
  | i + 1, hi, x, h => by
    rw [fmAt_succ (by omega)] at h
    have h : x ∈ fmO f (fmAt l f i).1 (fmAt l f i).2 (l.getD i default) := h
    have ih := fm_mem (l := l) (f := f) i (by omega)
    have hg : l.getD i default ∈ l := by
      rw [show l.getD i default = l[i]'(by omega) by simp [List.getD_eq_getElem?_getD, show i < l.length by omega]]
      exact List.getElem_mem _
    unfold fmO at h
    generalize fmIns f (fmAt l f i).1 (l.getD i default) = b1 at h
    generalize ((l.getD i default).id != f.id) = b2 at h
    rw [List.mem_append] at h
    rcases h with h | h
    · cases b1 with
      | true =>
        simp only [cond_true, List.mem_append, List.mem_singleton] at h
        rcases h with h | h
        · exact ih x h
        · exact .inr h
      | false => exact ih x h
    · cases b2 with
      | true =>
        simp only [cond_true, List.mem_singleton] at h
        subst h
        exact .inl hg
      | false => simp at h
theorem rForms_mem {l : List Frm} {f x : Frm} (h : x ∈ rForms l f) : x ∈ l ∨ x = f := by
  unfold rForms at h
  rw [List.mem_append] at h
  rcases h with h | h
  · exact fm_mem _ (Nat.le_refl _) x h
  · generalize (fmAt l f l.length).1 = b at h
    cases b with
    | true => simp at h
    | false => simp at h; exact .inr h
theorem rForms_small {s : Sch} {f : Frm} (h : sRight s = true) (hf : f.fields.length ≤ 1000) : Small ⟨s.version, rForms s.forms f⟩ := by
  obtain ⟨h1, h2⟩ := sRight_len h
  refine ⟨?_, all_small fun x hx => ?_⟩
  · have := fmAt_len (l := s.forms) (f := f) s.forms.length (Nat.le_refl _)
    show (rForms s.forms f).length ≤ 1000
    unfold rForms
    rw [List.length_append]
    generalize (fmAt s.forms f s.forms.length).1 = b
    cases b <;> simp <;> omega
  · rcases rForms_mem hx with h | rfl
    · obtain ⟨i, hi, rfl⟩ := List.mem_iff_getElem.1 h
      have := h2 i
      rw [show s.forms.getD i default = s.forms[i] by simp [List.getD_eq_getElem?_getD, hi]] at this
      omega
    · exact hf

theorem fAt_lt' {l : List Fld} {id : Int} {i : Nat} (h : fAt l id = some i) : i < l.length := fAt_lt h
/-- What the names' being in order tells. -/
theorem nm_facts {l : List Frm} {t : Stp} (h : nmErr l t = 0) (h9 : (t.op == 9) = false) : ∃ k, sFind l t.form = some k ∧ rK l t = k ∧ k < l.length ∧ nm1 (rFs l t) t = false ∧ nm2 (rFs l t) t = false ∧ nm3 (rFs l t) t = false := by
  unfold nmErr at h
  cases hk : sFind l t.form with
  | none => rw [hk] at h; simp [h9] at h
  | some k =>
    rw [hk] at h
    have hr : rK l t = k := by simp [rK, hk]
    have hf : rFs l t = (l.getD k default).fields := by simp [rFs, hr]
    simp only [h9, cond_false] at h
    refine ⟨k, rfl, hr, sFind_lt hk, ?_⟩
    rw [hf]
    cases h1 : nm1 (l.getD k default).fields t <;> cases h2 : nm2 (l.getD k default).fields t <;> cases h3 : nm3 (l.getD k default).fields t <;> simp only [h1, h2, h3, cond_true, cond_false] at h <;> first | exact ⟨rfl, rfl, rfl⟩ | omega
theorem nm_at {l : List Frm} {t : Stp} (h : nm1 (rFs l t) t = false) (hi : is3 t = false) : fAt (rFs l t) t.field = some (rA l t) ∧ rA l t < (rFs l t).length := by
  simp only [is3, Bool.or_eq_false_iff] at hi
  obtain ⟨⟨h9, h1⟩, h10⟩ := hi
  simp only [nm1, bne, h9, h1, h10, Bool.not_false, Bool.and_true, Bool.true_and, decide_eq_false_iff_not] at h
  cases hf : fAt (rFs l t) t.field with
  | none => rw [hf] at h; simp [placeI] at h
  | some a =>
    have : rA l t = a := by simp [rA, hf]
    rw [this]
    exact ⟨rfl, fAt_lt hf⟩

theorem rB_len {l : List Frm} {t : Stp} (h : (rFs l t).length ≤ 8) (hf : t.fields.length ≤ 100) : (rB l t).length ≤ 100 := by
  have hput : ∀ (x : List Fld) (k : Nat) (f : Fld), (fput x k f).length ≤ x.length + 1 := fun x k f => by simp [fput]; omega
  have hcut : ∀ (x : List Fld) (k : Nat), (fcut x k).length ≤ x.length := fun x k => by simp [fcut]; omega
  have hputI : ∀ (x : List Fld) (p : Nat) (ts : List Fld) (i : Nat), (putI x p ts i).length ≤ x.length + i := fun x p ts i => by
    induction i with
    | zero => exact Nat.le_refl _
    | succ i ih => have := hput (putI x p ts i) (p + i) (ts.getD i default); show (fput _ _ _).length ≤ _; omega
  unfold rB
  cases (t.op == 9) with
  | true => exact hf
  | false =>
    cases (t.op == 1) with
    | true => have := hput (rFs l t) t.place.toNat t.f; simp only [cond_true, cond_false]; omega
    | false =>
      cases (t.op == 10) with
      | true => simp
      | false =>
        simp only [cond_false]
        have h1 := hputI (fcut (rFs l t) (rA l t)) (rP l t) (tyL (rF l t) t) (tyL (rF l t) t).length
        have h2 := hcut (rFs l t) (rA l t)
        have h3 := tyL_len (rF l t) t
        show (putI _ _ _ _).length ≤ _
        omega

set_option maxHeartbeats 4000000 in
theorem r16_on (s : Sch) (t : Stp) (hs : Small s) (hl : t.t.length ≤ 1000000) (hfl : t.fields.length ≤ 100) :
    AC P R16_On.id [.agg s.cells, .agg t.cells] [] (.tuple [.agg (rOn s t).1.cells, .int .i64 (rOn s t).2]) [] := by
  refine R16_On.intro rfl (Goes.run ?_)
  conv => whnf
  refine ⟨rfl, ?_⟩
  refine Run.callC (av := [.agg s.cells]) rfl rfl rfl (fun _ => r13_right s hs) rfl rfl ?_
  conv => whnf
  refine ⟨rfl, ?_⟩
  refine Run.callC (av := [.agg t.cells]) rfl rfl rfl (fun _ => r15_right t hl (by omega)) rfl rfl ?_
  conv => whnf
  refine ⟨rfl, ?_⟩
  refine Run.condC rfl (fun hb => ?_) (fun hb => ?_) <;> (conv => whnf) <;> refine ⟨rfl, ?_⟩
  · refine Run.retZ ?_
    conv => whnf
    have e : rOn s t = (⟨0, []⟩, 2) := by simp only [rOn, show badR s t = true from hb, cond_true]
    rw [e]
    exact ⟨rfl, Le.tuple (.cons zsch (.cons (.refl _) .nil))⟩
  have hbad : badR s t = false := hb
  have hb2 := hbad
  simp only [badR, Bool.or_eq_false_iff, Bool.not_eq_false', decide_eq_false_iff_not] at hb2
  obtain ⟨⟨hsr, hst⟩, _⟩ := hb2
  obtain ⟨hn8, hf8⟩ := sRight_len hsr
  have hpl := st_place hst
  refine Run.callC (av := [.agg s.cells, .agg t.cells]) rfl rfl rfl (fun _ => r16_names s t hs) rfl rfl ?_
  conv => whnf
  refine ⟨rfl, ?_⟩
  refine Run.condC rfl (fun he => ?_) (fun he => ?_) <;> (conv => whnf) <;> refine ⟨rfl, ?_⟩
  · refine Run.retZ ?_
    conv => whnf
    have e : rOn s t = (⟨0, []⟩, nmErr s.forms t) := by simp only [rOn, hbad, show (nmErr s.forms t != 0) = true from he, cond_true, cond_false]
    rw [e]
    exact ⟨rfl, Le.tuple (.cons zsch (.cons (.refl _) .nil))⟩
  have he0 : (nmErr s.forms t != 0) = false := he
  have hnm : nmErr s.forms t = 0 := by simpa using he0
  have hFl : (rFs s.forms t).length ≤ 8 := hf8 _
  have hBl := rB_len (l := s.forms) (t := t) hFl hfl
  obtain ⟨N, hNd⟩ : ∃ N, rN s.forms t = N := ⟨_, rfl⟩
  have hsm : Small ⟨s.version, N⟩ := hNd ▸ rForms_small hsr (show (rB s.forms t).length ≤ 1000 by omega)
  have hforms : ∀ X, Le X (encFs (rB s.forms t)) → AC P R16_forms.id [.agg s.cells, .agg [.int .i64 t.form, X]] [] (.agg (Sch.cells ⟨s.version, N⟩)) [] := fun X hX =>
    hNd ▸ (r16_forms s ⟨t.form, rB s.forms t⟩ hs (show (rB s.forms t).length ≤ 1000 by omega)).le_args (.cons (.refl _) (.cons (Le.agg (.cons (.refl _) (.cons hX .nil))) .nil))
  have hright := r13_right ⟨s.version, N⟩ hsm
  have hOn : (is3 t = false → tyO (rF s.forms t) t = true ∧ ((rB s.forms t).length == 0) = false) → rOn s t = bif !sRight ⟨s.version, N⟩ then (⟨0, []⟩, 7) else (⟨s.version, N⟩, 0) := fun h => by
    simp only [rOn, hbad, he0, hNd, cond_false]
    cases h3 : is3 t with
    | true => simp only [Bool.not_true, Bool.false_and, cond_false]
    | false =>
      obtain ⟨g1, g2⟩ := h h3
      simp only [g1, g2, Bool.not_true, Bool.not_false, Bool.true_and, cond_false]
  refine Run.condC rfl (fun h9 => ?_) (fun h9 => ?_) <;> (conv => whnf) <;> refine ⟨rfl, ?_⟩
  · have hrb : rB s.forms t = t.fields := by simp only [rB, h9, cond_true]
    have h3 : is3 t = true := by simp only [is3, h9, Bool.true_or]
    refine Run.doesT0 (id := 4) rfl (Does.appZ (nid := 4) rfl rfl rfl (by simp only [maxLen]; omega) (by omega)) ?_
    conv => whnf
    refine Run.frzO 4 rfl ?_
    conv => whnf
    refine ⟨rfl, ?_⟩
    refine Run.callC (av := [.agg s.cells, .agg [.int .i64 t.form, .list 5 t.fields.length fun i => Fld.cells (t.fields.getD (0 + i) default)]]) rfl rfl rfl (fun _ => hforms _ (by rw [hrb]; exact IsL.le (enc := Fld.cells) ((IsL.all Fld.cells t.fields).from0))) rfl rfl ?_
    conv => whnf
    refine ⟨rfl, ?_⟩
    refine Run.callC (av := [.agg (Sch.cells ⟨s.version, N⟩)]) rfl rfl rfl (fun _ => hright) rfl rfl ?_
    conv => whnf
    refine ⟨rfl, ?_⟩
    refine Run.condC rfl (fun hr => ?_) (fun hr => ?_) <;> (conv => whnf) <;> refine ⟨rfl, ?_⟩
    · refine Run.retZ ?_
      conv => whnf
      rw [hOn (fun h => by rw [h3] at h; cases h), show (!sRight ⟨s.version, N⟩) = true from hr, cond_true]
      exact ⟨rfl, Le.tuple (.cons zsch (.cons (.refl _) .nil))⟩
    · refine Run.retZ ?_
      conv => whnf
      rw [hOn (fun h => by rw [h3] at h; cases h), show (!sRight ⟨s.version, N⟩) = false from hr, cond_false]
      exact ⟨rfl, .refl _⟩
  obtain ⟨k, hk, hrk, hklt, hn1, hn2, hn3⟩ := nm_facts hnm h9
  have hfind := r13_find s t.form (by omega)
  rw [hk] at hfind
  have hfind : AC P R13_Find.id [.agg s.cells, .int .i64 t.form] [] (.int .i64 (k : Int)) [] := hfind
  have hfs : (s.forms.getD k default).fields = rFs s.forms t := by simp only [rFs, hrk]
  have hpn : t.place = (t.place.toNat : Int) := by omega
  refine Run.condC rfl (fun h1 => ?_) (fun h1 => ?_) <;> (conv => whnf) <;> refine ⟨rfl, ?_⟩
  · have hrb : rB s.forms t = fput (rFs s.forms t) t.place.toNat t.f := by simp only [rB, h9, h1, cond_true, cond_false]
    have h3 : is3 t = true := by simp only [is3, h1, Bool.true_or, Bool.or_true]
    have hput : AC P R16_put.id [encFs (s.forms.getD k default).fields, .int .i64 t.place, .agg t.f.cells] [] (encFs (fput (rFs s.forms t) t.place.toNat t.f)) [] := by
      have := put_spec (rFs s.forms t) t.place.toNat t.f (by simp only [nm3, h1, Bool.true_and, Bool.or_eq_false_iff, decide_eq_false_iff_not] at hn3; omega) (by omega)
      rw [← hpn, ← hfs] at this
      rw [← hfs]
      exact this
    refine Run.callD (av := [.agg s.cells, .int .i64 t.form]) rfl rfl rfl (fun _ => hfind) rfl rfl rfl ?_
    conv => whnf
    refine ⟨rfl, ?_⟩
    refine Run.iaD rfl rfl rfl rfl rfl (fun _ => ⟨by omega, by omega⟩) rfl ?_
    conv => whnf
    refine ⟨rfl, ?_⟩
    refine Run.callD (av := [encFs (s.forms.getD k default).fields, .int .i64 t.place, .agg t.f.cells]) rfl rfl rfl (fun _ => hput) rfl rfl rfl ?_
    conv => whnf
    refine ⟨rfl, ?_⟩
    refine Run.callC (av := [.agg s.cells, .agg [.int .i64 t.form, encFs (fput (rFs s.forms t) t.place.toNat t.f)]]) rfl rfl rfl (fun _ => hforms _ (hrb ▸ .refl _)) rfl rfl ?_
    conv => whnf
    refine ⟨rfl, ?_⟩
    refine Run.callC (av := [.agg (Sch.cells ⟨s.version, N⟩)]) rfl rfl rfl (fun _ => hright) rfl rfl ?_
    conv => whnf
    refine ⟨rfl, ?_⟩
    refine Run.condC rfl (fun hr => ?_) (fun hr => ?_) <;> (conv => whnf) <;> refine ⟨rfl, ?_⟩
    · refine Run.retZ ?_
      conv => whnf
      rw [hOn (fun h => by rw [h3] at h; cases h), show (!sRight ⟨s.version, N⟩) = true from hr, cond_true]
      exact ⟨rfl, Le.tuple (.cons zsch (.cons (.refl _) .nil))⟩
    · refine Run.retZ ?_
      conv => whnf
      rw [hOn (fun h => by rw [h3] at h; cases h), show (!sRight ⟨s.version, N⟩) = false from hr, cond_false]
      exact ⟨rfl, .refl _⟩
  refine Run.condC rfl (fun h10 => ?_) (fun h10 => ?_) <;> (conv => whnf) <;> refine ⟨rfl, ?_⟩
  · have hrb : rB s.forms t = [] := by simp only [rB, h9, h1, h10, cond_true, cond_false]
    have h3 : is3 t = true := by simp only [is3, h10, Bool.true_or, Bool.or_true]
    refine Run.callC (av := [.agg s.cells, .agg [.int .i64 t.form, .zsl]]) rfl rfl rfl (fun _ => hforms _ (hrb ▸ Le.zsl (by omega))) rfl rfl ?_
    conv => whnf
    refine ⟨rfl, ?_⟩
    refine Run.callC (av := [.agg (Sch.cells ⟨s.version, N⟩)]) rfl rfl rfl (fun _ => hright) rfl rfl ?_
    conv => whnf
    refine ⟨rfl, ?_⟩
    refine Run.condC rfl (fun hr => ?_) (fun hr => ?_) <;> (conv => whnf) <;> refine ⟨rfl, ?_⟩
    · refine Run.retZ ?_
      conv => whnf
      rw [hOn (fun h => by rw [h3] at h; cases h), show (!sRight ⟨s.version, N⟩) = true from hr, cond_true]
      exact ⟨rfl, Le.tuple (.cons zsch (.cons (.refl _) .nil))⟩
    · refine Run.retZ ?_
      conv => whnf
      rw [hOn (fun h => by rw [h3] at h; cases h), show (!sRight ⟨s.version, N⟩) = false from hr, cond_false]
      exact ⟨rfl, .refl _⟩
  have h3 : is3 t = false := by simp only [is3, h9, h1, h10, Bool.or_self]
  obtain ⟨hat, halt⟩ := nm_at hn1 h3
  obtain ⟨a, ha⟩ : ∃ a, rA s.forms t = a := ⟨_, rfl⟩
  obtain ⟨fs, hfd⟩ : ∃ fs, rFs s.forms t = fs := ⟨_, rfl⟩
  obtain ⟨f, hf⟩ : ∃ f, rF s.forms t = f := ⟨_, rfl⟩
  obtain ⟨p, hp⟩ : ∃ p, rP s.forms t = p := ⟨_, rfl⟩
  rw [hfd, ha] at hat halt
  rw [hfd] at hfs hFl hn3
  have hfa : fs.getD a default = f := by rw [← hf, rF, hfd, ha]
  have hty := r16_types f t (st_a6 hst)
  have hrb : rB s.forms t = putI (fcut fs a) p (tyL f t) (tyL f t).length := by simp only [rB, h9, h1, h10, cond_false, rT, hfd, ha, hf, hp]
  have htyl := tyL_len f t
  generalize hts : tyL f t = ts at hrb hty htyl
  have hple : p ≤ (fcut fs a).length := by
    rw [fcut_len halt]
    rw [← hp, rP, ha]
    cases h7 : t.op == 7 with
    | true => rw [cond_true]; simp only [nm3, h7, Bool.true_and, Bool.or_eq_false_iff, decide_eq_false_iff_not] at hn3; omega
    | false => rw [cond_false]; omega
  have hcl := fcut_len halt
  have hr13at := r13_at ⟨0, fs⟩ t.field (show fs.length ≤ 1000 by omega)
  rw [show (Frm.mk 0 fs).fields = fs from rfl, hat] at hr13at
  have hr13at : AC P R13_At.id [.agg (Frm.cells ⟨0, fs⟩), .int .i64 t.field] [] (.int .i64 (a : Int)) [] := hr13at
  have hcut := cut_spec fs a halt (by omega)
  refine Run.callD (av := [.agg s.cells, .int .i64 t.form]) rfl rfl rfl (fun _ => hfind) rfl rfl rfl ?_
  conv => whnf
  refine ⟨rfl, ?_⟩
  refine Run.iaD rfl rfl rfl rfl rfl (fun _ => ⟨by omega, by omega⟩) rfl ?_
  conv => whnf
  rw [show (s.forms.getD (Int.toNat (k : Int)) default).fields = fs from hfs]
  refine ⟨rfl, ?_⟩
  refine Run.callC (av := [.agg (Frm.cells ⟨0, fs⟩), .int .i64 t.field]) rfl rfl rfl (fun _ => hr13at) rfl rfl ?_
  conv => whnf
  refine ⟨rfl, ?_⟩
  refine Run.iaD rfl rfl rfl rfl rfl (fun _ => ⟨by omega, by omega⟩) rfl ?_
  conv => whnf
  rw [show fs.getD (Int.toNat (a : Int)) default = f from hfa]
  refine ⟨rfl, ?_⟩
  refine Run.callD (av := [.agg f.cells, .agg t.cells]) rfl rfl rfl (fun _ => hty) rfl rfl rfl ?_
  conv => whnf
  refine ⟨rfl, ?_⟩
  refine Run.condC rfl (fun ho => ?_) (fun ho => ?_) <;> (conv => whnf) <;> refine ⟨rfl, ?_⟩
  · refine Run.retZ ?_
    conv => whnf
    have e : rOn s t = (⟨0, []⟩, 17) := by simp only [rOn, hbad, he0, h3, hf, show (!tyO f t) = true from ho, cond_true, cond_false, Bool.not_false, Bool.true_and]
    rw [e]
    exact ⟨rfl, Le.tuple (.cons zsch (.cons (.refl _) .nil))⟩
  have hto : tyO f t = true := by simpa using ho
  refine Run.callC (av := [encFs fs, .int .i64 (a : Int)]) rfl rfl rfl (fun _ => hcut) rfl rfl ?_
  conv => whnf
  refine ⟨rfl, ?_⟩
  refine Run.condC rfl (fun h7 => ?_) (fun h7 => ?_) <;> (conv => whnf) <;> refine ⟨rfl, ?_⟩
  · have hpv : t.place = (p : Int) := by rw [← hp, rP, h7, cond_true]; exact hpn
    refine Run.loopN (ι := Nat) (fun i => i ≤ ts.length) (fun i => [(2, .ptr 0 0 0 0), (3, .ptr 1 0 0 0), (4, .ptr 2 0 0 0), (7, .ptr 3 0 0 0), (9, .int .i64 (p : Int)), (10, encFs ts), (12, .int .i64 (i : Int))])
      (fun i => [.box s.cells, .box t.cells, .box [.int .i64 0, .zsl], .box [.int .i64 t.form, encFs (putI (fcut fs a) p ts i)]])
      (fun i => ts.length - i) 0 (Nat.zero_le _) ?_ fun i hi => ?_
    · exact Wk.ofEnv (Wk.cons (.refl _) (Wk.cons (.refl _) (Wk.cons (.refl _) (Wk.cons (.refl _) (Wk.cons (.int hpv) (Wk.cons (.refl _) (Wk.cons (.refl _) Wk.done)))))))
    conv => whnf
    refine ⟨rfl, ?_⟩
    have hpl' := putI_len (ts := ts) hple i
    refine Run.condC rfl (fun h => ?_) (fun h => ?_) <;> (conv => whnf) <;> refine ⟨rfl, ?_⟩
    · have hlt : i < ts.length := by simpa using h
      have hwi : IntKind.i64.wrap ((i : Int) + 1) = ((i + 1 : Nat) : Int) := by rw [wrap_of (by omega) (by omega)]; simp
      have hwp : IntKind.i64.wrap ((p : Int) + (i : Int)) = ((p + i : Nat) : Int) := by rw [wrap_of (by omega) (by omega)]; simp
      have hput := put_spec (putI (fcut fs a) p ts i) (p + i) (ts.getD i default) (by omega) (by omega)
      rw [← hwp] at hput
      refine Run.iaD rfl rfl rfl rfl rfl (fun _ => ⟨by omega, by omega⟩) rfl ?_
      conv => whnf
      refine ⟨rfl, ?_⟩
      refine Run.callD (av := [encFs (putI (fcut fs a) p ts i), .int .i64 (IntKind.i64.wrap ((p : Int) + (i : Int))), .agg (ts.getD i default).cells]) rfl rfl rfl (fun _ => hput) rfl rfl rfl ?_
      conv => whnf
      refine ⟨rfl, ?_⟩
      refine Run.endR ⟨i + 1, by omega, by omega, Wk.ofEnv (Wk.cons (.refl _) (Wk.cons (.refl _) (Wk.cons (.refl _) (Wk.cons (.refl _) (Wk.cons (.refl _) (Wk.cons (.refl _) (Wk.cons (.int hwi) Wk.done)))))))⟩
    · have hge : i = ts.length := by simp at h; omega
      subst hge
      refine Run.exitR rfl rfl ?_
      conv => whnf
      refine ⟨rfl, ?_⟩
      refine Run.condC rfl (fun h0 => ?_) (fun h0 => ?_) <;> (conv => whnf) <;> refine ⟨rfl, ?_⟩
      · refine Run.retZ ?_
        conv => whnf
        have h0' : ((rB s.forms t).length == 0) = true := by rw [hrb]; simpa using h0
        have e : rOn s t = (⟨0, []⟩, 7) := by simp only [rOn, hbad, he0, h3, hf, hto, h0', cond_true, cond_false, Bool.not_false, Bool.not_true, Bool.true_and]
        rw [e]
        exact ⟨rfl, Le.tuple (.cons zsch (.cons (.refl _) .nil))⟩
      have h0' : ((rB s.forms t).length == 0) = false := by rw [hrb]; simpa using h0
      refine Run.callC (av := [.agg s.cells, .agg [.int .i64 t.form, encFs (putI (fcut fs a) p ts ts.length)]]) rfl rfl rfl (fun _ => hforms _ (hrb ▸ .refl _)) rfl rfl ?_
      conv => whnf
      refine ⟨rfl, ?_⟩
      refine Run.callC (av := [.agg (Sch.cells ⟨s.version, N⟩)]) rfl rfl rfl (fun _ => hright) rfl rfl ?_
      conv => whnf
      refine ⟨rfl, ?_⟩
      refine Run.condC rfl (fun hr => ?_) (fun hr => ?_) <;> (conv => whnf) <;> refine ⟨rfl, ?_⟩
      · refine Run.retZ ?_
        conv => whnf
        rw [hOn (fun _ => ⟨hf ▸ hto, h0'⟩), show (!sRight ⟨s.version, N⟩) = true from hr, cond_true]
        exact ⟨rfl, Le.tuple (.cons zsch (.cons (.refl _) .nil))⟩
      · refine Run.retZ ?_
        conv => whnf
        rw [hOn (fun _ => ⟨hf ▸ hto, h0'⟩), show (!sRight ⟨s.version, N⟩) = false from hr, cond_false]
        exact ⟨rfl, .refl _⟩
  · have hpv : (a : Int) = (p : Int) := by rw [← hp, rP, h7, cond_false, ha]
    refine Run.loopN (ι := Nat) (fun i => i ≤ ts.length) (fun i => [(2, .ptr 0 0 0 0), (3, .ptr 1 0 0 0), (4, .ptr 2 0 0 0), (7, .ptr 3 0 0 0), (9, .int .i64 (p : Int)), (10, encFs ts), (12, .int .i64 (i : Int))])
      (fun i => [.box s.cells, .box t.cells, .box [.int .i64 0, .zsl], .box [.int .i64 t.form, encFs (putI (fcut fs a) p ts i)]])
      (fun i => ts.length - i) 0 (Nat.zero_le _) ?_ fun i hi => ?_
    · exact Wk.ofEnv (Wk.cons (.refl _) (Wk.cons (.refl _) (Wk.cons (.refl _) (Wk.cons (.refl _) (Wk.cons (.int hpv) (Wk.cons (.refl _) (Wk.cons (.refl _) Wk.done)))))))
    conv => whnf
    refine ⟨rfl, ?_⟩
    have hpl' := putI_len (ts := ts) hple i
    refine Run.condC rfl (fun h => ?_) (fun h => ?_) <;> (conv => whnf) <;> refine ⟨rfl, ?_⟩
    · have hlt : i < ts.length := by simpa using h
      have hwi : IntKind.i64.wrap ((i : Int) + 1) = ((i + 1 : Nat) : Int) := by rw [wrap_of (by omega) (by omega)]; simp
      have hwp : IntKind.i64.wrap ((p : Int) + (i : Int)) = ((p + i : Nat) : Int) := by rw [wrap_of (by omega) (by omega)]; simp
      have hput := put_spec (putI (fcut fs a) p ts i) (p + i) (ts.getD i default) (by omega) (by omega)
      rw [← hwp] at hput
      refine Run.iaD rfl rfl rfl rfl rfl (fun _ => ⟨by omega, by omega⟩) rfl ?_
      conv => whnf
      refine ⟨rfl, ?_⟩
      refine Run.callD (av := [encFs (putI (fcut fs a) p ts i), .int .i64 (IntKind.i64.wrap ((p : Int) + (i : Int))), .agg (ts.getD i default).cells]) rfl rfl rfl (fun _ => hput) rfl rfl rfl ?_
      conv => whnf
      refine ⟨rfl, ?_⟩
      refine Run.endR ⟨i + 1, by omega, by omega, Wk.ofEnv (Wk.cons (.refl _) (Wk.cons (.refl _) (Wk.cons (.refl _) (Wk.cons (.refl _) (Wk.cons (.refl _) (Wk.cons (.refl _) (Wk.cons (.int hwi) Wk.done)))))))⟩
    · have hge : i = ts.length := by simp at h; omega
      subst hge
      refine Run.exitR rfl rfl ?_
      conv => whnf
      refine ⟨rfl, ?_⟩
      refine Run.condC rfl (fun h0 => ?_) (fun h0 => ?_) <;> (conv => whnf) <;> refine ⟨rfl, ?_⟩
      · refine Run.retZ ?_
        conv => whnf
        have h0' : ((rB s.forms t).length == 0) = true := by rw [hrb]; simpa using h0
        have e : rOn s t = (⟨0, []⟩, 7) := by simp only [rOn, hbad, he0, h3, hf, hto, h0', cond_true, cond_false, Bool.not_false, Bool.not_true, Bool.true_and]
        rw [e]
        exact ⟨rfl, Le.tuple (.cons zsch (.cons (.refl _) .nil))⟩
      have h0' : ((rB s.forms t).length == 0) = false := by rw [hrb]; simpa using h0
      refine Run.callC (av := [.agg s.cells, .agg [.int .i64 t.form, encFs (putI (fcut fs a) p ts ts.length)]]) rfl rfl rfl (fun _ => hforms _ (hrb ▸ .refl _)) rfl rfl ?_
      conv => whnf
      refine ⟨rfl, ?_⟩
      refine Run.callC (av := [.agg (Sch.cells ⟨s.version, N⟩)]) rfl rfl rfl (fun _ => hright) rfl rfl ?_
      conv => whnf
      refine ⟨rfl, ?_⟩
      refine Run.condC rfl (fun hr => ?_) (fun hr => ?_) <;> (conv => whnf) <;> refine ⟨rfl, ?_⟩
      · refine Run.retZ ?_
        conv => whnf
        rw [hOn (fun _ => ⟨hf ▸ hto, h0'⟩), show (!sRight ⟨s.version, N⟩) = true from hr, cond_true]
        exact ⟨rfl, Le.tuple (.cons zsch (.cons (.refl _) .nil))⟩
      · refine Run.retZ ?_
        conv => whnf
        rw [hOn (fun _ => ⟨hf ▸ hto, h0'⟩), show (!sRight ⟨s.version, N⟩) = false from hr, cond_false]
        exact ⟨rfl, .refl _⟩
end Go.Proofs.Ytbpcjahjbkiofaa.Sp

set_option linter.unusedVariables false
set_option linter.unusedSimpArgs false
namespace Go.Proofs.Ytbpcjahjbkiofaa.Sp
open Go Go.Proofs.Ytbpcjahjbkiofaa.AV Go.Proofs.Ytbpcjahjbkiofaa.Fn
set_option maxRecDepth 10000

theorem getD_at {α : Type} [Inhabited α] {l : List α} {i : Nat} (h : i < l.length) : l.getD i default = l[i] := by simp [List.getD_eq_getElem?_getD, h]

def Srt (l : List Frm) : Prop := ∀ i j, i < j → j < l.length → (l.getD i default).id < (l.getD j default).id

theorem sRight_at {s : Sch} (h : sRight s = true) {i : Nat} (hi : i < s.forms.length) : okAt s.forms i = true := by
  simp only [sRight, Bool.and_eq_true, decide_eq_true_eq, List.all_eq_true] at h
  exact h.2 i (List.mem_range.2 hi)
theorem sRight_fine {s : Sch} (h : sRight s = true) {i : Nat} (hi : i < s.forms.length) : fFine (s.forms.getD i default) = true := by
  have := sRight_at h hi
  simp only [okAt, Bool.and_eq_true] at this
  exact this.1
theorem fFine_fld {x : Frm} (h : fFine x = true) {i : Nat} (hi : i < x.fields.length) : fRight (x.fields.getD i default) = true := by
  simp only [fFine, Bool.and_eq_true, decide_eq_true_eq, List.all_eq_true] at h
  have := h.1.2 i (List.mem_range.2 hi)
  simp only [goodAt, Bool.and_eq_true] at this
  exact this.1
theorem sRight_srt {s : Sch} (h : sRight s = true) : Srt s.forms := by
  intro i j hij hj
  induction j with
  | zero => omega
  | succ j ih =>
    have h1 : (s.forms.getD j default).id < (s.forms.getD (j + 1) default).id := by
      have := sRight_at h hj
      simp only [okAt, Bool.and_eq_true, Bool.or_eq_true, decide_eq_true_eq, beq_iff_eq, Nat.add_sub_cancel] at this
      rcases this.2 with e | e
      · omega
      · exact e
    rcases Nat.lt_or_ge i j with h2 | h2
    · exact Int.lt_trans (ih h2 (by omega)) h1
    · obtain rfl : i = j := by omega
      exact h1

theorem pos_of_find {l : List Frm} {id : Int} {k : Nat} (hs : Srt l) (h : sFind l id = some k) : fPos l id = k ∧ hasPos l id = true ∧ k < l.length ∧ (l.getD k default).id = id := by
  have hk := sFind_lt h
  unfold sFind at h
  rw [List.findIdx?_eq_some_iff_getElem] at h
  obtain ⟨_, h1, _⟩ := h
  have h1 : (l.getD k default).id = id := by rw [getD_at hk]; simpa using h1
  have hp : fPos l id = k := fPos_eq (by omega) (fun j hj => h1 ▸ hs j k hj hk) (fun _ => by omega)
  exact ⟨hp, by simp only [hasPos, hp, h1, Bool.and_eq_true, decide_eq_true_eq, beq_self_eq_true, and_true]; exact hk, hk, h1⟩
theorem pos_of_none {l : List Frm} {id : Int} (h : sFind l id = none) : hasPos l id = false := by
  unfold sFind at h
  rw [List.findIdx?_eq_none_iff] at h
  unfold hasPos
  by_cases hp : fPos l id < l.length
  · have := h (l.getD (fPos l id) default) (by rw [getD_at hp]; exact List.getElem_mem _)
    rw [this, Bool.and_false]
  · simp [hp]

theorem fPos_lo {l : List Frm} {id : Int} : ∀ x ∈ l.take (fPos l id), x.id < id := by
  intro x hx
  obtain ⟨i, hi, rfl⟩ := List.mem_iff_getElem.1 hx
  rw [List.length_take] at hi
  rw [List.getElem_take]
  have := List.not_of_lt_findIdx (p := fun x : Frm => decide (id ≤ x.id)) (xs := l) (i := i) (show i < fPos l id by omega)
  simpa using this
theorem fPos_hi {l : List Frm} {id : Int} (hs : Srt l) (hh : hasPos l id = false) : ∀ x ∈ l.drop (fPos l id), id < x.id := by
  intro x hx
  obtain ⟨i, hi, rfl⟩ := List.mem_iff_getElem.1 hx
  rw [List.length_drop] at hi
  rw [List.getElem_drop]
  have hp : fPos l id < l.length := by omega
  have h1 : id ≤ (l[fPos l id]).id := by
    have := List.findIdx_getElem (p := fun x : Frm => decide (id ≤ x.id)) (xs := l) (w := hp)
    exact of_decide_eq_true this
  have h2 : (l[fPos l id]).id ≠ id := by
    intro e
    simp only [hasPos, getD_at hp, e, beq_self_eq_true, Bool.and_true, decide_eq_false_iff_not] at hh
    exact hh hp
  have h3 : (l[fPos l id]).id ≤ (l[fPos l id + i]).id := by
    rcases Nat.eq_zero_or_pos i with rfl | hpos
    · exact Int.le_refl _
    · have := hs (fPos l id) (fPos l id + i) (by omega) (by omega)
      rw [getD_at hp, getD_at (by omega)] at this
      omega
  omega
theorem srt_hi {l : List Frm} {k : Nat} (hs : Srt l) (hk : k < l.length) : ∀ x ∈ l.drop (k + 1), (l.getD k default).id < x.id := by
  intro x hx
  obtain ⟨i, hi, rfl⟩ := List.mem_iff_getElem.1 hx
  rw [List.length_drop] at hi
  rw [List.getElem_drop]
  have := hs k (k + 1 + i) (by omega) (by omega)
  rw [getD_at (show k + 1 + i < l.length by omega)] at this
  exact this

theorem fold_lo {f : Frm} : ∀ (l : List Frm), (∀ x ∈ l, x.id < f.id) → ∀ (d : Bool) (o : List Frm), l.foldl (fmStep f) (d, o) = (d, o ++ l)
  | [], _, d, o => by simp
  | x :: r, h, d, o => by
    have hx := h x (by simp)
    have e : fmIns f d x = false := by simp [fmIns]; intro _; omega
    rw [List.foldl_cons, show fmStep f (d, o) x = (d, o ++ [x]) by
      simp only [fmStep, fmD, fmO, e, Bool.or_false, cond_false, show (x.id != f.id) = true by simp; omega, cond_true]]
    rw [fold_lo r (fun y hy => h y (by simp [hy])) d (o ++ [x])]
    simp
theorem fold_hi {f : Frm} : ∀ (l : List Frm), (∀ x ∈ l, f.id < x.id) → ∀ (o : List Frm), l.foldl (fmStep f) (true, o) = (true, o ++ l)
  | [], _, o => by simp
  | x :: r, h, o => by
    have hx := h x (by simp)
    rw [List.foldl_cons, show fmStep f (true, o) x = (true, o ++ [x]) by
      simp only [fmStep, fmD, fmO, fmIns, Bool.not_true, Bool.false_and, Bool.or_false, cond_false, show (x.id != f.id) = true by simp; omega, cond_true]]
    rw [fold_hi r (fun y hy => h y (by simp [hy])) (o ++ [x])]
    simp
def putF (f : Frm) : List Frm := bif (f.fields.length : Int) == 0 then [] else [f]
theorem rForms_eq {l : List Frm} {f : Frm} {p : Bool × List Frm} (h : l.foldl (fmStep f) ((f.fields.length : Int) == 0, []) = p) : rForms l f = p.2 ++ (bif p.1 then [] else [f]) := by
  unfold rForms fmAt
  rw [List.take_length, h]
theorem rForms_new {f : Frm} {l1 l2 : List Frm} (h1 : ∀ x ∈ l1, x.id < f.id) (h2 : ∀ x ∈ l2, f.id < x.id) : rForms (l1 ++ l2) f = l1 ++ putF f ++ l2 := by
  unfold putF
  cases hf : ((f.fields.length : Int) == 0) with
  | true =>
    rw [rForms_eq (p := (true, l1 ++ l2)) (by rw [hf, List.foldl_append, fold_lo l1 h1, fold_hi l2 h2]; rfl)]
    simp
  | false =>
    cases l2 with
    | nil =>
      rw [rForms_eq (p := (false, l1)) (by rw [hf, List.foldl_append, fold_lo l1 h1]; rfl)]
      simp
    | cons y r =>
      have hy := h2 y (by simp)
      have e : fmIns f false y = true := by simp [fmIns]; omega
      rw [rForms_eq (p := (true, l1 ++ [f] ++ [y] ++ r)) (by
        rw [hf, List.foldl_append, fold_lo l1 h1, List.foldl_cons, show fmStep f (false, [] ++ l1) y = (true, l1 ++ [f] ++ [y]) by
          simp only [fmStep, fmD, fmO, e, Bool.or_true, cond_true, show (y.id != f.id) = true by simp; omega, List.nil_append], fold_hi r (fun z hz => h2 z (by simp [hz]))])]
      simp
theorem rForms_old {f x : Frm} {l1 l2 : List Frm} (h1 : ∀ x ∈ l1, x.id < f.id) (hx : x.id = f.id) (h2 : ∀ x ∈ l2, f.id < x.id) : rForms (l1 ++ x :: l2) f = l1 ++ putF f ++ l2 := by
  unfold putF
  have hne : (x.id != f.id) = false := by simp [hx]
  cases hf : ((f.fields.length : Int) == 0) with
  | true =>
    rw [rForms_eq (p := (true, l1 ++ l2)) (by
      rw [hf, List.foldl_append, fold_lo l1 h1, List.foldl_cons, show fmStep f (true, [] ++ l1) x = (true, l1) by
        simp only [fmStep, fmD, fmO, fmIns, hne, Bool.not_true, Bool.false_and, Bool.or_false, cond_false, List.nil_append, List.append_nil], fold_hi l2 h2])]
    simp
  | false =>
    have e : fmIns f false x = true := by simp [fmIns]; omega
    rw [rForms_eq (p := (true, l1 ++ [f] ++ l2)) (by
      rw [hf, List.foldl_append, fold_lo l1 h1, List.foldl_cons, show fmStep f (false, [] ++ l1) x = (true, l1 ++ [f]) by
        simp only [fmStep, fmD, fmO, e, hne, Bool.or_true, cond_true, cond_false, List.nil_append, List.append_nil], fold_hi l2 h2])]
    simp

theorem rForms_no {l : List Frm} {f : Frm} (hs : Srt l) (h : hasPos l f.id = false) : rForms l f = l.take (fPos l f.id) ++ putF f ++ l.drop (fPos l f.id) := by
  have := rForms_new (f := f) (l1 := l.take (fPos l f.id)) (l2 := l.drop (fPos l f.id)) fPos_lo (fPos_hi hs h)
  rwa [List.take_append_drop] at this
theorem rForms_yes {l : List Frm} {f : Frm} (hs : Srt l) (h : hasPos l f.id = true) : rForms l f = l.take (fPos l f.id) ++ putF f ++ l.drop (fPos l f.id + 1) := by
  have hlt := hasPos_lt h
  have he : (l.getD (fPos l f.id) default).id = f.id := by simp only [hasPos, Bool.and_eq_true, beq_iff_eq] at h; exact h.2
  have := rForms_old (f := f) (x := l.getD (fPos l f.id) default) (l1 := l.take (fPos l f.id)) (l2 := l.drop (fPos l f.id + 1)) fPos_lo he (fun x hx => he ▸ srt_hi hs hlt x hx)
  rwa [getD_at hlt, ← List.drop_eq_getElem_cons hlt, List.take_append_drop] at this
end Go.Proofs.Ytbpcjahjbkiofaa.Sp

set_option linter.unusedVariables false
set_option linter.unusedSimpArgs false
namespace Go.Proofs.Ytbpcjahjbkiofaa.Sp
open Go Go.Proofs.Ytbpcjahjbkiofaa.AV Go.Proofs.Ytbpcjahjbkiofaa.Fn
set_option maxRecDepth 10000

def stpF (l : List Stp) : Nat → List AV := fun k => Stp.cells (l.getD k default)
/-- The first and the last ones in turn. -/
def rvE (l : List Stp) (i : Nat) (k : Nat) : Stp := bif decide (k < i) || decide (l.length ≤ k + i) then l.getD (l.length - 1 - k) default else l.getD k default
def rvF (l : List Stp) (i : Nat) : Nat → List AV := fun k => Stp.cells (rvE l i k)

theorem lset_app : ∀ (p : List AV) (x : AV) (r : List AV) (v : AV), lset (p ++ x :: r) p.length v = p ++ v :: r
  | [], x, r, v => rfl
  | y :: p, x, r, v => by
    show y :: lset (p ++ x :: r) p.length v = _
    rw [lset_app p x r v]
    rfl
theorem lsets_app : ∀ (m p q : List AV), q.length = m.length → lsets (p ++ q) p.length m = p ++ m
  | [], p, q, h => by
    have : q = [] := List.eq_nil_of_length_eq_zero h
    subst this
    rfl
  | v :: m, p, [], h => by simp at h
  | v :: m, p, x :: q, h => by
    show lsets (lset (p ++ x :: q) p.length v) (p.length + 1) m = _
    rw [lset_app]
    have := lsets_app m (p ++ [v]) q (by simpa using h)
    rw [List.length_append] at this
    simpa using this
theorem lsets_all {l m : List AV} (h : l.length = m.length) : lsets l 0 m = m := lsets_app m [] l h

set_option maxHeartbeats 4000000 in
theorem reverse_stp (l : List Stp) (hb : l.length ≤ 1000) : AC P slices_Reverse_api_Step_api_Step.id [.row 16 0 0 0 l.length] [.row 16 l.length 0 (stpF l)] (.tuple []) [.row 16 l.length 0 (stpF l.reverse)] := by
  refine slices_Reverse_api_Step_api_Step.intro rfl (Goes.run ?_)
  conv => whnf
  refine ⟨rfl, ?_⟩
  have hw0 : IntKind.i64.wrap ((l.length : Int) - 1) = (l.length : Int) - 1 - ((0 : Nat) : Int) := by rw [wrap_of (by omega) (by omega)]; simp
  refine Run.loopN (ι := Nat) (fun i => 2 * i ≤ l.length) (fun i => [(0, .row 16 0 0 0 l.length), (2, .int .i64 (i : Int)), (3, .int .i64 ((l.length : Int) - 1 - (i : Int)))])
    (fun i => [.row 16 l.length 0 (rvF l i)]) (fun i => l.length - i) 0 (Nat.zero_le _) ?_ fun i hi => ?_
  · refine Wk.trans (e2 := [(0, .row 16 0 0 0 l.length), (2, .int .i64 ((0 : Nat) : Int)), (3, .int .i64 ((l.length : Int) - 1 - ((0 : Nat) : Int)))]) (Wk.ofEnv (Wk.cons (.refl _) (Wk.cons (.refl _) (Wk.cons (.int hw0) Wk.done)))) (Wk.tab fun k => ?_)
    match k with
    | 0 => exact ⟨rfl, rfl, rfl, fun k hk => leL_eq (by simp only [stpF, rvF, rvE]; rw [show (decide (k < 0) || decide (l.length ≤ k + 0)) = false by simp; omega, cond_false])⟩
    | k + 1 => exact .inl rfl
  conv => whnf
  refine ⟨rfl, ?_⟩
  refine Run.condC rfl (fun h => ?_) (fun h => ?_) <;> (conv => whnf) <;> refine ⟨rfl, ?_⟩
  · have hlt : i + 1 < l.length - i := by simp at h; omega
    have hj : (l.length : Int) - 1 - i = ((l.length - 1 - i : Nat) : Int) := by omega
    rw [hj]
    refine Run.iaRD rfl rfl rfl rfl rfl rfl rfl (fun _ => ⟨by omega, by omega⟩) (j := l.length - 1 - i) (by rw [Nat.zero_add]; rfl) rfl ?_
    conv => whnf
    refine ⟨rfl, ?_⟩
    refine Run.iaRD rfl rfl rfl rfl rfl rfl rfl (fun _ => ⟨by omega, by omega⟩) (j := i) (by rw [Nat.zero_add]; rfl) rfl ?_
    conv => whnf
    refine ⟨rfl, ?_⟩
    refine Run.iaRD rfl rfl rfl rfl rfl rfl rfl (fun _ => ⟨by omega, by omega⟩) (j := i) (by rw [Nat.zero_add]; rfl) rfl ?_
    conv => whnf
    refine ⟨rfl, ?_⟩
    refine Run.iaRD rfl rfl rfl rfl rfl rfl rfl (fun _ => ⟨by omega, by omega⟩) (j := l.length - 1 - i) (by rw [Nat.zero_add]; rfl) rfl ?_
    conv => whnf
    refine ⟨rfl, ?_⟩
    have hls : ∀ a b : Stp, lsets a.cells 0 b.cells = b.cells := fun a b => lsets_all rfl
    refine Run.endR ⟨i + 1, by omega, by omega, Wk.trans (e2 := [(0, .row 16 0 0 0 l.length), (2, .int .i64 ((i + 1 : Nat) : Int)), (3, .int .i64 ((l.length : Int) - 1 - ((i + 1 : Nat) : Int)))]) (Wk.ofEnv (Wk.cons (.refl _) (Wk.cons (.int ?_) (Wk.cons (.int ?_) Wk.done)))) (Wk.tab fun k => ?_)⟩
    · rw [wrap_of (by omega) (by omega)]; simp
    · rw [wrap_of (by omega) (by omega)]; omega
    · match k with
      | 0 =>
        refine ⟨rfl, rfl, rfl, fun k hk => leL_eq ?_⟩
        show (bif Nat.beq k (l.length - 1 - i) then lsets (bif Nat.beq k i then lsets (rvF l i k) 0 (Stp.cells (rvE l i (l.length - 1 - i))) else rvF l i k) 0 (Stp.cells (rvE l i i)) else (bif Nat.beq k i then lsets (rvF l i k) 0 (Stp.cells (rvE l i (l.length - 1 - i))) else rvF l i k)) = rvF l (i + 1) k
        cases h1 : Nat.beq k i with
        | true =>
          obtain rfl : k = i := Nat.eq_of_beq_eq_true h1
          rw [show Nat.beq k (l.length - 1 - k) = false by cases hh : Nat.beq k (l.length - 1 - k) with
            | false => rfl
            | true => have := Nat.eq_of_beq_eq_true hh; omega]
          simp only [cond_true, cond_false, rvF, hls]
          congr 1
          unfold rvE
          rw [show (decide (l.length - 1 - k < k) || decide (l.length ≤ l.length - 1 - k + k)) = false by simp; omega, show (decide (k < k + 1) || decide (l.length ≤ k + (k + 1))) = true by simp]
          rfl
        | false =>
          have hk1 : k ≠ i := fun e => by rw [e, Nat.beq_refl] at h1; cases h1
          cases h2 : Nat.beq k (l.length - 1 - i) with
          | true =>
            have hk2 : k = l.length - 1 - i := Nat.eq_of_beq_eq_true h2
            simp only [cond_true, cond_false, rvF, hls]
            congr 1
            unfold rvE
            rw [show (decide (i < i) || decide (l.length ≤ i + i)) = false by simp; omega, show (decide (k < i + 1) || decide (l.length ≤ k + (i + 1))) = true by simp; omega, show l.length - 1 - k = i by omega]
            rfl
          | false =>
            have hk2 : k ≠ l.length - 1 - i := fun e => by rw [← e, Nat.beq_refl] at h2; cases h2
            simp only [cond_false, rvF]
            congr 1
            unfold rvE
            have : (decide (k < i) || decide (l.length ≤ k + i)) = (decide (k < i + 1) || decide (l.length ≤ k + (i + 1))) := by
              rw [show decide (k < i) = decide (k < i + 1) by simp; omega, show decide (l.length ≤ k + i) = decide (l.length ≤ k + (i + 1)) by simp; omega]
            rw [this]
      | k + 1 => exact .inl rfl
  · have hge : l.length ≤ 2 * i + 1 := by simp at h; omega
    refine Run.exitR rfl rfl ?_
    conv => whnf
    refine ⟨rfl, ?_⟩
    refine Run.nilS ?_
    conv => whnf
    refine FinS.tab rfl (FinS.keepP 1 rfl rfl rfl (.refl _)) fun k => ?_
    match k with
    | 0 =>
      refine ⟨rfl, rfl, rfl, fun k hk => leL_eq ?_⟩
      show Stp.cells (rvE l i k) = Stp.cells (l.reverse.getD k default)
      congr 1
      have hk : k < l.length := hk
      rw [List.getD_eq_getElem?_getD, List.getElem?_eq_getElem (by simpa using hk), List.getElem_reverse]
      unfold rvE
      cases hc : (decide (k < i) || decide (l.length ≤ k + i)) with
      | true => rw [cond_true, getD_at (by omega)]; rfl
      | false =>
        simp at hc
        rw [cond_false, getD_at hk]
        have : l.length - 1 - k = k := by omega
        simp only [this]
        rfl
    | k + 1 => exact .inl rfl
end Go.Proofs.Ytbpcjahjbkiofaa.Sp

set_option linter.unusedVariables false
set_option linter.unusedSimpArgs false
namespace Go.Proofs.Ytbpcjahjbkiofaa.Sp
open Go Go.Proofs.Ytbpcjahjbkiofaa.AV Go.Proofs.Ytbpcjahjbkiofaa.Fn
set_option maxRecDepth 10000

structure StR (t : Stp) : Prop where
  op1 : 1 ≤ t.op
  pl0 : 0 ≤ t.place
  to0 : 0 ≤ t.to
  f0 : t.op = 1 → 0 ≤ t.f.id
  fl9 : t.op = 9 → 1 ≤ t.fields.length
theorem st_r {t : Stp} (h : stRight t = true) : StR t := by
  have hpl := st_place h
  simp only [stRight, Bool.and_eq_true, Bool.not_eq_true'] at h
  obtain ⟨h1, h2, h3, h4, h5, h6⟩ := h
  simp only [bad1, Bool.or_eq_false_iff, Bool.not_eq_false'] at h1
  obtain ⟨⟨⟨⟨⟨⟨u1, u2⟩, u3⟩, u4⟩, u5⟩, u6⟩, u7⟩ := h1
  simp only [bad2, Bool.or_eq_false_iff] at h2
  refine ⟨?_, hpl.1, ?_, fun e => ?_, fun e => ?_⟩
  · rcases Int.lt_or_le t.op 1 with hlt | hle
    · exfalso
      have e : usesS t.op = bs [] := by
        unfold usesS
        simp only [show (t.op == 1) = false by simp; omega, show (t.op == 2) = false by simp; omega, show (t.op == 3) = false by simp; omega, show (t.op == 4) = false by simp; omega, show (t.op == 5) = false by simp; omega, show (t.op == 6) = false by simp; omega, show (t.op == 7) = false by simp; omega, show (t.op == 8) = false by simp; omega, show (t.op == 9) = false by simp; omega, show (t.op == 10) = false by simp; omega,
          show (t.op == 21) = false by simp; omega, show (t.op == 22) = false by simp; omega, show (t.op == 23) = false by simp; omega, show (t.op == 24) = false by simp; omega, show (t.op == 25) = false by simp; omega, show (t.op == 26) = false by simp; omega, show (t.op == 27) = false by simp; omega, show (t.op == 28) = false by simp; omega, show (t.op == 29) = false by simp; omega, show (t.op == 30) = false by simp; omega, Bool.or_self, cond_false]
      rw [e, show bs [] = ByteArray.mk #[] from rfl, beq_self_eq_true] at u1
      revert u1
      decide
    · exact hle
  · simp only [btw, Bool.and_eq_true, decide_eq_true_eq] at u6
    omega
  · have hF : hasB t.op 70 = true := by rw [e]; decide
    rw [hF, Bool.true_and] at h2
    have hr : fRight t.f = true := by simpa using h2.2
    have := (fRight_cases hr).1
    omega
  · have hL : hasB t.op 76 = true := by rw [e]; decide
    rw [hL] at h6
    exact (fine_len (x := ⟨t.form, t.fields⟩) (by simpa using h6)).2

theorem bad_eq {s : Sch} {t : Stp} : badR s t = badOn s t := by
  unfold badR badOn
  cases hs : sRight s
  · simp
  · cases ht : stRight t
    · simp
    · have := (st_r ht).op1
      simp only [Bool.not_true, Bool.or_self, Bool.false_or]
      rw [show decide (t.op < 1) = false by simp; omega, Bool.false_or]

theorem err_eq {l : List Frm} {t : Stp} (hs : Srt l) (h : StR t) : nmErr l t = thErr l t := by
  unfold nmErr thErr
  cases hf : sFind l t.form with
  | none =>
    rw [pos_of_none hf]
    simp
  | some k =>
    obtain ⟨hp, hh, hk, hid⟩ := pos_of_find hs hf
    rw [hh]
    simp only [cond_true]
    cases h9 : t.op == 9 with
    | true => rfl
    | false =>
      simp only [cond_false]
      have hF : thFs l t = (l.getD k default).fields := by unfold thFs; rw [hp]
      rw [hF]
      generalize (l.getD k default).fields = fs
      have e1 : nm1 fs t = decide (thAt0 fs t < 0) := by
        unfold nm1 thAt0
        cases h1 : t.op == 1 with
        | true => simp only [cond_true, bne, h1, Bool.not_true, Bool.false_and]; have := h.pl0; simp; omega
        | false =>
          cases h10 : t.op == 10 with
          | true =>
            have h6 : (t.op == 6 || t.op == 8) = false := by have : t.op = 10 := by simpa using h10
                                                             rw [this]; decide
            simp only [cond_true, cond_false, bne, h1, h9, h10, h6, Bool.not_true, Bool.and_false, Bool.false_and]; decide
          | false =>
            simp only [cond_false, bne, h1, h9, h10, Bool.not_false, Bool.and_self, Bool.true_and]
            cases (t.op == 6 || t.op == 8) <;> rfl
      have e2 : nm2 fs t = (decide (thFresh t ≥ 0) && decide (placeI (fAt fs (thFresh t)) ≥ 0)) := by
        unfold nm2 thFresh
        cases h1 : t.op == 1 with
        | true =>
          have h6 : (t.op == 6 || t.op == 8) = false := by have : t.op = 1 := by simpa using h1
                                                           rw [this]; decide
          have := h.f0 (by simpa using h1)
          simp only [h6, cond_true, Bool.true_and, Bool.false_and, Bool.or_false]
          rw [show decide (t.f.id ≥ 0) = true by simp; omega, Bool.true_and]
        | false =>
          simp only [cond_false, Bool.false_and, Bool.false_or]
          cases (t.op == 6 || t.op == 8) with
          | true =>
            have := h.to0
            simp only [cond_true, Bool.true_and]
            rw [show decide (t.to ≥ 0) = true by simp; omega, Bool.true_and]
          | false => simp
      rw [e1, e2]
      rfl

theorem tyO_eq {f : Fld} {t : Stp} (hf : fRight f = true) (h1 : (t.op == 1) = false) : tyO f t = tuO f t ∨ False := by
  left
  unfold tyO tuO
  rw [h1]
  simp only [cond_false]
  cases h4 : t.op == 4 with
  | false => rfl
  | true =>
    have h2 : (t.op == 2) = false := by have : t.op = 4 := by simpa using h4
                                        rw [this]; decide
    have h3 : (t.op == 3) = false := by have : t.op = 4 := by simpa using h4
                                        rw [this]; decide
    simp only [h2, h3, cond_false, cond_true]
    cases hk : f.kind == 1 with
    | false => rfl
    | true =>
      simp only [Bool.true_and, cond_true]
      obtain ⟨_, _, c⟩ := fRight_cases hf
      have hk' : f.kind = 1 := by simpa using hk
      have hm : f.most = 0 := by rcases c with c | c | c | c <;> omega
      have : sclG f t.a t.b = scl f t.a t.b := by
        unfold sclG scl
        cases f
        simp_all
      rw [this]

theorem opne {t : Stp} {a b : Int} (h : (t.op == a) = true) (hab : (a == b) = false) : (t.op == b) = false := by
  have : t.op = a := by simpa using h
  rw [this]
  exact hab

theorem tyL_eq {f : Fld} {t : Stp} (hf : fRight f = true) (b1 : 1 ≤ t.op) (b2 : t.op ≤ 10) (h1 : (t.op == 1) = false) (h9 : (t.op == 9) = false) (h10 : (t.op == 10) = false) (h7 : (t.op == 7) = false) (ho : tyO f t = true) : tyL f t = tuL f t := by
  unfold tyL tuL
  unfold tyO at ho
  rw [h1]
  obtain ⟨_, _, c⟩ := fRight_cases hf
  cases h2 : t.op == 2 with
  | true => rfl
  | false =>
    cases h3 : t.op == 3 with
    | true => rfl
    | false =>
      cases h4 : t.op == 4 with
      | true =>
        rw [h2, h3, h4] at ho
        simp only [cond_false, cond_true, Bool.and_eq_true, beq_iff_eq] at ho ⊢
        obtain ⟨hk, _⟩ := ho
        have hm : f.most = 0 := by rcases c with c | c | c | c <;> omega
        rw [show (f.kind == 1) = true by simpa using hk, cond_true]
        unfold sclG scl
        cases f
        simp_all
      | false =>
        cases h5 : t.op == 5 with
        | true =>
          rw [h2, h3, h4, h5] at ho
          simp only [cond_false, cond_true, Bool.and_eq_true, beq_iff_eq] at ho ⊢
          obtain ⟨hk, _⟩ := ho
          have hl : f.lo = 0 ∧ f.hi = 0 := by rcases c with c | c | c | c <;> omega
          cases f
          simp_all
        | false =>
          cases h6 : t.op == 6 with
          | true =>
            rw [h2, h3, h4, h5, h6] at ho
            simp only [cond_false, cond_true, Bool.and_eq_true, beq_iff_eq] at ho ⊢
            obtain ⟨hk, hl⟩ := ho
            have hm : f.most = 0 := by rcases c with c | c | c | c <;> omega
            have e : (if IntKind.i64.wrap (t.a - 1) < f.hi then IntKind.i64.wrap (t.a - 1) else f.hi) = (if f.hi < IntKind.i64.wrap (t.a - 1) then f.hi else IntKind.i64.wrap (t.a - 1)) := by
              split <;> split <;> omega
            rw [e]
            cases f
            simp_all
          | false =>
            have h8 : (t.op == 8) = true := by
              simp only [beq_eq_false_iff_ne] at *
              simp; omega
            rw [h8]
            rfl

theorem putI_eq {x ts : List Fld} {p : Nat} (hp : p ≤ x.length) : ∀ i, i ≤ ts.length → putI x p ts i = x.take p ++ ts.take i ++ x.drop p
  | 0, _ => by simp [putI]
  | i + 1, hi => by
    show fput (putI x p ts i) (p + i) (ts.getD i default) = _
    rw [putI_eq hp i (by omega), fput]
    have hl : (x.take p ++ ts.take i).length = p + i := by rw [List.length_append, List.length_take, List.length_take]; omega
    rw [List.take_append_of_le_length (by omega), List.drop_append_of_le_length (by omega), ← hl, List.take_length, List.drop_length, getD_at (show i < ts.length by omega)]
    have e : ts.take (i + 1) = ts.take i ++ [ts[i]'(by omega)] := by rw [List.take_add_one]; simp [show i < ts.length by omega]
    rw [e]
    simp only [List.append_assoc, List.nil_append, List.cons_append]

theorem fcut_take {fs : List Fld} {a : Nat} (h : a < fs.length) : (fcut fs a).take a = fs.take a := by
  unfold fcut
  rw [List.take_append_of_le_length (by rw [List.length_take]; omega), List.take_take, Nat.min_self]
theorem fcut_drop {fs : List Fld} {a : Nat} (h : a < fs.length) : (fcut fs a).drop a = fs.drop (a + 1) := by
  unfold fcut
  have : (fs.take a).length = a := by rw [List.length_take]; omega
  rw [List.drop_append_of_le_length (by omega)]
  conv => lhs; arg 1; rw [show a = (fs.take a).length from this.symm]
  simp
end Go.Proofs.Ytbpcjahjbkiofaa.Sp

set_option linter.unusedVariables false
set_option linter.unusedSimpArgs false
namespace Go.Proofs.Ytbpcjahjbkiofaa.Sp
open Go Go.Proofs.Ytbpcjahjbkiofaa.AV Go.Proofs.Ytbpcjahjbkiofaa.Fn
set_option maxRecDepth 10000

theorem set_split {α : Type} {l : List α} {k : Nat} {y : α} (h : k < l.length) : l.set k y = l.take k ++ [y] ++ l.drop (k + 1) := by
  rw [List.set_eq_take_append_cons_drop, if_pos h]
  simp

theorem on_eq (s : Sch) (t : Stp) : rOn s t = tOn s t := by
  unfold rOn tOn
  rw [bad_eq]
  cases hb : badOn s t with
  | true => rfl
  | false =>
    simp only [cond_false]
    have hb2 := hb
    simp only [badOn, Bool.or_eq_false_iff, Bool.not_eq_false', decide_eq_false_iff_not] at hb2
    obtain ⟨⟨⟨hsr, hst⟩, b1⟩, b2⟩ := hb2
    have hS := sRight_srt hsr
    have hT := st_r hst
    rw [err_eq hS hT]
    cases he : thErr s.forms t != 0 with
    | true => rfl
    | false =>
      simp only [cond_false]
      have hth : thErr s.forms t = 0 := by simpa using he
      have hnm : nmErr s.forms t = 0 := by rw [err_eq hS hT]; exact hth
      cases h9 : t.op == 9 with
      | true =>
        have hh : hasPos s.forms t.form = false := by
          cases hq : hasPos s.forms t.form with
          | false => rfl
          | true => rw [thErr, h9, hq] at hth; simp at hth
        have h3 : is3 t = true := by simp only [is3, h9, Bool.true_or]
        have hrb : rB s.forms t = t.fields := by simp only [rB, h9, cond_true]
        have hN : rN s.forms t = tForms s.forms t := by
          unfold rN tForms
          rw [hrb, rForms_no (f := ⟨t.form, t.fields⟩) hS hh, h9, cond_true, putF]
          have := hT.fl9 (by simpa using h9)
          rw [show ((t.fields.length : Int) == 0) = false by simp; intro e; rw [e] at this; simp at this, cond_false]
        rw [hN, h3]
        simp only [bne, h9, Bool.not_true, Bool.false_and, cond_false]
      | false =>
        have hh := th_has hth h9
        have hlt := hasPos_lt hh
        obtain ⟨k, hk, hrk, hklt, hn1, hn2, hn3⟩ := nm_facts hnm h9
        obtain ⟨hp, _, _, hid⟩ := pos_of_find hS hk
        have hfs : rFs s.forms t = thFs s.forms t := by unfold rFs thFs; rw [hrk, hp]
        have hN0 : rN s.forms t = s.forms.take (fPos s.forms t.form) ++ putF ⟨t.form, rB s.forms t⟩ ++ s.forms.drop (fPos s.forms t.form + 1) := rForms_yes (f := ⟨t.form, rB s.forms t⟩) hS hh
        cases h10 : t.op == 10 with
        | true =>
          have h1 : (t.op == 1) = false := opne h10 (by decide)
          have h3 : is3 t = true := by simp only [is3, h10, Bool.true_or, Bool.or_true]
          have hrb : rB s.forms t = [] := by simp only [rB, h9, h1, h10, cond_true, cond_false]
          have hN : rN s.forms t = tForms s.forms t := by
            rw [hN0, hrb]
            unfold tForms putF
            simp [h9, h10]
          rw [hN, h3]
          simp only [bne, h10, h9, Bool.not_true, Bool.false_and, Bool.and_false, cond_false]
        | false =>
          obtain ⟨a, ha0, ha1, ha2, ha3⟩ := th_facts hth h9 h10 hT.pl0
          have hch : (thAt s.forms t 0).toNat = a := by rw [ha0]; rfl
          have hset : tForms s.forms t = bif chO (thFs s.forms t) t a then s.forms.take (fPos s.forms t.form) ++ [⟨t.form, chL (thFs s.forms t) t a⟩] ++ s.forms.drop (fPos s.forms t.form + 1) else s.forms := by
            unfold tForms
            rw [h9, h10, hch]
            simp only [cond_false]
            unfold chForms
            rw [show (s.forms.getD (fPos s.forms t.form) default).id = t.form by rw [hp]; exact hid, set_split hlt]
            rfl
          have hputF : ∀ l : List Fld, l ≠ [] → putF ⟨t.form, l⟩ = [⟨t.form, l⟩] := fun l hl => by
            unfold putF
            rw [show ((l.length : Int) == 0) = false by cases l with
              | nil => exact absurd rfl hl
              | cons x r => simp; omega]
            rfl
          cases h1 : t.op == 1 with
          | true =>
            have h3 : is3 t = true := by simp only [is3, h1, Bool.true_or, Bool.or_true]
            have h7 : (t.op == 7) = false := opne h1 (by decide)
            have hho : chO (thFs s.forms t) t a = true := by simp only [chO, tuO, h1, cond_true, Bool.or_true]
            have hpa : t.place.toNat = a := by
              have : thAt s.forms t 0 = t.place := by simp only [thAt, h9, hh, thAt0, h1, cond_true, cond_false]
              rw [← hch, this]
            have hrb : rB s.forms t = fput (thFs s.forms t) a t.f := by simp only [rB, h9, h1, cond_true, cond_false, hfs, hpa]
            have hcl : chL (thFs s.forms t) t a = fput (thFs s.forms t) a t.f := by
              unfold chL fput
              rw [h7, cond_false, tuL, tuN, h1]
              simp
            have hN : rN s.forms t = tForms s.forms t := by
              rw [hN0, hrb, hset, hho, hcl, cond_true, hputF _ (by unfold fput; simp)]
            rw [hN, h3, hch, hho]
            simp only [Bool.not_true, Bool.false_and, Bool.and_false, cond_false]
          | false =>
            have h3 : is3 t = false := by simp only [is3, h9, h1, h10, Bool.or_self]
            obtain ⟨hat, halt⟩ := nm_at hn1 h3
            have hra : rA s.forms t = a := by
              have : thAt s.forms t 0 = placeI (fAt (thFs s.forms t) t.field) := by
                simp only [thAt, h9, hh, thAt0, h1, h10, cond_true, cond_false]
                cases (t.op == 6 || t.op == 8) <;> rfl
              rw [this, ← hfs, hat] at ha0
              have ha0' : ((rA s.forms t : Nat) : Int) = ((a : Nat) : Int) := ha0
              omega
            rw [hra, hfs] at halt
            have hrf : rF s.forms t = (thFs s.forms t).getD a default := by unfold rF; rw [hfs, hra]
            have hfr : fRight (rF s.forms t) = true := by
              rw [hrf]
              exact fFine_fld (sRight_fine hsr hlt) halt
            rw [h3]
            simp only [bne, h9, h10, Bool.not_false, Bool.true_and, hch]
            have hoo : tyO (rF s.forms t) t = chO (thFs s.forms t) t a := by
              rcases tyO_eq hfr h1 with e | e
              · rw [e, hrf]
                unfold chO
                cases h7 : t.op == 7 with
                | false => rfl
                | true =>
                  unfold tuO
                  rw [opne h7 (by decide), opne h7 (by decide), opne h7 (by decide), opne h7 (by decide), opne h7 (by decide), opne h7 (by decide)]
                  rfl
              · exact e.elim
            rw [← hoo]
            cases ho : tyO (rF s.forms t) t with
            | false => rfl
            | true =>
              simp only [Bool.not_true, cond_false]
              have hrb : rB s.forms t = chL (thFs s.forms t) t a := by
                simp only [rB, h9, h1, h10, cond_false, rT, hfs, hra]
                unfold rP
                rw [hra]
                cases h7 : t.op == 7 with
                | true =>
                  have hty : tyL (rF s.forms t) t = [rF s.forms t] := by
                    unfold tyL
                    rw [opne h7 (by decide), opne h7 (by decide), opne h7 (by decide), opne h7 (by decide), opne h7 (by decide), opne h7 (by decide)]
                    rfl
                  rw [hty, cond_true, chL, h7, cond_true, hrf]
                  rfl
                | false =>
                  rw [cond_false, putI_eq (by rw [fcut_len halt]; omega) _ (Nat.le_refl _), List.take_length, fcut_take halt, fcut_drop halt, chL, h7, cond_false, tyL_eq hfr (by omega) (by omega) h1 h9 h10 h7 ho, hrf, tuN, h1]
                  rfl
              rw [hoo] at ho
              rw [ho, cond_true] at hset
              cases h0 : ((rB s.forms t).length == 0) with
              | true =>
                have hnil : chL (thFs s.forms t) t a = [] := by rw [← hrb]; simpa using h0
                have : sRight ⟨s.version, tForms s.forms t⟩ = false := by
                  cases hq : sRight ⟨s.version, tForms s.forms t⟩ with
                  | false => rfl
                  | true =>
                    exfalso
                    have hl : (s.forms.take (fPos s.forms t.form)).length = fPos s.forms t.form := by rw [List.length_take]; omega
                    have hlen : fPos s.forms t.form < (tForms s.forms t).length := by rw [hset]; simp; omega
                    have := sRight_fine hq (i := fPos s.forms t.form) hlen
                    have := (fine_len this).2
                    rw [show (Sch.mk s.version (tForms s.forms t)).forms = tForms s.forms t from rfl, hset, hnil, List.append_assoc, List.getD_eq_getElem?_getD, List.getElem?_append_right (by omega), hl, Nat.sub_self] at this
                    simp at this
                rw [this]
                rfl
              | false =>
                have hN : rN s.forms t = tForms s.forms t := by
                  rw [hN0, hset, ← hrb, hputF _ (by intro e; rw [e] at h0; simp at h0)]
                rw [hN]
                rfl
end Go.Proofs.Ytbpcjahjbkiofaa.Sp

set_option linter.unusedVariables false
namespace Go.Proofs.Ytbpcjahjbkiofaa.Sp
open Go Go.Proofs.Ytbpcjahjbkiofaa.AV Go.Proofs.Ytbpcjahjbkiofaa.Fn
set_option maxRecDepth 10000

def bigStep (t : Stp) : Bool := decide ((t.t.length : Int) > 100) || decide ((t.fields.length : Int) > 40)
def lGreat (l : List Stp) : Bool := (List.range (min l.length 61)).any (fun i => bigStep (l.getD i default)) || decide ((l.length : Int) > 60)

theorem r15_great (l : List Stp) : AC P R15_Great.id [encSs l] [] (.bool (lGreat l)) [] := by
  refine R15_Great.intro rfl (Goes.run ?_)
  conv => whnf
  refine ⟨rfl, ?_⟩
  refine Run.loopN (fun i : Nat => i ≤ l.length ∧ i ≤ 61 ∧ ∀ j, j < i → bigStep (l.getD j default) = false)
    (fun i => [(0, encSs l), (3, .int .i64 (i : Int)), (2, .ff)]) (fun _ => []) (fun i => l.length - i) 0 ⟨by omega, by omega, fun j hj => by omega⟩
    (Wk.ofEnv (Wk.cons (.refl _) (Wk.cons (.refl _) (Wk.cons (.refl _) Wk.done)))) fun i ⟨hi, h6, hp⟩ => ?_
  conv => whnf
  refine ⟨rfl, ?_⟩
  refine Run.condC rfl (fun h => ?_) (fun h => ?_) <;> (conv => whnf) <;> refine ⟨rfl, ?_⟩
  · have h1 : i < l.length ∧ i < 61 := by simp at h; omega
    refine Run.iaC rfl rfl rfl rfl rfl (fun _ => ⟨by omega, by omega⟩) ?_
    conv => whnf
    refine ⟨rfl, ?_⟩
    refine Run.iaC rfl rfl rfl rfl rfl (fun _ => ⟨by omega, by omega⟩) ?_
    conv => whnf
    refine ⟨rfl, ?_⟩
    refine Run.condC rfl (fun h => ?_) (fun h => ?_) <;> (conv => whnf) <;> refine ⟨rfl, ?_⟩
    · refine Run.retR ?_
      conv => whnf
      refine ⟨rfl, Le.tt ?_⟩
      have hb : bigStep (l.getD i default) = true := h
      unfold lGreat
      rw [Bool.or_eq_true]
      left
      rw [List.any_eq_true]
      exact ⟨i, List.mem_range.2 (by omega), hb⟩
    · refine Run.endR ⟨i + 1, ⟨by omega, by omega, fun j hj => ?_⟩, by omega, Wk.ofEnv (Wk.cons (.refl _) (Wk.cons (.int ?_) (Wk.cons (.refl _) Wk.done)))⟩
      · by_cases e : j < i
        · exact hp j e
        · obtain rfl : j = i := by omega
          exact h
      · rw [wrap_of (by omega) (by omega)]
        simp
  · have h1 : ¬ (i < l.length ∧ i < 61) := by simp at h; omega
    refine Run.exitR rfl rfl ?_
    conv => whnf
    refine ⟨rfl, ?_⟩
    refine Run.retP ?_
    conv => whnf
    refine ⟨rfl, Le.bool ?_⟩
    have : (List.range (min l.length 61)).any (fun i => bigStep (l.getD i default)) = false := by
      rw [List.any_eq_false]
      intro j hj
      rw [List.mem_range] at hj
      rw [hp j (by omega)]
      simp
    simp only [lGreat, this, Bool.false_or]
end Go.Proofs.Ytbpcjahjbkiofaa.Sp

set_option linter.unusedVariables false
namespace Go.Proofs.Ytbpcjahjbkiofaa.Sp
open Go Go.Proofs.Ytbpcjahjbkiofaa.AV Go.Proofs.Ytbpcjahjbkiofaa.Fn
set_option maxRecDepth 10000

def bigForm (f : Frm) : Bool := decide ((f.fields.length : Int) > 40)
def sGreat (s : Sch) (l : List Stp) : Bool := (List.range (min s.forms.length 41)).any (fun i => bigForm (s.forms.getD i default)) || (decide ((s.forms.length : Int) > 40) || lGreat l)

theorem l16_great (s : Sch) (l : List Stp) : AC P L16_great.id [.agg s.cells, encSs l] [] (.bool (sGreat s l)) [] := by
  refine L16_great.intro rfl (Goes.run ?_)
  conv => whnf
  refine ⟨rfl, ?_⟩
  refine Run.loopN (fun i : Nat => i ≤ s.forms.length ∧ i ≤ 41 ∧ ∀ j, j < i → bigForm (s.forms.getD j default) = false)
    (fun i => [(1, encSs l), (2, .ptr 0 0 0 0), (5, .int .i64 (i : Int))]) (fun _ => [.box s.cells]) (fun i => s.forms.length - i) 0 ⟨by omega, by omega, fun j hj => by omega⟩
    (Wk.ofEnv (Wk.cons (.refl _) (Wk.cons (.refl _) (Wk.cons (.refl _) Wk.done)))) fun i ⟨hi, h6, hp⟩ => ?_
  conv => whnf
  refine ⟨rfl, ?_⟩
  refine Run.condC rfl (fun h => ?_) (fun h => ?_) <;> (conv => whnf) <;> refine ⟨rfl, ?_⟩
  · have h1 : i < s.forms.length ∧ i < 41 := by simp at h; omega
    refine Run.iaC rfl rfl rfl rfl rfl (fun _ => ⟨by omega, by omega⟩) ?_
    conv => whnf
    refine ⟨rfl, ?_⟩
    refine Run.condC rfl (fun h => ?_) (fun h => ?_) <;> (conv => whnf) <;> refine ⟨rfl, ?_⟩
    · refine Run.retR ?_
      conv => whnf
      refine ⟨rfl, Le.tt ?_⟩
      have hb : bigForm (s.forms.getD i default) = true := h
      unfold sGreat
      rw [Bool.or_eq_true]
      left
      rw [List.any_eq_true]
      exact ⟨i, List.mem_range.2 (by omega), hb⟩
    · refine Run.endR ⟨i + 1, ⟨by omega, by omega, fun j hj => ?_⟩, by omega, Wk.ofEnv (Wk.cons (.refl _) (Wk.cons (.refl _) (Wk.cons (.int ?_) Wk.done)))⟩
      · by_cases e : j < i
        · exact hp j e
        · obtain rfl : j = i := by omega
          exact h
      · rw [wrap_of (by omega) (by omega)]
        simp
  · have h1 : ¬ (i < s.forms.length ∧ i < 41) := by simp at h; omega
    refine Run.exitR rfl rfl ?_
    conv => whnf
    refine ⟨rfl, ?_⟩
    refine Run.callC (av := [encSs l]) rfl rfl rfl (fun _ => r15_great l) rfl rfl ?_
    conv => whnf
    refine ⟨rfl, ?_⟩
    refine Run.retP ?_
    conv => whnf
    refine ⟨rfl, Le.bool ?_⟩
    have : (List.range (min s.forms.length 41)).any (fun i => bigForm (s.forms.getD i default)) = false := by
      rw [List.any_eq_false]
      intro j hj
      rw [List.mem_range] at hj
      rw [hp j (by omega)]
      simp
    simp only [sGreat, this, Bool.false_or]
end Go.Proofs.Ytbpcjahjbkiofaa.Sp

set_option linter.unusedVariables false
namespace Go.Proofs.Ytbpcjahjbkiofaa.Sp
open Go Go.Proofs.Ytbpcjahjbkiofaa.AV Go.Proofs.Ytbpcjahjbkiofaa.Fn
set_option maxRecDepth 10000

theorem sameForm_self (x : Frm) (hb : x.fields.length ≤ 1000) : AC P R13_SameForm.id [.agg x.cells, .agg x.cells] [] (.bool true) [] := by
  refine R13_SameForm.intro rfl (Goes.run ?_)
  conv => whnf
  refine ⟨rfl, ?_⟩
  refine Run.condC rfl (fun h => ?_) (fun h => ?_) <;> (conv => whnf) <;> refine ⟨rfl, ?_⟩
  · simp at h
  refine Run.loopN (fun i : Nat => i ≤ x.fields.length) (fun i => [(2, .ptr 0 0 0 0), (3, .ptr 1 0 0 0), (5, .int .i64 (i : Int))]) (fun _ => [.box x.cells, .box x.cells]) (fun i => x.fields.length - i) 0 (Nat.zero_le _)
    (Wk.ofEnv (Wk.cons (.refl _) (Wk.cons (.refl _) (Wk.cons (.refl _) Wk.done)))) fun i hi => ?_
  conv => whnf
  refine ⟨rfl, ?_⟩
  refine Run.condC rfl (fun h => ?_) (fun h => ?_) <;> (conv => whnf) <;> refine ⟨rfl, ?_⟩
  · have h1 : i < x.fields.length := by simpa using h
    refine Run.iaD rfl rfl rfl rfl rfl (fun _ => ⟨by omega, by omega⟩) rfl ?_
    conv => whnf
    refine ⟨rfl, ?_⟩
    refine Run.iaD rfl rfl rfl rfl rfl (fun _ => ⟨by omega, by omega⟩) rfl ?_
    conv => whnf
    refine ⟨rfl, ?_⟩
    refine Run.condC rfl (fun h => ?_) (fun h => ?_) <;> (conv => whnf) <;> refine ⟨rfl, ?_⟩
    · exfalso
      simp [negB] at h
    · refine Run.endR ⟨i + 1, by omega, by omega, Wk.ofEnv (Wk.cons (.refl _) (Wk.cons (.refl _) (Wk.cons (.int ?_) Wk.done)))⟩
      rw [wrap_of (by omega) (by omega)]
      simp
  · refine Run.exitR rfl rfl ?_
    conv => whnf
    refine ⟨rfl, ?_⟩
    refine Run.retP ?_
    conv => whnf
    exact ⟨rfl, .tt rfl⟩
end Go.Proofs.Ytbpcjahjbkiofaa.Sp

set_option linter.unusedVariables false
namespace Go.Proofs.Ytbpcjahjbkiofaa.Sp
open Go Go.Proofs.Ytbpcjahjbkiofaa.AV Go.Proofs.Ytbpcjahjbkiofaa.Fn
set_option maxRecDepth 10000

theorem same_self (s : Sch) (hs : Small s) : AC P R13_Same.id [.agg s.cells, .agg s.cells] [] (.bool true) [] := by
  obtain ⟨hb, hf⟩ := hs
  refine R13_Same.intro rfl (Goes.run ?_)
  conv => whnf
  refine ⟨rfl, ?_⟩
  refine Run.condC rfl (fun h => ?_) (fun h => ?_) <;> (conv => whnf) <;> refine ⟨rfl, ?_⟩
  · simp at h
  refine Run.loopN (fun i : Nat => i ≤ s.forms.length) (fun i => [(2, .ptr 0 0 0 0), (3, .ptr 1 0 0 0), (5, .int .i64 (i : Int))]) (fun _ => [.box s.cells, .box s.cells]) (fun i => s.forms.length - i) 0 (Nat.zero_le _)
    (Wk.ofEnv (Wk.cons (.refl _) (Wk.cons (.refl _) (Wk.cons (.refl _) Wk.done)))) fun i hi => ?_
  conv => whnf
  refine ⟨rfl, ?_⟩
  refine Run.condC rfl (fun h => ?_) (fun h => ?_) <;> (conv => whnf) <;> refine ⟨rfl, ?_⟩
  · have h1 : i < s.forms.length := by simpa using h
    refine Run.iaD rfl rfl rfl rfl rfl (fun _ => ⟨by omega, by omega⟩) rfl ?_
    conv => whnf
    refine ⟨rfl, ?_⟩
    refine Run.iaD rfl rfl rfl rfl rfl (fun _ => ⟨by omega, by omega⟩) rfl ?_
    conv => whnf
    refine ⟨rfl, ?_⟩
    refine Run.callD (av := [.agg (s.forms.getD i default).cells, .agg (s.forms.getD i default).cells]) rfl rfl rfl (fun _ => sameForm_self _ (hf i)) rfl rfl rfl ?_
    conv => whnf
    refine ⟨rfl, ?_⟩
    refine Run.condC rfl (fun h => ?_) (fun h => ?_) <;> (conv => whnf) <;> refine ⟨rfl, ?_⟩
    · exfalso
      simp at h
    · refine Run.endR ⟨i + 1, by omega, by omega, Wk.ofEnv (Wk.cons (.refl _) (Wk.cons (.refl _) (Wk.cons (.int ?_) Wk.done)))⟩
      rw [wrap_of (by omega) (by omega)]
      simp
  · refine Run.exitR rfl rfl ?_
    conv => whnf
    refine ⟨rfl, ?_⟩
    refine Run.retP ?_
    conv => whnf
    exact ⟨rfl, .tt rfl⟩
end Go.Proofs.Ytbpcjahjbkiofaa.Sp

set_option linter.unusedVariables false
set_option linter.unusedSimpArgs false
namespace Go.Proofs.Ytbpcjahjbkiofaa.Sp
open Go Go.Proofs.Ytbpcjahjbkiofaa.AV Go.Proofs.Ytbpcjahjbkiofaa.Fn
set_option maxRecDepth 10000

def s0 : Sch := ⟨1, [⟨0, [⟨0, 1, 0, 100, 0⟩]⟩]⟩
def t0 : Stp := ⟨6, 0, 0, 0, 1, 7, 0, ⟨0, 0, 0, 0, 0⟩, 0, ByteArray.empty, [], []⟩
def s1 : Sch := ⟨1, [⟨0, [⟨0, 1, 0, 14, 0⟩, ⟨1, 1, 0, 6, 0⟩]⟩]⟩
theorem on0 : tOn s0 t0 = (s1, 0) := by kernel_rfl
theorem s0_le : Le (.agg [.int .i64 1, .list 2 1 (nthL [[.int .i64 0, .list 5 1 (nthL [[.int .i64 0, .int .i64 1, .int .i64 0, .int .i64 100, .int .i64 0]])]])]) (.agg s0.cells) :=
  Le.agg (.cons (.refl _) (.cons (Le.list rfl fun k hk => by
    obtain rfl : k = 0 := by omega
    exact .cons (.refl _) (.cons (IsL.le (enc := Fld.cells) (IsL.one ⟨0, 1, 0, 100, 0⟩)) .nil)) .nil))
theorem t0_le : Le (.agg [.int .i64 6, .int .i64 0, .int .i64 0, .int .i64 0, .int .i64 1, .int .i64 7, .int .i64 0, .int .i64 0, .int .i64 0, .int .i64 0, .int .i64 0, .int .i64 0, .int .i64 0, .str { data := { toList := [] } }, .zsl, .zsl]) (.agg t0.cells) :=
  Le.agg (.cons (.refl _) (.cons (.refl _) (.cons (.refl _) (.cons (.refl _) (.cons (.refl _) (.cons (.refl _) (.cons (.refl _) (.cons (.refl _) (.cons (.refl _) (.cons (.refl _) (.cons (.refl _) (.cons (.refl _) (.cons (.refl _) (.cons (.refl _) (.cons (Le.zsl (by omega)) (.cons (Le.zsl (by omega)) .nil))))))))))))))))
theorem t0_wf : WfS t0 := by
  constructor <;> first | decide | (unfold inR; decide)
theorem l16_awake : AC P L16_awake.id [] [] (.bool true) [] := by
  refine L16_awake.intro rfl (Goes.run ?_)
  conv => whnf
  refine ⟨rfl, ?_⟩
  have hon := typing_on s0 t0 ⟨by decide, all_small (by decide)⟩ t0_wf (by decide) (by decide)
  rw [on0] at hon
  refine Run.callC (av := [.agg [.int .i64 1, .list 2 1 (nthL [[.int .i64 0, .list 5 1 (nthL [[.int .i64 0, .int .i64 1, .int .i64 0, .int .i64 100, .int .i64 0]])]])], .agg [.int .i64 6, .int .i64 0, .int .i64 0, .int .i64 0, .int .i64 1, .int .i64 7, .int .i64 0, .int .i64 0, .int .i64 0, .int .i64 0, .int .i64 0, .int .i64 0, .int .i64 0, .str { data := { toList := [] } }, .zsl, .zsl]]) rfl rfl rfl (fun _ => hon.le_args (.cons s0_le (.cons t0_le .nil))) rfl rfl ?_
  conv => whnf
  refine ⟨rfl, ?_⟩
  refine Run.iaC rfl rfl rfl rfl rfl (fun _ => ⟨by decide, by decide⟩) ?_
  conv => whnf
  refine ⟨rfl, ?_⟩
  refine Run.iaC rfl rfl rfl rfl rfl (fun _ => ⟨by decide, by decide⟩) ?_
  conv => whnf
  refine ⟨rfl, ?_⟩
  refine Run.iaC rfl rfl rfl rfl rfl (fun _ => ⟨by decide, by decide⟩) ?_
  conv => whnf
  refine ⟨rfl, ?_⟩
  refine Run.iaC rfl rfl rfl rfl rfl (fun _ => ⟨by decide, by decide⟩) ?_
  conv => whnf
  refine ⟨rfl, ?_⟩
  refine Run.iaC rfl rfl rfl rfl rfl (fun _ => ⟨by decide, by decide⟩) ?_
  conv => whnf
  refine ⟨rfl, ?_⟩
  refine Run.retP ?_
  conv => whnf
  exact ⟨rfl, .bool rfl⟩
end Go.Proofs.Ytbpcjahjbkiofaa.Sp

set_option linter.unusedVariables false
set_option linter.unusedSimpArgs false
namespace Go.Proofs.Ytbpcjahjbkiofaa.Sp
open Go Go.Proofs.Ytbpcjahjbkiofaa.AV Go.Proofs.Ytbpcjahjbkiofaa.Fn
set_option maxRecDepth 10000

theorem any_range {n : Nat} {f : Nat → Bool} (h : (List.range n).any f = false) : ∀ i, i < n → f i = false := fun i hi => by
  rw [List.any_eq_false] at h
  have := h i (List.mem_range.2 hi)
  simpa using this
/-- What is not great is small. -/
theorem great_small {s : Sch} {l : List Stp} (h : sGreat s l = false) : (s.forms.length ≤ 40 ∧ ∀ i, (s.forms.getD i default).fields.length ≤ 40) ∧ l.length ≤ 60 ∧ ∀ i, i < l.length → (l.getD i default).t.length ≤ 100 ∧ (l.getD i default).fields.length ≤ 40 := by
  simp only [sGreat, lGreat, Bool.or_eq_false_iff, decide_eq_false_iff_not] at h
  obtain ⟨h1, h2, h3, h4⟩ := h
  have h1 := any_range h1
  have h3 := any_range h3
  refine ⟨⟨by omega, fun i => ?_⟩, by omega, fun i hi => ?_⟩
  · by_cases hi : i < s.forms.length
    · have := h1 i (by omega)
      simp only [bigForm, decide_eq_false_iff_not] at this
      omega
    · rw [List.getD_eq_getElem?_getD, List.getElem?_eq_none (by omega)]
      exact Nat.zero_le _
  · have := h3 i (by omega)
    simp only [bigStep, Bool.or_eq_false_iff, decide_eq_false_iff_not] at this
    omega
theorem one_le (t : Stp) : Le (.list 16 1 (nthL [t.cells])) (encSs [t]) := IsL.le (enc := Stp.cells) (IsL.one t)

theorem tOn_small {s : Sch} {t : Stp} (hf : t.fields.length ≤ 100) : Small (tOn s t).1 := by
  have z : Small ⟨0, []⟩ := ⟨by simp, fun i => by simp; exact Nat.zero_le _⟩
  unfold tOn
  cases hb : badOn s t with
  | true => exact z
  | false =>
    have hb2 := hb
    simp only [badOn, Bool.or_eq_false_iff, Bool.not_eq_false', decide_eq_false_iff_not] at hb2
    obtain ⟨⟨⟨hsr, hst⟩, b1⟩, b2⟩ := hb2
    have := tForms_small (t := t) hsr hf
    simp only [cond_false]
    cases (thErr s.forms t != 0)
    · cases (t.op != 9 && (t.op != 10 && !chO (thFs s.forms t) t (thAt s.forms t 0).toNat))
      · cases (!sRight ⟨s.version, tForms s.forms t⟩)
        · exact this
        · exact z
      · exact z
    · exact z

theorem l16_TypingOn (s : Sch) (t : Stp) (hw : WfS t) : AC P L16_TypingOn.id [.agg s.cells, .agg t.cells] [] (.bool true) [] := by
  refine L16_TypingOn.intro rfl (Goes.run ?_)
  conv => whnf
  refine ⟨rfl, ?_⟩
  refine Run.callC (av := [.agg s.cells, .list 16 1 (nthL [t.cells])]) rfl rfl rfl (fun _ => (l16_great s [t]).le_args (.cons (.refl _) (.cons (one_le t) .nil))) rfl rfl ?_
  conv => whnf
  refine ⟨rfl, ?_⟩
  refine Run.condC rfl (fun hg => ?_) (fun hg => ?_) <;> (conv => whnf) <;> refine ⟨rfl, ?_⟩
  · refine Run.callC (av := []) rfl rfl rfl (fun _ => l16_awake) rfl rfl ?_
    conv => whnf
    refine ⟨rfl, ?_⟩
    refine Run.retP ?_
    conv => whnf
    exact ⟨rfl, .bool rfl⟩
  obtain ⟨⟨q1, q2⟩, q3, q4⟩ := great_small (show sGreat s [t] = false from hg)
  have q5 := q4 0 (by simp)
  have hsm : Small s := ⟨by omega, fun i => by have := q2 i; omega⟩
  have hl : t.t.length ≤ 1000000 := by have := q5.1; simp at this; omega
  have hfl : t.fields.length ≤ 100 := by have := q5.2; simp at this; omega
  have h1 := typing_on s t hsm hw hl hfl
  have h2 := r16_on s t hsm hl hfl
  have h3 := same_self (tOn s t).1 (tOn_small hfl)
  rw [on_eq] at h2
  generalize (tOn s t).1 = x at h1 h2 h3
  generalize (tOn s t).2 = e at h1 h2
  refine Run.callC (av := [.agg s.cells, .agg t.cells]) rfl rfl rfl (fun _ => h1) rfl rfl ?_
  conv => whnf
  refine ⟨rfl, ?_⟩
  refine Run.callC (av := [.agg s.cells, .agg t.cells]) rfl rfl rfl (fun _ => h2) rfl rfl ?_
  conv => whnf
  refine ⟨rfl, ?_⟩
  refine Run.callC (av := [.agg x.cells, .agg x.cells]) rfl rfl rfl (fun _ => h3) rfl rfl ?_
  conv => whnf
  refine ⟨rfl, ?_⟩
  refine Run.callC (av := []) rfl rfl rfl (fun _ => l16_awake) rfl rfl ?_
  conv => whnf
  refine ⟨rfl, ?_⟩
  refine Run.retP ?_
  conv => whnf
  exact ⟨rfl, .bool (by simp)⟩
end Go.Proofs.Ytbpcjahjbkiofaa.Sp

set_option linter.unusedVariables false
set_option linter.unusedSimpArgs false
namespace Go.Proofs.Ytbpcjahjbkiofaa.Sp
open Go Go.Proofs.Ytbpcjahjbkiofaa.AV Go.Proofs.Ytbpcjahjbkiofaa.Fn
set_option maxRecDepth 10000

/-- A schema copied, looked at as a value. -/
theorem copied_list (s : Sch) (hb : s.forms.length ≤ 1000) (hf : ∀ i, (s.forms.getD i default).fields.length ≤ 1000) :
    AC P typing_copied.id [.agg s.cells] [] (.agg s.cells) [] := by
  refine typing_copied.intro rfl (Goes.run ?_)
  conv => whnf
  refine ⟨rfl, ?_⟩
  refine Run.loopN (ι := Nat) (fun i => i ≤ s.forms.length) (fun i => [(1, .ptr 0 0 0 0), (2, .ptr 1 0 0 0), (3, .ptr 2 0 0 0), (10, encFms s.forms), (11, .int .i64 (s.forms.length : Int)), (12, .int .i64 (i : Int))])
    (fun i => [.box s.cells, .box [.int .i64 0, .zsl], .box [.int .i64 s.version, .row 2 3 i 0 i], .row 2 i i (frmF s.forms)])
    (fun i => s.forms.length - i) 0 (Nat.zero_le _) (Wk.trans (Wk.virt (b := 2) (nid := 3) (sz := 2) 1 (frmF s.forms) rfl rfl rfl rfl rfl) (Wk.ofEnv (Wk.cons (.refl _) (Wk.cons (.refl _) (Wk.cons (.refl _) (Wk.cons (.refl _) (Wk.cons (.refl _) (Wk.cons (.refl _) Wk.done)))))))) fun i hi => ?_
  conv => whnf
  refine ⟨rfl, ?_⟩
  refine Run.condC rfl (fun h => ?_) (fun h => ?_) <;> (conv => whnf) <;> refine ⟨rfl, ?_⟩
  · have hlt : i < s.forms.length := by simpa using h
    refine Run.iaC rfl rfl rfl rfl rfl (fun _ => ⟨by omega, by omega⟩) ?_
    conv => whnf
    refine ⟨rfl, ?_⟩
    refine Run.callD (av := [encFs (s.forms.getD i default).fields]) rfl rfl rfl (fun _ => clone_spec _ (by have := hf i; omega)) rfl rfl rfl ?_
    conv => whnf
    refine ⟨rfl, ?_⟩
    refine Run.appRD rfl rfl rfl rfl (by simp only [maxLen, List.length_cons, List.length_nil]; omega) (by simp only [List.length_cons, List.length_nil]; omega) rfl ?_
    conv => whnf
    refine ⟨rfl, ?_⟩
    refine Run.endR ⟨i + 1, by omega, by omega, Wk.trans (e2 := [(1, .ptr 0 0 0 0), (2, .ptr 1 0 0 0), (3, .ptr 2 0 0 0), (10, encFms s.forms), (11, .int .i64 (s.forms.length : Int)), (12, .int .i64 ((i + 1 : Nat) : Int))]) (Wk.cut 4 rfl rfl rfl rfl (Wk.cons (.refl _) (Wk.cons (.refl _) (Wk.cons (.refl _) (Wk.cons (.refl _) (Wk.cons (.refl _) (Wk.cons (.int ?_) Wk.done)))))) ) (Wk.tab fun k => ?_)⟩
    · rw [wrap_of (by omega) (by omega)]
      simp
    · match k with
      | 0 => exact LeOb.refl _
      | 1 => exact LeOb.refl _
      | 2 => exact LeOb.refl _
      | 3 =>
        refine ⟨rfl, rfl, rfl, fun k hk => leL_eq ?_⟩
        by_cases h1 : k < i
        · exact fapp_lt h1
        · obtain rfl : k = i := by
            have hk' : k < i + 1 := hk
            omega
          rw [fapp_ge (Nat.le_refl _), Nat.sub_self]
          rfl
      | k + 4 => exact .inl rfl
  · have hge : i = s.forms.length := by simp at h; omega
    refine Run.exitR rfl rfl ?_
    conv => whnf
    refine ⟨rfl, ?_⟩
    refine Run.retS ?_
    conv => whnf
    subst hge
    exact FinS.aggF (j := 3) rfl rfl rfl rfl (Le.agg (.cons (.refl _) (.cons (Le.list rfl fun k hk => leL_eq (by rw [Nat.zero_add]; rfl)) .nil)))

/-- The schema after the first steps. -/
def aSt (s : Sch) (l : List Stp) : Nat → Sch
  | 0 => s
  | i + 1 => (tOn (aSt s l i) (l.getD i default)).1
def aErr (s : Sch) (l : List Stp) (i : Nat) : Int := (tOn (aSt s l i) (l.getD i default)).2
def allOn (s : Sch) (l : List Stp) : Sch × Int × Int :=
  match (List.range l.length).find? (fun i => aErr s l i != 0) with
  | some i => (⟨0, []⟩, i, aErr s l i)
  | none => (aSt s l l.length, 0, 0)
theorem allOn_err {s : Sch} {l : List Stp} {i : Nat} (hi : i < l.length) (hp : ∀ j, j < i → aErr s l j = 0) (h : aErr s l i ≠ 0) : allOn s l = ((⟨0, []⟩ : Sch), (i : Int), aErr s l i) := by
  have : (List.range l.length).find? (fun i => aErr s l i != 0) = some i := by
    rw [List.find?_range_eq_some]
    refine ⟨by simpa using h, List.mem_range.2 hi, fun j hj => by simpa using hp j hj⟩
  rw [allOn, this]
theorem allOn_ok {s : Sch} {l : List Stp} (hp : ∀ j, j < l.length → aErr s l j = 0) : allOn s l = (aSt s l l.length, 0, 0) := by
  have : (List.range l.length).find? (fun i => aErr s l i != 0) = none := by
    rw [List.find?_range_eq_none]
    intro j hj
    simpa using hp j hj
  rw [allOn, this]

structure WayOk (l : List Stp) : Prop where
  len : l.length ≤ 1000
  wf : ∀ i, i < l.length → WfS (l.getD i default)
  tab : ∀ i, i < l.length → (l.getD i default).t.length ≤ 1000000
  flds : ∀ i, i < l.length → (l.getD i default).fields.length ≤ 100
theorem aSt_small {s : Sch} {l : List Stp} (hs : Small s) (hl : WayOk l) : ∀ i, i ≤ l.length → Small (aSt s l i)
  | 0, _ => hs
  | i + 1, hi => tOn_small (hl.flds i (by omega))

theorem typing_all (s : Sch) (l : List Stp) (hs : Small s) (hl : WayOk l) :
    AC P typing_All.id [.agg s.cells, encSs l] [] (.tuple [.agg (allOn s l).1.cells, .int .i64 (allOn s l).2.1, .int .i64 (allOn s l).2.2]) [] := by
  have hll := hl.len
  refine typing_All.intro rfl (Goes.run ?_)
  conv => whnf
  refine ⟨rfl, ?_⟩
  refine Run.callC (av := [.agg s.cells]) rfl rfl rfl (fun _ => copied_list s hs.1 hs.2) rfl rfl ?_
  conv => whnf
  refine ⟨rfl, ?_⟩
  refine Run.loopN (ι := Nat) (fun i => i ≤ l.length ∧ ∀ j, j < i → aErr s l j = 0) (fun i => [(2, .ptr 0 0 0 0), (4, .ptr 1 0 0 0), (7, .ptr 2 0 0 0), (14, encSs l), (15, .int .i64 (l.length : Int)), (16, .int .i64 (i : Int))])
    (fun i => [.box s.cells, .box [.int .i64 0, .zsl], .box (aSt s l i).cells, .dead]) (fun i => l.length - i) 0 ⟨Nat.zero_le _, fun j hj => absurd hj (Nat.not_lt_zero _)⟩
    (Wk.trans (Wk.pad 4) (Wk.ofEnv (Wk.cons (.refl _) (Wk.cons (.refl _) (Wk.cons (.refl _) (Wk.cons (.refl _) (Wk.cons (.refl _) (Wk.cons (.refl _) Wk.done)))))))) fun i ⟨hi, hp⟩ => ?_
  conv => whnf
  refine ⟨rfl, ?_⟩
  refine Run.condC rfl (fun h => ?_) (fun h => ?_) <;> (conv => whnf) <;> refine ⟨rfl, ?_⟩
  · have hlt : i < l.length := by simpa using h
    have hsm := aSt_small hs hl i hi
    have hon := typing_on (aSt s l i) (l.getD i default) hsm (hl.wf i hlt) (hl.tab i hlt) (hl.flds i hlt)
    have hst : aSt s l (i + 1) = (tOn (aSt s l i) (l.getD i default)).1 := rfl
    have her : aErr s l i = (tOn (aSt s l i) (l.getD i default)).2 := rfl
    generalize (tOn (aSt s l i) (l.getD i default)).1 = x at hon hst
    generalize (tOn (aSt s l i) (l.getD i default)).2 = e at hon her
    refine Run.iaC rfl rfl rfl rfl rfl (fun _ => ⟨by omega, by omega⟩) ?_
    conv => whnf
    refine ⟨rfl, ?_⟩
    refine Run.callC (av := [.agg (aSt s l i).cells, .agg (l.getD i default).cells]) rfl rfl rfl (fun _ => hon) rfl rfl ?_
    conv => whnf
    refine ⟨rfl, ?_⟩
    refine Run.condC rfl (fun he => ?_) (fun he => ?_) <;> (conv => whnf) <;> refine ⟨rfl, ?_⟩
    · refine Run.retZR ?_
      conv => whnf
      rw [allOn_err hlt hp (by rw [her]; simpa using he), her]
      exact ⟨rfl, Le.tuple (.cons zsch (.cons (.refl _) (.cons (.refl _) .nil)))⟩
    · refine Run.endR ⟨i + 1, ⟨by omega, fun j hj => ?_⟩, by omega, Wk.trans (e2 := [(2, .ptr 0 0 0 0), (4, .ptr 1 0 0 0), (7, .ptr 2 0 0 0), (14, encSs l), (15, .int .i64 (l.length : Int)), (16, .int .i64 ((i + 1 : Nat) : Int))]) (Wk.cut 4 rfl rfl rfl rfl (Wk.cons (.refl _) (Wk.cons (.refl _) (Wk.cons (.refl _) (Wk.cons (.refl _) (Wk.cons (.refl _) (Wk.cons (.int ?_) Wk.done))))))) (Wk.tab fun k => ?_)⟩
      · by_cases e1 : j < i
        · exact hp j e1
        · obtain rfl : j = i := by omega
          rw [her]
          simpa using he
      · rw [wrap_of (by omega) (by omega)]
        simp
      · rw [hst]
        exact LeOb.refl _
  · have hge : i = l.length := by simp at h; omega
    subst hge
    refine Run.exitR rfl rfl ?_
    conv => whnf
    refine ⟨rfl, ?_⟩
    refine Run.retZ ?_
    conv => whnf
    rw [allOn_ok hp]
    exact ⟨rfl, .refl _⟩

theorem r16_all (s : Sch) (l : List Stp) (hs : Small s) (hl : WayOk l) :
    AC P R16_All.id [.agg s.cells, encSs l] [] (.tuple [.agg (allOn s l).1.cells, .int .i64 (allOn s l).2.1, .int .i64 (allOn s l).2.2]) [] := by
  have hll := hl.len
  refine R16_All.intro rfl (Goes.run ?_)
  conv => whnf
  refine ⟨rfl, ?_⟩
  refine Run.loopN (ι := Nat) (fun i => i ≤ l.length ∧ ∀ j, j < i → aErr s l j = 0) (fun i => [(1, encSs l), (2, .ptr 0 0 0 0), (4, .ptr 1 0 0 0), (7, .int .i64 (i : Int))])
    (fun i => [.box (aSt s l i).cells, .box [.int .i64 0, .zsl], .dead, .dead]) (fun i => l.length - i) 0 ⟨Nat.zero_le _, fun j hj => absurd hj (Nat.not_lt_zero _)⟩
    (Wk.trans (Wk.pad 4) (Wk.ofEnv (Wk.cons (.refl _) (Wk.cons (.refl _) (Wk.cons (.refl _) (Wk.cons (.refl _) Wk.done)))))) fun i ⟨hi, hp⟩ => ?_
  conv => whnf
  refine ⟨rfl, ?_⟩
  refine Run.condC rfl (fun h => ?_) (fun h => ?_) <;> (conv => whnf) <;> refine ⟨rfl, ?_⟩
  · have hlt : i < l.length := by simpa using h
    have hsm := aSt_small hs hl i hi
    have hon := r16_on (aSt s l i) (l.getD i default) hsm (hl.tab i hlt) (hl.flds i hlt)
    rw [on_eq] at hon
    have hst : aSt s l (i + 1) = (tOn (aSt s l i) (l.getD i default)).1 := rfl
    have her : aErr s l i = (tOn (aSt s l i) (l.getD i default)).2 := rfl
    generalize (tOn (aSt s l i) (l.getD i default)).1 = x at hon hst
    generalize (tOn (aSt s l i) (l.getD i default)).2 = e at hon her
    refine Run.iaD rfl rfl rfl rfl rfl (fun _ => ⟨by omega, by omega⟩) rfl ?_
    conv => whnf
    refine ⟨rfl, ?_⟩
    refine Run.callD (av := [.agg (aSt s l i).cells, .agg (l.getD i default).cells]) rfl rfl rfl (fun _ => hon) rfl rfl rfl ?_
    conv => whnf
    refine ⟨rfl, ?_⟩
    refine Run.condC rfl (fun he => ?_) (fun he => ?_) <;> (conv => whnf) <;> refine ⟨rfl, ?_⟩
    · refine Run.retZR ?_
      conv => whnf
      rw [allOn_err hlt hp (by rw [her]; simpa using he), her]
      exact ⟨rfl, Le.tuple (.cons zsch (.cons (.refl _) (.cons (.refl _) .nil)))⟩
    · refine Run.endR ⟨i + 1, ⟨by omega, fun j hj => ?_⟩, by omega, Wk.trans (e2 := [(1, encSs l), (2, .ptr 0 0 0 0), (4, .ptr 1 0 0 0), (7, .int .i64 ((i + 1 : Nat) : Int))]) (Wk.cut 4 rfl rfl rfl rfl (Wk.cons (.refl _) (Wk.cons (.refl _) (Wk.cons (.refl _) (Wk.cons (.int ?_) Wk.done))))) (Wk.tab fun k => ?_)⟩
      · by_cases e1 : j < i
        · exact hp j e1
        · obtain rfl : j = i := by omega
          rw [her]
          simpa using he
      · rw [wrap_of (by omega) (by omega)]
        simp
      · rw [hst]
        exact LeOb.refl _
  · have hge : i = l.length := by simp at h; omega
    subst hge
    refine Run.exitR rfl rfl ?_
    conv => whnf
    refine ⟨rfl, ?_⟩
    refine Run.retZ ?_
    conv => whnf
    rw [allOn_ok hp]
    exact ⟨rfl, .refl _⟩
end Go.Proofs.Ytbpcjahjbkiofaa.Sp

