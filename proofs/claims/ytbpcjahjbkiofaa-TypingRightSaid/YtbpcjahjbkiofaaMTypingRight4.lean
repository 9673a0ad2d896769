/- Part 5 of the proof of TypingRight: S18, S19, S2, S20, S49, S3, S4, S5, S6, S7, S8, S9, S10, S27, S28, S29, S30, S11, S12, S31, S32, S33, S21, S22, S23, S24, S25, S26, S34, S35, S36. -/
import Derived.Test.YtbpcjahjbkiofaaMTypingRight3
set_option linter.unusedVariables false
namespace Go.Proofs.Ytbpcjahjbkiofaa.Sp
open Go Go.Proofs.Ytbpcjahjbkiofaa.AV Go.Proofs.Ytbpcjahjbkiofaa.Fn
set_option maxRecDepth 10000

theorem ovl_of {f : FuncId} {fn : Func} {tS e sz : Nat} {rt : Array TypeId} (h1 : P.funcs[f]? = some fn) (h2 : (fn.name == "runtime.NumGoroutine") = false) (h3 : fn.body.isNone = true) (h4 : Extern.findNext fn = none) (h5 : Extern.find fn = some (Extern.SlicesOverlaps.overlaps #[tS, tS] rt)) (h6 : P.underlying tS = some (.slice e)) (h7 : (P.info? e).map (·.size) = some sz) : OvlOK P f sz := by
  obtain ⟨ti, hi, hs⟩ := Option.map_eq_some_iff.1 h7
  exact ⟨⟨fn, tS, e, ti, rt, h1, h2, h3, h4, h5, h6, hi, hs⟩⟩

theorem ovl_frm : OvlOK P 97 2 := ovl_of Try.func97 (by kernel_rfl) (by kernel_rfl) (by kernel_rfl) (rt := #[4]) (tS := 22) (by kernel_rfl) Try.underlying22 (by kernel_rfl)
theorem ovl_fld : OvlOK P 133 5 := ovl_of Try.func133 (by kernel_rfl) (by kernel_rfl) (by kernel_rfl) (rt := #[4]) (tS := 30) (by kernel_rfl) Try.underlying30 (by kernel_rfl)

/-- With m elements g from i on. -/
def insF (i m : Nat) (g f : Nat → List AV) : Nat → List AV := fun k => if k < i then f k else if k < i + m then g (k - i) else f (k - m)

theorem insert_frm {n i m : Nat} {f g : Nat → List AV} (hi : i ≤ n) (hm : 1 ≤ m) (hn : n ≤ 1000000) (hm2 : m ≤ 1000000) :
    AC P slices_Insert_api_Form_api_Form.id [.row 2 0 0 0 n, .int .i64 i, .list 2 m g] [.row 2 n 0 f] (.row 2 0 2 0 (n + m)) [.row 2 (n + m) 2 (insF i m g f)] := by
  refine slices_Insert_api_Form_api_Form.intro rfl (Goes.run ?_)
  conv => whnf
  refine ⟨rfl, ?_⟩
  rcases Nat.lt_or_ge i n with hin | hin
  · refine Run.doesC rfl rfl (fun _ => Does.slRX (i := i) (j := n) rfl rfl rfl rfl rfl rfl rfl (.inl hin) hi (by omega)) ?_
    conv => whnf
    refine ⟨rfl, ?_⟩
    refine Run.condC rfl (fun h => ?_) (fun h => ?_) <;> (conv => whnf) <;> refine ⟨rfl, ?_⟩
    · exfalso; simp at h; omega
    refine Run.condC rfl (fun h => ?_) (fun h => ?_) <;> (conv => whnf) <;> refine ⟨rfl, ?_⟩
    · exfalso; simp at h; omega
    refine Run.capO 0 1 rfl rfl fun C hC hCm => ?_
    conv => whnf
    refine ⟨rfl, ?_⟩
    refine Run.doesC rfl rfl (fun _ => Does.cap (cid := 1) (C := C) rfl rfl rfl rfl) ?_
    conv => whnf
    refine ⟨rfl, ?_⟩
    have hw : IntKind.i64.wrap ((n : Int) + (m : Int)) = ((n + m : Nat) : Int) := by rw [wrap_of (by omega) (by omega)]; omega
    refine Run.condC rfl (fun h => ?_) (fun h => ?_) <;> (conv => whnf) <;> refine ⟨rfl, ?_⟩
    · have hlt : C < n + m := by rw [hw] at h; simp at h; omega
      refine Run.doesC rfl rfl (fun _ => Does.slRX (i := 0) (j := i) rfl rfl rfl rfl rfl rfl rfl (.inr rfl) (Nat.zero_le _) (by omega)) ?_
      conv => whnf
      refine ⟨rfl, ?_⟩
      refine Run.doesT (id := 2) rfl (Does.appzNew (nid := 2) (cid := 1) (C := C) (m := n + m - i) rfl rfl rfl rfl rfl rfl ?_ (by omega) (by omega) (by simp only [maxLen]; omega) (by omega)) ?_
      · rw [hw, wrap_of (by omega) (by omega)]; omega
      conv => whnf
      refine ⟨rfl, ?_⟩
      refine Run.doesC rfl rfl (fun _ => Does.slRX (i := i) (j := n + m) rfl rfl rfl rfl rfl rfl ?_ (.inl (by omega)) (by omega) (by omega)) ?_
      · show ((i - 0 + (n + m - i) : Nat) : Int) = _; omega
      conv => whnf
      refine ⟨rfl, ?_⟩
      refine Run.doesT (id := 2) rfl (Does.copy rfl rfl rfl (by omega) rfl) ?_
      conv => whnf
      refine ⟨rfl, ?_⟩
      have hw2 : IntKind.i64.wrap ((i : Int) + (m : Int)) = ((i + m : Nat) : Int) := by rw [wrap_of (by omega) (by omega)]; omega
      refine Run.slXD (i := i + m) (j := n + m) rfl rfl rfl rfl rfl rfl hw2 ?_ (.inl (by omega)) (by omega) (by omega) rfl ?_
      · show ((i - 0 + (n + m - i) : Nat) : Int) = _; omega
      conv => whnf
      refine ⟨rfl, ?_⟩
      refine Run.slXD (i := i) (j := n) rfl rfl rfl rfl rfl rfl rfl rfl (.inl hin) hi (by omega) rfl ?_
      conv => whnf
      refine ⟨rfl, ?_⟩
      refine Run.copyD rfl rfl rfl rfl (by omega) rfl rfl ?_
      conv => whnf
      refine ⟨rfl, ?_⟩
      refine Run.retS ?_
      conv => whnf
      rw [show i - 0 + (n + m - i) = n + m by omega]
      refine FinS.row (j := 2) rfl rfl rfl (by omega) fun k hk => leL_eq ?_
      simp only [fput, insF, fext]
      (repeat' split) <;> first | (exfalso; omega) | (rw [fapp_lt (by omega)]; first | rfl | exact if_pos (by omega)) | exact congrArg g (by omega) | exact congrArg f (by omega)
    · have hge : n + m ≤ C := by rw [hw] at h; simp at h; omega
      have hw2 : IntKind.i64.wrap ((i : Int) + (m : Int)) = ((i + m : Nat) : Int) := by rw [wrap_of (by omega) (by omega)]; omega
      refine Run.doesC rfl rfl (fun _ => Does.slRX (i := 0) (j := n + m) rfl rfl rfl rfl rfl rfl hw (.inr rfl) (Nat.zero_le _) (by omega)) ?_
      conv => whnf
      refine ⟨rfl, ?_⟩
      refine Run.doesC rfl rfl (fun _ => Does.slRX (i := i + m) (j := n + m) rfl rfl rfl rfl rfl hw2 rfl (.inl (by omega)) (by omega) (by omega)) ?_
      conv => whnf
      refine ⟨rfl, ?_⟩
      refine Run.doesC rfl rfl (fun _ => (Does.ovlLR ovl_frm rfl rfl rfl rfl).1) ?_
      conv => whnf
      refine ⟨rfl, ?_⟩
      refine Run.slXD (i := i + m) (j := n + m) rfl rfl rfl rfl rfl rfl hw2 rfl (.inl (by omega)) (by omega) (by omega) rfl ?_
      conv => whnf
      refine ⟨rfl, ?_⟩
      refine Run.slXD (i := i) (j := n + m) rfl rfl rfl rfl rfl rfl rfl rfl (.inl (by omega)) (by omega) (by omega) rfl ?_
      conv => whnf
      refine ⟨rfl, ?_⟩
      refine Run.copyD rfl rfl rfl rfl (by omega) rfl rfl ?_
      conv => whnf
      refine ⟨rfl, ?_⟩
      refine Run.doesC rfl rfl (fun _ => Does.slRX (i := i) (j := n + m) rfl rfl rfl rfl rfl rfl rfl (.inl (by omega)) (by omega) (by omega)) ?_
      conv => whnf
      refine ⟨rfl, ?_⟩
      refine Run.doesT (id := 0) rfl (Does.copy rfl rfl rfl (by omega) rfl) ?_
      conv => whnf
      refine ⟨rfl, ?_⟩
      refine Run.retS ?_
      conv => whnf
      rw [show n + m - 0 = n + m by omega]
      refine FinS.row (j := 0) rfl rfl rfl (by omega) fun k hk => leL_eq ?_
      simp only [fput, insF, fext]
      (repeat' split) <;> first | (exfalso; omega) | rfl | exact congrArg g (by omega) | exact congrArg f (by omega)
  · obtain rfl : i = n := by omega
    refine Run.doesC rfl rfl (fun _ => Does.slRE (i := i) (j := i) rfl rfl rfl rfl rfl rfl rfl rfl (by omega)) ?_
    conv => whnf
    refine ⟨rfl, ?_⟩
    refine Run.condC rfl (fun h => ?_) (fun h => ?_) <;> (conv => whnf) <;> refine ⟨rfl, ?_⟩
    · exfalso; simp at h; omega
    refine Run.condC rfl (fun h => ?_) (fun h => ?_) <;> (conv => whnf) <;> refine ⟨rfl, ?_⟩
    · refine Run.doesT (id := 0) rfl (Does.appR rfl rfl rfl (by simp only [maxLen]; omega) (by omega)) ?_
      conv => whnf
      refine ⟨rfl, ?_⟩
      refine Run.retS ?_
      conv => whnf
      refine FinS.row (j := 0) rfl rfl rfl (Nat.le_refl _) fun k hk => leL_eq ?_
      unfold insF
      by_cases h1 : k < i
      · rw [if_pos h1, fapp_lt h1]
      · rw [if_neg h1, if_pos (by omega), fapp_ge (by omega)]
    · exfalso; simp at h

theorem insert_fld {n i m : Nat} {f g : Nat → List AV} (hi : i ≤ n) (hm : 1 ≤ m) (hn : n ≤ 1000000) (hm2 : m ≤ 1000000) :
    AC P slices_Insert_api_Field_api_Field.id [.row 5 0 0 0 n, .int .i64 i, .list 5 m g] [.row 5 n 0 f] (.row 5 0 2 0 (n + m)) [.row 5 (n + m) 2 (insF i m g f)] := by
  refine slices_Insert_api_Field_api_Field.intro rfl (Goes.run ?_)
  conv => whnf
  refine ⟨rfl, ?_⟩
  rcases Nat.lt_or_ge i n with hin | hin
  · refine Run.doesC rfl rfl (fun _ => Does.slRX (i := i) (j := n) rfl rfl rfl rfl rfl rfl rfl (.inl hin) hi (by omega)) ?_
    conv => whnf
    refine ⟨rfl, ?_⟩
    refine Run.condC rfl (fun h => ?_) (fun h => ?_) <;> (conv => whnf) <;> refine ⟨rfl, ?_⟩
    · exfalso; simp at h; omega
    refine Run.condC rfl (fun h => ?_) (fun h => ?_) <;> (conv => whnf) <;> refine ⟨rfl, ?_⟩
    · exfalso; simp at h; omega
    refine Run.capO 0 1 rfl rfl fun C hC hCm => ?_
    conv => whnf
    refine ⟨rfl, ?_⟩
    refine Run.doesC rfl rfl (fun _ => Does.cap (cid := 1) (C := C) rfl rfl rfl rfl) ?_
    conv => whnf
    refine ⟨rfl, ?_⟩
    have hw : IntKind.i64.wrap ((n : Int) + (m : Int)) = ((n + m : Nat) : Int) := by rw [wrap_of (by omega) (by omega)]; omega
    refine Run.condC rfl (fun h => ?_) (fun h => ?_) <;> (conv => whnf) <;> refine ⟨rfl, ?_⟩
    · have hlt : C < n + m := by rw [hw] at h; simp at h; omega
      refine Run.doesC rfl rfl (fun _ => Does.slRX (i := 0) (j := i) rfl rfl rfl rfl rfl rfl rfl (.inr rfl) (Nat.zero_le _) (by omega)) ?_
      conv => whnf
      refine ⟨rfl, ?_⟩
      refine Run.doesT (id := 2) rfl (Does.appzNew (nid := 2) (cid := 1) (C := C) (m := n + m - i) rfl rfl rfl rfl rfl rfl ?_ (by omega) (by omega) (by simp only [maxLen]; omega) (by omega)) ?_
      · rw [hw, wrap_of (by omega) (by omega)]; omega
      conv => whnf
      refine ⟨rfl, ?_⟩
      refine Run.doesC rfl rfl (fun _ => Does.slRX (i := i) (j := n + m) rfl rfl rfl rfl rfl rfl ?_ (.inl (by omega)) (by omega) (by omega)) ?_
      · show ((i - 0 + (n + m - i) : Nat) : Int) = _; omega
      conv => whnf
      refine ⟨rfl, ?_⟩
      refine Run.doesT (id := 2) rfl (Does.copy rfl rfl rfl (by omega) rfl) ?_
      conv => whnf
      refine ⟨rfl, ?_⟩
      have hw2 : IntKind.i64.wrap ((i : Int) + (m : Int)) = ((i + m : Nat) : Int) := by rw [wrap_of (by omega) (by omega)]; omega
      refine Run.slXD (i := i + m) (j := n + m) rfl rfl rfl rfl rfl rfl hw2 ?_ (.inl (by omega)) (by omega) (by omega) rfl ?_
      · show ((i - 0 + (n + m - i) : Nat) : Int) = _; omega
      conv => whnf
      refine ⟨rfl, ?_⟩
      refine Run.slXD (i := i) (j := n) rfl rfl rfl rfl rfl rfl rfl rfl (.inl hin) hi (by omega) rfl ?_
      conv => whnf
      refine ⟨rfl, ?_⟩
      refine Run.copyD rfl rfl rfl rfl (by omega) rfl rfl ?_
      conv => whnf
      refine ⟨rfl, ?_⟩
      refine Run.retS ?_
      conv => whnf
      rw [show i - 0 + (n + m - i) = n + m by omega]
      refine FinS.row (j := 2) rfl rfl rfl (by omega) fun k hk => leL_eq ?_
      simp only [fput, insF, fext]
      (repeat' split) <;> first | (exfalso; omega) | (rw [fapp_lt (by omega)]; first | rfl | exact if_pos (by omega)) | exact congrArg g (by omega) | exact congrArg f (by omega)
    · have hge : n + m ≤ C := by rw [hw] at h; simp at h; omega
      have hw2 : IntKind.i64.wrap ((i : Int) + (m : Int)) = ((i + m : Nat) : Int) := by rw [wrap_of (by omega) (by omega)]; omega
      refine Run.doesC rfl rfl (fun _ => Does.slRX (i := 0) (j := n + m) rfl rfl rfl rfl rfl rfl hw (.inr rfl) (Nat.zero_le _) (by omega)) ?_
      conv => whnf
      refine ⟨rfl, ?_⟩
      refine Run.doesC rfl rfl (fun _ => Does.slRX (i := i + m) (j := n + m) rfl rfl rfl rfl rfl hw2 rfl (.inl (by omega)) (by omega) (by omega)) ?_
      conv => whnf
      refine ⟨rfl, ?_⟩
      refine Run.doesC rfl rfl (fun _ => (Does.ovlLR ovl_fld rfl rfl rfl rfl).1) ?_
      conv => whnf
      refine ⟨rfl, ?_⟩
      refine Run.slXD (i := i + m) (j := n + m) rfl rfl rfl rfl rfl rfl hw2 rfl (.inl (by omega)) (by omega) (by omega) rfl ?_
      conv => whnf
      refine ⟨rfl, ?_⟩
      refine Run.slXD (i := i) (j := n + m) rfl rfl rfl rfl rfl rfl rfl rfl (.inl (by omega)) (by omega) (by omega) rfl ?_
      conv => whnf
      refine ⟨rfl, ?_⟩
      refine Run.copyD rfl rfl rfl rfl (by omega) rfl rfl ?_
      conv => whnf
      refine ⟨rfl, ?_⟩
      refine Run.doesC rfl rfl (fun _ => Does.slRX (i := i) (j := n + m) rfl rfl rfl rfl rfl rfl rfl (.inl (by omega)) (by omega) (by omega)) ?_
      conv => whnf
      refine ⟨rfl, ?_⟩
      refine Run.doesT (id := 0) rfl (Does.copy rfl rfl rfl (by omega) rfl) ?_
      conv => whnf
      refine ⟨rfl, ?_⟩
      refine Run.retS ?_
      conv => whnf
      rw [show n + m - 0 = n + m by omega]
      refine FinS.row (j := 0) rfl rfl rfl (by omega) fun k hk => leL_eq ?_
      simp only [fput, insF, fext]
      (repeat' split) <;> first | (exfalso; omega) | rfl | exact congrArg g (by omega) | exact congrArg f (by omega)
  · obtain rfl : i = n := by omega
    refine Run.doesC rfl rfl (fun _ => Does.slRE (i := i) (j := i) rfl rfl rfl rfl rfl rfl rfl rfl (by omega)) ?_
    conv => whnf
    refine ⟨rfl, ?_⟩
    refine Run.condC rfl (fun h => ?_) (fun h => ?_) <;> (conv => whnf) <;> refine ⟨rfl, ?_⟩
    · exfalso; simp at h; omega
    refine Run.condC rfl (fun h => ?_) (fun h => ?_) <;> (conv => whnf) <;> refine ⟨rfl, ?_⟩
    · refine Run.doesT (id := 0) rfl (Does.appR rfl rfl rfl (by simp only [maxLen]; omega) (by omega)) ?_
      conv => whnf
      refine ⟨rfl, ?_⟩
      refine Run.retS ?_
      conv => whnf
      refine FinS.row (j := 0) rfl rfl rfl (Nat.le_refl _) fun k hk => leL_eq ?_
      unfold insF
      by_cases h1 : k < i
      · rw [if_pos h1, fapp_lt h1]
      · rw [if_neg h1, if_pos (by omega), fapp_ge (by omega)]
    · exfalso; simp at h

theorem insert_fld1 {n i m : Nat} {f g : Nat → List AV} (hi : i ≤ n) (hm : 1 ≤ m) (hn : n ≤ 1000000) (hm2 : m ≤ 1000000) :
    AC P slices_Insert_api_Field_api_Field.id [.row 5 0 1 0 n, .int .i64 i, .list 5 m g] [.row 5 n 1 f] (.row 5 0 3 0 (n + m)) [.row 5 (n + m) 3 (insF i m g f)] := by
  refine slices_Insert_api_Field_api_Field.intro rfl (Goes.run ?_)
  conv => whnf
  refine ⟨rfl, ?_⟩
  rcases Nat.lt_or_ge i n with hin | hin
  · refine Run.doesC rfl rfl (fun _ => Does.slRX (i := i) (j := n) rfl rfl rfl rfl rfl rfl rfl (.inl hin) hi (by omega)) ?_
    conv => whnf
    refine ⟨rfl, ?_⟩
    refine Run.condC rfl (fun h => ?_) (fun h => ?_) <;> (conv => whnf) <;> refine ⟨rfl, ?_⟩
    · exfalso; simp at h; omega
    refine Run.condC rfl (fun h => ?_) (fun h => ?_) <;> (conv => whnf) <;> refine ⟨rfl, ?_⟩
    · exfalso; simp at h; omega
    refine Run.capO 0 1 rfl rfl fun C hC hCm => ?_
    conv => whnf
    refine ⟨rfl, ?_⟩
    refine Run.doesC rfl rfl (fun _ => Does.cap (cid := 1) (C := C) rfl rfl rfl rfl) ?_
    conv => whnf
    refine ⟨rfl, ?_⟩
    have hw : IntKind.i64.wrap ((n : Int) + (m : Int)) = ((n + m : Nat) : Int) := by rw [wrap_of (by omega) (by omega)]; omega
    refine Run.condC rfl (fun h => ?_) (fun h => ?_) <;> (conv => whnf) <;> refine ⟨rfl, ?_⟩
    · have hlt : C < n + m := by rw [hw] at h; simp at h; omega
      refine Run.doesC rfl rfl (fun _ => Does.slRX (i := 0) (j := i) rfl rfl rfl rfl rfl rfl rfl (.inr rfl) (Nat.zero_le _) (by omega)) ?_
      conv => whnf
      refine ⟨rfl, ?_⟩
      refine Run.doesT (id := 2) rfl (Does.appzNew (nid := 2) (cid := 1) (C := C) (m := n + m - i) rfl rfl rfl rfl rfl rfl ?_ (by omega) (by omega) (by simp only [maxLen]; omega) (by omega)) ?_
      · rw [hw, wrap_of (by omega) (by omega)]; omega
      conv => whnf
      refine ⟨rfl, ?_⟩
      refine Run.doesC rfl rfl (fun _ => Does.slRX (i := i) (j := n + m) rfl rfl rfl rfl rfl rfl ?_ (.inl (by omega)) (by omega) (by omega)) ?_
      · show ((i - 0 + (n + m - i) : Nat) : Int) = _; omega
      conv => whnf
      refine ⟨rfl, ?_⟩
      refine Run.doesT (id := 2) rfl (Does.copy rfl rfl rfl (by omega) rfl) ?_
      conv => whnf
      refine ⟨rfl, ?_⟩
      have hw2 : IntKind.i64.wrap ((i : Int) + (m : Int)) = ((i + m : Nat) : Int) := by rw [wrap_of (by omega) (by omega)]; omega
      refine Run.slXD (i := i + m) (j := n + m) rfl rfl rfl rfl rfl rfl hw2 ?_ (.inl (by omega)) (by omega) (by omega) rfl ?_
      · show ((i - 0 + (n + m - i) : Nat) : Int) = _; omega
      conv => whnf
      refine ⟨rfl, ?_⟩
      refine Run.slXD (i := i) (j := n) rfl rfl rfl rfl rfl rfl rfl rfl (.inl hin) hi (by omega) rfl ?_
      conv => whnf
      refine ⟨rfl, ?_⟩
      refine Run.copyD rfl rfl rfl rfl (by omega) rfl rfl ?_
      conv => whnf
      refine ⟨rfl, ?_⟩
      refine Run.retS ?_
      conv => whnf
      rw [show i - 0 + (n + m - i) = n + m by omega]
      refine FinS.row (j := 2) rfl rfl rfl (by omega) fun k hk => leL_eq ?_
      simp only [fput, insF, fext]
      (repeat' split) <;> first | (exfalso; omega) | (rw [fapp_lt (by omega)]; first | rfl | exact if_pos (by omega)) | exact congrArg g (by omega) | exact congrArg f (by omega)
    · have hge : n + m ≤ C := by rw [hw] at h; simp at h; omega
      have hw2 : IntKind.i64.wrap ((i : Int) + (m : Int)) = ((i + m : Nat) : Int) := by rw [wrap_of (by omega) (by omega)]; omega
      refine Run.doesC rfl rfl (fun _ => Does.slRX (i := 0) (j := n + m) rfl rfl rfl rfl rfl rfl hw (.inr rfl) (Nat.zero_le _) (by omega)) ?_
      conv => whnf
      refine ⟨rfl, ?_⟩
      refine Run.doesC rfl rfl (fun _ => Does.slRX (i := i + m) (j := n + m) rfl rfl rfl rfl rfl hw2 rfl (.inl (by omega)) (by omega) (by omega)) ?_
      conv => whnf
      refine ⟨rfl, ?_⟩
      refine Run.doesC rfl rfl (fun _ => (Does.ovlLR ovl_fld rfl rfl rfl rfl).1) ?_
      conv => whnf
      refine ⟨rfl, ?_⟩
      refine Run.slXD (i := i + m) (j := n + m) rfl rfl rfl rfl rfl rfl hw2 rfl (.inl (by omega)) (by omega) (by omega) rfl ?_
      conv => whnf
      refine ⟨rfl, ?_⟩
      refine Run.slXD (i := i) (j := n + m) rfl rfl rfl rfl rfl rfl rfl rfl (.inl (by omega)) (by omega) (by omega) rfl ?_
      conv => whnf
      refine ⟨rfl, ?_⟩
      refine Run.copyD rfl rfl rfl rfl (by omega) rfl rfl ?_
      conv => whnf
      refine ⟨rfl, ?_⟩
      refine Run.doesC rfl rfl (fun _ => Does.slRX (i := i) (j := n + m) rfl rfl rfl rfl rfl rfl rfl (.inl (by omega)) (by omega) (by omega)) ?_
      conv => whnf
      refine ⟨rfl, ?_⟩
      refine Run.doesT (id := 0) rfl (Does.copy rfl rfl rfl (by omega) rfl) ?_
      conv => whnf
      refine ⟨rfl, ?_⟩
      refine Run.retS ?_
      conv => whnf
      rw [show n + m - 0 = n + m by omega]
      refine FinS.row (j := 0) rfl rfl rfl (by omega) fun k hk => leL_eq ?_
      simp only [fput, insF, fext]
      (repeat' split) <;> first | (exfalso; omega) | rfl | exact congrArg g (by omega) | exact congrArg f (by omega)
  · obtain rfl : i = n := by omega
    refine Run.doesC rfl rfl (fun _ => Does.slRE (i := i) (j := i) rfl rfl rfl rfl rfl rfl rfl rfl (by omega)) ?_
    conv => whnf
    refine ⟨rfl, ?_⟩
    refine Run.condC rfl (fun h => ?_) (fun h => ?_) <;> (conv => whnf) <;> refine ⟨rfl, ?_⟩
    · exfalso; simp at h; omega
    refine Run.condC rfl (fun h => ?_) (fun h => ?_) <;> (conv => whnf) <;> refine ⟨rfl, ?_⟩
    · refine Run.doesT (id := 0) rfl (Does.appR rfl rfl rfl (by simp only [maxLen]; omega) (by omega)) ?_
      conv => whnf
      refine ⟨rfl, ?_⟩
      refine Run.retS ?_
      conv => whnf
      refine FinS.row (j := 0) rfl rfl rfl (Nat.le_refl _) fun k hk => leL_eq ?_
      unfold insF
      by_cases h1 : k < i
      · rw [if_pos h1, fapp_lt h1]
      · rw [if_neg h1, if_pos (by omega), fapp_ge (by omega)]
    · exfalso; simp at h

end Go.Proofs.Ytbpcjahjbkiofaa.Sp

set_option linter.unusedVariables false
namespace Go.Proofs.Ytbpcjahjbkiofaa.Sp
open Go Go.Proofs.Ytbpcjahjbkiofaa.AV Go.Proofs.Ytbpcjahjbkiofaa.Fn
set_option maxRecDepth 10000

/-- With m elements g in place of those from i on, up to j. -/
def repF (i j m : Nat) (g f : Nat → List AV) : Nat → List AV := fun k => if k < i then f k else if k < i + m then g (k - i) else f (k - (i + m) + j)

theorem replace_fld {n i j m : Nat} {f g : Nat → List AV} (hij : i ≤ j) (hj : j ≤ n) (hm : i = j → 1 ≤ m) (hn : n ≤ 1000000) (hm2 : m ≤ 1000000) :
    AC P slices_Replace_api_Field_api_Field.id [.row 5 0 0 0 n, .int .i64 i, .int .i64 j, .list 5 m g] [.row 5 n 0 f] (.row 5 0 3 0 (n - (j - i) + m)) [.row 5 (n - (j - i) + m) 3 (repF i j m g f)] := by
  refine slices_Replace_api_Field_api_Field.intro rfl (Goes.run ?_)
  conv => whnf
  refine ⟨rfl, ?_⟩
  have hw1 : IntKind.i64.wrap ((i : Int) + (m : Int)) = ((i + m : Nat) : Int) := by rw [wrap_of (by omega) (by omega)]; omega
  rcases Nat.lt_or_ge i j with hlt | hge
  · refine Run.doesC rfl rfl (fun _ => Does.slRX (i := i) (j := j) rfl rfl rfl rfl rfl rfl rfl (.inl hlt) hij (by omega)) ?_
    conv => whnf
    refine ⟨rfl, ?_⟩
    refine Run.condC rfl (fun h => ?_) (fun h => ?_) <;> (conv => whnf) <;> refine ⟨rfl, ?_⟩
    · exfalso; simp at h; omega
    refine Run.condC rfl (fun h => ?_) (fun h => ?_) <;> (conv => whnf) <;> refine ⟨rfl, ?_⟩
    · have hjn : j = n := by simp at h; omega
      subst hjn
      refine Run.capO 0 1 rfl rfl fun C hC hCm => ?_
      conv => whnf
      refine ⟨rfl, ?_⟩
      refine Run.doesC rfl rfl (fun _ => Does.slRX (i := 0) (j := i) rfl rfl rfl rfl rfl rfl rfl (.inr rfl) (Nat.zero_le _) (by omega)) ?_
      conv => whnf
      refine ⟨rfl, ?_⟩
      rcases Nat.lt_or_ge C (i + m) with hgr | hfit
      · refine Run.doesT (id := 2) rfl (Does.appNew (nid := 2) (cid := 1) (C := C) rfl rfl rfl rfl rfl rfl (by omega) (by simp only [maxLen]; omega) (by omega)) ?_
        conv => whnf
        refine ⟨rfl, ?_⟩
        refine Run.condC rfl (fun h => ?_) (fun h => ?_) <;> (conv => whnf) <;> refine ⟨rfl, ?_⟩
        · exfalso; simp at h; omega
        refine Run.retS ?_
        conv => whnf
        rw [show i - 0 + m = j - (j - i) + m by omega]
        refine FinS.row (j := 2) rfl rfl rfl (by omega) fun k hk => leL_eq ?_
        unfold repF
        by_cases h1 : k < i
        · rw [if_pos h1, fapp_lt (by omega)]; exact if_pos (by omega)
        · rw [if_neg h1, if_pos (by omega), fapp_ge (by omega)]; rfl
      · refine Run.doesT (id := 0) rfl (Does.appIn rfl rfl rfl rfl (by omega)) ?_
        conv => whnf
        refine ⟨rfl, ?_⟩
        refine Run.condC rfl (fun h => ?_) (fun h => ?_) <;> (conv => whnf) <;> refine ⟨rfl, ?_⟩
        · have hm0 : i + m < j := by simp at h; omega
          refine Run.doesC rfl rfl (fun _ => Does.slRX (i := i + m) (j := j) rfl rfl rfl rfl rfl rfl rfl (.inl hm0) (by omega) (by omega)) ?_
          conv => whnf
          refine ⟨rfl, ?_⟩
          refine Run.doesT (id := 0) rfl (Does.clr rfl rfl rfl (by omega)) ?_
          conv => whnf
          refine ⟨rfl, ?_⟩
          refine Run.retS ?_
          conv => whnf
          rw [show i - 0 + m = j - (j - i) + m by omega]
          refine FinS.row (j := 0) rfl rfl rfl (by omega) fun k hk => leL_eq ?_
          simp only [fput, repF, fext]
          (repeat' split) <;> first | (exfalso; omega) | rfl | exact congrArg g (by omega) | exact congrArg f (by omega)
        · refine Run.retS ?_
          conv => whnf
          rw [show i - 0 + m = j - (j - i) + m by omega]
          refine FinS.row (j := 0) rfl rfl rfl (by omega) fun k hk => leL_eq ?_
          simp only [fput, repF, fext]
          (repeat' split) <;> first | (exfalso; omega) | rfl | exact congrArg g (by omega) | exact congrArg f (by omega)
    have hjn : j < n := by simp at h; omega
    refine Run.slXD (i := 0) (j := i) rfl rfl rfl rfl rfl rfl rfl rfl (.inr rfl) (Nat.zero_le _) (by omega) rfl ?_
    conv => whnf
    refine ⟨rfl, ?_⟩
    refine Run.slXD (i := j) (j := n) rfl rfl rfl rfl rfl rfl rfl rfl (.inl hjn) hj (by omega) rfl ?_
    conv => whnf
    refine ⟨rfl, ?_⟩
    have hw2 : IntKind.i64.wrap (IntKind.i64.wrap ((i - 0 : Nat) + (m : Int)) + (n - j : Nat)) = ((n - (j - i) + m : Nat) : Int) := by rw [Nat.sub_zero, hw1, wrap_of (by omega) (by omega)]; omega
    refine Run.capO 0 1 rfl rfl fun C hC hCm => ?_
    conv => whnf
    refine ⟨rfl, ?_⟩
    refine Run.doesC rfl rfl (fun _ => Does.cap (cid := 1) (C := C) rfl rfl rfl rfl) ?_
    conv => whnf
    refine ⟨rfl, ?_⟩
    refine Run.condC rfl (fun h => ?_) (fun h => ?_) <;> (conv => whnf) <;> refine ⟨rfl, ?_⟩
    · have hgr : C < n - (j - i) + m := by rw [hw2] at h; simp at h; omega
      refine Run.doesC rfl rfl (fun _ => Does.slRX (i := 0) (j := i) rfl rfl rfl rfl rfl rfl rfl (.inr rfl) (Nat.zero_le _) (by omega)) ?_
      conv => whnf
      refine ⟨rfl, ?_⟩
      refine Run.doesT (id := 2) rfl (Does.appzNew (nid := 2) (cid := 1) (C := C) (m := n - (j - i) + m - i) rfl rfl rfl rfl rfl rfl ?_ (by omega) (by omega) (by simp only [maxLen]; omega) (by omega)) ?_
      · rw [hw2, wrap_of (by omega) (by omega)]; omega
      conv => whnf
      refine ⟨rfl, ?_⟩
      refine Run.doesC rfl rfl (fun _ => Does.slRX (i := i) (j := n - (j - i) + m) rfl rfl rfl rfl rfl rfl ?_ (.inl (by omega)) (by omega) (by omega)) ?_
      · show ((i - 0 + (n - (j - i) + m - i) : Nat) : Int) = _; omega
      conv => whnf
      refine ⟨rfl, ?_⟩
      refine Run.doesT (id := 2) rfl (Does.copy rfl rfl rfl (by omega) rfl) ?_
      conv => whnf
      refine ⟨rfl, ?_⟩
      refine Run.slXD (i := i + m) (j := n - (j - i) + m) rfl rfl rfl rfl rfl rfl hw1 ?_ (.inl (by omega)) (by omega) (by omega) rfl ?_
      · show ((i - 0 + (n - (j - i) + m - i) : Nat) : Int) = _; omega
      conv => whnf
      refine ⟨rfl, ?_⟩
      refine Run.slXD (i := j) (j := n) rfl rfl rfl rfl rfl rfl rfl rfl (.inl hjn) hj (by omega) rfl ?_
      conv => whnf
      refine ⟨rfl, ?_⟩
      refine Run.copyD rfl rfl rfl rfl (by omega) rfl rfl ?_
      conv => whnf
      refine ⟨rfl, ?_⟩
      refine Run.retS ?_
      conv => whnf
      rw [show i - 0 + (n - (j - i) + m - i) = n - (j - i) + m by omega]
      refine FinS.row (j := 2) rfl rfl rfl (by omega) fun k hk => leL_eq ?_
      simp only [fput, repF, fext]
      (repeat' split) <;> first | (exfalso; omega) | (rw [fapp_lt (by omega)]; first | rfl | exact if_pos (by omega)) | exact congrArg g (by omega) | exact congrArg f (by omega)
    have hfit : n - (j - i) + m ≤ C := by rw [hw2] at h; simp at h; omega
    refine Run.doesC rfl rfl (fun _ => Does.slRX (i := 0) (j := n - (j - i) + m) rfl rfl rfl rfl rfl rfl hw2 (.inr rfl) (Nat.zero_le _) (by omega)) ?_
    conv => whnf
    refine ⟨rfl, ?_⟩
    refine Run.condC rfl (fun h => ?_) (fun h => ?_) <;> (conv => whnf) <;> refine ⟨rfl, ?_⟩
    · have hmj : i + m ≤ j := by rw [hw1] at h; simp at h; omega
      refine Run.doesC rfl rfl (fun _ => Does.slRX (i := i) (j := n - (j - i) + m) rfl rfl rfl rfl rfl rfl rfl (.inl (by omega)) (by omega) (by omega)) ?_
      conv => whnf
      refine ⟨rfl, ?_⟩
      refine Run.doesT (id := 0) rfl (Does.copy rfl rfl rfl (by omega) rfl) ?_
      conv => whnf
      refine ⟨rfl, ?_⟩
      refine Run.slXD (i := i + m) (j := n - (j - i) + m) rfl rfl rfl rfl rfl rfl hw1 rfl (.inl (by omega)) (by omega) (by omega) rfl ?_
      conv => whnf
      refine ⟨rfl, ?_⟩
      refine Run.slXD (i := j) (j := n) rfl rfl rfl rfl rfl rfl rfl rfl (.inl hjn) hj (by omega) rfl ?_
      conv => whnf
      refine ⟨rfl, ?_⟩
      refine Run.copyD rfl rfl rfl rfl (by omega) rfl rfl ?_
      conv => whnf
      refine ⟨rfl, ?_⟩
      rcases Nat.lt_or_ge (n - (j - i) + m) n with hsh | hsm
      · refine Run.doesC rfl rfl (fun _ => Does.slRX (i := n - (j - i) + m) (j := n) rfl rfl rfl rfl rfl hw2 rfl (.inl hsh) (by omega) (by omega)) ?_
        conv => whnf
        refine ⟨rfl, ?_⟩
        refine Run.doesT (id := 0) rfl (Does.clr rfl rfl rfl (by omega)) ?_
        conv => whnf
        refine ⟨rfl, ?_⟩
        refine Run.retS ?_
        conv => whnf
        rw [show n - (j - i) + m - 0 = n - (j - i) + m by omega]
        refine FinS.row (j := 0) rfl rfl rfl (by omega) fun k hk => leL_eq ?_
        simp only [fput, repF, fext]
        (repeat' split) <;> first | (exfalso; omega) | rfl | exact congrArg g (by omega) | exact congrArg f (by omega)
      · refine Run.doesC rfl rfl (fun _ => Does.slRE (i := n - (j - i) + m) (j := n) rfl rfl rfl rfl rfl hw2 rfl (by omega) (by omega)) ?_
        conv => whnf
        refine ⟨rfl, ?_⟩
        refine Run.doesC rfl rfl (fun _ => Does.clrE rfl) ?_
        conv => whnf
        refine ⟨rfl, ?_⟩
        refine Run.retS ?_
        conv => whnf
        rw [show n - (j - i) + m - 0 = n - (j - i) + m by omega]
        refine FinS.row (j := 0) rfl rfl rfl (by omega) fun k hk => leL_eq ?_
        simp only [fput, repF, fext]
        (repeat' split) <;> first | (exfalso; omega) | rfl | exact congrArg g (by omega) | exact congrArg f (by omega)
    have hmj : j < i + m := by rw [hw1] at h; simp at h; omega
    refine Run.doesC rfl rfl (fun _ => Does.slRX (i := i + m) (j := n - (j - i) + m) rfl rfl rfl rfl rfl hw1 rfl (.inl (by omega)) (by omega) (by omega)) ?_
    conv => whnf
    refine ⟨rfl, ?_⟩
    refine Run.doesC rfl rfl (fun _ => (Does.ovlLR ovl_fld rfl rfl rfl rfl).2) ?_
    conv => whnf
    refine ⟨rfl, ?_⟩
    refine Run.slXD (i := i + m) (j := n - (j - i) + m) rfl rfl rfl rfl rfl rfl hw1 rfl (.inl (by omega)) (by omega) (by omega) rfl ?_
    conv => whnf
    refine ⟨rfl, ?_⟩
    refine Run.slXD (i := j) (j := n) rfl rfl rfl rfl rfl rfl rfl rfl (.inl hjn) hj (by omega) rfl ?_
    conv => whnf
    refine ⟨rfl, ?_⟩
    refine Run.copyD rfl rfl rfl rfl (by omega) rfl rfl ?_
    conv => whnf
    refine ⟨rfl, ?_⟩
    refine Run.doesC rfl rfl (fun _ => Does.slRX (i := i) (j := n - (j - i) + m) rfl rfl rfl rfl rfl rfl rfl (.inl (by omega)) (by omega) (by omega)) ?_
    conv => whnf
    refine ⟨rfl, ?_⟩
    refine Run.doesT (id := 0) rfl (Does.copy rfl rfl rfl (by omega) rfl) ?_
    conv => whnf
    refine ⟨rfl, ?_⟩
    refine Run.retS ?_
    conv => whnf
    rw [show n - (j - i) + m - 0 = n - (j - i) + m by omega]
    refine FinS.row (j := 0) rfl rfl rfl (by omega) fun k hk => leL_eq ?_
    simp only [fput, repF, fext]
    (repeat' split) <;> first | (exfalso; omega) | rfl | exact congrArg g (by omega) | exact congrArg f (by omega)
  · obtain rfl : i = j := by omega
    refine Run.doesC rfl rfl (fun _ => Does.slRE (i := i) (j := i) rfl rfl rfl rfl rfl rfl rfl rfl (by omega)) ?_
    conv => whnf
    refine ⟨rfl, ?_⟩
    refine Run.condC rfl (fun h => ?_) (fun h => ?_) <;> (conv => whnf) <;> refine ⟨rfl, ?_⟩
    · refine Run.callG [0] (insert_fld hj (hm rfl) hn hm2) rfl rfl rfl ⟨rfl, trivial⟩ ?_
      conv => whnf
      refine ⟨rfl, ?_⟩
      refine Run.retS ?_
      conv => whnf
      rw [show n - (i - i) + m = n + m by omega]
      refine FinS.row (j := 0) rfl rfl rfl (Nat.le_refl _) fun k hk => leL_eq ?_
      simp only [insF, repF]
      (repeat' split) <;> first | rfl | exact congrArg f (by omega)
    · exfalso; simp at h
end Go.Proofs.Ytbpcjahjbkiofaa.Sp

set_option linter.unusedVariables false
namespace Go.Proofs.Ytbpcjahjbkiofaa.Sp
open Go Go.Proofs.Ytbpcjahjbkiofaa.AV Go.Proofs.Ytbpcjahjbkiofaa.Fn
set_option maxRecDepth 10000

def fput (l : List Fld) (at_ : Nat) (f : Fld) : List Fld := l.take at_ ++ f :: l.drop at_

theorem put_spec (l : List Fld) (k : Nat) (f : Fld) (hk : k ≤ l.length) (hb : l.length ≤ 1000) : AC P R16_put.id [encFs l, .int .i64 k, .agg f.cells] [] (encFs (fput l k f)) [] := by
  refine R16_put.intro rfl (Goes.run ?_)
  conv => whnf
  refine ⟨rfl, ?_⟩
  refine Run.doesC rfl rfl (fun _ => Does.slN (i := 0) (j := k) rfl rfl rfl rfl rfl (by omega) hk) ?_
  conv => whnf
  refine ⟨rfl, ?_⟩
  refine Run.doesT (id := 1) rfl (Does.appZ (nid := 1) rfl rfl rfl (by unfold maxLen; omega) (by omega)) ?_
  conv => whnf
  refine ⟨rfl, ?_⟩
  refine Run.appRD rfl rfl rfl rfl (by simp only [maxLen, List.length_cons, List.length_nil]; omega) (by simp only [List.length_cons, List.length_nil]; omega) rfl ?_
  conv => whnf
  refine ⟨rfl, ?_⟩
  refine Run.slND (i := k) (j := l.length) rfl rfl rfl rfl rfl rfl hk (Nat.le_refl _) rfl ?_
  conv => whnf
  refine ⟨rfl, ?_⟩
  refine Run.appRD rfl rfl rfl rfl (by simp only [maxLen, List.length_cons, List.length_nil]; omega) (by simp only [List.length_cons, List.length_nil]; omega) rfl ?_
  conv => whnf
  refine ⟨rfl, ?_⟩
  refine Run.retZ ?_
  conv => whnf
  refine ⟨rfl, IsL.le (enc := Fld.cells) (IsL.eq (((((IsL.all Fld.cells l).sub (i := 0) (j := k) (by omega) hk).app (IsL.one f)).app ((IsL.all Fld.cells l).sub (i := k) (j := l.length) hk (Nat.le_refl _))).from0) ?_)⟩
  have e : (l.drop k).take (l.length - k) = l.drop k := List.take_of_length_le (by simp)
  simp [fput, e]

def fcut (l : List Fld) (k : Nat) : List Fld := l.take k ++ l.drop (k + 1)

theorem cut_spec (l : List Fld) (k : Nat) (hk : k < l.length) (hb : l.length ≤ 1000) : AC P R16_cut.id [encFs l, .int .i64 k] [] (encFs (fcut l k)) [] := by
  refine R16_cut.intro rfl (Goes.run ?_)
  conv => whnf
  refine ⟨rfl, ?_⟩
  refine Run.slND (i := 0) (j := k) rfl rfl rfl rfl rfl rfl (by omega) (by omega) rfl ?_
  conv => whnf
  refine ⟨rfl, ?_⟩
  refine Run.appZD (nid := 0) rfl rfl rfl rfl (by unfold maxLen; omega) (by omega) rfl ?_
  conv => whnf
  refine ⟨rfl, ?_⟩
  refine Run.slND (i := k + 1) (j := l.length) rfl rfl rfl rfl ?_ rfl (by omega) (Nat.le_refl _) rfl ?_
  · rw [wrap_of (by omega) (by omega)]; rfl
  conv => whnf
  refine ⟨rfl, ?_⟩
  refine Run.appRD rfl rfl rfl rfl (by unfold maxLen; omega) (by omega) rfl ?_
  conv => whnf
  refine ⟨rfl, ?_⟩
  refine Run.retZ ?_
  conv => whnf
  refine ⟨rfl, IsL.le (enc := Fld.cells) (IsL.eq ((((IsL.all Fld.cells l).sub (i := 0) (j := k) (by omega) (by omega)).app ((IsL.all Fld.cells l).sub (i := k + 1) (j := l.length) (by omega) (Nat.le_refl _))).from0) ?_)⟩
  have e : (l.drop (k + 1)).take (l.length - (k + 1)) = l.drop (k + 1) := List.take_of_length_le (by simp)
  simp [fcut, e]

theorem clone_spec (l : List Fld) (hb : l.length ≤ 1000000) : AC P slices_Clone_api_Field_api_Field.id [encFs l] [] (encFs l) [] := by
  refine slices_Clone_api_Field_api_Field.intro rfl (Goes.run ?_)
  conv => whnf
  refine ⟨rfl, ?_⟩
  refine Run.eqNilC rfl rfl fun b hn => ?_
  conv => whnf
  refine ⟨rfl, ?_⟩
  refine Run.condC rfl (fun h => ?_) (fun h => ?_) <;> (conv => whnf) <;> refine ⟨rfl, ?_⟩
  · refine Run.retZ ?_
    conv => whnf
    refine ⟨rfl, ?_⟩
    have : l = [] := by simpa using hn (by simpa [negB] using h)
    subst this
    exact Le.zsl (by omega)
  · refine Run.doesT (id := 0) rfl (Does.appR rfl rfl rfl (by simp only [maxLen, List.length_nil]; omega) (by simp only [List.length_nil]; omega)) ?_
    conv => whnf
    refine ⟨rfl, ?_⟩
    refine Run.retZ ?_
    conv => whnf
    exact ⟨rfl, IsL.le (enc := Fld.cells) (((IsL.nil _).app (IsL.all Fld.cells l)).from0)⟩
end Go.Proofs.Ytbpcjahjbkiofaa.Sp

set_option linter.unusedVariables false
namespace Go.Proofs.Ytbpcjahjbkiofaa.Sp
open Go Go.Proofs.Ytbpcjahjbkiofaa.AV Go.Proofs.Ytbpcjahjbkiofaa.Fn
set_option maxRecDepth 10000

def fldF (l : List Fld) : Nat → List AV := fun i => Fld.cells (l.getD i default)
def frmF (l : List Frm) : Nat → List AV := fun i => Frm.cells (l.getD i default)

theorem clone_new (l : List Fld) (hb : l.length ≤ 1000000) : AC P slices_Clone_api_Field_api_Field.id [encFs l] [] (.row 5 0 0 0 l.length) [.row 5 l.length 0 (fldF l)] := by
  refine slices_Clone_api_Field_api_Field.intro rfl (Goes.run ?_)
  conv => whnf
  refine ⟨rfl, ?_⟩
  refine Run.eqNilC rfl rfl fun b hn => ?_
  conv => whnf
  refine ⟨rfl, ?_⟩
  refine Run.condC rfl (fun h => ?_) (fun h => ?_) <;> (conv => whnf) <;> refine ⟨rfl, ?_⟩
  · refine Run.retS ?_
    conv => whnf
    have : l = [] := by simpa using hn (by simpa [negB] using h)
    subst this
    exact FinS.newZ rfl
  · refine Run.doesT (id := 0) rfl (Does.appR rfl rfl rfl (by simp only [maxLen, List.length_nil]; omega) (by simp only [List.length_nil]; omega)) ?_
    conv => whnf
    refine ⟨rfl, ?_⟩
    refine Run.retS ?_
    conv => whnf
    rw [show [].length + l.length = l.length by simp]
    refine FinS.new (j := 0) rfl (by simp) fun k hk => leL_eq ?_
    show fapp 0 (nthL []) (fun i => Fld.cells (l.getD i default)) k = _
    rw [fapp_ge (Nat.zero_le _)]
    rfl

theorem copied_new (s : Sch) (hb : s.forms.length ≤ 1000) (hf : ∀ i, (s.forms.getD i default).fields.length ≤ 1000) :
    AC P typing_copied.id [.agg s.cells] [] (.agg [.int .i64 s.version, .row 2 0 0 0 s.forms.length]) [.row 2 s.forms.length 0 (frmF s.forms)] := by
  refine typing_copied.intro rfl (Goes.run ?_)
  conv => whnf
  refine ⟨rfl, ?_⟩
  refine Run.loopN (ι := Nat) (fun i => i ≤ s.forms.length) (fun i => [(1, .ptr 0 0 0 0), (2, .ptr 1 0 0 0), (3, .ptr 2 0 0 0), (10, encFms s.forms), (11, .int .i64 (s.forms.length : Int)), (12, .int .i64 (i : Int))])
    (fun i => [.box s.cells, .box [.int .i64 0, .zsl], .box [.int .i64 s.version, .row 2 3 i 0 i], .row 2 i i (frmF s.forms)])
    (fun i => s.forms.length - i) 0 (Nat.zero_le _) (Wk.trans (Wk.virt (b := 2) (nid := 3) (sz := 2) 1 (frmF s.forms) rfl rfl rfl rfl rfl) (Wk.ofEnv (Wk.cons (.refl _) (Wk.cons (.refl _) (Wk.cons (.refl _) (Wk.cons (.refl _) (Wk.cons (.refl _) (Wk.cons (.refl _) Wk.done)))))))) fun i hi => ?_
  conv => whnf
  refine ⟨rfl, ?_⟩
  refine Run.condC rfl (fun h => ?_) (fun h => ?_) <;> (conv => whnf) <;> refine ⟨rfl, ?_⟩
  · have hlt : i < s.forms.length := by simpa using h
    refine Run.iaC rfl rfl rfl rfl rfl (fun _ => ⟨by omega, by omega⟩) ?_
    conv => whnf
    refine ⟨rfl, ?_⟩
    refine Run.callD (av := [encFs (s.forms.getD i default).fields]) rfl rfl rfl (fun _ => clone_spec _ (by have := hf i; omega)) rfl rfl rfl ?_
    conv => whnf
    refine ⟨rfl, ?_⟩
    refine Run.appRD rfl rfl rfl rfl (by simp only [maxLen, List.length_cons, List.length_nil]; omega) (by simp only [List.length_cons, List.length_nil]; omega) rfl ?_
    conv => whnf
    refine ⟨rfl, ?_⟩
    refine Run.endR ⟨i + 1, by omega, by omega, Wk.trans (e2 := [(1, .ptr 0 0 0 0), (2, .ptr 1 0 0 0), (3, .ptr 2 0 0 0), (10, encFms s.forms), (11, .int .i64 (s.forms.length : Int)), (12, .int .i64 ((i + 1 : Nat) : Int))]) (Wk.cut 4 rfl rfl rfl rfl (Wk.cons (.refl _) (Wk.cons (.refl _) (Wk.cons (.refl _) (Wk.cons (.refl _) (Wk.cons (.refl _) (Wk.cons (.int ?_) Wk.done)))))) ) (Wk.tab fun k => ?_)⟩
    · rw [wrap_of (by omega) (by omega)]
      simp
    · match k with
      | 0 => exact LeOb.refl _
      | 1 => exact LeOb.refl _
      | 2 => exact LeOb.refl _
      | 3 =>
        refine ⟨rfl, rfl, rfl, fun k hk => leL_eq ?_⟩
        by_cases h1 : k < i
        · exact fapp_lt h1
        · obtain rfl : k = i := by
            have hk' : k < i + 1 := hk
            omega
          rw [fapp_ge (Nat.le_refl _), Nat.sub_self]
          rfl
      | k + 4 => exact .inl rfl
  · have hge : i = s.forms.length := by simp at h; omega
    refine Run.exitR rfl rfl ?_
    conv => whnf
    refine ⟨rfl, ?_⟩
    refine Run.retS ?_
    conv => whnf
    subst hge
    exact FinS.newA (j := 3) rfl rfl (Nat.le_refl _) fun k hk => LeL.refl _
end Go.Proofs.Ytbpcjahjbkiofaa.Sp

set_option linter.unusedVariables false
set_option linter.unusedSimpArgs false
namespace Go.Proofs.Ytbpcjahjbkiofaa.Sp
open Go Go.Proofs.Ytbpcjahjbkiofaa.AV Go.Proofs.Ytbpcjahjbkiofaa.Fn
set_option maxRecDepth 10000

def byF (b : List Int) : Nat → List AV := fun i => [.int .u8 (b.getD i 0)]
def penT (b : List Int) (bad : Int) : Tab := [.box [.row 1 1 b.length 0 b.length, .int .i64 bad], .row 1 b.length b.length (byF b)]

theorem app_by {b : List Int} {x : Int} {k : Nat} (hk : k < b.length + 1) : fapp b.length (byF b) (nthL [[.int .u8 x]]) k = byF (b ++ [x]) k := by
  unfold byF
  by_cases h : k < b.length
  · rw [fapp_lt h]
    congr 2
    rw [List.getD_eq_getElem?_getD, List.getD_eq_getElem?_getD, List.getElem?_append_left h]
  · obtain rfl : k = b.length := by omega
    rw [fapp_ge (Nat.le_refl _), Nat.sub_self]
    show [AV.int .u8 x] = _
    congr 2
    rw [List.getD_eq_getElem?_getD, List.getElem?_append_right (Nat.le_refl _)]
    simp
theorem penT_le {c : List Int} {bad : Int} {n : Nat} {F : Nat → List AV} (hn : n = c.length) (hF : ∀ k, k < n → F k = byF c k) : ∀ i, LeOb (tget [.box [.row 1 1 n 0 n, .int .i64 bad], .row 1 n n F] i) (tget (penT c bad) i) := by
  subst hn
  intro i
  match i with
  | 0 => exact LeOb.refl _
  | 1 => exact ⟨rfl, rfl, rfl, fun k hk => leL_eq (hF k hk)⟩
  | i + 2 => exact .inl rfl

theorem pen_put1 (b : List Int) (bad x : Int) (hb : b.length ≤ 1000000) : AC P pen_Pen_put.id [.ptr 0 0 0 0, .list 1 1 (nthL [[.int .u8 x]])] (penT b bad) (.tuple []) (penT (b ++ [x]) bad) := by
  refine pen_Pen_put.intro rfl (Goes.run ?_)
  conv => whnf
  refine ⟨rfl, ?_⟩
  refine Run.doesT (id := 1) rfl (Does.appR rfl rfl rfl (by simp only [maxLen]; omega) (by omega)) ?_
  conv => whnf
  refine ⟨rfl, ?_⟩
  refine Run.nilS ?_
  conv => whnf
  exact FinS.tab rfl (FinS.keepP 2 rfl rfl rfl (.refl _)) (penT_le (by simp) fun k hk => app_by hk)

def or8 (u : Int) : Int := IntKind.u8.wrap ↑(BitVec.ofInt IntKind.u8.bits (IntKind.u8.wrap u) ||| BitVec.ofInt IntKind.u8.bits 128).toNat
def sh7 (u : Int) : Int := u.fdiv (2 ^ min (7 : Int).toNat IntKind.u64.bits)
theorem sh7_eq (u : Int) : sh7 u = u / 128 := by
  unfold sh7
  rw [show (2 : Int) ^ min (7 : Int).toNat IntKind.u64.bits = 128 by decide, Int.fdiv_eq_ediv_of_nonneg _ (by omega)]
/-- A number in groups of seven bits. -/
def grp : Nat → Int → List Int
  | 0, u => [IntKind.u8.wrap u]
  | n + 1, u => bif decide (u ≥ 128) then or8 u :: grp n (sh7 u) else [IntKind.u8.wrap u]
def grps (u : Int) : List Int := grp 9 u
theorem grp_len : ∀ (n : Nat) (u : Int), (grp n u).length ≤ n + 1
  | 0, u => by simp [grp]
  | n + 1, u => by
    unfold grp
    cases decide (u ≥ 128) with
    | true => have := grp_len n (sh7 u); simp; omega
    | false => simp
theorem grp_last (n : Nat) {u : Int} (h : ¬ u ≥ 128) : grp n u = [IntKind.u8.wrap u] := by
  cases n with
  | zero => rfl
  | succ n => unfold grp; simp [h]
theorem wrap_u64 (x : Int) : 0 ≤ IntKind.u64.wrap x ∧ IntKind.u64.wrap x < 18446744073709551616 := by
  unfold IntKind.wrap
  simp only [IntKind.bits, IntKind.signed, Bool.false_and]
  have h1 := Int.emod_nonneg x (b := 2 ^ 64) (by decide)
  have h2 := Int.emod_lt_of_pos x (b := 2 ^ 64) (by decide)
  simp
  omega

theorem pen_grp (b : List Int) (bad u : Int) (hb : b.length ≤ 900000) (hu : 0 ≤ u ∧ u < 18446744073709551616) : AC P pen_Pen_groups.id [.ptr 0 0 0 0, .int .u64 u] (penT b bad) (.tuple []) (penT (b ++ grps u) bad) := by
  refine pen_Pen_groups.intro rfl (Goes.run ?_)
  conv => whnf
  refine ⟨rfl, ?_⟩
  refine Run.loopN (ι := List Int × Int × Nat) (fun i => 0 ≤ i.2.1 ∧ i.2.1 < 128 * 128 ^ i.2.2 ∧ i.2.2 ≤ 9 ∧ i.1.length + i.2.2 ≤ b.length + 9 ∧ i.1 ++ grp i.2.2 i.2.1 = b ++ grps u) (fun i => [(0, .ptr 0 0 0 0), (1, .int .u64 i.2.1)])
    (fun i => [.box [.row 1 1 i.1.length 0 i.1.length, .int .i64 bad], .row 1 i.1.length i.1.length (byF i.1), .dead, .dead]) (fun i => i.2.2) (b, u, 9) ⟨hu.1, by show u < 128 * 128 ^ 9; omega, Nat.le_refl _, Nat.le_refl _, rfl⟩ (Wk.trans (Wk.pad 4) (Wk.ofEnv (Wk.cons (.refl _) (Wk.cons (.refl _) Wk.done)))) fun ⟨c, v, n⟩ ⟨h0, h1, h2, h3, h4⟩ => ?_
  simp only at h0 h1 h2 h3 h4
  conv => whnf
  refine ⟨rfl, ?_⟩
  refine Run.condC rfl (fun h => ?_) (fun h => ?_) <;> (conv => whnf) <;> refine ⟨rfl, ?_⟩
  · have hge : v ≥ 128 := by simpa using h
    refine Run.frzO 4 rfl ?_
    conv => whnf
    refine ⟨rfl, ?_⟩
    refine Run.callG [0, 1] ((pen_put1 c bad (or8 v) (by omega)).le_args (.cons (.refl _) (.cons (Le.list (n := 1) rfl fun k hk => leL_eq (by rw [Nat.zero_add]; rfl)) .nil))) rfl rfl rfl ⟨rfl, rfl, trivial⟩ ?_
    conv => whnf
    refine ⟨rfl, ?_⟩
    refine Run.doesC rfl rfl (fun _ => Does.shr rfl rfl (by omega)) ?_
    conv => whnf
    refine ⟨rfl, ?_⟩
    match n, h1, h2, h3, h4 with
    | 0, h1, _, _, _ => exact absurd h1 (by simp; omega)
    | n + 1, h1, h2, h3, h4 =>
      refine Run.endR ⟨(c ++ [or8 v], sh7 v, n), ⟨?_, ?_, by show n ≤ 9; omega, ?_, ?_⟩, by show n < n + 1; omega, Wk.cut 4 rfl rfl rfl rfl (Wk.cons (.refl _) (Wk.cons (.refl _) Wk.done))⟩
      · show 0 ≤ sh7 v
        rw [sh7_eq]; omega
      · show sh7 v < 128 * 128 ^ n
        rw [sh7_eq]
        rw [Int.pow_succ] at h1
        omega
      · show (c ++ [or8 v]).length + n ≤ _
        simp; omega
      · show c ++ [or8 v] ++ grp n (sh7 v) = _
        rw [← h4]
        show _ = c ++ grp (n + 1) v
        rw [grp, show decide (v ≥ 128) = true by simp; omega, cond_true]
        simp
  · have hlt : ¬ v ≥ 128 := by simpa using h
    refine Run.exitR rfl rfl ?_
    conv => whnf
    refine ⟨rfl, ?_⟩
    refine Run.frzO 4 rfl ?_
    conv => whnf
    refine ⟨rfl, ?_⟩
    refine Run.callG [0, 1] ((pen_put1 c bad (IntKind.u8.wrap v) (by omega)).le_args (.cons (.refl _) (.cons (Le.list (n := 1) rfl fun k hk => leL_eq (by rw [Nat.zero_add]; rfl)) .nil))) rfl rfl rfl ⟨rfl, rfl, trivial⟩ ?_
    conv => whnf
    refine ⟨rfl, ?_⟩
    refine Run.nilS ?_
    conv => whnf
    rw [← h4, grp_last n hlt]
    exact FinS.tab rfl (FinS.keepP 2 rfl rfl rfl (.refl _)) fun i => LeOb.refl _

def numU (n : Int) : Int := IntKind.u64.wrap ↑(BitVec.ofInt IntKind.u64.bits (IntKind.u64.wrap (IntKind.u64.wrap n * 2 ^ min (1 : Int).toNat IntKind.u64.bits)) ^^^ BitVec.ofInt IntKind.u64.bits (IntKind.u64.wrap (n.fdiv (2 ^ min (63 : Int).toNat IntKind.i64.bits)))).toNat

theorem pen_num (b : List Int) (bad n : Int) (hb : b.length ≤ 900000) : AC P pen_Pen_Num.id [.ptr 0 0 0 0, .int .i64 n] (penT b bad) (.tuple []) (penT (b ++ grps (numU n)) bad) := by
  refine pen_Pen_Num.intro rfl (Goes.run ?_)
  conv => whnf
  refine ⟨rfl, ?_⟩
  refine Run.doesC rfl rfl (fun _ => Does.shl rfl rfl (by omega)) ?_
  conv => whnf
  refine ⟨rfl, ?_⟩
  refine Run.doesC rfl rfl (fun _ => Does.shr rfl rfl (by omega)) ?_
  conv => whnf
  refine ⟨rfl, ?_⟩
  refine Run.callG [0, 1] (pen_grp b bad (numU n) hb (wrap_u64 _)) rfl rfl rfl ⟨rfl, rfl, trivial⟩ ?_
  conv => whnf
  refine ⟨rfl, ?_⟩
  refine Run.nilS ?_
  conv => whnf
  exact FinS.keepP 2 rfl rfl rfl (.refl _)

def cntB (b : List Int) (n : Int) : List Int := bif decide (n < 0) then b else b ++ grps (IntKind.u64.wrap n)
def cntE (bad n : Int) : Int := bif decide (n < 0) then 2 else bad
theorem pen_count (b : List Int) (bad n : Int) (hb : b.length ≤ 900000) : AC P pen_Pen_Count.id [.ptr 0 0 0 0, .int .i64 n] (penT b bad) (.tuple []) (penT (cntB b n) (cntE bad n)) := by
  refine pen_Pen_Count.intro rfl (Goes.run ?_)
  conv => whnf
  refine ⟨rfl, ?_⟩
  refine Run.condC rfl (fun h => ?_) (fun h => ?_) <;> (conv => whnf) <;> refine ⟨rfl, ?_⟩
  · refine Run.retS ?_
    conv => whnf
    rw [show cntB b n = b by simp only [cntB, h, cond_true], show cntE bad n = 2 by simp only [cntE, h, cond_true]]
    exact FinS.keepP 2 rfl rfl rfl (.refl _)
  · refine Run.callG [0, 1] (pen_grp b bad (IntKind.u64.wrap n) hb (wrap_u64 _)) rfl rfl rfl ⟨rfl, rfl, trivial⟩ ?_
    conv => whnf
    refine ⟨rfl, ?_⟩
    refine Run.nilS ?_
    conv => whnf
    rw [show cntB b n = b ++ grps (IntKind.u64.wrap n) by simp only [cntB, h, cond_false], show cntE bad n = bad by simp only [cntE, h, cond_false]]
    exact FinS.keepP 2 rfl rfl rfl (.refl _)
theorem cntB_len (b : List Int) (n : Int) : (cntB b n).length ≤ b.length + 10 := by
  unfold cntB
  have := grp_len 9 (IntKind.u64.wrap n)
  cases decide (n < 0)
  · simp [grps]; omega
  · simp
theorem numB_len (b : List Int) (n : Int) : (b ++ grps (numU n)).length ≤ b.length + 10 := by
  have := grp_len 9 (numU n)
  simp [grps]; omega
end Go.Proofs.Ytbpcjahjbkiofaa.Sp

set_option linter.unusedVariables false
namespace Go.Proofs.Ytbpcjahjbkiofaa.Sp
open Go Go.Proofs.Ytbpcjahjbkiofaa.AV Go.Proofs.Ytbpcjahjbkiofaa.Fn
set_option maxRecDepth 10000

def fRight (f : Fld) : Bool :=
  !(f.id < 0 || f.id > 255) && (
    if f.kind == 1 then f.lo ≥ -1099511627776 && f.lo ≤ f.hi && f.hi ≤ 1099511627776 && f.most == 0
    else if f.kind == 2 then f.lo == 0 && f.hi == 0 && f.most == 0
    else if f.kind == 3 then f.lo == 0 && f.hi == 0 && f.most ≥ 1 && f.most ≤ 1000
    else if f.kind == 4 then f.lo == 0 && f.hi == 0 && f.most ≥ 0 && f.most ≤ 32
    else false)

theorem field_right (f : Fld) : AC P field_Right.id [.agg f.cells] [] (.bool (fRight f)) [] := by
  refine field_Right.intro rfl (Goes.run ?_)
  conv => whnf
  refine ⟨rfl, ?_⟩
  repeat' first
    | (refine Run.condC rfl (fun h => ?_) (fun h => ?_) <;> (conv => whnf) <;> refine ⟨rfl, ?_⟩)
    | (refine Run.retP ?_; (conv => whnf); refine ⟨rfl, ?_⟩)
  all_goals first
    | (refine Le.ff ?_; simp [fRight, *]; done)
    | (refine Le.ff ?_; simp [fRight]; simp at *; omega)
    | (refine Le.bool ?_; simp [fRight, *]; done)

def fLo (f : Fld) : Int := if f.kind == 1 then f.lo else 0
def fHi (f : Fld) : Int := if f.kind == 1 then f.hi else if f.kind == 2 then 1 else if f.kind == 3 then IntKind.i64.wrap (f.most - 1) else 0

theorem field_bounds (f : Fld) : AC P field_bounds.id [.agg f.cells] [] (.tuple [.int .i64 (fLo f), .int .i64 (fHi f)]) [] := by
  refine field_bounds.intro rfl (Goes.run ?_)
  conv => whnf
  refine ⟨rfl, ?_⟩
  repeat' first
    | (refine Run.condC rfl (fun h => ?_) (fun h => ?_) <;> (conv => whnf) <;> refine ⟨rfl, ?_⟩)
    | (refine Run.retP ?_; (conv => whnf); refine ⟨rfl, ?_⟩)
  all_goals
    refine Le.tuple (.cons (.int ?_) (.cons (.int ?_) .nil))
    · simp [fLo, *]
    · simp [fHi, *]

/-- How many bytes hold a number. -/
def byts (n : Nat) : Nat := if h : n = 0 then 0 else byts (n / 256) + 1
  termination_by n
  decreasing_by omega

theorem byts_zero : byts 0 = 0 := by rw [byts]; simp
theorem byts_pos {n : Nat} (h : 0 < n) : byts n = byts (n / 256) + 1 := by rw [byts]; simp [show n ≠ 0 by omega]

theorem byts_le (n : Nat) : byts n ≤ n := by
  induction n using Nat.strongRecOn with
  | _ n ih =>
    rcases Nat.eq_zero_or_pos n with rfl | h
    · rw [byts_zero]; omega
    · rw [byts_pos h]
      have := ih (n / 256) (by omega)
      omega

def wid (n : Int) : Int := byts n.toNat

theorem field_width (n : Int) (hn : n ≤ 9223372036854775807) : AC P field_width.id [.int .i64 n] [] (.int .i64 (wid n)) [] := by
  refine field_width.intro rfl (Goes.run ?_)
  conv => whnf
  refine ⟨rfl, ?_⟩
  refine Run.loopN (ι := Int × Nat) (fun i => i.1 ≤ n ∧ i.2 + byts i.1.toNat = byts n.toNat) (fun i => [(0, .int .i64 i.1), (3, .int .i64 (i.2 : Int))]) (fun _ => []) (fun i => i.1.toNat) (n, 0) ⟨Int.le_refl _, Nat.zero_add _⟩
    (Wk.ofEnv (Wk.cons (.refl _) (Wk.cons (.refl _) Wk.done))) fun ⟨c, w⟩ ⟨h1, h2⟩ => ?_
  have hle := byts_le n.toNat
  conv => whnf
  refine ⟨rfl, ?_⟩
  refine Run.condC rfl (fun h => ?_) (fun h => ?_) <;> (conv => whnf) <;> refine ⟨rfl, ?_⟩
  · have hc : 0 < c := by simpa using h
    refine Run.doesC rfl rfl (fun _ => Does.shr rfl rfl (by omega)) ?_
    conv => whnf
    refine ⟨rfl, ?_⟩
    have hb := byts_pos (n := c.toNat) (by omega)
    have hd : (c.fdiv 256).toNat = c.toNat / 256 := by
      rw [Int.fdiv_eq_ediv_of_nonneg _ (by omega)]
      omega
    refine Run.endR ⟨(c.fdiv 256, w + 1), ⟨?_, ?_⟩, ?_, Wk.ofEnv (Wk.cons (.int ?_) (Wk.cons (.int ?_) Wk.done))⟩
    · show c.fdiv 256 ≤ n
      rw [Int.fdiv_eq_ediv_of_nonneg _ (by omega)]
      omega
    · show w + 1 + byts (c.fdiv 256).toNat = _
      rw [hd]
      simp only at h2
      omega
    · show (c.fdiv 256).toNat < c.toNat
      rw [hd]
      omega
    · rfl
    · simp only at h2
      rw [wrap_of (by omega) (by omega)]
      simp
  · have hc : c ≤ 0 := by simpa using h
    refine Run.exitR rfl rfl ?_
    conv => whnf
    refine ⟨rfl, ?_⟩
    refine Run.retP ?_
    conv => whnf
    refine ⟨rfl, .int ?_⟩
    simp only at h2
    have : c.toNat = 0 := by omega
    rw [this, byts_zero] at h2
    show (w : Int) = _
    unfold wid
    omega
end Go.Proofs.Ytbpcjahjbkiofaa.Sp

set_option linter.unusedVariables false
namespace Go.Proofs.Ytbpcjahjbkiofaa.Sp
open Go Go.Proofs.Ytbpcjahjbkiofaa.AV Go.Proofs.Ytbpcjahjbkiofaa.Fn
set_option maxRecDepth 10000

def fMost (f : Fld) : Int := if f.kind == 4 then f.most else 0

theorem bool_eq {a b : Bool} (h : a = true ↔ b = true) : a = b := by cases a <;> cases b <;> simp_all

theorem r12_span (f : Fld) : AC P R12_Span.id [.agg f.cells] [] (.tuple [.int .i64 (fLo f), .int .i64 (fHi f), .int .i64 (fMost f), .bool (fRight f)]) [] := by
  refine R12_Span.intro rfl (Goes.run ?_)
  conv => whnf
  refine ⟨rfl, ?_⟩
  repeat' first
    | (refine Run.condC rfl (fun h => ?_) (fun h => ?_) <;> (conv => whnf) <;> refine ⟨rfl, ?_⟩)
    | (refine Run.retP ?_; (conv => whnf); refine ⟨rfl, ?_⟩)
  all_goals first
    | refine Le.tuple (.cons (.int ?_) (.cons (.int ?_) (.cons (.int ?_) (.cons (.bool ?_) .nil))))
    | refine Le.tuple (.cons (.int ?_) (.cons (.int ?_) (.cons (.int ?_) (.cons (.ff ?_) .nil))))
  all_goals first
    | (simp [fLo, *]; done)
    | (simp [fHi, *]; done)
    | (simp [fMost, *]; done)
    | (simp [fRight, *]; done)
    | (refine bool_eq ?_; simp [fRight, *]; omega)
    | (simp at *; simp [fMost, *]; done)
    | (simp at *; refine bool_eq ?_; simp [fRight, *]; omega)

theorem r12_right (f : Fld) : AC P R12_Right.id [.agg f.cells] [] (.bool (fRight f)) [] := by
  refine R12_Right.intro rfl (Goes.run ?_)
  conv => whnf
  refine ⟨rfl, ?_⟩
  refine Run.callC (av := [.agg f.cells]) rfl rfl rfl (fun _ => r12_span f) rfl rfl ?_
  conv => whnf
  refine ⟨rfl, ?_⟩
  refine Run.retP ?_
  conv => whnf
  exact ⟨rfl, .refl _⟩

def fHas (f : Fld) (n : Int) (s : ByteArray) : Bool := fRight f && decide (n ≥ fLo f) && decide (n ≤ fHi f) && decide ((s.size : Int) ≤ fMost f)

theorem r12_has (f : Fld) (n : Int) (s : ByteArray) : AC P R12_Has.id [.agg f.cells, .agg [.int .i64 n, .str s]] [] (.bool (fHas f n s)) [] := by
  refine R12_Has.intro rfl (Goes.run ?_)
  conv => whnf
  refine ⟨rfl, ?_⟩
  refine Run.callC (av := [.agg f.cells]) rfl rfl rfl (fun _ => r12_span f) rfl rfl ?_
  conv => whnf
  refine ⟨rfl, ?_⟩
  refine Run.retP ?_
  conv => whnf
  exact ⟨rfl, .refl _⟩

theorem field_has (f : Fld) (n : Int) (s : ByteArray) : AC P field_Has.id [.agg f.cells, .agg [.int .i64 n, .str s]] [] (.bool (fHas f n s)) [] := by
  refine field_Has.intro rfl (Goes.run ?_)
  conv => whnf
  refine ⟨rfl, ?_⟩
  refine Run.callC (av := [.agg f.cells]) rfl rfl rfl (fun _ => field_bounds f) rfl rfl ?_
  conv => whnf
  refine ⟨rfl, ?_⟩
  refine Run.condC rfl (fun h => ?_) (fun h => ?_) <;> (conv => whnf) <;> refine ⟨rfl, ?_⟩
  all_goals
    refine Run.callC (av := [.agg f.cells]) rfl rfl rfl (fun _ => field_right f) rfl rfl ?_
    conv => whnf
    refine ⟨rfl, ?_⟩
    refine Run.retP ?_
    conv => whnf
    refine ⟨rfl, .bool ?_⟩
    simp [fHas, fMost, h]
end Go.Proofs.Ytbpcjahjbkiofaa.Sp

set_option linter.unusedVariables false
namespace Go.Proofs.Ytbpcjahjbkiofaa.Sp
open Go Go.Proofs.Ytbpcjahjbkiofaa.AV Go.Proofs.Ytbpcjahjbkiofaa.Fn
set_option maxRecDepth 10000

theorem r12_wide (n : Int) (hn : n ≤ 9223372036854775807) : AC P R12_wide.id [.int .i64 n] [] (.int .i64 (wid n)) [] := by
  refine R12_wide.intro rfl (Goes.run ?_)
  conv => whnf
  refine ⟨rfl, ?_⟩
  refine Run.loopN (ι := Int × Nat) (fun i => i.1 ≤ n ∧ i.2 + byts i.1.toNat = byts n.toNat) (fun i => [(0, .int .i64 i.1), (3, .int .i64 (i.2 : Int))]) (fun _ => []) (fun i => i.1.toNat) (n, 0) ⟨Int.le_refl _, Nat.zero_add _⟩
    (Wk.ofEnv (Wk.cons (.refl _) (Wk.cons (.refl _) Wk.done))) fun ⟨c, w⟩ ⟨h1, h2⟩ => ?_
  have hle := byts_le n.toNat
  conv => whnf
  refine ⟨rfl, ?_⟩
  refine Run.condC rfl (fun h => ?_) (fun h => ?_) <;> (conv => whnf) <;> refine ⟨rfl, ?_⟩
  · have hc : 0 < c := by simpa using h
    refine Run.doesC rfl rfl (fun _ => Does.quo rfl rfl (by omega)) ?_
    conv => whnf
    refine ⟨rfl, ?_⟩
    have hb := byts_pos (n := c.toNat) (by omega)
    simp only at h1 h2
    have hq : IntKind.i64.wrap (c.tdiv 256) = c / 256 := by
      rw [Int.tdiv_eq_ediv_of_nonneg (by omega)]
      exact wrap_of (by omega) (by omega)
    have hd : (c / 256).toNat = c.toNat / 256 := by omega
    refine Run.endR ⟨(c / 256, w + 1), ⟨?_, ?_⟩, ?_, Wk.ofEnv (Wk.cons (.int hq) (Wk.cons (.int ?_) Wk.done))⟩
    · show c / 256 ≤ n
      omega
    · show w + 1 + byts (c / 256).toNat = _
      rw [hd]
      omega
    · show (c / 256).toNat < c.toNat
      omega
    · rw [wrap_of (by omega) (by omega)]
      simp
  · have hc : c ≤ 0 := by simpa using h
    refine Run.exitR rfl rfl ?_
    conv => whnf
    refine ⟨rfl, ?_⟩
    refine Run.retP ?_
    conv => whnf
    refine ⟨rfl, .int ?_⟩
    simp only at h2
    have : c.toNat = 0 := by omega
    rw [this, byts_zero] at h2
    show (w : Int) = _
    unfold wid
    omega

/-- What it says that a field is right. -/
theorem fRight_cases {f : Fld} (h : fRight f = true) : 0 ≤ f.id ∧ f.id ≤ 255 ∧ ((f.kind = 1 ∧ -1099511627776 ≤ f.lo ∧ f.lo ≤ f.hi ∧ f.hi ≤ 1099511627776 ∧ f.most = 0) ∨ (f.kind = 2 ∧ f.lo = 0 ∧ f.hi = 0 ∧ f.most = 0) ∨
    (f.kind = 3 ∧ f.lo = 0 ∧ f.hi = 0 ∧ 1 ≤ f.most ∧ f.most ≤ 1000) ∨ (f.kind = 4 ∧ f.lo = 0 ∧ f.hi = 0 ∧ 0 ≤ f.most ∧ f.most ≤ 32)) := by
  unfold fRight at h
  simp only [Bool.and_eq_true, Bool.not_eq_true', Bool.or_eq_false_iff, decide_eq_false_iff_not] at h
  obtain ⟨⟨h1, h2⟩, h3⟩ := h
  refine ⟨by omega, by omega, ?_⟩
  split at h3
  · simp at *; omega
  · split at h3
    · simp at *; omega
    · split at h3
      · simp at *; omega
      · split at h3
        · simp at *; omega
        · cases h3

def fWider (a b : Fld) : Bool := fRight a && fRight b && a.kind == b.kind && decide (fLo b ≤ fLo a) && decide (fHi a ≤ fHi b) && decide (fMost a ≤ fMost b)

theorem r12_wider (a b : Fld) : AC P R12_Wider.id [.agg a.cells, .agg b.cells] [] (.bool (fWider a b)) [] := by
  refine R12_Wider.intro rfl (Goes.run ?_)
  conv => whnf
  refine ⟨rfl, ?_⟩
  refine Run.callC (av := [.agg a.cells]) rfl rfl rfl (fun _ => r12_span a) rfl rfl ?_
  conv => whnf
  refine ⟨rfl, ?_⟩
  refine Run.callC (av := [.agg b.cells]) rfl rfl rfl (fun _ => r12_span b) rfl rfl ?_
  conv => whnf
  refine ⟨rfl, ?_⟩
  refine Run.retP ?_
  conv => whnf
  exact ⟨rfl, .refl _⟩

theorem field_wider (a b : Fld) : AC P field_Wider.id [.agg a.cells, .agg b.cells] [] (.bool (fWider a b)) [] := by
  refine field_Wider.intro rfl (Goes.run ?_)
  conv => whnf
  refine ⟨rfl, ?_⟩
  refine Run.callC (av := [.agg a.cells]) rfl rfl rfl (fun _ => field_right a) rfl rfl ?_
  conv => whnf
  refine ⟨rfl, ?_⟩
  refine Run.callC (av := [.agg b.cells]) rfl rfl rfl (fun _ => field_right b) rfl rfl ?_
  conv => whnf
  refine ⟨rfl, ?_⟩
  refine Run.condC rfl (fun h => ?_) (fun h => ?_) <;> (conv => whnf) <;> refine ⟨rfl, ?_⟩
  · refine Run.retP ?_
    conv => whnf
    refine ⟨rfl, .ff ?_⟩
    simp only [fWider]
    revert h
    cases fRight a <;> cases fRight b <;> simp
    intro h h2
    exact absurd h2 h
  · refine Run.callC (av := [.agg a.cells]) rfl rfl rfl (fun _ => field_bounds a) rfl rfl ?_
    conv => whnf
    refine ⟨rfl, ?_⟩
    refine Run.callC (av := [.agg b.cells]) rfl rfl rfl (fun _ => field_bounds b) rfl rfl ?_
    conv => whnf
    refine ⟨rfl, ?_⟩
    refine Run.retP ?_
    conv => whnf
    refine ⟨rfl, .bool ?_⟩
    have h' : fRight a = true ∧ fRight b = true ∧ a.kind = b.kind := by
      revert h
      cases fRight a <;> cases fRight b <;> simp
    obtain ⟨ha, hb, hk⟩ := h'
    refine bool_eq ?_
    obtain ⟨_, _, ca⟩ := fRight_cases ha
    obtain ⟨_, _, cb⟩ := fRight_cases hb
    simp only [fWider, ha, hb, hk, fMost]
    rcases ca with h1 | h1 | h1 | h1 <;> rcases cb with h2 | h2 | h2 | h2 <;> first
      | (exfalso; omega)
      | (have e1 : a.kind = _ := h1.1
         have e2 : b.kind = _ := h2.1
         simp only [fLo, fHi, e1, e2]
         simp [wrap_of (x := a.most - 1) (by omega) (by omega), wrap_of (x := b.most - 1) (by omega) (by omega)]
         try omega)
end Go.Proofs.Ytbpcjahjbkiofaa.Sp

set_option linter.unusedVariables false
namespace Go.Proofs.Ytbpcjahjbkiofaa.Sp
open Go Go.Proofs.Ytbpcjahjbkiofaa.AV Go.Proofs.Ytbpcjahjbkiofaa.Fn
set_option maxRecDepth 10000

theorem wrap_le (x : Int) : IntKind.i64.wrap x ≤ 9223372036854775807 := by
  unfold IntKind.wrap
  simp only [IntKind.bits, IntKind.signed, Bool.true_and]
  split <;> rename_i h <;> simp at h <;> omega
theorem wrap_ge (x : Int) : -9223372036854775808 ≤ IntKind.i64.wrap x := by
  unfold IntKind.wrap
  simp only [IntKind.bits, IntKind.signed, Bool.true_and]
  split <;> rename_i h <;> simp at h <;> omega

theorem field_wide (f : Fld) : AC P field_wide.id [.agg f.cells] [] (.int .i64 (wid (IntKind.i64.wrap (fHi f - fLo f)))) [] := by
  refine field_wide.intro rfl (Goes.run ?_)
  conv => whnf
  refine ⟨rfl, ?_⟩
  refine Run.callC (av := [.agg f.cells]) rfl rfl rfl (fun _ => field_bounds f) rfl rfl ?_
  conv => whnf
  refine ⟨rfl, ?_⟩
  refine Run.callC (av := [.int .i64 (IntKind.i64.wrap (fHi f - fLo f))]) rfl rfl rfl (fun _ => field_width _ (wrap_le _)) rfl rfl ?_
  conv => whnf
  refine ⟨rfl, ?_⟩
  refine Run.retP ?_
  conv => whnf
  exact ⟨rfl, .refl _⟩

def fSize (f : Fld) : Int := if fRight f then (if f.kind == 4 then 1 + f.most else wid (fHi f - fLo f)) else 0

theorem span_wrap {f : Fld} (h : fRight f = true) : IntKind.i64.wrap (fHi f - fLo f) = fHi f - fLo f := by
  obtain ⟨_, _, c⟩ := fRight_cases h
  refine wrap_of ?_ ?_
  all_goals
    rcases c with h1 | h1 | h1 | h1 <;>
      (have e1 : f.kind = _ := h1.1
       simp only [fLo, fHi, e1]
       simp
       try rw [wrap_of (x := f.most - 1) (by omega) (by omega)]
       try omega)

theorem wid_one : wid 1 = 1 := by
  unfold wid
  rw [byts_pos (by decide)]
  show ((byts 0 + 1 : Nat) : Int) = 1
  rw [byts_zero]
  rfl

theorem field_size (f : Fld) : AC P field_Size.id [.agg f.cells] [] (.int .i64 (fSize f)) [] := by
  refine field_Size.intro rfl (Goes.run ?_)
  conv => whnf
  refine ⟨rfl, ?_⟩
  refine Run.callC (av := [.agg f.cells]) rfl rfl rfl (fun _ => field_right f) rfl rfl ?_
  conv => whnf
  refine ⟨rfl, ?_⟩
  repeat' first
    | (refine Run.condC rfl (fun h => ?_) (fun h => ?_) <;> (conv => whnf) <;> refine ⟨rfl, ?_⟩)
    | (refine Run.callC (av := [.agg f.cells]) rfl rfl rfl (fun _ => field_wide f) rfl rfl ?_; (conv => whnf); refine ⟨rfl, ?_⟩)
    | (refine Run.retP ?_; (conv => whnf); refine ⟨rfl, .int ?_⟩)
  · simp at *; simp [fSize, *]
  · have hr : fRight f = true := by simp at *; assumption
    obtain ⟨_, _, c⟩ := fRight_cases hr
    have hk : f.kind = 4 := by simp at *; assumption
    simp [fSize, hr, hk]
    rw [wrap_of (by omega) (by omega)]
    omega
  · have hr : fRight f = true := by simp at *; assumption
    have hk : f.kind = 2 := by simp at *; assumption
    simp [fSize, hr, hk, fHi, fLo, wid_one]
    rfl
  · have hr : fRight f = true := by simp at *; assumption
    have hk : (f.kind == 4) = false := by simp at *; assumption
    simp [fSize, hr, hk, span_wrap hr]

theorem r12_size (f : Fld) : AC P R12_Size.id [.agg f.cells] [] (.int .i64 (fSize f)) [] := by
  refine R12_Size.intro rfl (Goes.run ?_)
  conv => whnf
  refine ⟨rfl, ?_⟩
  refine Run.callC (av := [.agg f.cells]) rfl rfl rfl (fun _ => r12_span f) rfl rfl ?_
  conv => whnf
  refine ⟨rfl, ?_⟩
  repeat' first
    | (refine Run.condC rfl (fun h => ?_) (fun h => ?_) <;> (conv => whnf) <;> refine ⟨rfl, ?_⟩)
    | (refine Run.callC (av := [.int .i64 (IntKind.i64.wrap (fHi f - fLo f))]) rfl rfl rfl (fun _ => r12_wide _ (wrap_le _)) rfl rfl ?_; (conv => whnf); refine ⟨rfl, ?_⟩)
    | (refine Run.retP ?_; (conv => whnf); refine ⟨rfl, .int ?_⟩)
  · simp at *; simp [fSize, *]
  · have hr : fRight f = true := by simp at *; assumption
    obtain ⟨_, _, c⟩ := fRight_cases hr
    have hk : f.kind = 4 := by simp at *; assumption
    simp [fSize, hr, hk, fMost]
    rw [wrap_of (by omega) (by omega)]
  · have hr : fRight f = true := by simp at *; assumption
    have hk : (f.kind == 4) = false := by simp at *; assumption
    simp [fSize, hr, hk, span_wrap hr]

theorem byts_mono : ∀ {a b : Nat}, a ≤ b → byts a ≤ byts b := by
  intro a
  induction a using Nat.strongRecOn with
  | _ a ih =>
    intro b h
    rcases Nat.eq_zero_or_pos a with rfl | ha
    · rw [byts_zero]; omega
    · rw [byts_pos ha, byts_pos (n := b) (by omega)]
      have := ih (a / 256) (by omega) (b := b / 256) (Nat.div_le_div_right h)
      omega

theorem fSize_le (f : Fld) : 0 ≤ fSize f ∧ fSize f ≤ 33 := by
  unfold fSize
  split
  · rename_i h
    obtain ⟨_, _, c⟩ := fRight_cases h
    split
    · rename_i hk
      simp at hk
      omega
    · have h8 : byts 2199023255552 ≤ 6 := by
        simp [byts_pos, byts_zero]
      have : (fHi f - fLo f).toNat ≤ 2199023255552 := by
        rcases c with h1 | h1 | h1 | h1 <;>
          (have e1 : f.kind = _ := h1.1
           simp only [fLo, fHi, e1]
           simp
           try rw [wrap_of (x := f.most - 1) (by omega) (by omega)]
           try omega)
      have := byts_mono this
      unfold wid
      omega
  · omega
end Go.Proofs.Ytbpcjahjbkiofaa.Sp

set_option linter.unusedVariables false
namespace Go.Proofs.Ytbpcjahjbkiofaa.Sp
open Go Go.Proofs.Ytbpcjahjbkiofaa.AV Go.Proofs.Ytbpcjahjbkiofaa.Fn
set_option maxRecDepth 10000

def fLong : List Fld → Int
  | [] => 0
  | x :: r => fSize x + fLong r

theorem fLong_app (l m : List Fld) : fLong (l ++ m) = fLong l + fLong m := by
  induction l with
  | nil => simp [fLong]
  | cons x r ih => simp [fLong, ih]; omega

theorem fLong_le (l : List Fld) : 0 ≤ fLong l ∧ fLong l ≤ 33 * l.length := by
  induction l with
  | nil => simp [fLong]
  | cons x r ih =>
    have := fSize_le x
    simp only [fLong, List.length_cons]
    omega

theorem fLong_take_succ {l : List Fld} {i : Nat} (h : i < l.length) : fLong (l.take (i + 1)) = fLong (l.take i) + fSize (l.getD i default) := by
  rw [List.take_add_one, fLong_app]
  simp [h, fLong]

theorem schema_long (x : Frm) (hb : x.fields.length ≤ 1000) : AC P schema_Long.id [.agg x.cells] [] (.int .i64 (fLong x.fields)) [] := by
  refine schema_Long.intro rfl (Goes.run ?_)
  conv => whnf
  refine ⟨rfl, ?_⟩
  refine Run.loopN (ι := Nat) (fun i => i ≤ x.fields.length) (fun i => [(1, .ptr 0 0 0 0), (3, .int .i64 (fLong (x.fields.take i))), (7, encFs x.fields), (8, .int .i64 (x.fields.length : Int)), (9, .int .i64 (i : Int))]) (fun _ => [.box x.cells, .dead, .dead, .dead])
    (fun i => x.fields.length - i) 0 (Nat.zero_le _) (Wk.trans (Wk.pad 4) (Wk.ofEnv (Wk.cons (.refl _) (Wk.cons (.refl _) (Wk.cons (.refl _) (Wk.cons (.refl _) (Wk.cons (.refl _) Wk.done))))))) fun i hi => ?_
  conv => whnf
  refine ⟨rfl, ?_⟩
  refine Run.condC rfl (fun h => ?_) (fun h => ?_) <;> (conv => whnf) <;> refine ⟨rfl, ?_⟩
  · have hlt : i < x.fields.length := by simpa using h
    refine Run.iaC rfl rfl rfl rfl rfl (fun _ => ⟨by omega, by omega⟩) ?_
    conv => whnf
    refine ⟨rfl, ?_⟩
    refine Run.callC (av := [.agg (x.fields.getD i default).cells]) rfl rfl rfl (fun _ => field_size _) rfl rfl ?_
    conv => whnf
    refine ⟨rfl, ?_⟩
    have h1 := fLong_le (x.fields.take i)
    have h2 := fSize_le (x.fields.getD i default)
    simp only [List.length_take] at h1
    refine Run.endR ⟨i + 1, by omega, by omega, Wk.cut 4 rfl rfl rfl rfl (Wk.cons (.refl _) (Wk.cons (.int ?_) (Wk.cons (.refl _) (Wk.cons (.refl _) (Wk.cons (.int ?_) Wk.done)))))⟩
    · rw [wrap_of (by omega) (by omega), fLong_take_succ hlt]
    · rw [wrap_of (by omega) (by omega)]
      simp
  · have hge : i = x.fields.length := by simp at h; omega
    refine Run.exitR rfl rfl ?_
    conv => whnf
    refine ⟨rfl, ?_⟩
    refine Run.retP ?_
    conv => whnf
    refine ⟨rfl, .int ?_⟩
    rw [hge, List.take_length]

theorem r13_long (x : Frm) (hb : x.fields.length ≤ 1000) : AC P R13_Long.id [.agg x.cells] [] (.int .i64 (fLong x.fields)) [] := by
  refine R13_Long.intro rfl (Goes.run ?_)
  conv => whnf
  refine ⟨rfl, ?_⟩
  refine Run.loopN (ι := Nat) (fun i => i ≤ x.fields.length) (fun i => [(1, .ptr 0 0 0 0), (3, .int .i64 (fLong (x.fields.take i))), (4, .int .i64 (i : Int))]) (fun _ => [.box x.cells])
    (fun i => x.fields.length - i) 0 (Nat.zero_le _) (Wk.ofEnv (Wk.cons (.refl _) (Wk.cons (.refl _) (Wk.cons (.refl _) Wk.done)))) fun i hi => ?_
  conv => whnf
  refine ⟨rfl, ?_⟩
  refine Run.condC rfl (fun h => ?_) (fun h => ?_) <;> (conv => whnf) <;> refine ⟨rfl, ?_⟩
  · have hlt : i < x.fields.length := by simpa using h
    refine Run.iaC rfl rfl rfl rfl rfl (fun _ => ⟨by omega, by omega⟩) ?_
    conv => whnf
    refine ⟨rfl, ?_⟩
    refine Run.callC (av := [.agg (x.fields.getD i default).cells]) rfl rfl rfl (fun _ => r12_size _) rfl rfl ?_
    conv => whnf
    refine ⟨rfl, ?_⟩
    have h1 := fLong_le (x.fields.take i)
    have h2 := fSize_le (x.fields.getD i default)
    simp only [List.length_take] at h1
    refine Run.endR ⟨i + 1, by omega, by omega, Wk.ofEnv (Wk.cons (.refl _) (Wk.cons (.int ?_) (Wk.cons (.int ?_) Wk.done)))⟩
    · rw [wrap_of (by omega) (by omega), fLong_take_succ hlt]
    · rw [wrap_of (by omega) (by omega)]
      simp
  · have hge : i = x.fields.length := by simp at h; omega
    refine Run.exitR rfl rfl ?_
    conv => whnf
    refine ⟨rfl, ?_⟩
    refine Run.retP ?_
    conv => whnf
    refine ⟨rfl, .int ?_⟩
    rw [hge, List.take_length]
end Go.Proofs.Ytbpcjahjbkiofaa.Sp

set_option linter.unusedVariables false
namespace Go.Proofs.Ytbpcjahjbkiofaa.Sp
open Go Go.Proofs.Ytbpcjahjbkiofaa.AV Go.Proofs.Ytbpcjahjbkiofaa.Fn
set_option maxRecDepth 10000

/-- The place of a field, or none. -/
def fAt (l : List Fld) (id : Int) : Option Nat := l.findIdx? fun x => x.id == id
def placeI : Option Nat → Int
  | some i => i
  | none => -1

theorem findIdx_hit {α : Type} [Inhabited α] {l : List α} {p : α → Bool} {i : Nat} (hi : i < l.length) (hp : p (l.getD i default) = true) (hb : ∀ j, j < i → p (l.getD j default) = false) : l.findIdx? p = some i := by
  rw [List.findIdx?_eq_some_iff_getElem]
  have e : ∀ (j : Nat) (h : j < l.length), l.getD j default = l[j] := fun j h => by simp [List.getD_eq_getElem?_getD, h]
  refine ⟨hi, by rw [← e i hi]; exact hp, fun j hj => ?_⟩
  have := hb j hj
  rw [e j (by omega)] at this
  simp [this]
theorem findIdx_miss {α : Type} [Inhabited α] {l : List α} {p : α → Bool} (hb : ∀ j, j < l.length → p (l.getD j default) = false) : l.findIdx? p = none := by
  rw [List.findIdx?_eq_none_iff]
  intro x hx
  obtain ⟨j, hj, rfl⟩ := List.mem_iff_getElem.1 hx
  have := hb j hj
  rwa [show l.getD j default = l[j] by simp [List.getD_eq_getElem?_getD, hj]] at this

theorem r13_at (x : Frm) (id : Int) (hb : x.fields.length ≤ 1000) : AC P R13_At.id [.agg x.cells, .int .i64 id] [] (.int .i64 (placeI (fAt x.fields id))) [] := by
  refine R13_At.intro rfl (Goes.run ?_)
  conv => whnf
  refine ⟨rfl, ?_⟩
  refine Run.loopN (ι := Nat) (fun i => i ≤ x.fields.length ∧ ∀ j, j < i → ((x.fields.getD j default).id == id) = false) (fun i => [(1, .int .i64 id), (2, .ptr 0 0 0 0), (5, .int .i64 (i : Int))]) (fun _ => [.box x.cells])
    (fun i => x.fields.length - i) 0 ⟨Nat.zero_le _, fun j hj => absurd hj (Nat.not_lt_zero _)⟩ (Wk.ofEnv (Wk.cons (.refl _) (Wk.cons (.refl _) (Wk.cons (.refl _) Wk.done)))) fun i ⟨hi, hp⟩ => ?_
  conv => whnf
  refine ⟨rfl, ?_⟩
  refine Run.condC rfl (fun h => ?_) (fun h => ?_) <;> (conv => whnf) <;> refine ⟨rfl, ?_⟩
  · have hlt : i < x.fields.length := by simpa using h
    refine Run.iaC rfl rfl rfl rfl rfl (fun _ => ⟨by omega, by omega⟩) ?_
    conv => whnf
    refine ⟨rfl, ?_⟩
    refine Run.condC rfl (fun h => ?_) (fun h => ?_) <;> (conv => whnf) <;> refine ⟨rfl, ?_⟩
    · refine Run.retR ?_
      conv => whnf
      refine ⟨rfl, .int ?_⟩
      have : fAt x.fields id = some i := findIdx_hit hlt h hp
      rw [this]
      rfl
    · refine Run.endR ⟨i + 1, ⟨by omega, fun j hj => ?_⟩, by omega, Wk.ofEnv (Wk.cons (.refl _) (Wk.cons (.refl _) (Wk.cons (.int ?_) Wk.done)))⟩
      · by_cases e : j < i
        · exact hp j e
        · obtain rfl : j = i := by omega
          exact h
      · rw [wrap_of (by omega) (by omega)]
        simp
  · have hge : x.fields.length ≤ i := by simpa using h
    refine Run.exitR rfl rfl ?_
    conv => whnf
    refine ⟨rfl, ?_⟩
    refine Run.retP ?_
    conv => whnf
    refine ⟨rfl, .int ?_⟩
    have : fAt x.fields id = none := findIdx_miss fun j hj => hp j (by omega)
    rw [this]
    rfl

def sFind (l : List Frm) (id : Int) : Option Nat := l.findIdx? fun x => x.id == id

theorem r13_find (s : Sch) (id : Int) (hb : s.forms.length ≤ 1000) : AC P R13_Find.id [.agg s.cells, .int .i64 id] [] (.int .i64 (placeI (sFind s.forms id))) [] := by
  refine R13_Find.intro rfl (Goes.run ?_)
  conv => whnf
  refine ⟨rfl, ?_⟩
  refine Run.loopN (ι := Nat) (fun i => i ≤ s.forms.length ∧ ∀ j, j < i → ((s.forms.getD j default).id == id) = false) (fun i => [(1, .int .i64 id), (2, .ptr 0 0 0 0), (5, .int .i64 (i : Int))]) (fun _ => [.box s.cells])
    (fun i => s.forms.length - i) 0 ⟨Nat.zero_le _, fun j hj => absurd hj (Nat.not_lt_zero _)⟩ (Wk.ofEnv (Wk.cons (.refl _) (Wk.cons (.refl _) (Wk.cons (.refl _) Wk.done)))) fun i ⟨hi, hp⟩ => ?_
  conv => whnf
  refine ⟨rfl, ?_⟩
  refine Run.condC rfl (fun h => ?_) (fun h => ?_) <;> (conv => whnf) <;> refine ⟨rfl, ?_⟩
  · have hlt : i < s.forms.length := by simpa using h
    refine Run.iaC rfl rfl rfl rfl rfl (fun _ => ⟨by omega, by omega⟩) ?_
    conv => whnf
    refine ⟨rfl, ?_⟩
    refine Run.condC rfl (fun h => ?_) (fun h => ?_) <;> (conv => whnf) <;> refine ⟨rfl, ?_⟩
    · refine Run.retR ?_
      conv => whnf
      refine ⟨rfl, .int ?_⟩
      have : sFind s.forms id = some i := findIdx_hit hlt h hp
      rw [this]
      rfl
    · refine Run.endR ⟨i + 1, ⟨by omega, fun j hj => ?_⟩, by omega, Wk.ofEnv (Wk.cons (.refl _) (Wk.cons (.refl _) (Wk.cons (.int ?_) Wk.done)))⟩
      · by_cases e : j < i
        · exact hp j e
        · obtain rfl : j = i := by omega
          exact h
      · rw [wrap_of (by omega) (by omega)]
        simp
  · have hge : s.forms.length ≤ i := by simpa using h
    refine Run.exitR rfl rfl ?_
    conv => whnf
    refine ⟨rfl, ?_⟩
    refine Run.retP ?_
    conv => whnf
    refine ⟨rfl, .int ?_⟩
    have : sFind s.forms id = none := findIdx_miss fun j hj => hp j (by omega)
    rw [this]
    rfl
end Go.Proofs.Ytbpcjahjbkiofaa.Sp

set_option linter.unusedVariables false
namespace Go.Proofs.Ytbpcjahjbkiofaa.Sp
open Go Go.Proofs.Ytbpcjahjbkiofaa.AV Go.Proofs.Ytbpcjahjbkiofaa.Fn
set_option maxRecDepth 10000

/-- The field at a place is right, and none before it has its number. -/
def goodAt (l : List Fld) (i : Nat) : Bool := fRight (l.getD i default) && (fAt l (l.getD i default).id == some i)
def fFine (x : Frm) : Bool := decide (0 ≤ x.id ∧ x.id ≤ 200 ∧ 1 ≤ x.fields.length ∧ x.fields.length ≤ 8) && (List.range x.fields.length).all (goodAt x.fields) && decide (fLong x.fields ≤ 64)

theorem fAt_le {l : List Fld} {i : Nat} (hi : i < l.length) : ∃ k, fAt l (l.getD i default).id = some k ∧ k ≤ i := by
  unfold fAt
  cases h : l.findIdx? (fun x => x.id == (l.getD i default).id) with
  | none =>
    rw [List.findIdx?_eq_none_iff] at h
    have := h (l.getD i default) (by simp [List.getD_eq_getElem?_getD, hi])
    simp at this
  | some k =>
    refine ⟨k, rfl, ?_⟩
    rw [List.findIdx?_eq_some_iff_getElem] at h
    obtain ⟨_, _, h3⟩ := h
    rcases Nat.lt_or_ge i k with g | g
    · have := h3 i g
      simp [List.getD_eq_getElem?_getD, hi] at this
    · exact g

theorem r13_fine (x : Frm) (hb : x.fields.length ≤ 1000) : AC P R13_Fine.id [.agg x.cells] [] (.bool (fFine x)) [] := by
  refine R13_Fine.intro rfl (Goes.run ?_)
  conv => whnf
  refine ⟨rfl, ?_⟩
  refine Run.condC rfl (fun h => ?_) (fun h => ?_) <;> (conv => whnf) <;> refine ⟨rfl, ?_⟩
  · refine Run.retP ?_
    conv => whnf
    refine ⟨rfl, .ff ?_⟩
    have : ¬ (0 ≤ x.id ∧ x.id ≤ 200 ∧ 1 ≤ x.fields.length ∧ x.fields.length ≤ 8) := by simp at h; omega
    simp [fFine, this]
  have hh : 0 ≤ x.id ∧ x.id ≤ 200 ∧ 1 ≤ x.fields.length ∧ x.fields.length ≤ 8 := by simp at h; omega
  refine Run.loopN (ι := Nat) (fun i => i ≤ x.fields.length ∧ ∀ j, j < i → goodAt x.fields j = true) (fun i => [(1, .ptr 0 0 0 0), (3, .int .i64 (i : Int))]) (fun _ => [.box x.cells])
    (fun i => x.fields.length - i) 0 ⟨Nat.zero_le _, fun j hj => absurd hj (Nat.not_lt_zero _)⟩ (Wk.ofEnv (Wk.cons (.refl _) (Wk.cons (.refl _) Wk.done))) fun i ⟨hi, hp⟩ => ?_
  conv => whnf
  refine ⟨rfl, ?_⟩
  refine Run.condC rfl (fun h => ?_) (fun h => ?_) <;> (conv => whnf) <;> refine ⟨rfl, ?_⟩
  · have hlt : i < x.fields.length := by simpa using h
    refine Run.iaD rfl rfl rfl rfl rfl (fun _ => ⟨by omega, by omega⟩) rfl ?_
    conv => whnf
    refine ⟨rfl, ?_⟩
    refine Run.callD (av := [.agg (x.fields.getD i default).cells]) rfl rfl rfl (fun _ => r12_right _) rfl rfl rfl ?_
    conv => whnf
    refine ⟨rfl, ?_⟩
    refine Run.iaD rfl rfl rfl rfl rfl (fun _ => ⟨by omega, by omega⟩) rfl ?_
    conv => whnf
    refine ⟨rfl, ?_⟩
    refine Run.callD (av := [.agg x.cells, .int .i64 (x.fields.getD i default).id]) rfl rfl rfl (fun _ => r13_at x _ hb) rfl rfl rfl ?_
    conv => whnf
    refine ⟨rfl, ?_⟩
    obtain ⟨k, hk, hki⟩ := fAt_le hlt
    refine Run.condC rfl (fun h => ?_) (fun h => ?_) <;> (conv => whnf) <;> refine ⟨rfl, ?_⟩
    · refine Run.retR ?_
      conv => whnf
      refine ⟨rfl, .ff ?_⟩
      have hbad : goodAt x.fields i = false := by
        try simp only [Int.toNat_natCast] at h
        unfold goodAt
        rw [hk] at h ⊢
        simp only [placeI] at h
        cases hr : fRight (x.fields.getD i default)
        · rfl
        · rw [hr] at h
          simp at h ⊢
          omega
      have : (List.range x.fields.length).all (goodAt x.fields) = false := by
        rw [List.all_eq_false]
        exact ⟨i, List.mem_range.2 hlt, by rw [hbad]; simp⟩
      simp only [fFine, this, Bool.and_false, Bool.false_and]
    · have hgood : goodAt x.fields i = true := by
        try simp only [Int.toNat_natCast] at h
        unfold goodAt
        rw [hk] at h ⊢
        simp only [placeI] at h
        cases hr : fRight (x.fields.getD i default)
        · rw [hr] at h; simp at h
        · rw [hr] at h
          simp at h ⊢
          omega
      refine Run.endR ⟨i + 1, ⟨by omega, fun j hj => ?_⟩, by omega, Wk.ofEnv (Wk.cons (.refl _) (Wk.cons (.int ?_) Wk.done))⟩
      · by_cases e : j < i
        · exact hp j e
        · obtain rfl : j = i := by omega
          exact hgood
      · rw [wrap_of (by omega) (by omega)]
        simp
  · have hge : x.fields.length ≤ i := by simpa using h
    refine Run.exitR rfl rfl ?_
    conv => whnf
    refine ⟨rfl, ?_⟩
    refine Run.callC (av := [.agg x.cells]) rfl rfl rfl (fun _ => r13_long x hb) rfl rfl ?_
    conv => whnf
    refine ⟨rfl, ?_⟩
    refine Run.retP ?_
    conv => whnf
    refine ⟨rfl, .bool ?_⟩
    have : (List.range x.fields.length).all (goodAt x.fields) = true := by
      rw [List.all_eq_true]
      intro j hj
      exact hp j (by rw [List.mem_range] at hj; omega)
    simp only [fFine, this, hh, and_self, decide_true, Bool.and_true, Bool.true_and]
end Go.Proofs.Ytbpcjahjbkiofaa.Sp

set_option linter.unusedVariables false
namespace Go.Proofs.Ytbpcjahjbkiofaa.Sp
open Go Go.Proofs.Ytbpcjahjbkiofaa.AV Go.Proofs.Ytbpcjahjbkiofaa.Fn
set_option maxRecDepth 10000

def okAt (l : List Frm) (i : Nat) : Bool := fFine (l.getD i default) && (i == 0 || decide ((l.getD (i - 1) default).id < (l.getD i default).id))
def sRight (s : Sch) : Bool := decide (1 ≤ s.version ∧ s.version ≤ 65535 ∧ s.forms.length ≤ 8) && (List.range s.forms.length).all (okAt s.forms)

def Small (s : Sch) : Prop := s.forms.length ≤ 1000 ∧ ∀ i, (s.forms.getD i default).fields.length ≤ 1000

theorem r13_right (s : Sch) (hs : Small s) : AC P R13_Right.id [.agg s.cells] [] (.bool (sRight s)) [] := by
  obtain ⟨hb, hf⟩ := hs
  refine R13_Right.intro rfl (Goes.run ?_)
  conv => whnf
  refine ⟨rfl, ?_⟩
  refine Run.condC rfl (fun h => ?_) (fun h => ?_) <;> (conv => whnf) <;> refine ⟨rfl, ?_⟩
  · refine Run.retP ?_
    conv => whnf
    refine ⟨rfl, .ff ?_⟩
    have : ¬ (1 ≤ s.version ∧ s.version ≤ 65535 ∧ s.forms.length ≤ 8) := by simp at h; omega
    simp [sRight, this]
  have hh : 1 ≤ s.version ∧ s.version ≤ 65535 ∧ s.forms.length ≤ 8 := by simp at h; omega
  refine Run.loopN (ι := Nat) (fun i => i ≤ s.forms.length ∧ ∀ j, j < i → okAt s.forms j = true) (fun i => [(1, .ptr 0 0 0 0), (3, .int .i64 (i : Int))]) (fun _ => [.box s.cells])
    (fun i => s.forms.length - i) 0 ⟨Nat.zero_le _, fun j hj => absurd hj (Nat.not_lt_zero _)⟩ (Wk.ofEnv (Wk.cons (.refl _) (Wk.cons (.refl _) Wk.done))) fun i ⟨hi, hp⟩ => ?_
  conv => whnf
  refine ⟨rfl, ?_⟩
  refine Run.condC rfl (fun h => ?_) (fun h => ?_) <;> (conv => whnf) <;> refine ⟨rfl, ?_⟩
  · have hlt : i < s.forms.length := by simpa using h
    refine Run.iaD rfl rfl rfl rfl rfl (fun _ => ⟨by omega, by omega⟩) rfl ?_
    conv => whnf
    refine ⟨rfl, ?_⟩
    refine Run.callD (av := [.agg (s.forms.getD i default).cells]) rfl rfl rfl (fun _ => r13_fine _ (hf i)) rfl rfl rfl ?_
    conv => whnf
    refine ⟨rfl, ?_⟩
    have hw : (i : Int) > 0 → IntKind.i64.wrap ((i : Int) - 1) = ((i - 1 : Nat) : Int) := fun h => by
      rw [wrap_of (by omega) (by omega)]; omega
    refine Run.iaD rfl rfl rfl rfl rfl (fun hg => ?_) rfl ?_
    · have h0 : (i : Int) > 0 := by simpa [pol] using hg.1
      rw [hw h0]
      omega
    conv => whnf
    refine ⟨rfl, ?_⟩
    refine Run.iaD rfl rfl rfl rfl rfl (fun _ => ⟨by omega, by omega⟩) rfl ?_
    conv => whnf
    refine ⟨rfl, ?_⟩
    have key : ∀ c : Bool, ((!fFine (s.forms.getD i default)) || (decide ((i : Int) > 0) && decide ((s.forms.getD (IntKind.i64.wrap ((i : Int) - 1)).toNat default).id ≥ (s.forms.getD i default).id))) = c → okAt s.forms i = !c := by
      intro c hc
      subst hc
      unfold okAt
      rcases Nat.eq_zero_or_pos i with h0 | h0
      · subst h0; simp
      · rw [hw (by omega), Int.toNat_natCast]
        have h1 : decide ((i : Int) > 0) = true := by simp; omega
        have h2 : (i == 0) = false := by simp; omega
        rw [h1, h2]
        cases fFine (s.forms.getD i default) <;> simp
        rw [← decide_not]
        simp
    refine Run.condC rfl (fun h => ?_) (fun h => ?_) <;> (conv => whnf) <;> refine ⟨rfl, ?_⟩
    · refine Run.retR ?_
      conv => whnf
      refine ⟨rfl, .ff ?_⟩
      have hbad : okAt s.forms i = false := key true h
      have : (List.range s.forms.length).all (okAt s.forms) = false := by
        rw [List.all_eq_false]
        exact ⟨i, List.mem_range.2 hlt, by rw [hbad]; simp⟩
      simp only [sRight, this, Bool.and_false]
    · have hgood : okAt s.forms i = true := key false h
      refine Run.endR ⟨i + 1, ⟨by omega, fun j hj => ?_⟩, by omega, Wk.ofEnv (Wk.cons (.refl _) (Wk.cons (.int ?_) Wk.done))⟩
      · by_cases e : j < i
        · exact hp j e
        · obtain rfl : j = i := by omega
          exact hgood
      · rw [wrap_of (by omega) (by omega)]
        simp
  · have hge : s.forms.length ≤ i := by simpa using h
    refine Run.exitR rfl rfl ?_
    conv => whnf
    refine ⟨rfl, ?_⟩
    refine Run.retP ?_
    conv => whnf
    refine ⟨rfl, .tt ?_⟩
    have : (List.range s.forms.length).all (okAt s.forms) = true := by
      rw [List.all_eq_true]
      intro j hj
      exact hp j (by rw [List.mem_range] at hj; omega)
    simp only [sRight, this, hh, and_self, decide_true, Bool.and_true]
end Go.Proofs.Ytbpcjahjbkiofaa.Sp

set_option linter.unusedVariables false
set_option linter.unusedSimpArgs false
namespace Go.Proofs.Ytbpcjahjbkiofaa.Sp
open Go Go.Proofs.Ytbpcjahjbkiofaa.AV Go.Proofs.Ytbpcjahjbkiofaa.Fn
set_option maxRecDepth 10000

def bs (l : List Nat) : ByteArray := ⟨(l.map UInt8.ofNat).toArray⟩
/-- The parts that a step has, each a letter. -/
def usesS (op : Int) : ByteArray := bif (op == 1 || op == 22) then bs [102, 112, 70, 86] else bif (op == 2) then bs [102, 100, 86] else bif (op == 3 || op == 23) then bs [102, 100, 70] else bif (op == 4) then bs [102, 100, 98] else bif (op == 24) then bs [102, 100, 98, 70] else bif (op == 5) then bs [102, 100, 97, 84] else bif (op == 25) then bs [102, 100, 84] else bif (op == 6) then bs [102, 100, 97, 116] else bif (op == 26) then bs [102, 100, 97, 116, 70] else bif (op == 7 || op == 27) then bs [102, 100, 112] else bif (op == 8 || op == 28) then bs [102, 100, 116] else bif (op == 9 || op == 30) then bs [102, 76] else bif (op == 10 || op == 29) then bs [102] else bif (op == 21) then bs [102, 100] else bs []

theorem usesS_size (op : Int) : (usesS op).size ≤ 5 := by
  have e : ∀ l : List Nat, (bs l).size = l.length := fun l => by simp [bs, ByteArray.size]
  unfold usesS
  repeat' (rw [cond_eq_ite]; split)
  all_goals (rw [e]; simp)

theorem r15_uses (op : Int) : AC P R15_uses.id [.int .i64 op] [] (.str (usesS op)) [] := by
  refine R15_uses.intro rfl (Goes.run ?_)
  conv => whnf
  refine ⟨rfl, ?_⟩
  repeat' first | (refine Run.condC rfl (fun h => ?_) (fun h => ?_) <;> (conv => whnf) <;> refine ⟨rfl, ?_⟩) | (refine Run.retP ?_; (conv => whnf); refine ⟨rfl, .str ?_⟩)
  all_goals (simp only [usesS, *, cond_true, cond_false, Bool.or_true, Bool.true_or, Bool.or_false, Bool.false_or]; rfl)

/-- Does a step of that kind have this part? -/
def hasS (s : ByteArray) (c : Int) : Bool := (List.range s.size).any fun i => byteAt s i == c
def hasB (op c : Int) : Bool := hasS (usesS op) c

theorem r15_has (op c : Int) : AC P R15_has.id [.int .i64 op, .int .u8 c] [] (.bool (hasB op c)) [] := by
  refine R15_has.intro rfl (Goes.run ?_)
  conv => whnf
  refine ⟨rfl, ?_⟩
  refine Run.callC (av := [.int .i64 op]) rfl rfl rfl (fun _ => r15_uses op) rfl rfl ?_
  conv => whnf
  refine ⟨rfl, ?_⟩
  have hs := usesS_size op
  unfold hasB
  generalize usesS op = s at hs ⊢
  refine Run.loopN (ι := Nat) (fun i => i ≤ s.size ∧ ∀ j, j < i → (byteAt s j == c) = false) (fun i => [(1, .int .u8 c), (5, .str s), (6, .int .i64 (i : Int))]) (fun _ => [])
    (fun i => s.size - i) 0 ⟨Nat.zero_le _, fun j hj => absurd hj (Nat.not_lt_zero _)⟩ (Wk.ofEnv (Wk.cons (.refl _) (Wk.cons (.refl _) (Wk.cons (.refl _) Wk.done)))) fun i ⟨hi, hp⟩ => ?_
  conv => whnf
  refine ⟨rfl, ?_⟩
  refine Run.condC rfl (fun h => ?_) (fun h => ?_) <;> (conv => whnf) <;> refine ⟨rfl, ?_⟩
  · have hlt : i < s.size := by simpa using h
    refine Run.doesC rfl rfl (fun _ => Does.ixS (i := i) rfl rfl rfl hlt) ?_
    conv => whnf
    refine ⟨rfl, ?_⟩
    refine Run.condC rfl (fun h => ?_) (fun h => ?_) <;> (conv => whnf) <;> refine ⟨rfl, ?_⟩
    · refine Run.retR ?_
      conv => whnf
      refine ⟨rfl, .tt ?_⟩
      unfold hasS
      rw [List.any_eq_true]
      exact ⟨i, List.mem_range.2 hlt, h⟩
    · refine Run.endR ⟨i + 1, ⟨by omega, fun j hj => ?_⟩, by omega, Wk.ofEnv (Wk.cons (.refl _) (Wk.cons (.refl _) (Wk.cons (.int ?_) Wk.done)))⟩
      · by_cases e : j < i
        · exact hp j e
        · obtain rfl : j = i := by omega
          exact h
      · rw [wrap_of (by omega) (by omega)]
        simp
  · have hge : s.size ≤ i := by simpa using h
    refine Run.exitR rfl rfl ?_
    conv => whnf
    refine ⟨rfl, ?_⟩
    refine Run.retP ?_
    conv => whnf
    refine ⟨rfl, .ff ?_⟩
    unfold hasS
    rw [List.any_eq_false]
    intro j hj
    rw [List.mem_range] at hj
    rw [hp j (by omega)]
    simp

def btw (n lo hi : Int) : Bool := decide (n ≥ lo) && decide (n ≤ hi)
theorem r15_between (n lo hi : Int) : AC P R15_between.id [.int .i64 n, .int .i64 lo, .int .i64 hi] [] (.bool (btw n lo hi)) [] := by
  refine R15_between.intro rfl (Goes.run ?_)
  conv => whnf
  refine ⟨rfl, ?_⟩
  refine Run.retP ?_
  conv => whnf
  refine ⟨rfl, .bool ?_⟩
  unfold btw
  cases decide (n ≥ lo) <;> rfl
end Go.Proofs.Ytbpcjahjbkiofaa.Sp

set_option linter.unusedVariables false
set_option linter.unusedSimpArgs false
namespace Go.Proofs.Ytbpcjahjbkiofaa.Sp
open Go Go.Proofs.Ytbpcjahjbkiofaa.AV Go.Proofs.Ytbpcjahjbkiofaa.Fn
set_option maxRecDepth 10000

def tabAt (l : List Int) (below : Int) (i : Nat) : Bool := btw (l.getD i 0) 0 (below - 1) && !(List.range i).any fun k => l.getD k 0 == l.getD i 0
def tabB (l : List Int) (below : Int) : Bool := (List.range l.length).all (tabAt l below) && (decide (1 ≤ l.length) && decide (l.length ≤ 64))

theorem r15_table (l : List Int) (below : Int) (hb : -1000000 ≤ below ∧ below ≤ 1000000) (hl : l.length ≤ 1000000) : AC P R15_table.id [encIs l, .int .i64 below] [] (.bool (tabB l below)) [] := by
  refine R15_table.intro rfl (Goes.run ?_)
  conv => whnf
  refine ⟨rfl, ?_⟩
  have bad : ∀ i, i < l.length → tabAt l below i = false → tabB l below = false := fun i hi h => by
    unfold tabB
    have : (List.range l.length).all (tabAt l below) = false := by
      rw [List.all_eq_false]
      exact ⟨i, List.mem_range.2 hi, by rw [h]; simp⟩
    rw [this, Bool.false_and]
  refine Run.loopN (ι := Nat) (fun i => i ≤ l.length ∧ ∀ j, j < i → tabAt l below j = true) (fun i => [(0, encIs l), (1, .int .i64 below), (5, .int .i64 (i : Int))]) (fun _ => [])
    (fun i => l.length - i) 0 ⟨Nat.zero_le _, fun j hj => absurd hj (Nat.not_lt_zero _)⟩ (Wk.ofEnv (Wk.cons (.refl _) (Wk.cons (.refl _) (Wk.cons (.refl _) Wk.done)))) fun i ⟨hi, hp⟩ => ?_
  conv => whnf
  refine ⟨rfl, ?_⟩
  refine Run.condC rfl (fun h => ?_) (fun h => ?_) <;> (conv => whnf) <;> refine ⟨rfl, ?_⟩
  · have hlt : i < l.length := by simpa using h
    refine Run.iaC rfl rfl rfl rfl rfl (fun _ => ⟨by omega, by omega⟩) ?_
    conv => whnf
    refine ⟨rfl, ?_⟩
    have hw : IntKind.i64.wrap (below - 1) = below - 1 := wrap_of (by omega) (by omega)
    refine Run.callC (av := [.int .i64 (l.getD i 0), .int .i64 0, .int .i64 (IntKind.i64.wrap (below - 1))]) rfl rfl rfl (fun _ => r15_between _ _ _) rfl rfl ?_
    conv => whnf
    refine ⟨rfl, ?_⟩
    refine Run.condC rfl (fun h => ?_) (fun h => ?_) <;> (conv => whnf) <;> refine ⟨rfl, ?_⟩
    · refine Run.retR ?_
      conv => whnf
      refine ⟨rfl, .ff (bad i hlt ?_)⟩
      rw [hw] at h
      unfold tabAt
      rw [show btw (l.getD i 0) 0 (below - 1) = false by simpa using h, Bool.false_and]
    have hbt : btw (l.getD i 0) 0 (below - 1) = true := by rw [hw] at h; simpa using h
    refine Run.loopN (ι := Nat) (fun k => k ≤ i ∧ ∀ j, j < k → (l.getD j 0 == l.getD i 0) = false) (fun k => [(0, encIs l), (1, .int .i64 below), (5, .int .i64 (i : Int)), (6, .int .i64 (k : Int))]) (fun _ => [])
      (fun k => i - k) 0 ⟨Nat.zero_le _, fun j hj => absurd hj (Nat.not_lt_zero _)⟩ (Wk.ofEnv (Wk.cons (.refl _) (Wk.cons (.refl _) (Wk.cons (.refl _) (Wk.cons (.refl _) Wk.done))))) fun k ⟨hk, hq⟩ => ?_
    conv => whnf
    refine ⟨rfl, ?_⟩
    refine Run.condC rfl (fun h => ?_) (fun h => ?_) <;> (conv => whnf) <;> refine ⟨rfl, ?_⟩
    · have hki : k < i := by simpa using h
      refine Run.iaD rfl rfl rfl rfl rfl (fun _ => ⟨by omega, by omega⟩) rfl ?_
      conv => whnf
      refine ⟨rfl, ?_⟩
      refine Run.iaD rfl rfl rfl rfl rfl (fun _ => ⟨by omega, by omega⟩) rfl ?_
      conv => whnf
      refine ⟨rfl, ?_⟩
      refine Run.condC rfl (fun h => ?_) (fun h => ?_) <;> (conv => whnf) <;> refine ⟨rfl, ?_⟩
      · refine Run.retRR ?_
        conv => whnf
        refine ⟨rfl, .ff (bad i hlt ?_)⟩
        have : ((List.range i).any fun k => l.getD k 0 == l.getD i 0) = true := by
          rw [List.any_eq_true]
          exact ⟨k, List.mem_range.2 hki, h⟩
        unfold tabAt
        rw [this]
        simp
      · refine Run.endR ⟨k + 1, ⟨by omega, fun j hj => ?_⟩, by omega, Wk.ofEnv (Wk.cons (.refl _) (Wk.cons (.refl _) (Wk.cons (.refl _) (Wk.cons (.int ?_) Wk.done))))⟩
        · by_cases e : j < k
          · exact hq j e
          · obtain rfl : j = k := by omega
            exact h
        · rw [wrap_of (by omega) (by omega)]
          simp
    · have hki : i ≤ k := by simpa using h
      refine Run.exitR rfl rfl ?_
      conv => whnf
      refine ⟨rfl, ?_⟩
      refine Run.endR ⟨i + 1, ⟨by omega, fun j hj => ?_⟩, by omega, Wk.ofEnv (Wk.cons (.refl _) (Wk.cons (.refl _) (Wk.cons (.int ?_) Wk.done)))⟩
      · by_cases e : j < i
        · exact hp j e
        · obtain rfl : j = i := by omega
          have : ((List.range j).any fun k => l.getD k 0 == l.getD j 0) = false := by
            rw [List.any_eq_false]
            intro q hq'
            rw [List.mem_range] at hq'
            rw [hq q (by omega)]
            simp
          unfold tabAt
          rw [hbt, this]
          rfl
      · rw [wrap_of (by omega) (by omega)]
        simp
  · have hge : l.length ≤ i := by simpa using h
    refine Run.exitR rfl rfl ?_
    conv => whnf
    refine ⟨rfl, ?_⟩
    refine Run.retP ?_
    conv => whnf
    refine ⟨rfl, .bool ?_⟩
    have : (List.range l.length).all (tabAt l below) = true := by
      rw [List.all_eq_true]
      intro j hj
      exact hp j (by rw [List.mem_range] at hj; omega)
    unfold tabB
    rw [this, Bool.true_and]
    exact bool_eq (by simp; omega)
end Go.Proofs.Ytbpcjahjbkiofaa.Sp

set_option linter.unusedVariables false
set_option linter.unusedSimpArgs false
namespace Go.Proofs.Ytbpcjahjbkiofaa.Sp
open Go Go.Proofs.Ytbpcjahjbkiofaa.AV Go.Proofs.Ytbpcjahjbkiofaa.Fn
set_option maxRecDepth 10000

def numB (t : Stp) : Bool :=
  bif (t.op == 4 || t.op == 24) then (btw t.a (-1048576) 1048576 && t.a != 0) && btw t.b (-1099511627776) 1099511627776 else bif (t.op == 6 || t.op == 26) then btw t.a 2 1048576 else
  bif t.op == 5 then btw t.a 1 1000 && tabB t.t t.a else bif t.op == 25 then tabB t.t 1000 else true

theorem r15_numbers (t : Stp) (hl : t.t.length ≤ 1000000) : AC P R15_numbers.id [.agg t.cells] [] (.bool (numB t)) [] := by
  refine R15_numbers.intro rfl (Goes.run ?_)
  conv => whnf
  refine ⟨rfl, ?_⟩
  refine Run.condC rfl (fun h4 => ?_) (fun h4 => ?_) <;> (conv => whnf) <;> refine ⟨rfl, ?_⟩
  · refine Run.callC (av := [.int .i64 t.a, .int .i64 (-1048576), .int .i64 1048576]) rfl rfl rfl (fun _ => r15_between _ _ _) rfl rfl ?_
    conv => whnf
    refine ⟨rfl, ?_⟩
    refine Run.callC (av := [.int .i64 t.b, .int .i64 (-1099511627776), .int .i64 1099511627776]) rfl rfl rfl (fun _ => r15_between _ _ _) rfl rfl ?_
    conv => whnf
    refine ⟨rfl, ?_⟩
    refine Run.retP ?_
    conv => whnf
    refine ⟨rfl, .bool ?_⟩
    simp only [numB, h4, cond_true]
  refine Run.condC rfl (fun h6 => ?_) (fun h6 => ?_) <;> (conv => whnf) <;> refine ⟨rfl, ?_⟩
  · refine Run.callC (av := [.int .i64 t.a, .int .i64 2, .int .i64 1048576]) rfl rfl rfl (fun _ => r15_between _ _ _) rfl rfl ?_
    conv => whnf
    refine ⟨rfl, ?_⟩
    refine Run.retP ?_
    conv => whnf
    refine ⟨rfl, .bool ?_⟩
    simp only [numB, h4, h6, cond_true, cond_false]
  refine Run.condC rfl (fun h5 => ?_) (fun h5 => ?_) <;> (conv => whnf) <;> refine ⟨rfl, ?_⟩
  · refine Run.callC (av := [.int .i64 t.a, .int .i64 1, .int .i64 1000]) rfl rfl rfl (fun _ => r15_between _ _ _) rfl rfl ?_
    conv => whnf
    refine ⟨rfl, ?_⟩
    refine Run.callC (av := [encIs t.t, .int .i64 t.a]) rfl rfl rfl (fun hg => r15_table _ _ ?_ hl) rfl rfl ?_
    · have : btw t.a 1 1000 = true := by simpa [pol] using hg.1
      simp [btw] at this
      omega
    conv => whnf
    refine ⟨rfl, ?_⟩
    refine Run.retP ?_
    conv => whnf
    refine ⟨rfl, .bool ?_⟩
    simp only [numB, h4, h6, h5, cond_true, cond_false]
  refine Run.condC rfl (fun h25 => ?_) (fun h25 => ?_) <;> (conv => whnf) <;> refine ⟨rfl, ?_⟩
  · refine Run.callC (av := [encIs t.t, .int .i64 1000]) rfl rfl rfl (fun hg => r15_table _ _ (by omega) hl) rfl rfl ?_
    conv => whnf
    refine ⟨rfl, ?_⟩
    refine Run.retP ?_
    conv => whnf
    refine ⟨rfl, .bool ?_⟩
    simp only [numB, h4, h6, h5, h25, cond_true, cond_false]
  refine Run.retP ?_
  conv => whnf
  refine ⟨rfl, .tt ?_⟩
  simp only [numB, h4, h6, h5, h25, cond_true, cond_false]

def fZero (f : Fld) : Bool := f.id == 0 && (f.kind == 0 && (f.lo == 0 && (f.hi == 0 && (f.most == 0 && true))))
def zeroB (t : Stp) : Bool :=
  ((hasB t.op 100 || t.field == 0) && (hasB t.op 112 || t.place == 0) && (hasB t.op 116 || t.to == 0)) && (hasB t.op 97 || hasB t.op 98 || t.a == 0) && (hasB t.op 98 || t.b == 0) &&
  (hasB t.op 70 || fZero t.f) && (hasB t.op 86 || (t.vn == 0 && (t.vs == ByteArray.mk #[] && true))) && (hasB t.op 84 || ((t.t.length : Int) == 0)) && (hasB t.op 76 || ((t.fields.length : Int) == 0))

theorem r15_zero (t : Stp) : AC P R15_zero.id [.agg t.cells] [] (.bool (zeroB t)) [] := by
  refine R15_zero.intro rfl (Goes.run ?_)
  conv => whnf
  refine ⟨rfl, ?_⟩
  refine Run.callC (av := [.int .i64 t.op, .int .u8 100]) rfl rfl rfl (fun _ => r15_has _ _) rfl rfl ?_
  conv => whnf
  refine ⟨rfl, ?_⟩
  refine Run.callC (av := [.int .i64 t.op, .int .u8 112]) rfl rfl rfl (fun _ => r15_has _ _) rfl rfl ?_
  conv => whnf
  refine ⟨rfl, ?_⟩
  refine Run.callC (av := [.int .i64 t.op, .int .u8 116]) rfl rfl rfl (fun _ => r15_has _ _) rfl rfl ?_
  conv => whnf
  refine ⟨rfl, ?_⟩
  refine Run.callC (av := [.int .i64 t.op, .int .u8 97]) rfl rfl rfl (fun _ => r15_has _ _) rfl rfl ?_
  conv => whnf
  refine ⟨rfl, ?_⟩
  refine Run.callC (av := [.int .i64 t.op, .int .u8 98]) rfl rfl rfl (fun _ => r15_has _ _) rfl rfl ?_
  conv => whnf
  refine ⟨rfl, ?_⟩
  refine Run.callC (av := [.int .i64 t.op, .int .u8 98]) rfl rfl rfl (fun _ => r15_has _ _) rfl rfl ?_
  conv => whnf
  refine ⟨rfl, ?_⟩
  refine Run.callC (av := [.int .i64 t.op, .int .u8 70]) rfl rfl rfl (fun _ => r15_has _ _) rfl rfl ?_
  conv => whnf
  refine ⟨rfl, ?_⟩
  refine Run.callC (av := [.int .i64 t.op, .int .u8 86]) rfl rfl rfl (fun _ => r15_has _ _) rfl rfl ?_
  conv => whnf
  refine ⟨rfl, ?_⟩
  refine Run.callC (av := [.int .i64 t.op, .int .u8 84]) rfl rfl rfl (fun _ => r15_has _ _) rfl rfl ?_
  conv => whnf
  refine ⟨rfl, ?_⟩
  refine Run.callC (av := [.int .i64 t.op, .int .u8 76]) rfl rfl rfl (fun _ => r15_has _ _) rfl rfl ?_
  conv => whnf
  refine ⟨rfl, ?_⟩
  refine Run.retP ?_
  conv => whnf
  exact ⟨rfl, .bool rfl⟩

/-- Which steps may be. -/
def bad1 (t : Stp) : Bool := negB false ((usesS t.op).toList == (ByteArray.mk #[]).toList) || !zeroB t || !btw t.form 0 200 || !btw t.field 0 255 || !btw t.place 0 8 || !btw t.to 0 255 || !numB t
def bad2 (t : Stp) : Bool := hasB t.op 116 && t.to == t.field || hasB t.op 70 && !fRight t.f
def bad3 (t : Stp) : Bool := hasB t.op 70 && hasB t.op 100 && t.f.id != t.field
def bad4 (t : Stp) : Bool := t.op == 2 && (!btw t.vn (-1099511627776) 1099511627776 || decide ((t.vs.size : Int) > 32))
def bad5 (t : Stp) : Bool := hasB t.op 112 && hasB t.op 86 && !fHas t.f t.vn t.vs
def stRight (t : Stp) : Bool := !bad1 t && (!bad2 t && (!bad3 t && (!bad4 t && (!bad5 t && (!hasB t.op 76 || fFine ⟨t.form, t.fields⟩)))))

theorem r15_right (t : Stp) (hl : t.t.length ≤ 1000000) (hf : t.fields.length ≤ 1000) : AC P R15_Right.id [.agg t.cells] [] (.bool (stRight t)) [] := by
  refine R15_Right.intro rfl (Goes.run ?_)
  conv => whnf
  refine ⟨rfl, ?_⟩
  refine Run.callC (av := [.int .i64 t.op]) rfl rfl rfl (fun _ => r15_uses _) rfl rfl ?_
  conv => whnf
  refine ⟨rfl, ?_⟩
  refine Run.callC (av := [.agg t.cells]) rfl rfl rfl (fun _ => r15_zero _) rfl rfl ?_
  conv => whnf
  refine ⟨rfl, ?_⟩
  refine Run.callC (av := [.int .i64 t.form, .int .i64 0, .int .i64 200]) rfl rfl rfl (fun _ => r15_between _ _ _) rfl rfl ?_
  conv => whnf
  refine ⟨rfl, ?_⟩
  refine Run.callC (av := [.int .i64 t.field, .int .i64 0, .int .i64 255]) rfl rfl rfl (fun _ => r15_between _ _ _) rfl rfl ?_
  conv => whnf
  refine ⟨rfl, ?_⟩
  refine Run.callC (av := [.int .i64 t.place, .int .i64 0, .int .i64 8]) rfl rfl rfl (fun _ => r15_between _ _ _) rfl rfl ?_
  conv => whnf
  refine ⟨rfl, ?_⟩
  refine Run.callC (av := [.int .i64 t.to, .int .i64 0, .int .i64 255]) rfl rfl rfl (fun _ => r15_between _ _ _) rfl rfl ?_
  conv => whnf
  refine ⟨rfl, ?_⟩
  refine Run.callC (av := [.agg t.cells]) rfl rfl rfl (fun _ => r15_numbers _ hl) rfl rfl ?_
  conv => whnf
  refine ⟨rfl, ?_⟩
  refine Run.condC rfl (fun h1 => ?_) (fun h1 => ?_) <;> (conv => whnf) <;> refine ⟨rfl, ?_⟩
  · refine Run.retP ?_
    conv => whnf
    refine ⟨rfl, .ff ?_⟩
    simp [stRight, (show bad1 t = true from h1)]
  refine Run.callC (av := [.int .i64 t.op, .int .u8 116]) rfl rfl rfl (fun _ => r15_has _ _) rfl rfl ?_
  conv => whnf
  refine ⟨rfl, ?_⟩
  refine Run.callC (av := [.int .i64 t.op, .int .u8 70]) rfl rfl rfl (fun _ => r15_has _ _) rfl rfl ?_
  conv => whnf
  refine ⟨rfl, ?_⟩
  refine Run.callC (av := [.agg t.f.cells]) rfl rfl rfl (fun _ => r12_right _) rfl rfl ?_
  conv => whnf
  refine ⟨rfl, ?_⟩
  refine Run.condC rfl (fun h2 => ?_) (fun h2 => ?_) <;> (conv => whnf) <;> refine ⟨rfl, ?_⟩
  · refine Run.retP ?_
    conv => whnf
    refine ⟨rfl, .ff ?_⟩
    simp [stRight, (show bad2 t = true from h2)]
  refine Run.callC (av := [.int .i64 t.op, .int .u8 70]) rfl rfl rfl (fun _ => r15_has _ _) rfl rfl ?_
  conv => whnf
  refine ⟨rfl, ?_⟩
  refine Run.callC (av := [.int .i64 t.op, .int .u8 100]) rfl rfl rfl (fun _ => r15_has _ _) rfl rfl ?_
  conv => whnf
  refine ⟨rfl, ?_⟩
  refine Run.condC rfl (fun h3 => ?_) (fun h3 => ?_) <;> (conv => whnf) <;> refine ⟨rfl, ?_⟩
  · refine Run.retP ?_
    conv => whnf
    refine ⟨rfl, .ff ?_⟩
    simp [stRight, (show bad3 t = true from h3)]
  refine Run.callC (av := [.int .i64 t.vn, .int .i64 (-1099511627776), .int .i64 1099511627776]) rfl rfl rfl (fun _ => r15_between _ _ _) rfl rfl ?_
  conv => whnf
  refine ⟨rfl, ?_⟩
  refine Run.condC rfl (fun h4 => ?_) (fun h4 => ?_) <;> (conv => whnf) <;> refine ⟨rfl, ?_⟩
  · refine Run.retP ?_
    conv => whnf
    refine ⟨rfl, .ff ?_⟩
    simp [stRight, (show bad4 t = true from h4)]
  refine Run.callC (av := [.int .i64 t.op, .int .u8 112]) rfl rfl rfl (fun _ => r15_has _ _) rfl rfl ?_
  conv => whnf
  refine ⟨rfl, ?_⟩
  refine Run.callC (av := [.int .i64 t.op, .int .u8 86]) rfl rfl rfl (fun _ => r15_has _ _) rfl rfl ?_
  conv => whnf
  refine ⟨rfl, ?_⟩
  refine Run.callC (av := [.agg t.f.cells, .agg [.int .i64 t.vn, .str t.vs]]) rfl rfl rfl (fun _ => r12_has _ _ _) rfl rfl ?_
  conv => whnf
  refine ⟨rfl, ?_⟩
  refine Run.condC rfl (fun h5 => ?_) (fun h5 => ?_) <;> (conv => whnf) <;> refine ⟨rfl, ?_⟩
  · refine Run.retP ?_
    conv => whnf
    refine ⟨rfl, .ff ?_⟩
    simp [stRight, (show bad5 t = true from h5)]
  refine Run.callC (av := [.int .i64 t.op, .int .u8 76]) rfl rfl rfl (fun _ => r15_has _ _) rfl rfl ?_
  conv => whnf
  refine ⟨rfl, ?_⟩
  refine Run.callC (av := [.agg (Frm.cells ⟨t.form, t.fields⟩)]) rfl rfl rfl (fun _ => r13_fine _ hf) rfl rfl ?_
  conv => whnf
  refine ⟨rfl, ?_⟩
  refine Run.retP ?_
  conv => whnf
  refine ⟨rfl, .bool ?_⟩
  have e1 : bad1 t = false := h1
  have e2 : bad2 t = false := h2
  have e3 : bad3 t = false := h3
  have e4 : bad4 t = false := h4
  have e5 : bad5 t = false := h5
  simp only [stRight, e1, e2, e3, e4, e5, Bool.not_false, Bool.true_and]
end Go.Proofs.Ytbpcjahjbkiofaa.Sp

set_option linter.unusedVariables false
set_option linter.unusedSimpArgs false
namespace Go.Proofs.Ytbpcjahjbkiofaa.Sp
open Go Go.Proofs.Ytbpcjahjbkiofaa.AV Go.Proofs.Ytbpcjahjbkiofaa.Fn
set_option maxRecDepth 10000

/-- The parts that a step has, each a number. -/
def usesP (op : Int) : List Int := bif (op == 1 || op == 22) then [0, 2, 6, 7] else bif (op == 2) then [0, 1, 7] else bif (op == 3 || op == 23) then [0, 1, 6] else bif (op == 4) then [0, 1, 5] else bif (op == 24) then [0, 1, 5, 6] else bif (op == 5) then [0, 1, 4, 8] else bif (op == 25) then [0, 1, 8] else bif (op == 6) then [0, 1, 4, 3] else bif (op == 26) then [0, 1, 4, 3, 6] else bif (op == 7 || op == 27) then [0, 1, 2] else bif (op == 8 || op == 28) then [0, 1, 3] else bif (op == 9 || op == 30) then [0, 9] else bif (op == 10 || op == 29) then [0] else bif (op == 21) then [0, 1] else []

theorem nthL_map {α : Type} (f : α → List AV) (d : α) : ∀ (l : List α) (i : Nat), i < l.length → nthL (l.map f) i = f (l.getD i d)
  | [], i, h => by simp at h
  | x :: r, 0, _ => rfl
  | x :: r, i + 1, h => by
    show nthL (r.map f) i = _
    rw [nthL_map f d r i (by simpa using h)]
    rfl
theorem encIs_lit (l : List Int) : Le (.list 1 l.length (nthL (l.map fun x => [.int .i64 x]))) (encIs l) :=
  Le.list rfl fun i hi => leL_eq (nthL_map _ 0 l i hi)

theorem encIs_lit0 (l : List Int) : Le (.list 1 l.length (fun i => nthL (l.map fun x => [.int .i64 x]) (0 + i))) (encIs l) :=
  Le.list rfl fun i hi => leL_eq (by rw [Nat.zero_add]; exact nthL_map _ 0 l i hi)

theorem encIs_of0 {n : Nat} {f : Nat → List AV} (l : List Int) (hn : n = l.length) (hf : f = fun i => nthL (l.map fun x => [.int .i64 x]) (0 + i)) : Le (.list 1 n f) (encIs l) := by
  subst hn
  subst hf
  exact encIs_lit0 l

theorem step_uses_spec (op : Int) : AC P step_uses.id [.int .i64 op] [] (encIs (usesP op)) [] := by
  refine step_uses.intro rfl (Goes.run ?_)
  conv => whnf
  refine ⟨rfl, ?_⟩
  repeat' first | (refine Run.condC rfl (fun h => ?_) (fun h => ?_) <;> (conv => whnf) <;> refine ⟨rfl, ?_⟩) | (refine Run.retZ ?_; (conv => whnf); refine ⟨rfl, ?_⟩)
  all_goals (simp only [usesP, *, cond_true, cond_false, Bool.or_true, Bool.true_or, Bool.or_false, Bool.false_or]; first | exact encIs_of0 _ rfl rfl | exact Le.zsl (sz := 1) (by omega))

theorem step_in_spec (n lo hi : Int) : AC P step_in.id [.int .i64 n, .int .i64 lo, .int .i64 hi] [] (.bool (btw n lo hi)) [] := by
  refine step_in.intro rfl (Goes.run ?_)
  conv => whnf
  refine ⟨rfl, ?_⟩
  refine Run.retP ?_
  conv => whnf
  refine ⟨rfl, .bool ?_⟩
  unfold btw
  cases decide (n ≥ lo) <;> rfl

def seenI (l : List Int) (j : Nat) (k : Int) : Bool := (l.take j).any fun y => y == k
theorem seenI_succ {l : List Int} {j : Nat} (h : j < l.length) (k : Int) : seenI l (j + 1) k = (seenI l j k || l.getD j 0 == k) := by
  unfold seenI
  rw [List.take_add_one, List.any_append]
  simp [h]
theorem tab_seen {l : List Int} {below : Int} {i : Nat} (hi : i < l.length) : tabAt l below i = (btw (l.getD i 0) 0 (below - 1) && !seenI l i (l.getD i 0)) := by
  unfold tabAt
  congr 2
  unfold seenI
  apply bool_eq
  rw [List.any_eq_true, List.any_eq_true]
  constructor
  · rintro ⟨k, hk, h⟩
    rw [List.mem_range] at hk
    refine ⟨l[k], List.mem_iff_getElem.2 ⟨k, by simp; omega, by simp⟩, ?_⟩
    rwa [show l.getD k 0 = l[k] by simp [List.getD_eq_getElem?_getD, (by omega : k < l.length)]] at h
  · rintro ⟨y, hy, h⟩
    obtain ⟨k, hk, rfl⟩ := List.mem_iff_getElem.1 hy
    simp only [List.length_take] at hk
    refine ⟨k, List.mem_range.2 (by omega), ?_⟩
    rw [List.getElem_take] at h
    rwa [show l.getD k 0 = l[k] by simp [List.getD_eq_getElem?_getD, (by omega : k < l.length)]]

theorem step_apart_spec (l : List Int) (below : Int) (hb : -1000000 ≤ below ∧ below ≤ 1000) (hl : l.length ≤ 1000000) : AC P step_apart.id [encIs l, .int .i64 below] [] (.bool (tabB l below)) [] := by
  refine step_apart.intro rfl (Goes.run ?_)
  conv => whnf
  refine ⟨rfl, ?_⟩
  have hw : IntKind.i64.wrap (below - 1) = below - 1 := wrap_of (by omega) (by omega)
  refine Run.loopN (ι := Nat) (fun i => i ≤ l.length ∧ ∀ j, j < i → tabAt l below j = true) (fun i => [(0, encIs l), (1, .int .i64 below), (5, .ptr 0 0 0 0), (8, encIs l), (9, .int .i64 (l.length : Int)), (10, .int .i64 (i : Int))])
    (fun i => [.row 1 1000 0 (fun k => [.bool (seenI l i (k : Int))]), .dead, .dead, .dead])
    (fun i => l.length - i) 0 ⟨Nat.zero_le _, fun j hj => absurd hj (Nat.not_lt_zero _)⟩ ?_ fun i ⟨hi, hp⟩ => ?_
  · refine Wk.trans (Wk.ofEnv (Wk.cons (.refl _) (Wk.cons (.refl _) (Wk.cons (.refl _) (Wk.cons (.refl _) (Wk.cons (.refl _) (Wk.cons (.refl _) Wk.done))))))) (Wk.tab fun i => ?_)
    match i with
    | 0 => exact ⟨rfl, rfl, rfl, fun k _ => .cons (.ff (by simp [seenI])) .nil⟩
    | 1 => exact .inr rfl
    | 2 => exact .inr rfl
    | 3 => exact .inr rfl
    | i + 4 => exact .inl rfl
  conv => whnf
  refine ⟨rfl, ?_⟩
  refine Run.condC rfl (fun h => ?_) (fun h => ?_) <;> (conv => whnf) <;> refine ⟨rfl, ?_⟩
  · have hlt : i < l.length := by simpa using h
    refine Run.iaC rfl rfl rfl rfl rfl (fun _ => ⟨by omega, by omega⟩) ?_
    conv => whnf
    refine ⟨rfl, ?_⟩
    refine Run.callC (av := [.int .i64 (l.getD i 0), .int .i64 0, .int .i64 (IntKind.i64.wrap (below - 1))]) rfl rfl rfl (fun _ => step_in_spec _ _ _) rfl rfl ?_
    conv => whnf
    refine ⟨rfl, ?_⟩
    rw [hw]
    refine Run.doesC rfl rfl (fun hg => Does.iaArr (i := l.getD i 0) rfl rfl rfl rfl rfl ?_ ?_) ?_
    · have : btw (l.getD i 0) 0 (below - 1) = true := by simpa [pol] using hg.1
      simp only [btw, Bool.and_eq_true, decide_eq_true_eq] at this
      omega
    · have : btw (l.getD i 0) 0 (below - 1) = true := by simpa [pol] using hg.1
      simp only [btw, Bool.and_eq_true, decide_eq_true_eq] at this
      omega
    conv => whnf
    refine ⟨rfl, ?_⟩
    have hts := tab_seen (below := below) hlt
    refine Run.condC rfl (fun h => ?_) (fun h => ?_) <;> (conv => whnf) <;> refine ⟨rfl, ?_⟩
    · refine Run.retR ?_
      conv => whnf
      refine ⟨rfl, .ff ?_⟩
      have hbad : tabAt l below i = false := by
        rw [hts]
        cases hr : btw (l.getD i 0) 0 (below - 1)
        · rfl
        · rw [hr] at h
          have h2 : seenI l i (((l.getD i 0).toNat : Nat) : Int) = true := by simpa using h
          simp only [btw, Bool.and_eq_true, decide_eq_true_eq] at hr
          rw [Int.toNat_of_nonneg (by omega)] at h2
          rw [h2]; rfl
      unfold tabB
      have : (List.range l.length).all (tabAt l below) = false := by
        rw [List.all_eq_false]
        exact ⟨i, List.mem_range.2 hlt, by rw [hbad]; simp⟩
      rw [this, Bool.false_and]
    · have hr : btw (l.getD i 0) 0 (below - 1) = true := by
        cases hr : btw (l.getD i 0) 0 (below - 1)
        · rw [hr] at h; simp at h
        · rfl
      have hr' := hr
      simp only [btw, Bool.and_eq_true, decide_eq_true_eq] at hr'
      have hgood : tabAt l below i = true := by
        rw [hts, hr]
        rw [hr] at h
        have h2 : seenI l i (((l.getD i 0).toNat : Nat) : Int) = false := by simpa using h
        rw [Int.toNat_of_nonneg (by omega)] at h2
        rw [h2]; rfl
      refine Run.doesC rfl rfl (fun _ => Does.iaArr (i := l.getD i 0) rfl rfl rfl rfl rfl (by omega) (by omega)) ?_
      conv => whnf
      refine ⟨rfl, ?_⟩
      refine Run.endR ⟨i + 1, ⟨by omega, fun j hj => ?_⟩, by omega, Wk.trans (e2 := [(0, encIs l), (1, .int .i64 below), (5, .ptr 0 0 0 0), (8, encIs l), (9, .int .i64 (l.length : Int)), (10, .int .i64 ((i + 1 : Nat) : Int))]) (Wk.ofEnv (Wk.cons (.refl _) (Wk.cons (.refl _) (Wk.cons (.refl _) (Wk.cons (.refl _) (Wk.cons (.refl _) (Wk.cons (.int ?_) Wk.done))))))) (Wk.tab fun k => ?_)⟩
      · by_cases e : j < i
        · exact hp j e
        · obtain rfl : j = i := by omega
          exact hgood
      · rw [wrap_of (by omega) (by omega)]
        simp
      · match k with
        | 0 =>
          refine ⟨rfl, rfl, rfl, fun k _ => ?_⟩
          show LeL (bif Nat.beq k (l.getD i 0).toNat then _ else _) _
          cases hk : Nat.beq k (l.getD i 0).toNat with
          | true =>
            have hk' := Nat.eq_of_beq_eq_true hk
            refine .cons (.tt ?_) .nil
            rw [seenI_succ hlt, hk', Int.toNat_of_nonneg (by omega)]
            simp
          | false =>
            refine .cons (.bool ?_) .nil
            rw [seenI_succ hlt]
            have : (l.getD i 0 == (k : Int)) = false := by
              simp only [beq_eq_false_iff_ne, ne_eq]
              intro e
              rw [e] at hk
              simp at hk
            rw [this, Bool.or_false]
        | 1 => exact LeOb.refl _
        | 2 => exact LeOb.refl _
        | 3 => exact LeOb.refl _
        | k + 4 => exact .inl rfl
  · have hge : l.length ≤ i := by simpa using h
    refine Run.exitR rfl rfl ?_
    conv => whnf
    refine ⟨rfl, ?_⟩
    refine Run.callC (av := [.int .i64 (l.length : Int), .int .i64 1, .int .i64 64]) rfl rfl rfl (fun _ => step_in_spec _ _ _) rfl rfl ?_
    conv => whnf
    refine ⟨rfl, ?_⟩
    refine Run.retP ?_
    conv => whnf
    refine ⟨rfl, .bool ?_⟩
    have : (List.range l.length).all (tabAt l below) = true := by
      rw [List.all_eq_true]
      intro j hj
      exact hp j (by rw [List.mem_range] at hj; omega)
    unfold tabB
    rw [this, Bool.true_and]
    exact bool_eq (by simp [btw]; omega)
end Go.Proofs.Ytbpcjahjbkiofaa.Sp

set_option linter.unusedVariables false
namespace Go.Proofs.Ytbpcjahjbkiofaa.Sp
open Go Go.Proofs.Ytbpcjahjbkiofaa.AV Go.Proofs.Ytbpcjahjbkiofaa.Fn
set_option maxRecDepth 10000

def seenB (l : List Fld) (j : Nat) (k : Int) : Bool := (l.take j).any fun y => y.id == k

theorem seenB_zero (l : List Fld) (k : Int) : seenB l 0 k = false := by simp [seenB]
theorem seenB_succ {l : List Fld} {j : Nat} (h : j < l.length) (k : Int) : seenB l (j + 1) k = (seenB l j k || (l.getD j default).id == k) := by
  unfold seenB
  rw [List.take_add_one, List.any_append]
  simp [h]

theorem good_seen {l : List Fld} {i : Nat} (hi : i < l.length) : goodAt l i = (fRight (l.getD i default) && !seenB l i (l.getD i default).id) := by
  unfold goodAt
  congr 1
  obtain ⟨k, hk, hki⟩ := fAt_le hi
  rw [hk]
  unfold fAt at hk
  rw [List.findIdx?_eq_some_iff_getElem] at hk
  obtain ⟨h1, h2, h3⟩ := hk
  cases hs : seenB l i (l.getD i default).id with
  | true =>
    unfold seenB at hs
    rw [List.any_eq_true] at hs
    obtain ⟨y, hy, hyid⟩ := hs
    obtain ⟨m, hm, rfl⟩ := List.mem_iff_getElem.1 hy
    simp only [List.length_take] at hm
    have hne : k ≠ i := fun e => by
      subst e
      have := h3 m (by omega)
      rw [List.getElem_take] at hyid
      rw [hyid] at this
      exact this rfl
    simp [hne]
  | false =>
    unfold seenB at hs
    have he : k = i := by
      rcases Nat.lt_or_ge k i with g | g
      · exfalso
        rw [List.any_eq_false] at hs
        have hmem : l[k] ∈ l.take i := List.mem_iff_getElem.2 ⟨k, by simp; omega, by simp⟩
        exact hs _ hmem h2
      · omega
    simp [he]

theorem schema_fine (x : Frm) (hb : x.fields.length ≤ 1000) : AC P schema_Fine.id [.agg x.cells] [] (.bool (fFine x)) [] := by
  refine schema_Fine.intro rfl (Goes.run ?_)
  conv => whnf
  refine ⟨rfl, ?_⟩
  refine Run.callC (av := [.agg x.cells]) rfl rfl rfl (fun _ => schema_long x hb) rfl rfl ?_
  conv => whnf
  refine ⟨rfl, ?_⟩
  refine Run.condC rfl (fun h => ?_) (fun h => ?_) <;> (conv => whnf) <;> refine ⟨rfl, ?_⟩
  · refine Run.retP ?_
    conv => whnf
    refine ⟨rfl, .ff ?_⟩
    have : ¬ ((0 ≤ x.id ∧ x.id ≤ 200 ∧ 1 ≤ x.fields.length ∧ x.fields.length ≤ 8) ∧ fLong x.fields ≤ 64) := by simp at h; omega
    unfold fFine
    cases h1 : decide (0 ≤ x.id ∧ x.id ≤ 200 ∧ 1 ≤ x.fields.length ∧ x.fields.length ≤ 8)
    · simp
    · have : ¬ fLong x.fields ≤ 64 := fun h2 => this ⟨of_decide_eq_true h1, h2⟩
      simp [this]
  have hh : (0 ≤ x.id ∧ x.id ≤ 200 ∧ 1 ≤ x.fields.length ∧ x.fields.length ≤ 8) ∧ fLong x.fields ≤ 64 := by simp at h; omega
  refine Run.loopN (ι := Nat) (fun i => i ≤ x.fields.length ∧ ∀ j, j < i → goodAt x.fields j = true) (fun i => [(1, .ptr 0 0 0 0), (3, .ptr 1 0 0 0), (32, encFs x.fields), (33, .int .i64 (x.fields.length : Int)), (34, .int .i64 (i : Int))])
    (fun i => [.box x.cells, .row 1 256 0 (fun k => [.bool (seenB x.fields i (k : Int))]), .dead, .dead])
    (fun i => x.fields.length - i) 0 ⟨Nat.zero_le _, fun j hj => absurd hj (Nat.not_lt_zero _)⟩ ?_ fun i ⟨hi, hp⟩ => ?_
  · refine Wk.trans (Wk.ofEnv (Wk.cons (.refl _) (Wk.cons (.refl _) (Wk.cons (.refl _) (Wk.cons (.refl _) (Wk.cons (.refl _) Wk.done)))))) (Wk.tab fun i => ?_)
    match i with
    | 0 => exact LeOb.refl _
    | 1 => exact ⟨rfl, rfl, rfl, fun k _ => .cons (.ff (seenB_zero _ _)) .nil⟩
    | 2 => exact .inr rfl
    | 3 => exact .inr rfl
    | i + 4 => exact .inl rfl
  conv => whnf
  refine ⟨rfl, ?_⟩
  refine Run.condC rfl (fun h => ?_) (fun h => ?_) <;> (conv => whnf) <;> refine ⟨rfl, ?_⟩
  · have hlt : i < x.fields.length := by simpa using h
    refine Run.iaC rfl rfl rfl rfl rfl (fun _ => ⟨by omega, by omega⟩) ?_
    conv => whnf
    refine ⟨rfl, ?_⟩
    refine Run.callC (av := [.agg (x.fields.getD i default).cells]) rfl rfl rfl (fun _ => field_right _) rfl rfl ?_
    conv => whnf
    refine ⟨rfl, ?_⟩
    have hid : AllT [pol false !fRight (x.fields.getD i default)] → 0 ≤ (x.fields.getD i default).id ∧ (x.fields.getD i default).id < (256 : Nat) := fun hg => by
      have hr : fRight (x.fields.getD i default) = true := by simpa [pol] using hg.1
      obtain ⟨q1, q2, _⟩ := fRight_cases hr
      omega
    refine Run.doesC rfl rfl (fun hg => Does.iaArr rfl rfl rfl rfl rfl (hid hg).1 (hid hg).2) ?_
    conv => whnf
    refine ⟨rfl, ?_⟩
    have hgs := good_seen hlt
    refine Run.condC rfl (fun h => ?_) (fun h => ?_) <;> (conv => whnf) <;> refine ⟨rfl, ?_⟩
    · refine Run.retR ?_
      conv => whnf
      refine ⟨rfl, .ff ?_⟩
      have hbad : goodAt x.fields i = false := by
        rw [hgs]
        cases hr : fRight (x.fields.getD i default)
        · rfl
        · obtain ⟨q1, q2, _⟩ := fRight_cases hr
          rw [hr] at h
          have h2 : seenB x.fields i (((x.fields.getD i default).id.toNat : Nat) : Int) = true := by simpa using h
          rw [Int.toNat_of_nonneg q1] at h2
          rw [h2]; rfl
      have : (List.range x.fields.length).all (goodAt x.fields) = false := by
        rw [List.all_eq_false]
        exact ⟨i, List.mem_range.2 hlt, by rw [hbad]; simp⟩
      simp only [fFine, this, Bool.and_false, Bool.false_and]
    · have hr : fRight (x.fields.getD i default) = true := by
        cases hr : fRight (x.fields.getD i default)
        · rw [hr] at h; simp at h
        · rfl
      obtain ⟨q1, q2, _⟩ := fRight_cases hr
      have hgood : goodAt x.fields i = true := by
        rw [hgs, hr]
        rw [hr] at h
        have h2 : seenB x.fields i (((x.fields.getD i default).id.toNat : Nat) : Int) = false := by simpa using h
        rw [Int.toNat_of_nonneg q1] at h2
        rw [h2]; rfl
      refine Run.doesC rfl rfl (fun _ => Does.iaArr (i := (x.fields.getD i default).id) rfl rfl rfl rfl rfl q1 (by omega)) ?_
      conv => whnf
      refine ⟨rfl, ?_⟩
      refine Run.endR ⟨i + 1, ⟨by omega, fun j hj => ?_⟩, by omega, Wk.trans (e2 := [(1, .ptr 0 0 0 0), (3, .ptr 1 0 0 0), (32, encFs x.fields), (33, .int .i64 (x.fields.length : Int)), (34, .int .i64 ((i + 1 : Nat) : Int))]) (Wk.cut 4 rfl rfl rfl rfl (Wk.cons (.refl _) (Wk.cons (.refl _) (Wk.cons (.refl _) (Wk.cons (.refl _) (Wk.cons (.int ?_) Wk.done)))))) (Wk.tab fun k => ?_)⟩
      · by_cases e : j < i
        · exact hp j e
        · obtain rfl : j = i := by omega
          exact hgood
      · rw [wrap_of (by omega) (by omega)]
        simp
      · match k with
        | 0 => exact LeOb.refl _
        | 1 =>
          refine ⟨rfl, rfl, rfl, fun k _ => ?_⟩
          show LeL (bif Nat.beq k (x.fields.getD i default).id.toNat then _ else _) _
          cases hk : Nat.beq k (x.fields.getD i default).id.toNat with
          | true =>
            have hk' := Nat.eq_of_beq_eq_true hk
            refine .cons (.tt ?_) .nil
            rw [seenB_succ hlt, hk', Int.toNat_of_nonneg q1]
            simp
          | false =>
            refine .cons (.bool ?_) .nil
            rw [seenB_succ hlt]
            have : ((x.fields.getD i default).id == (k : Int)) = false := by
              simp only [beq_eq_false_iff_ne, ne_eq]
              intro e
              rw [e] at hk
              simp at hk
            rw [this, Bool.or_false]
        | 2 => exact LeOb.refl _
        | 3 => exact LeOb.refl _
        | k + 4 => exact .inl rfl
  · have hge : x.fields.length ≤ i := by simpa using h
    refine Run.exitR rfl rfl ?_
    conv => whnf
    refine ⟨rfl, ?_⟩
    refine Run.retP ?_
    conv => whnf
    refine ⟨rfl, .tt ?_⟩
    have : (List.range x.fields.length).all (goodAt x.fields) = true := by
      rw [List.all_eq_true]
      intro j hj
      exact hp j (by rw [List.mem_range] at hj; omega)
    simp only [fFine, this, hh, and_self, decide_true, Bool.and_true]
end Go.Proofs.Ytbpcjahjbkiofaa.Sp

set_option linter.unusedVariables false
namespace Go.Proofs.Ytbpcjahjbkiofaa.Sp
open Go Go.Proofs.Ytbpcjahjbkiofaa.AV Go.Proofs.Ytbpcjahjbkiofaa.Fn
set_option maxRecDepth 10000

def lastId (l : List Frm) (i : Nat) : Int := if i = 0 then -1 else (l.getD (i - 1) default).id

theorem okAt_last (l : List Frm) (i : Nat) : okAt l i = !((!fFine (l.getD i default)) || decide ((l.getD i default).id ≤ lastId l i)) := by
  unfold okAt lastId
  cases hf : fFine (l.getD i default) with
  | false => simp
  | true =>
    have h0 : 0 ≤ (l.getD i default).id := by
      simp only [fFine, Bool.and_eq_true, decide_eq_true_eq] at hf
      exact hf.1.1.1
    by_cases hi : i = 0
    · subst hi
      have : ¬ (l.getD 0 default).id ≤ -1 := by omega
      simp only [if_true, decide_eq_false this]
      simp
    · have h2 : (i == 0) = false := by simp; exact hi
      rw [h2, if_neg hi]
      simp only [Bool.true_and, Bool.false_or, Bool.not_true]
      rw [← decide_not]
      simp

theorem schema_right (s : Sch) (hs : Small s) : AC P schema_Right.id [.agg s.cells] [] (.bool (sRight s)) [] := by
  obtain ⟨hb, hf⟩ := hs
  refine schema_Right.intro rfl (Goes.run ?_)
  conv => whnf
  refine ⟨rfl, ?_⟩
  refine Run.condC rfl (fun h => ?_) (fun h => ?_) <;> (conv => whnf) <;> refine ⟨rfl, ?_⟩
  · refine Run.retP ?_
    conv => whnf
    refine ⟨rfl, .ff ?_⟩
    have : ¬ (1 ≤ s.version ∧ s.version ≤ 65535 ∧ s.forms.length ≤ 8) := by simp at h; omega
    simp [sRight, this]
  have hh : 1 ≤ s.version ∧ s.version ≤ 65535 ∧ s.forms.length ≤ 8 := by simp at h; omega
  refine Run.loopN (ι := Nat) (fun i => i ≤ s.forms.length ∧ ∀ j, j < i → okAt s.forms j = true) (fun i => [(1, .ptr 0 0 0 0), (3, .int .i64 (lastId s.forms i)), (21, encFms s.forms), (22, .int .i64 (s.forms.length : Int)), (23, .int .i64 (i : Int))]) (fun _ => [.box s.cells, .dead, .dead, .dead])
    (fun i => s.forms.length - i) 0 ⟨Nat.zero_le _, fun j hj => absurd hj (Nat.not_lt_zero _)⟩ (Wk.trans (Wk.pad 4) (Wk.ofEnv (Wk.cons (.refl _) (Wk.cons (.refl _) (Wk.cons (.refl _) (Wk.cons (.refl _) (Wk.cons (.refl _) Wk.done))))))) fun i ⟨hi, hp⟩ => ?_
  conv => whnf
  refine ⟨rfl, ?_⟩
  refine Run.condC rfl (fun h => ?_) (fun h => ?_) <;> (conv => whnf) <;> refine ⟨rfl, ?_⟩
  · have hlt : i < s.forms.length := by simpa using h
    refine Run.iaC rfl rfl rfl rfl rfl (fun _ => ⟨by omega, by omega⟩) ?_
    conv => whnf
    refine ⟨rfl, ?_⟩
    refine Run.callC (av := [.agg (s.forms.getD i default).cells]) rfl rfl rfl (fun _ => schema_fine _ (hf i)) rfl rfl ?_
    conv => whnf
    refine ⟨rfl, ?_⟩
    have hk := okAt_last s.forms i
    refine Run.condC rfl (fun h => ?_) (fun h => ?_) <;> (conv => whnf) <;> refine ⟨rfl, ?_⟩
    · refine Run.retR ?_
      conv => whnf
      refine ⟨rfl, .ff ?_⟩
      have hbad : okAt s.forms i = false := by rw [hk]; exact congrArg not h
      have : (List.range s.forms.length).all (okAt s.forms) = false := by
        rw [List.all_eq_false]
        exact ⟨i, List.mem_range.2 hlt, by rw [hbad]; simp⟩
      simp only [sRight, this, Bool.and_false]
    · have hgood : okAt s.forms i = true := by rw [hk]; exact congrArg not h
      refine Run.endR ⟨i + 1, ⟨by omega, fun j hj => ?_⟩, by omega, Wk.cut 4 rfl rfl rfl rfl (Wk.cons (.refl _) (Wk.cons (.int ?_) (Wk.cons (.refl _) (Wk.cons (.refl _) (Wk.cons (.int ?_) Wk.done)))))⟩
      · by_cases e : j < i
        · exact hp j e
        · obtain rfl : j = i := by omega
          exact hgood
      · unfold lastId
        rw [if_neg (by omega)]
        rfl
      · rw [wrap_of (by omega) (by omega)]
        simp
  · have hge : s.forms.length ≤ i := by simpa using h
    refine Run.exitR rfl rfl ?_
    conv => whnf
    refine ⟨rfl, ?_⟩
    refine Run.retP ?_
    conv => whnf
    refine ⟨rfl, .tt ?_⟩
    have : (List.range s.forms.length).all (okAt s.forms) = true := by
      rw [List.all_eq_true]
      intro j hj
      exact hp j (by rw [List.mem_range] at hj; omega)
    simp only [sRight, this, hh, and_self, decide_true, Bool.and_true]
end Go.Proofs.Ytbpcjahjbkiofaa.Sp

set_option linter.unusedVariables false
set_option linter.unusedSimpArgs false
namespace Go.Proofs.Ytbpcjahjbkiofaa.Sp
open Go Go.Proofs.Ytbpcjahjbkiofaa.AV Go.Proofs.Ytbpcjahjbkiofaa.Fn
set_option maxRecDepth 10000

def fitB (t : Stp) (p : Int) : Bool :=
  bif p == 0 then btw t.form 0 200 else bif p == 1 then btw t.field 0 255 else bif p == 2 then btw t.place 0 8 else bif p == 3 then btw t.to 0 255 && t.to != t.field else
  bif p == 4 then (t.op == 5 && btw t.a 1 1000) || (t.op != 5 && btw t.a 2 1048576) else bif p == 5 then (btw t.a (-1048576) 1048576 && t.a != 0) && btw t.b (-1099511627776) 1099511627776 else
  bif p == 6 then fRight t.f && ((t.op == 1 || t.op == 22) || t.f.id == t.field) else bif p == 7 then (bif t.op == 2 then btw t.vn (-1099511627776) 1099511627776 && decide ((t.vs.size : Int) ≤ 32) else fHas t.f t.vn t.vs) else
  bif p == 8 then (bif t.op == 5 then tabB t.t t.a else tabB t.t 1000) else fFine ⟨t.form, t.fields⟩

theorem step_fits_spec (t : Stp) (p : Int) (hl : t.t.length ≤ 1000000) (hf : t.fields.length ≤ 1000) (h5 : p = 8 → t.op = 5 → 1 ≤ t.a ∧ t.a ≤ 1000) : AC P step_fits.id [.agg t.cells, .int .i64 p] [] (.bool (fitB t p)) [] := by
  refine step_fits.intro rfl (Goes.run ?_)
  conv => whnf
  refine ⟨rfl, ?_⟩
  refine Run.condC rfl (fun h0 => ?_) (fun h0 => ?_) <;> (conv => whnf) <;> refine ⟨rfl, ?_⟩
  · refine Run.callC (av := [.int .i64 t.form, .int .i64 0, .int .i64 200]) rfl rfl rfl (fun _ => step_in_spec _ _ _) rfl rfl ?_
    conv => whnf
    refine ⟨rfl, ?_⟩
    refine Run.retP ?_
    conv => whnf
    refine ⟨rfl, .bool ?_⟩
    simp only [fitB, h0, cond_true]
  refine Run.condC rfl (fun h1 => ?_) (fun h1 => ?_) <;> (conv => whnf) <;> refine ⟨rfl, ?_⟩
  · refine Run.callC (av := [.int .i64 t.field, .int .i64 0, .int .i64 255]) rfl rfl rfl (fun _ => step_in_spec _ _ _) rfl rfl ?_
    conv => whnf
    refine ⟨rfl, ?_⟩
    refine Run.retP ?_
    conv => whnf
    refine ⟨rfl, .bool ?_⟩
    simp only [fitB, h0, h1, cond_true, cond_false]
  refine Run.condC rfl (fun h2 => ?_) (fun h2 => ?_) <;> (conv => whnf) <;> refine ⟨rfl, ?_⟩
  · refine Run.callC (av := [.int .i64 t.place, .int .i64 0, .int .i64 8]) rfl rfl rfl (fun _ => step_in_spec _ _ _) rfl rfl ?_
    conv => whnf
    refine ⟨rfl, ?_⟩
    refine Run.retP ?_
    conv => whnf
    refine ⟨rfl, .bool ?_⟩
    simp only [fitB, h0, h1, h2, cond_true, cond_false]
  refine Run.condC rfl (fun h3 => ?_) (fun h3 => ?_) <;> (conv => whnf) <;> refine ⟨rfl, ?_⟩
  · refine Run.callC (av := [.int .i64 t.to, .int .i64 0, .int .i64 255]) rfl rfl rfl (fun _ => step_in_spec _ _ _) rfl rfl ?_
    conv => whnf
    refine ⟨rfl, ?_⟩
    refine Run.retP ?_
    conv => whnf
    refine ⟨rfl, .bool ?_⟩
    simp only [fitB, h0, h1, h2, h3, cond_true, cond_false]
  refine Run.condC rfl (fun h4 => ?_) (fun h4 => ?_) <;> (conv => whnf) <;> refine ⟨rfl, ?_⟩
  · refine Run.callC (av := [.int .i64 t.a, .int .i64 1, .int .i64 1000]) rfl rfl rfl (fun _ => step_in_spec _ _ _) rfl rfl ?_
    conv => whnf
    refine ⟨rfl, ?_⟩
    refine Run.callC (av := [.int .i64 t.a, .int .i64 2, .int .i64 1048576]) rfl rfl rfl (fun _ => step_in_spec _ _ _) rfl rfl ?_
    conv => whnf
    refine ⟨rfl, ?_⟩
    refine Run.retP ?_
    conv => whnf
    refine ⟨rfl, .bool ?_⟩
    simp only [fitB, h0, h1, h2, h3, h4, cond_true, cond_false]
  refine Run.condC rfl (fun h5' => ?_) (fun h5' => ?_) <;> (conv => whnf) <;> refine ⟨rfl, ?_⟩
  · refine Run.callC (av := [.int .i64 t.a, .int .i64 (-1048576), .int .i64 1048576]) rfl rfl rfl (fun _ => step_in_spec _ _ _) rfl rfl ?_
    conv => whnf
    refine ⟨rfl, ?_⟩
    refine Run.callC (av := [.int .i64 t.b, .int .i64 (-1099511627776), .int .i64 1099511627776]) rfl rfl rfl (fun _ => step_in_spec _ _ _) rfl rfl ?_
    conv => whnf
    refine ⟨rfl, ?_⟩
    refine Run.retP ?_
    conv => whnf
    refine ⟨rfl, .bool ?_⟩
    simp only [fitB, h0, h1, h2, h3, h4, h5', cond_true, cond_false]
  refine Run.condC rfl (fun h6 => ?_) (fun h6 => ?_) <;> (conv => whnf) <;> refine ⟨rfl, ?_⟩
  · refine Run.callC (av := [.agg t.f.cells]) rfl rfl rfl (fun _ => field_right _) rfl rfl ?_
    conv => whnf
    refine ⟨rfl, ?_⟩
    refine Run.retP ?_
    conv => whnf
    refine ⟨rfl, .bool ?_⟩
    simp only [fitB, h0, h1, h2, h3, h4, h5', h6, cond_true, cond_false]
  refine Run.condC rfl (fun h7 => ?_) (fun h7 => ?_) <;> (conv => whnf) <;> refine ⟨rfl, ?_⟩
  · refine Run.condC rfl (fun h8 => ?_) (fun h8 => ?_) <;> (conv => whnf) <;> refine ⟨rfl, ?_⟩
    · refine Run.callC (av := [.int .i64 t.vn, .int .i64 (-1099511627776), .int .i64 1099511627776]) rfl rfl rfl (fun _ => step_in_spec _ _ _) rfl rfl ?_
      conv => whnf
      refine ⟨rfl, ?_⟩
      refine Run.retP ?_
      conv => whnf
      refine ⟨rfl, .bool ?_⟩
      simp only [fitB, h0, h1, h2, h3, h4, h5', h6, h7, h8, cond_true, cond_false]
    · refine Run.callC (av := [.agg t.f.cells, .agg [.int .i64 t.vn, .str t.vs]]) rfl rfl rfl (fun _ => field_has _ _ _) rfl rfl ?_
      conv => whnf
      refine ⟨rfl, ?_⟩
      refine Run.retP ?_
      conv => whnf
      refine ⟨rfl, .bool ?_⟩
      simp only [fitB, h0, h1, h2, h3, h4, h5', h6, h7, h8, cond_true, cond_false]
  refine Run.condC rfl (fun h8 => ?_) (fun h8 => ?_) <;> (conv => whnf) <;> refine ⟨rfl, ?_⟩
  · refine Run.condC rfl (fun h9 => ?_) (fun h9 => ?_) <;> (conv => whnf) <;> refine ⟨rfl, ?_⟩
    · have h59 := h5 (by simpa using h8) (by simpa using h9)
      refine Run.callC (av := [encIs t.t, .int .i64 t.a]) rfl rfl rfl (fun _ => step_apart_spec _ _ (by omega) hl) rfl rfl ?_
      conv => whnf
      refine ⟨rfl, ?_⟩
      refine Run.retP ?_
      conv => whnf
      refine ⟨rfl, .bool ?_⟩
      simp only [fitB, h0, h1, h2, h3, h4, h5', h6, h7, h8, h9, cond_true, cond_false]
    · refine Run.callC (av := [encIs t.t, .int .i64 1000]) rfl rfl rfl (fun _ => step_apart_spec _ _ (by omega) hl) rfl rfl ?_
      conv => whnf
      refine ⟨rfl, ?_⟩
      refine Run.retP ?_
      conv => whnf
      refine ⟨rfl, .bool ?_⟩
      simp only [fitB, h0, h1, h2, h3, h4, h5', h6, h7, h8, h9, cond_true, cond_false]
  refine Run.callC (av := [.agg (Frm.cells ⟨t.form, t.fields⟩)]) rfl rfl rfl (fun _ => schema_fine ⟨t.form, t.fields⟩ hf) rfl rfl ?_
  conv => whnf
  refine ⟨rfl, ?_⟩
  refine Run.retP ?_
  conv => whnf
  refine ⟨rfl, .bool ?_⟩
  simp only [fitB, h0, h1, h2, h3, h4, h5', h6, h7, h8, cond_true, cond_false]

def setP (t x : Stp) (p : Int) : Stp :=
  bif p == 0 then { x with form := t.form } else bif p == 1 then { x with field := t.field } else bif p == 2 then { x with place := t.place } else bif p == 3 then { x with to := t.to } else
  bif p == 5 then { x with b := t.b, a := t.a } else bif p == 4 then { x with a := t.a } else bif p == 6 then { x with f := t.f } else bif p == 7 then { x with vn := t.vn, vs := t.vs } else
  bif p == 8 then { x with t := t.t } else bif p == 9 then { x with fields := t.fields } else x
def onlyAt (t : Stp) (i : Nat) : Stp := ((usesP t.op).take i).foldl (setP t) { (default : Stp) with op := t.op }
def onlyP (t : Stp) : Stp := (usesP t.op).foldl (setP t) { (default : Stp) with op := t.op }

theorem onlyAt_succ {t : Stp} {i : Nat} (hi : i < (usesP t.op).length) : onlyAt t (i + 1) = setP t (onlyAt t i) ((usesP t.op).getD i 0) := by
  unfold onlyAt
  rw [List.take_add_one, List.foldl_append]
  simp [hi, List.getD_eq_getElem?_getD]

theorem usesP_len (op : Int) : (usesP op).length ≤ 5 := by
  unfold usesP
  repeat' (rw [cond_eq_ite]; split)
  all_goals simp

theorem step_only_spec (t : Stp) : AC P step_only.id [.agg t.cells] [] (.agg (onlyP t).cells) [] := by
  refine step_only.intro rfl (Goes.run ?_)
  conv => whnf
  refine ⟨rfl, ?_⟩
  refine Run.callC (av := [.int .i64 t.op]) rfl rfl rfl (fun _ => step_uses_spec _) rfl rfl ?_
  conv => whnf
  refine ⟨rfl, ?_⟩
  have hlen := usesP_len t.op
  refine Run.loopN (ι := Nat) (fun i => i ≤ (usesP t.op).length) (fun i => [(1, .ptr 0 0 0 0), (2, .ptr 1 0 0 0), (3, .ptr 2 0 0 0), (11, encIs (usesP t.op)), (12, .int .i64 ((usesP t.op).length : Int)), (13, .int .i64 (i : Int))])
    (fun i => [.box t.cells, .box (Stp.cells default), .box (onlyAt t i).cells])
    (fun i => (usesP t.op).length - i) 0 (Nat.zero_le _) ?_ fun i hi => ?_
  · refine Wk.trans (Wk.ofEnv (Wk.cons (.refl _) (Wk.cons (.refl _) (Wk.cons (.refl _) (Wk.cons (.refl _) (Wk.cons (.refl _) (Wk.cons (.refl _) Wk.done))))))) (Wk.tab fun i => ?_)
    have hz : ∀ (op : Int), LeL [.int .i64 op, .int .i64 0, .int .i64 0, .int .i64 0, .int .i64 0, .int .i64 0, .int .i64 0, .int .i64 0, .int .i64 0, .int .i64 0, .int .i64 0, .int .i64 0, .int .i64 0, .str ByteArray.empty, .zsl, .zsl] ({ (default : Stp) with op := op }).cells := fun op =>
      .cons (.refl _) (.cons (.refl _) (.cons (.refl _) (.cons (.refl _) (.cons (.refl _) (.cons (.refl _) (.cons (.refl _) (.cons (.refl _) (.cons (.refl _) (.cons (.refl _) (.cons (.refl _) (.cons (.refl _) (.cons (.refl _) (.cons (.refl _) (.cons (Le.zsl (by omega)) (.cons (Le.zsl (by omega)) .nil)))))))))))))))
    match i with
    | 0 => exact LeOb.refl _
    | 1 => exact hz 0
    | 2 => exact hz t.op
    | i + 3 => exact .inl rfl
  have hstep := onlyAt_succ (t := t) (i := i)
  generalize hx : onlyAt t i = x at hstep ⊢
  conv => whnf
  refine ⟨rfl, ?_⟩
  refine Run.condC rfl (fun h => ?_) (fun h => ?_) <;> (conv => whnf) <;> refine ⟨rfl, ?_⟩
  · have hlt : i < (usesP t.op).length := by simpa using h
    replace hstep := hstep hlt
    refine Run.iaC rfl rfl rfl rfl rfl (fun _ => ⟨by omega, by omega⟩) ?_
    conv => whnf
    refine ⟨rfl, ?_⟩
    generalize hq : (usesP t.op).getD (Int.toNat (i : Int)) 0 = p
    rw [show (usesP t.op).getD i 0 = p from hq] at hstep
    have fin : ∀ (e : Env) (y : Stp), setP t x p = y → (∀ q ∈ [(1, AV.ptr 0 0 0 0), (2, .ptr 1 0 0 0), (3, .ptr 2 0 0 0), (11, encIs (usesP t.op)), (12, .int .i64 ((usesP t.op).length : Int)), (13, .int .i64 ((i + 1 : Nat) : Int))], Le (eget e q.1) q.2) →
        Wk e [.box t.cells, .box (Stp.cells default), .box y.cells] [(1, .ptr 0 0 0 0), (2, .ptr 1 0 0 0), (3, .ptr 2 0 0 0), (11, encIs (usesP t.op)), (12, .int .i64 ((usesP t.op).length : Int)), (13, .int .i64 ((i + 1 : Nat) : Int))] [.box t.cells, .box (Stp.cells default), .box (onlyAt t (i + 1)).cells] := fun e y hy he => by
      rw [hstep, hy]
      exact Wk.ofEnv he
    have hwi : IntKind.i64.wrap ((i : Int) + 1) = ((i + 1 : Nat) : Int) := by rw [wrap_of (by omega) (by omega)]; simp
    refine Run.condC rfl (fun h0 => ?_) (fun h0 => ?_) <;> (conv => whnf) <;> refine ⟨rfl, ?_⟩
    · refine Run.endR ⟨i + 1, by omega, by omega, fin _ { x with form := t.form } (by simp only [setP, h0, cond_true]) (Wk.cons (.refl _) (Wk.cons (.refl _) (Wk.cons (.refl _) (Wk.cons (.refl _) (Wk.cons (.refl _) (Wk.cons (.int hwi) Wk.done))))))⟩
    refine Run.condC rfl (fun h1 => ?_) (fun h1 => ?_) <;> (conv => whnf) <;> refine ⟨rfl, ?_⟩
    · refine Run.endR ⟨i + 1, by omega, by omega, fin _ { x with field := t.field } (by simp only [setP, h0, h1, cond_true, cond_false]) (Wk.cons (.refl _) (Wk.cons (.refl _) (Wk.cons (.refl _) (Wk.cons (.refl _) (Wk.cons (.refl _) (Wk.cons (.int hwi) Wk.done))))))⟩
    refine Run.condC rfl (fun h2 => ?_) (fun h2 => ?_) <;> (conv => whnf) <;> refine ⟨rfl, ?_⟩
    · refine Run.endR ⟨i + 1, by omega, by omega, fin _ { x with place := t.place } (by simp only [setP, h0, h1, h2, cond_true, cond_false]) (Wk.cons (.refl _) (Wk.cons (.refl _) (Wk.cons (.refl _) (Wk.cons (.refl _) (Wk.cons (.refl _) (Wk.cons (.int hwi) Wk.done))))))⟩
    refine Run.condC rfl (fun h3 => ?_) (fun h3 => ?_) <;> (conv => whnf) <;> refine ⟨rfl, ?_⟩
    · refine Run.endR ⟨i + 1, by omega, by omega, fin _ { x with to := t.to } (by simp only [setP, h0, h1, h2, h3, cond_true, cond_false]) (Wk.cons (.refl _) (Wk.cons (.refl _) (Wk.cons (.refl _) (Wk.cons (.refl _) (Wk.cons (.refl _) (Wk.cons (.int hwi) Wk.done))))))⟩
    refine Run.condC rfl (fun h5 => ?_) (fun h5 => ?_) <;> (conv => whnf) <;> refine ⟨rfl, ?_⟩
    · refine Run.endR ⟨i + 1, by omega, by omega, fin _ { x with b := t.b, a := t.a } (by simp only [setP, h0, h1, h2, h3, h5, cond_true, cond_false]) (Wk.cons (.refl _) (Wk.cons (.refl _) (Wk.cons (.refl _) (Wk.cons (.refl _) (Wk.cons (.refl _) (Wk.cons (.int hwi) Wk.done))))))⟩
    refine Run.condC rfl (fun h4 => ?_) (fun h4 => ?_) <;> (conv => whnf) <;> refine ⟨rfl, ?_⟩
    · refine Run.endR ⟨i + 1, by omega, by omega, fin _ { x with a := t.a } (by simp only [setP, h0, h1, h2, h3, h5, h4, cond_true, cond_false]) (Wk.cons (.refl _) (Wk.cons (.refl _) (Wk.cons (.refl _) (Wk.cons (.refl _) (Wk.cons (.refl _) (Wk.cons (.int hwi) Wk.done))))))⟩
    refine Run.condC rfl (fun h6 => ?_) (fun h6 => ?_) <;> (conv => whnf) <;> refine ⟨rfl, ?_⟩
    · refine Run.endR ⟨i + 1, by omega, by omega, fin _ { x with f := t.f } (by simp only [setP, h0, h1, h2, h3, h5, h4, h6, cond_true, cond_false]) (Wk.cons (.refl _) (Wk.cons (.refl _) (Wk.cons (.refl _) (Wk.cons (.refl _) (Wk.cons (.refl _) (Wk.cons (.int hwi) Wk.done))))))⟩
    refine Run.condC rfl (fun h7 => ?_) (fun h7 => ?_) <;> (conv => whnf) <;> refine ⟨rfl, ?_⟩
    · refine Run.endR ⟨i + 1, by omega, by omega, fin _ { x with vn := t.vn, vs := t.vs } (by simp only [setP, h0, h1, h2, h3, h5, h4, h6, h7, cond_true, cond_false]) (Wk.cons (.refl _) (Wk.cons (.refl _) (Wk.cons (.refl _) (Wk.cons (.refl _) (Wk.cons (.refl _) (Wk.cons (.int hwi) Wk.done))))))⟩
    refine Run.condC rfl (fun h8 => ?_) (fun h8 => ?_) <;> (conv => whnf) <;> refine ⟨rfl, ?_⟩
    · refine Run.endR ⟨i + 1, by omega, by omega, fin _ { x with t := t.t } (by simp only [setP, h0, h1, h2, h3, h5, h4, h6, h7, h8, cond_true, cond_false]) (Wk.cons (.refl _) (Wk.cons (.refl _) (Wk.cons (.refl _) (Wk.cons (.refl _) (Wk.cons (.refl _) (Wk.cons (.int hwi) Wk.done))))))⟩
    refine Run.condC rfl (fun h9 => ?_) (fun h9 => ?_) <;> (conv => whnf) <;> refine ⟨rfl, ?_⟩
    · refine Run.endR ⟨i + 1, by omega, by omega, fin _ { x with fields := t.fields } (by simp only [setP, h0, h1, h2, h3, h5, h4, h6, h7, h8, h9, cond_true, cond_false]) (Wk.cons (.refl _) (Wk.cons (.refl _) (Wk.cons (.refl _) (Wk.cons (.refl _) (Wk.cons (.refl _) (Wk.cons (.int hwi) Wk.done))))))⟩
    refine Run.endR ⟨i + 1, by omega, by omega, fin _ x (by simp only [setP, h0, h1, h2, h3, h5, h4, h6, h7, h8, h9, cond_false]) (Wk.cons (.refl _) (Wk.cons (.refl _) (Wk.cons (.refl _) (Wk.cons (.refl _) (Wk.cons (.refl _) (Wk.cons (.int hwi) Wk.done))))))⟩
  · have hge : (usesP t.op).length ≤ i := by simpa using h
    have hx2 : x = onlyP t := hx.symm.trans (by unfold onlyAt onlyP; rw [List.take_of_length_le hge])
    subst hx2
    refine Run.exitR rfl rfl ?_
    conv => whnf
    refine ⟨rfl, ?_⟩
    refine Run.retP ?_
    conv => whnf
    exact ⟨rfl, .refl _⟩
end Go.Proofs.Ytbpcjahjbkiofaa.Sp

set_option linter.unusedVariables false
set_option linter.unusedSimpArgs false
namespace Go.Proofs.Ytbpcjahjbkiofaa.Sp
open Go Go.Proofs.Ytbpcjahjbkiofaa.AV Go.Proofs.Ytbpcjahjbkiofaa.Fn
set_option maxRecDepth 10000

theorem list_eq_of {α : Type} [Inhabited α] {l m : List α} (hl : l.length = m.length) (h : ∀ j, j < l.length → l.getD j default = m.getD j default) : l = m := by
  apply List.ext_getElem hl
  intro i h1 h2
  have := h i h1
  simpa [List.getD_eq_getElem?_getD, h1, h2] using this

theorem equal_ints (l m : List Int) (hl : l.length ≤ 1000000) : AC P slices_Equal_int_int.id [encIs l, encIs m] [] (.bool (decide (l = m))) [] := by
  refine slices_Equal_int_int.intro rfl (Goes.run ?_)
  conv => whnf
  refine ⟨rfl, ?_⟩
  refine Run.condC rfl (fun h => ?_) (fun h => ?_) <;> (conv => whnf) <;> refine ⟨rfl, ?_⟩
  · refine Run.retP ?_
    conv => whnf
    refine ⟨rfl, .ff (decide_eq_false fun e => ?_)⟩
    subst e
    simp at h
  have hlm : l.length = m.length := by simp at h; omega
  refine Run.loopN (ι := Nat) (fun i => i ≤ l.length ∧ ∀ j, j < i → l.getD j 0 = m.getD j 0) (fun i => [(0, encIs l), (1, encIs m), (12, .int .i64 (l.length : Int)), (13, .int .i64 (i : Int))]) (fun _ => [])
    (fun i => l.length - i) 0 ⟨Nat.zero_le _, fun j hj => absurd hj (Nat.not_lt_zero _)⟩ (Wk.ofEnv (Wk.cons (.refl _) (Wk.cons (.refl _) (Wk.cons (.refl _) (Wk.cons (.refl _) Wk.done))))) fun i ⟨hi, hp⟩ => ?_
  conv => whnf
  refine ⟨rfl, ?_⟩
  refine Run.condC rfl (fun h => ?_) (fun h => ?_) <;> (conv => whnf) <;> refine ⟨rfl, ?_⟩
  · have hlt : i < l.length := by simpa using h
    refine Run.iaD rfl rfl rfl rfl rfl (fun _ => ⟨by omega, by omega⟩) rfl ?_
    conv => whnf
    refine ⟨rfl, ?_⟩
    refine Run.iaD rfl rfl rfl rfl rfl (fun _ => ⟨by omega, by omega⟩) rfl ?_
    conv => whnf
    refine ⟨rfl, ?_⟩
    refine Run.condC rfl (fun h => ?_) (fun h => ?_) <;> (conv => whnf) <;> refine ⟨rfl, ?_⟩
    · refine Run.retR ?_
      conv => whnf
      refine ⟨rfl, .ff (decide_eq_false fun e => ?_)⟩
      subst e
      simp at h
    · have he : l.getD i 0 = m.getD i 0 := by
        have h' : (l.getD i 0 != m.getD i 0) = false := h
        simpa using h'
      refine Run.endR ⟨i + 1, ⟨by omega, fun j hj => ?_⟩, by omega, Wk.ofEnv (Wk.cons (.refl _) (Wk.cons (.refl _) (Wk.cons (.refl _) (Wk.cons (.int ?_) Wk.done))))⟩
      · by_cases e : j < i
        · exact hp j e
        · obtain rfl : j = i := by omega
          exact he
      · rw [wrap_of (by omega) (by omega)]
        simp
  · have hge : l.length ≤ i := by simpa using h
    refine Run.exitR rfl rfl ?_
    conv => whnf
    refine ⟨rfl, ?_⟩
    refine Run.retP ?_
    conv => whnf
    exact ⟨rfl, .tt (decide_eq_true (list_eq_of hlm fun j hj => hp j (by omega)))⟩

theorem fld_eq (a b : Fld) : (a.id == b.id && (a.kind == b.kind && (a.lo == b.lo && (a.hi == b.hi && (a.most == b.most && true))))) = decide (a = b) := by
  apply bool_eq
  simp only [Bool.and_eq_true, beq_iff_eq, decide_eq_true_eq, and_true]
  constructor
  · rintro ⟨h1, h2, h3, h4, h5⟩
    cases a; cases b; simp_all
  · rintro rfl
    exact ⟨rfl, rfl, rfl, rfl, rfl⟩

theorem equal_flds (l m : List Fld) (hl : l.length ≤ 1000000) : AC P slices_Equal_api_Field_api_Field.id [encFs l, encFs m] [] (.bool (decide (l = m))) [] := by
  refine slices_Equal_api_Field_api_Field.intro rfl (Goes.run ?_)
  conv => whnf
  refine ⟨rfl, ?_⟩
  refine Run.condC rfl (fun h => ?_) (fun h => ?_) <;> (conv => whnf) <;> refine ⟨rfl, ?_⟩
  · refine Run.retP ?_
    conv => whnf
    refine ⟨rfl, .ff (decide_eq_false fun e => ?_)⟩
    subst e
    simp at h
  have hlm : l.length = m.length := by simp at h; omega
  refine Run.loopN (ι := Nat) (fun i => i ≤ l.length ∧ ∀ j, j < i → l.getD j default = m.getD j default) (fun i => [(0, encFs l), (1, encFs m), (12, .int .i64 (l.length : Int)), (13, .int .i64 (i : Int))]) (fun _ => [])
    (fun i => l.length - i) 0 ⟨Nat.zero_le _, fun j hj => absurd hj (Nat.not_lt_zero _)⟩ (Wk.ofEnv (Wk.cons (.refl _) (Wk.cons (.refl _) (Wk.cons (.refl _) (Wk.cons (.refl _) Wk.done))))) fun i ⟨hi, hp⟩ => ?_
  conv => whnf
  refine ⟨rfl, ?_⟩
  refine Run.condC rfl (fun h => ?_) (fun h => ?_) <;> (conv => whnf) <;> refine ⟨rfl, ?_⟩
  · have hlt : i < l.length := by simpa using h
    refine Run.iaD rfl rfl rfl rfl rfl (fun _ => ⟨by omega, by omega⟩) rfl ?_
    conv => whnf
    refine ⟨rfl, ?_⟩
    refine Run.iaD rfl rfl rfl rfl rfl (fun _ => ⟨by omega, by omega⟩) rfl ?_
    conv => whnf
    refine ⟨rfl, ?_⟩
    refine Run.condC rfl (fun h => ?_) (fun h => ?_) <;> (conv => whnf) <;> refine ⟨rfl, ?_⟩
    · refine Run.retR ?_
      conv => whnf
      refine ⟨rfl, .ff (decide_eq_false fun e => ?_)⟩
      subst e
      have h' : negB true ((l.getD i default).id == (l.getD i default).id && ((l.getD i default).kind == (l.getD i default).kind && ((l.getD i default).lo == (l.getD i default).lo && ((l.getD i default).hi == (l.getD i default).hi && ((l.getD i default).most == (l.getD i default).most && true))))) = true := h
      rw [fld_eq] at h'
      simp [negB] at h'
    · have he : l.getD i default = m.getD i default := by
        have h' : negB true ((l.getD i default).id == (m.getD i default).id && ((l.getD i default).kind == (m.getD i default).kind && ((l.getD i default).lo == (m.getD i default).lo && ((l.getD i default).hi == (m.getD i default).hi && ((l.getD i default).most == (m.getD i default).most && true))))) = false := h
        rw [fld_eq] at h'
        unfold negB at h'
        exact of_decide_eq_true (by simpa only [Bool.not_eq_false'] using h')
      refine Run.endR ⟨i + 1, ⟨by omega, fun j hj => ?_⟩, by omega, Wk.ofEnv (Wk.cons (.refl _) (Wk.cons (.refl _) (Wk.cons (.refl _) (Wk.cons (.int ?_) Wk.done))))⟩
      · by_cases e : j < i
        · exact hp j e
        · obtain rfl : j = i := by omega
          exact he
      · rw [wrap_of (by omega) (by omega)]
        simp
  · have hge : l.length ≤ i := by simpa using h
    refine Run.exitR rfl rfl ?_
    conv => whnf
    refine ⟨rfl, ?_⟩
    refine Run.retP ?_
    conv => whnf
    exact ⟨rfl, .tt (decide_eq_true (list_eq_of hlm fun j hj => hp j (by omega)))⟩

def wz (a b : Int) : Bool := IntKind.i64.wrap (a - b) == 0
def sameP (a b : Stp) : Bool :=
  decide (a.t = b.t) && decide (a.fields = b.fields) && (wz a.op b.op && (wz a.form b.form && (wz a.field b.field && (wz a.place b.place && (wz a.to b.to && (wz a.a b.a && (wz a.b b.b && true))))))) && decide (a.f = b.f) && (a.vn == b.vn && (a.vs == b.vs && true))

theorem step_same_spec (a b : Stp) (hl : a.t.length ≤ 1000000) (hf : a.fields.length ≤ 1000000) : AC P step_Same.id [.agg a.cells, .agg b.cells] [] (.bool (sameP a b)) [] := by
  refine step_Same.intro rfl (Goes.run ?_)
  conv => whnf
  refine ⟨rfl, ?_⟩
  refine Run.callC (av := [encIs a.t, encIs b.t]) rfl rfl rfl (fun _ => equal_ints _ _ hl) rfl rfl ?_
  conv => whnf
  refine ⟨rfl, ?_⟩
  refine Run.callC (av := [encFs a.fields, encFs b.fields]) rfl rfl rfl (fun _ => equal_flds _ _ hf) rfl rfl ?_
  conv => whnf
  refine ⟨rfl, ?_⟩
  refine Run.retP ?_
  conv => whnf
  refine ⟨rfl, .bool ?_⟩
  simp only [negB, fld_eq]
  rfl

def pRight (t : Stp) : Bool := (List.range (usesP t.op).length).all (fun i => fitB t ((usesP t.op).getD i 0)) && (decide (0 < (usesP t.op).length) && sameP t (onlyP t))

theorem uses_8 {op : Int} {i : Nat} (h5 : op = 5) (h : (usesP op).getD i 0 = 8) : 2 < i := by
  subst h5
  match i, h with
  | 0, h => exact absurd h (by decide)
  | 1, h => exact absurd h (by decide)
  | 2, h => exact absurd h (by decide)
  | i + 3, _ => omega

theorem step_right_p (t : Stp) (hl : t.t.length ≤ 1000000) (hf : t.fields.length ≤ 1000) : AC P step_Right.id [.agg t.cells] [] (.bool (pRight t)) [] := by
  refine step_Right.intro rfl (Goes.run ?_)
  conv => whnf
  refine ⟨rfl, ?_⟩
  refine Run.callC (av := [.int .i64 t.op]) rfl rfl rfl (fun _ => step_uses_spec _) rfl rfl ?_
  conv => whnf
  refine ⟨rfl, ?_⟩
  have hlen := usesP_len t.op
  refine Run.loopN (ι := Nat) (fun i => i ≤ (usesP t.op).length ∧ ∀ j, j < i → fitB t ((usesP t.op).getD j 0) = true) (fun i => [(1, .ptr 0 0 0 0), (3, encIs (usesP t.op)), (9, encIs (usesP t.op)), (10, .int .i64 ((usesP t.op).length : Int)), (11, .int .i64 (i : Int))])
    (fun i => [.box t.cells])
    (fun i => (usesP t.op).length - i) 0 ⟨Nat.zero_le _, fun j hj => absurd hj (Nat.not_lt_zero _)⟩ (Wk.ofEnv (Wk.cons (.refl _) (Wk.cons (.refl _) (Wk.cons (.refl _) (Wk.cons (.refl _) (Wk.cons (.refl _) Wk.done)))))) fun i ⟨hi, hp⟩ => ?_
  conv => whnf
  refine ⟨rfl, ?_⟩
  refine Run.condC rfl (fun h => ?_) (fun h => ?_) <;> (conv => whnf) <;> refine ⟨rfl, ?_⟩
  · have hlt : i < (usesP t.op).length := by simpa using h
    refine Run.iaC rfl rfl rfl rfl rfl (fun _ => ⟨by omega, by omega⟩) ?_
    conv => whnf
    refine ⟨rfl, ?_⟩
    refine Run.callC (av := [.agg t.cells, .int .i64 ((usesP t.op).getD i 0)]) rfl rfl rfl (fun _ => step_fits_spec t _ hl hf fun h8 h5 => ?_) rfl rfl ?_
    · have h2 := hp 2 (uses_8 h5 h8)
      rw [h5] at h2
      have h3 : fitB t 4 = true := h2
      simp [fitB, h5, btw] at h3
      omega
    conv => whnf
    refine ⟨rfl, ?_⟩
    refine Run.condC rfl (fun h => ?_) (fun h => ?_) <;> (conv => whnf) <;> refine ⟨rfl, ?_⟩
    · refine Run.retR ?_
      conv => whnf
      refine ⟨rfl, .ff ?_⟩
      have hbad : fitB t ((usesP t.op).getD i 0) = false := by simpa only [Bool.not_eq_true'] using h
      unfold pRight
      have : (List.range (usesP t.op).length).all (fun i => fitB t ((usesP t.op).getD i 0)) = false := by
        rw [List.all_eq_false]
        exact ⟨i, List.mem_range.2 hlt, by rw [hbad]; simp⟩
      rw [this, Bool.false_and]
    · have hgood : fitB t ((usesP t.op).getD i 0) = true := by simpa only [Bool.not_eq_false'] using h
      refine Run.endR ⟨i + 1, ⟨by omega, fun j hj => ?_⟩, by omega, Wk.ofEnv (Wk.cons (.refl _) (Wk.cons (.refl _) (Wk.cons (.refl _) (Wk.cons (.refl _) (Wk.cons (.int ?_) Wk.done)))))⟩
      · by_cases e : j < i
        · exact hp j e
        · obtain rfl : j = i := by omega
          exact hgood
      · rw [wrap_of (by omega) (by omega)]
        simp
  · have hge : (usesP t.op).length ≤ i := by simpa using h
    have hall : (List.range (usesP t.op).length).all (fun i => fitB t ((usesP t.op).getD i 0)) = true := by
      rw [List.all_eq_true]
      intro j hj
      exact hp j (by rw [List.mem_range] at hj; omega)
    refine Run.exitR rfl rfl ?_
    conv => whnf
    refine ⟨rfl, ?_⟩
    refine Run.callD (av := [.agg t.cells]) rfl rfl rfl (fun _ => step_only_spec _) rfl rfl rfl ?_
    conv => whnf
    refine ⟨rfl, ?_⟩
    refine Run.callD (av := [.agg t.cells, .agg (onlyP t).cells]) rfl rfl rfl (fun _ => step_same_spec _ _ hl (by omega)) rfl rfl rfl ?_
    conv => whnf
    refine ⟨rfl, ?_⟩
    refine Run.retP ?_
    conv => whnf
    refine ⟨rfl, .bool ?_⟩
    unfold pRight
    rw [hall, Bool.true_and]
    congr 1
    exact bool_eq (by simp)
end Go.Proofs.Ytbpcjahjbkiofaa.Sp

set_option linter.unusedVariables false
set_option linter.unusedSimpArgs false
namespace Go.Proofs.Ytbpcjahjbkiofaa.Sp
open Go Go.Proofs.Ytbpcjahjbkiofaa.AV Go.Proofs.Ytbpcjahjbkiofaa.Fn
set_option maxRecDepth 10000

theorem ba_beq (a b : ByteArray) : (a == b) = (a.data == b.data) := by
  cases a; cases b; simp [BEq.beq, ByteArray.beq]
theorem ba_refl (vs : ByteArray) : (vs == vs) = true := by rw [ba_beq]; exact beq_self_eq_true _
def inR (x : Int) : Prop := -9223372036854775808 ≤ x ∧ x ≤ 9223372036854775807
theorem wz_self (x : Int) : wz x x = true := by simp [wz]; decide
theorem wz_zero {x : Int} (h : inR x) : wz x 0 = (x == 0) := by
  unfold wz
  rw [Int.sub_zero, wrap_of h.1 h.2]
structure WfS (t : Stp) : Prop where
  form : inR t.form
  field : inR t.field
  place : inR t.place
  to : inR t.to
  a : inR t.a
  b : inR t.b

theorem range_all {g : Int → Bool} (l : List Int) : (List.range l.length).all (fun i => g (l.getD i 0)) = l.all g := by
  apply bool_eq
  rw [List.all_eq_true, List.all_eq_true]
  constructor
  · intro h x hx
    obtain ⟨i, hi, rfl⟩ := List.mem_iff_getElem.1 hx
    have := h i (List.mem_range.2 hi)
    rwa [show l.getD i 0 = l[i] by simp [List.getD_eq_getElem?_getD, hi]] at this
  · intro h i hi
    rw [List.mem_range] at hi
    exact h _ (by rw [show l.getD i 0 = l[i] by simp [List.getD_eq_getElem?_getD, hi]]; exact List.getElem_mem hi)

theorem fZero_eq (f : Fld) : fZero f = decide (f = default) := fld_eq f default
theorem len_zero {α : Type} [DecidableEq α] (l : List α) : (((l.length : Nat) : Int) == 0) = decide (l = []) := by
  cases l with
  | nil => rfl
  | cons x r =>
    apply bool_eq
    simp
    omega

theorem loop_len (s : ByteArray) : ∀ (n i : Nat) (r : List UInt8), s.size - i = n → (ByteArray.toList.loop s i r).length = r.length + (s.size - i) := by
  intro n
  induction n with
  | zero =>
    intro i r h
    unfold ByteArray.toList.loop
    rw [if_neg (by omega)]
    simp
    omega
  | succ n ih =>
    intro i r h
    unfold ByteArray.toList.loop
    rw [if_pos (by omega), ih (i + 1) _ (by omega)]
    simp
    omega
theorem toList_len (s : ByteArray) : s.toList.length = s.size := by
  unfold ByteArray.toList
  rw [loop_len s s.size 0 [] rfl]
  simp
theorem nonempty {s : ByteArray} (h : 0 < s.size) : (s.toList == (ByteArray.mk #[]).toList) = false := by
  have h1 := toList_len s
  have h2 : (ByteArray.mk #[]).toList = [] := List.eq_nil_of_length_eq_zero (toList_len _)
  rw [h2]
  cases hs : s.toList with
  | nil => rw [hs] at h1; simp at h1; omega
  | cons x r => rfl
theorem empty_list : ((bs []).toList == (ByteArray.mk #[]).toList) = true := by
  have h1 : (bs []).toList = [] := List.eq_nil_of_length_eq_zero (toList_len _)
  have h2 : (ByteArray.mk #[]).toList = [] := List.eq_nil_of_length_eq_zero (toList_len _)
  rw [h1, h2]; rfl

theorem st_1 (t : Stp) (hw : WfS t) (h : t.op = 1) : pRight t = stRight t := by
  obtain ⟨h1, h2, h3, h4, h5, h6⟩ := hw
  obtain ⟨op, form, field, place, to, a, b, f, vn, vs, T, fields⟩ := t
  simp only at h h1 h2 h3 h4 h5 h6
  subst h
  have eP : usesP 1 = [0, 2, 6, 7] := by decide
  have eS : ((usesS 1).toList == (ByteArray.mk #[]).toList) = false := nonempty (by decide)
  have hd : hasB 1 100 = false := by decide
  have hp : hasB 1 112 = true := by decide
  have ht : hasB 1 116 = false := by decide
  have ha : hasB 1 97 = false := by decide
  have hb : hasB 1 98 = false := by decide
  have hF : hasB 1 70 = true := by decide
  have hV : hasB 1 86 = true := by decide
  have hT : hasB 1 84 = false := by decide
  have hL : hasB 1 76 = false := by decide
  have eo : onlyP ⟨1, form, field, place, to, a, b, f, vn, vs, T, fields⟩ = ⟨1, form, 0, place, 0, 0, 0, f, vn, vs, [], []⟩ := by
    unfold onlyP
    rw [eP]
    rfl
  simp only [pRight, range_all, eo, eP, sameP, wz_self, wz_zero h1, wz_zero h2, wz_zero h3, wz_zero h4, wz_zero h5, wz_zero h6, stRight, bad1, bad2, bad3, bad4, bad5, zeroB, numB, hd, hp, ht, ha, hb, hF, hV, hT, hL, eS, fZero_eq, len_zero]
  simp only [show (ByteArray.mk #[]) = ByteArray.empty from rfl]
  simp [fitB, negB, ba_refl, show btw 0 0 255 = true by decide, show btw 0 0 8 = true by decide]
  try grind [btw]

theorem st_2 (t : Stp) (hw : WfS t) (h : t.op = 2) : pRight t = stRight t := by
  obtain ⟨h1, h2, h3, h4, h5, h6⟩ := hw
  obtain ⟨op, form, field, place, to, a, b, f, vn, vs, T, fields⟩ := t
  simp only at h h1 h2 h3 h4 h5 h6
  subst h
  have eP : usesP 2 = [0, 1, 7] := by decide
  have eS : ((usesS 2).toList == (ByteArray.mk #[]).toList) = false := nonempty (by decide)
  have hd : hasB 2 100 = true := by decide
  have hp : hasB 2 112 = false := by decide
  have ht : hasB 2 116 = false := by decide
  have ha : hasB 2 97 = false := by decide
  have hb : hasB 2 98 = false := by decide
  have hF : hasB 2 70 = false := by decide
  have hV : hasB 2 86 = true := by decide
  have hT : hasB 2 84 = false := by decide
  have hL : hasB 2 76 = false := by decide
  have eo : onlyP ⟨2, form, field, place, to, a, b, f, vn, vs, T, fields⟩ = ⟨2, form, field, 0, 0, 0, 0, default, vn, vs, [], []⟩ := by
    unfold onlyP
    rw [eP]
    rfl
  simp only [pRight, range_all, eo, eP, sameP, wz_self, wz_zero h1, wz_zero h2, wz_zero h3, wz_zero h4, wz_zero h5, wz_zero h6, stRight, bad1, bad2, bad3, bad4, bad5, zeroB, numB, hd, hp, ht, ha, hb, hF, hV, hT, hL, eS, fZero_eq, len_zero]
  simp only [show (ByteArray.mk #[]) = ByteArray.empty from rfl]
  simp [fitB, negB, ba_refl, show btw 0 0 255 = true by decide, show btw 0 0 8 = true by decide]
  try grind [btw]

theorem st_3 (t : Stp) (hw : WfS t) (h : t.op = 3) : pRight t = stRight t := by
  obtain ⟨h1, h2, h3, h4, h5, h6⟩ := hw
  obtain ⟨op, form, field, place, to, a, b, f, vn, vs, T, fields⟩ := t
  simp only at h h1 h2 h3 h4 h5 h6
  subst h
  have eP : usesP 3 = [0, 1, 6] := by decide
  have eS : ((usesS 3).toList == (ByteArray.mk #[]).toList) = false := nonempty (by decide)
  have hd : hasB 3 100 = true := by decide
  have hp : hasB 3 112 = false := by decide
  have ht : hasB 3 116 = false := by decide
  have ha : hasB 3 97 = false := by decide
  have hb : hasB 3 98 = false := by decide
  have hF : hasB 3 70 = true := by decide
  have hV : hasB 3 86 = false := by decide
  have hT : hasB 3 84 = false := by decide
  have hL : hasB 3 76 = false := by decide
  have eo : onlyP ⟨3, form, field, place, to, a, b, f, vn, vs, T, fields⟩ = ⟨3, form, field, 0, 0, 0, 0, f, 0, ByteArray.empty, [], []⟩ := by
    unfold onlyP
    rw [eP]
    rfl
  simp only [pRight, range_all, eo, eP, sameP, wz_self, wz_zero h1, wz_zero h2, wz_zero h3, wz_zero h4, wz_zero h5, wz_zero h6, stRight, bad1, bad2, bad3, bad4, bad5, zeroB, numB, hd, hp, ht, ha, hb, hF, hV, hT, hL, eS, fZero_eq, len_zero]
  simp only [show (ByteArray.mk #[]) = ByteArray.empty from rfl]
  simp [fitB, negB, ba_refl, show btw 0 0 255 = true by decide, show btw 0 0 8 = true by decide]
  try grind [btw]

theorem st_4 (t : Stp) (hw : WfS t) (h : t.op = 4) : pRight t = stRight t := by
  obtain ⟨h1, h2, h3, h4, h5, h6⟩ := hw
  obtain ⟨op, form, field, place, to, a, b, f, vn, vs, T, fields⟩ := t
  simp only at h h1 h2 h3 h4 h5 h6
  subst h
  have eP : usesP 4 = [0, 1, 5] := by decide
  have eS : ((usesS 4).toList == (ByteArray.mk #[]).toList) = false := nonempty (by decide)
  have hd : hasB 4 100 = true := by decide
  have hp : hasB 4 112 = false := by decide
  have ht : hasB 4 116 = false := by decide
  have ha : hasB 4 97 = false := by decide
  have hb : hasB 4 98 = true := by decide
  have hF : hasB 4 70 = false := by decide
  have hV : hasB 4 86 = false := by decide
  have hT : hasB 4 84 = false := by decide
  have hL : hasB 4 76 = false := by decide
  have eo : onlyP ⟨4, form, field, place, to, a, b, f, vn, vs, T, fields⟩ = ⟨4, form, field, 0, 0, a, b, default, 0, ByteArray.empty, [], []⟩ := by
    unfold onlyP
    rw [eP]
    rfl
  simp only [pRight, range_all, eo, eP, sameP, wz_self, wz_zero h1, wz_zero h2, wz_zero h3, wz_zero h4, wz_zero h5, wz_zero h6, stRight, bad1, bad2, bad3, bad4, bad5, zeroB, numB, hd, hp, ht, ha, hb, hF, hV, hT, hL, eS, fZero_eq, len_zero]
  simp only [show (ByteArray.mk #[]) = ByteArray.empty from rfl]
  simp [fitB, negB, ba_refl, show btw 0 0 255 = true by decide, show btw 0 0 8 = true by decide]
  try grind [btw]

theorem st_5 (t : Stp) (hw : WfS t) (h : t.op = 5) : pRight t = stRight t := by
  obtain ⟨h1, h2, h3, h4, h5, h6⟩ := hw
  obtain ⟨op, form, field, place, to, a, b, f, vn, vs, T, fields⟩ := t
  simp only at h h1 h2 h3 h4 h5 h6
  subst h
  have eP : usesP 5 = [0, 1, 4, 8] := by decide
  have eS : ((usesS 5).toList == (ByteArray.mk #[]).toList) = false := nonempty (by decide)
  have hd : hasB 5 100 = true := by decide
  have hp : hasB 5 112 = false := by decide
  have ht : hasB 5 116 = false := by decide
  have ha : hasB 5 97 = true := by decide
  have hb : hasB 5 98 = false := by decide
  have hF : hasB 5 70 = false := by decide
  have hV : hasB 5 86 = false := by decide
  have hT : hasB 5 84 = true := by decide
  have hL : hasB 5 76 = false := by decide
  have eo : onlyP ⟨5, form, field, place, to, a, b, f, vn, vs, T, fields⟩ = ⟨5, form, field, 0, 0, a, 0, default, 0, ByteArray.empty, T, []⟩ := by
    unfold onlyP
    rw [eP]
    rfl
  simp only [pRight, range_all, eo, eP, sameP, wz_self, wz_zero h1, wz_zero h2, wz_zero h3, wz_zero h4, wz_zero h5, wz_zero h6, stRight, bad1, bad2, bad3, bad4, bad5, zeroB, numB, hd, hp, ht, ha, hb, hF, hV, hT, hL, eS, fZero_eq, len_zero]
  simp only [show (ByteArray.mk #[]) = ByteArray.empty from rfl]
  simp [fitB, negB, ba_refl, show btw 0 0 255 = true by decide, show btw 0 0 8 = true by decide]
  try grind [btw]

theorem st_6 (t : Stp) (hw : WfS t) (h : t.op = 6) : pRight t = stRight t := by
  obtain ⟨h1, h2, h3, h4, h5, h6⟩ := hw
  obtain ⟨op, form, field, place, to, a, b, f, vn, vs, T, fields⟩ := t
  simp only at h h1 h2 h3 h4 h5 h6
  subst h
  have eP : usesP 6 = [0, 1, 4, 3] := by decide
  have eS : ((usesS 6).toList == (ByteArray.mk #[]).toList) = false := nonempty (by decide)
  have hd : hasB 6 100 = true := by decide
  have hp : hasB 6 112 = false := by decide
  have ht : hasB 6 116 = true := by decide
  have ha : hasB 6 97 = true := by decide
  have hb : hasB 6 98 = false := by decide
  have hF : hasB 6 70 = false := by decide
  have hV : hasB 6 86 = false := by decide
  have hT : hasB 6 84 = false := by decide
  have hL : hasB 6 76 = false := by decide
  have eo : onlyP ⟨6, form, field, place, to, a, b, f, vn, vs, T, fields⟩ = ⟨6, form, field, 0, to, a, 0, default, 0, ByteArray.empty, [], []⟩ := by
    unfold onlyP
    rw [eP]
    rfl
  simp only [pRight, range_all, eo, eP, sameP, wz_self, wz_zero h1, wz_zero h2, wz_zero h3, wz_zero h4, wz_zero h5, wz_zero h6, stRight, bad1, bad2, bad3, bad4, bad5, zeroB, numB, hd, hp, ht, ha, hb, hF, hV, hT, hL, eS, fZero_eq, len_zero]
  simp only [show (ByteArray.mk #[]) = ByteArray.empty from rfl]
  simp [fitB, negB, ba_refl, show btw 0 0 255 = true by decide, show btw 0 0 8 = true by decide]
  try grind [btw]

theorem st_7 (t : Stp) (hw : WfS t) (h : t.op = 7) : pRight t = stRight t := by
  obtain ⟨h1, h2, h3, h4, h5, h6⟩ := hw
  obtain ⟨op, form, field, place, to, a, b, f, vn, vs, T, fields⟩ := t
  simp only at h h1 h2 h3 h4 h5 h6
  subst h
  have eP : usesP 7 = [0, 1, 2] := by decide
  have eS : ((usesS 7).toList == (ByteArray.mk #[]).toList) = false := nonempty (by decide)
  have hd : hasB 7 100 = true := by decide
  have hp : hasB 7 112 = true := by decide
  have ht : hasB 7 116 = false := by decide
  have ha : hasB 7 97 = false := by decide
  have hb : hasB 7 98 = false := by decide
  have hF : hasB 7 70 = false := by decide
  have hV : hasB 7 86 = false := by decide
  have hT : hasB 7 84 = false := by decide
  have hL : hasB 7 76 = false := by decide
  have eo : onlyP ⟨7, form, field, place, to, a, b, f, vn, vs, T, fields⟩ = ⟨7, form, field, place, 0, 0, 0, default, 0, ByteArray.empty, [], []⟩ := by
    unfold onlyP
    rw [eP]
    rfl
  simp only [pRight, range_all, eo, eP, sameP, wz_self, wz_zero h1, wz_zero h2, wz_zero h3, wz_zero h4, wz_zero h5, wz_zero h6, stRight, bad1, bad2, bad3, bad4, bad5, zeroB, numB, hd, hp, ht, ha, hb, hF, hV, hT, hL, eS, fZero_eq, len_zero]
  simp only [show (ByteArray.mk #[]) = ByteArray.empty from rfl]
  simp [fitB, negB, ba_refl, show btw 0 0 255 = true by decide, show btw 0 0 8 = true by decide]
  try grind [btw]

theorem st_8 (t : Stp) (hw : WfS t) (h : t.op = 8) : pRight t = stRight t := by
  obtain ⟨h1, h2, h3, h4, h5, h6⟩ := hw
  obtain ⟨op, form, field, place, to, a, b, f, vn, vs, T, fields⟩ := t
  simp only at h h1 h2 h3 h4 h5 h6
  subst h
  have eP : usesP 8 = [0, 1, 3] := by decide
  have eS : ((usesS 8).toList == (ByteArray.mk #[]).toList) = false := nonempty (by decide)
  have hd : hasB 8 100 = true := by decide
  have hp : hasB 8 112 = false := by decide
  have ht : hasB 8 116 = true := by decide
  have ha : hasB 8 97 = false := by decide
  have hb : hasB 8 98 = false := by decide
  have hF : hasB 8 70 = false := by decide
  have hV : hasB 8 86 = false := by decide
  have hT : hasB 8 84 = false := by decide
  have hL : hasB 8 76 = false := by decide
  have eo : onlyP ⟨8, form, field, place, to, a, b, f, vn, vs, T, fields⟩ = ⟨8, form, field, 0, to, 0, 0, default, 0, ByteArray.empty, [], []⟩ := by
    unfold onlyP
    rw [eP]
    rfl
  simp only [pRight, range_all, eo, eP, sameP, wz_self, wz_zero h1, wz_zero h2, wz_zero h3, wz_zero h4, wz_zero h5, wz_zero h6, stRight, bad1, bad2, bad3, bad4, bad5, zeroB, numB, hd, hp, ht, ha, hb, hF, hV, hT, hL, eS, fZero_eq, len_zero]
  simp only [show (ByteArray.mk #[]) = ByteArray.empty from rfl]
  simp [fitB, negB, ba_refl, show btw 0 0 255 = true by decide, show btw 0 0 8 = true by decide]
  try grind [btw]

theorem st_9 (t : Stp) (hw : WfS t) (h : t.op = 9) : pRight t = stRight t := by
  obtain ⟨h1, h2, h3, h4, h5, h6⟩ := hw
  obtain ⟨op, form, field, place, to, a, b, f, vn, vs, T, fields⟩ := t
  simp only at h h1 h2 h3 h4 h5 h6
  subst h
  have eP : usesP 9 = [0, 9] := by decide
  have eS : ((usesS 9).toList == (ByteArray.mk #[]).toList) = false := nonempty (by decide)
  have hd : hasB 9 100 = false := by decide
  have hp : hasB 9 112 = false := by decide
  have ht : hasB 9 116 = false := by decide
  have ha : hasB 9 97 = false := by decide
  have hb : hasB 9 98 = false := by decide
  have hF : hasB 9 70 = false := by decide
  have hV : hasB 9 86 = false := by decide
  have hT : hasB 9 84 = false := by decide
  have hL : hasB 9 76 = true := by decide
  have eo : onlyP ⟨9, form, field, place, to, a, b, f, vn, vs, T, fields⟩ = ⟨9, form, 0, 0, 0, 0, 0, default, 0, ByteArray.empty, [], fields⟩ := by
    unfold onlyP
    rw [eP]
    rfl
  simp only [pRight, range_all, eo, eP, sameP, wz_self, wz_zero h1, wz_zero h2, wz_zero h3, wz_zero h4, wz_zero h5, wz_zero h6, stRight, bad1, bad2, bad3, bad4, bad5, zeroB, numB, hd, hp, ht, ha, hb, hF, hV, hT, hL, eS, fZero_eq, len_zero]
  simp only [show (ByteArray.mk #[]) = ByteArray.empty from rfl]
  simp [fitB, negB, ba_refl, show btw 0 0 255 = true by decide, show btw 0 0 8 = true by decide]
  try grind [btw]

theorem st_10 (t : Stp) (hw : WfS t) (h : t.op = 10) : pRight t = stRight t := by
  obtain ⟨h1, h2, h3, h4, h5, h6⟩ := hw
  obtain ⟨op, form, field, place, to, a, b, f, vn, vs, T, fields⟩ := t
  simp only at h h1 h2 h3 h4 h5 h6
  subst h
  have eP : usesP 10 = [0] := by decide
  have eS : ((usesS 10).toList == (ByteArray.mk #[]).toList) = false := nonempty (by decide)
  have hd : hasB 10 100 = false := by decide
  have hp : hasB 10 112 = false := by decide
  have ht : hasB 10 116 = false := by decide
  have ha : hasB 10 97 = false := by decide
  have hb : hasB 10 98 = false := by decide
  have hF : hasB 10 70 = false := by decide
  have hV : hasB 10 86 = false := by decide
  have hT : hasB 10 84 = false := by decide
  have hL : hasB 10 76 = false := by decide
  have eo : onlyP ⟨10, form, field, place, to, a, b, f, vn, vs, T, fields⟩ = ⟨10, form, 0, 0, 0, 0, 0, default, 0, ByteArray.empty, [], []⟩ := by
    unfold onlyP
    rw [eP]
    rfl
  simp only [pRight, range_all, eo, eP, sameP, wz_self, wz_zero h1, wz_zero h2, wz_zero h3, wz_zero h4, wz_zero h5, wz_zero h6, stRight, bad1, bad2, bad3, bad4, bad5, zeroB, numB, hd, hp, ht, ha, hb, hF, hV, hT, hL, eS, fZero_eq, len_zero]
  simp only [show (ByteArray.mk #[]) = ByteArray.empty from rfl]
  simp [fitB, negB, ba_refl, show btw 0 0 255 = true by decide, show btw 0 0 8 = true by decide]
  try grind [btw]

theorem st_21 (t : Stp) (hw : WfS t) (h : t.op = 21) : pRight t = stRight t := by
  obtain ⟨h1, h2, h3, h4, h5, h6⟩ := hw
  obtain ⟨op, form, field, place, to, a, b, f, vn, vs, T, fields⟩ := t
  simp only at h h1 h2 h3 h4 h5 h6
  subst h
  have eP : usesP 21 = [0, 1] := by decide
  have eS : ((usesS 21).toList == (ByteArray.mk #[]).toList) = false := nonempty (by decide)
  have hd : hasB 21 100 = true := by decide
  have hp : hasB 21 112 = false := by decide
  have ht : hasB 21 116 = false := by decide
  have ha : hasB 21 97 = false := by decide
  have hb : hasB 21 98 = false := by decide
  have hF : hasB 21 70 = false := by decide
  have hV : hasB 21 86 = false := by decide
  have hT : hasB 21 84 = false := by decide
  have hL : hasB 21 76 = false := by decide
  have eo : onlyP ⟨21, form, field, place, to, a, b, f, vn, vs, T, fields⟩ = ⟨21, form, field, 0, 0, 0, 0, default, 0, ByteArray.empty, [], []⟩ := by
    unfold onlyP
    rw [eP]
    rfl
  simp only [pRight, range_all, eo, eP, sameP, wz_self, wz_zero h1, wz_zero h2, wz_zero h3, wz_zero h4, wz_zero h5, wz_zero h6, stRight, bad1, bad2, bad3, bad4, bad5, zeroB, numB, hd, hp, ht, ha, hb, hF, hV, hT, hL, eS, fZero_eq, len_zero]
  simp only [show (ByteArray.mk #[]) = ByteArray.empty from rfl]
  simp [fitB, negB, ba_refl, show btw 0 0 255 = true by decide, show btw 0 0 8 = true by decide]
  try grind [btw]

theorem st_22 (t : Stp) (hw : WfS t) (h : t.op = 22) : pRight t = stRight t := by
  obtain ⟨h1, h2, h3, h4, h5, h6⟩ := hw
  obtain ⟨op, form, field, place, to, a, b, f, vn, vs, T, fields⟩ := t
  simp only at h h1 h2 h3 h4 h5 h6
  subst h
  have eP : usesP 22 = [0, 2, 6, 7] := by decide
  have eS : ((usesS 22).toList == (ByteArray.mk #[]).toList) = false := nonempty (by decide)
  have hd : hasB 22 100 = false := by decide
  have hp : hasB 22 112 = true := by decide
  have ht : hasB 22 116 = false := by decide
  have ha : hasB 22 97 = false := by decide
  have hb : hasB 22 98 = false := by decide
  have hF : hasB 22 70 = true := by decide
  have hV : hasB 22 86 = true := by decide
  have hT : hasB 22 84 = false := by decide
  have hL : hasB 22 76 = false := by decide
  have eo : onlyP ⟨22, form, field, place, to, a, b, f, vn, vs, T, fields⟩ = ⟨22, form, 0, place, 0, 0, 0, f, vn, vs, [], []⟩ := by
    unfold onlyP
    rw [eP]
    rfl
  simp only [pRight, range_all, eo, eP, sameP, wz_self, wz_zero h1, wz_zero h2, wz_zero h3, wz_zero h4, wz_zero h5, wz_zero h6, stRight, bad1, bad2, bad3, bad4, bad5, zeroB, numB, hd, hp, ht, ha, hb, hF, hV, hT, hL, eS, fZero_eq, len_zero]
  simp only [show (ByteArray.mk #[]) = ByteArray.empty from rfl]
  simp [fitB, negB, ba_refl, show btw 0 0 255 = true by decide, show btw 0 0 8 = true by decide]
  try grind [btw]

theorem st_23 (t : Stp) (hw : WfS t) (h : t.op = 23) : pRight t = stRight t := by
  obtain ⟨h1, h2, h3, h4, h5, h6⟩ := hw
  obtain ⟨op, form, field, place, to, a, b, f, vn, vs, T, fields⟩ := t
  simp only at h h1 h2 h3 h4 h5 h6
  subst h
  have eP : usesP 23 = [0, 1, 6] := by decide
  have eS : ((usesS 23).toList == (ByteArray.mk #[]).toList) = false := nonempty (by decide)
  have hd : hasB 23 100 = true := by decide
  have hp : hasB 23 112 = false := by decide
  have ht : hasB 23 116 = false := by decide
  have ha : hasB 23 97 = false := by decide
  have hb : hasB 23 98 = false := by decide
  have hF : hasB 23 70 = true := by decide
  have hV : hasB 23 86 = false := by decide
  have hT : hasB 23 84 = false := by decide
  have hL : hasB 23 76 = false := by decide
  have eo : onlyP ⟨23, form, field, place, to, a, b, f, vn, vs, T, fields⟩ = ⟨23, form, field, 0, 0, 0, 0, f, 0, ByteArray.empty, [], []⟩ := by
    unfold onlyP
    rw [eP]
    rfl
  simp only [pRight, range_all, eo, eP, sameP, wz_self, wz_zero h1, wz_zero h2, wz_zero h3, wz_zero h4, wz_zero h5, wz_zero h6, stRight, bad1, bad2, bad3, bad4, bad5, zeroB, numB, hd, hp, ht, ha, hb, hF, hV, hT, hL, eS, fZero_eq, len_zero]
  simp only [show (ByteArray.mk #[]) = ByteArray.empty from rfl]
  simp [fitB, negB, ba_refl, show btw 0 0 255 = true by decide, show btw 0 0 8 = true by decide]
  try grind [btw]

theorem st_24 (t : Stp) (hw : WfS t) (h : t.op = 24) : pRight t = stRight t := by
  obtain ⟨h1, h2, h3, h4, h5, h6⟩ := hw
  obtain ⟨op, form, field, place, to, a, b, f, vn, vs, T, fields⟩ := t
  simp only at h h1 h2 h3 h4 h5 h6
  subst h
  have eP : usesP 24 = [0, 1, 5, 6] := by decide
  have eS : ((usesS 24).toList == (ByteArray.mk #[]).toList) = false := nonempty (by decide)
  have hd : hasB 24 100 = true := by decide
  have hp : hasB 24 112 = false := by decide
  have ht : hasB 24 116 = false := by decide
  have ha : hasB 24 97 = false := by decide
  have hb : hasB 24 98 = true := by decide
  have hF : hasB 24 70 = true := by decide
  have hV : hasB 24 86 = false := by decide
  have hT : hasB 24 84 = false := by decide
  have hL : hasB 24 76 = false := by decide
  have eo : onlyP ⟨24, form, field, place, to, a, b, f, vn, vs, T, fields⟩ = ⟨24, form, field, 0, 0, a, b, f, 0, ByteArray.empty, [], []⟩ := by
    unfold onlyP
    rw [eP]
    rfl
  simp only [pRight, range_all, eo, eP, sameP, wz_self, wz_zero h1, wz_zero h2, wz_zero h3, wz_zero h4, wz_zero h5, wz_zero h6, stRight, bad1, bad2, bad3, bad4, bad5, zeroB, numB, hd, hp, ht, ha, hb, hF, hV, hT, hL, eS, fZero_eq, len_zero]
  simp only [show (ByteArray.mk #[]) = ByteArray.empty from rfl]
  simp [fitB, negB, ba_refl, show btw 0 0 255 = true by decide, show btw 0 0 8 = true by decide]
  try grind [btw]

theorem st_25 (t : Stp) (hw : WfS t) (h : t.op = 25) : pRight t = stRight t := by
  obtain ⟨h1, h2, h3, h4, h5, h6⟩ := hw
  obtain ⟨op, form, field, place, to, a, b, f, vn, vs, T, fields⟩ := t
  simp only at h h1 h2 h3 h4 h5 h6
  subst h
  have eP : usesP 25 = [0, 1, 8] := by decide
  have eS : ((usesS 25).toList == (ByteArray.mk #[]).toList) = false := nonempty (by decide)
  have hd : hasB 25 100 = true := by decide
  have hp : hasB 25 112 = false := by decide
  have ht : hasB 25 116 = false := by decide
  have ha : hasB 25 97 = false := by decide
  have hb : hasB 25 98 = false := by decide
  have hF : hasB 25 70 = false := by decide
  have hV : hasB 25 86 = false := by decide
  have hT : hasB 25 84 = true := by decide
  have hL : hasB 25 76 = false := by decide
  have eo : onlyP ⟨25, form, field, place, to, a, b, f, vn, vs, T, fields⟩ = ⟨25, form, field, 0, 0, 0, 0, default, 0, ByteArray.empty, T, []⟩ := by
    unfold onlyP
    rw [eP]
    rfl
  simp only [pRight, range_all, eo, eP, sameP, wz_self, wz_zero h1, wz_zero h2, wz_zero h3, wz_zero h4, wz_zero h5, wz_zero h6, stRight, bad1, bad2, bad3, bad4, bad5, zeroB, numB, hd, hp, ht, ha, hb, hF, hV, hT, hL, eS, fZero_eq, len_zero]
  simp only [show (ByteArray.mk #[]) = ByteArray.empty from rfl]
  simp [fitB, negB, ba_refl, show btw 0 0 255 = true by decide, show btw 0 0 8 = true by decide]
  try grind [btw]

theorem st_26 (t : Stp) (hw : WfS t) (h : t.op = 26) : pRight t = stRight t := by
  obtain ⟨h1, h2, h3, h4, h5, h6⟩ := hw
  obtain ⟨op, form, field, place, to, a, b, f, vn, vs, T, fields⟩ := t
  simp only at h h1 h2 h3 h4 h5 h6
  subst h
  have eP : usesP 26 = [0, 1, 4, 3, 6] := by decide
  have eS : ((usesS 26).toList == (ByteArray.mk #[]).toList) = false := nonempty (by decide)
  have hd : hasB 26 100 = true := by decide
  have hp : hasB 26 112 = false := by decide
  have ht : hasB 26 116 = true := by decide
  have ha : hasB 26 97 = true := by decide
  have hb : hasB 26 98 = false := by decide
  have hF : hasB 26 70 = true := by decide
  have hV : hasB 26 86 = false := by decide
  have hT : hasB 26 84 = false := by decide
  have hL : hasB 26 76 = false := by decide
  have eo : onlyP ⟨26, form, field, place, to, a, b, f, vn, vs, T, fields⟩ = ⟨26, form, field, 0, to, a, 0, f, 0, ByteArray.empty, [], []⟩ := by
    unfold onlyP
    rw [eP]
    rfl
  simp only [pRight, range_all, eo, eP, sameP, wz_self, wz_zero h1, wz_zero h2, wz_zero h3, wz_zero h4, wz_zero h5, wz_zero h6, stRight, bad1, bad2, bad3, bad4, bad5, zeroB, numB, hd, hp, ht, ha, hb, hF, hV, hT, hL, eS, fZero_eq, len_zero]
  simp only [show (ByteArray.mk #[]) = ByteArray.empty from rfl]
  simp [fitB, negB, ba_refl, show btw 0 0 255 = true by decide, show btw 0 0 8 = true by decide]
  try grind [btw]

theorem st_27 (t : Stp) (hw : WfS t) (h : t.op = 27) : pRight t = stRight t := by
  obtain ⟨h1, h2, h3, h4, h5, h6⟩ := hw
  obtain ⟨op, form, field, place, to, a, b, f, vn, vs, T, fields⟩ := t
  simp only at h h1 h2 h3 h4 h5 h6
  subst h
  have eP : usesP 27 = [0, 1, 2] := by decide
  have eS : ((usesS 27).toList == (ByteArray.mk #[]).toList) = false := nonempty (by decide)
  have hd : hasB 27 100 = true := by decide
  have hp : hasB 27 112 = true := by decide
  have ht : hasB 27 116 = false := by decide
  have ha : hasB 27 97 = false := by decide
  have hb : hasB 27 98 = false := by decide
  have hF : hasB 27 70 = false := by decide
  have hV : hasB 27 86 = false := by decide
  have hT : hasB 27 84 = false := by decide
  have hL : hasB 27 76 = false := by decide
  have eo : onlyP ⟨27, form, field, place, to, a, b, f, vn, vs, T, fields⟩ = ⟨27, form, field, place, 0, 0, 0, default, 0, ByteArray.empty, [], []⟩ := by
    unfold onlyP
    rw [eP]
    rfl
  simp only [pRight, range_all, eo, eP, sameP, wz_self, wz_zero h1, wz_zero h2, wz_zero h3, wz_zero h4, wz_zero h5, wz_zero h6, stRight, bad1, bad2, bad3, bad4, bad5, zeroB, numB, hd, hp, ht, ha, hb, hF, hV, hT, hL, eS, fZero_eq, len_zero]
  simp only [show (ByteArray.mk #[]) = ByteArray.empty from rfl]
  simp [fitB, negB, ba_refl, show btw 0 0 255 = true by decide, show btw 0 0 8 = true by decide]
  try grind [btw]

theorem st_28 (t : Stp) (hw : WfS t) (h : t.op = 28) : pRight t = stRight t := by
  obtain ⟨h1, h2, h3, h4, h5, h6⟩ := hw
  obtain ⟨op, form, field, place, to, a, b, f, vn, vs, T, fields⟩ := t
  simp only at h h1 h2 h3 h4 h5 h6
  subst h
  have eP : usesP 28 = [0, 1, 3] := by decide
  have eS : ((usesS 28).toList == (ByteArray.mk #[]).toList) = false := nonempty (by decide)
  have hd : hasB 28 100 = true := by decide
  have hp : hasB 28 112 = false := by decide
  have ht : hasB 28 116 = true := by decide
  have ha : hasB 28 97 = false := by decide
  have hb : hasB 28 98 = false := by decide
  have hF : hasB 28 70 = false := by decide
  have hV : hasB 28 86 = false := by decide
  have hT : hasB 28 84 = false := by decide
  have hL : hasB 28 76 = false := by decide
  have eo : onlyP ⟨28, form, field, place, to, a, b, f, vn, vs, T, fields⟩ = ⟨28, form, field, 0, to, 0, 0, default, 0, ByteArray.empty, [], []⟩ := by
    unfold onlyP
    rw [eP]
    rfl
  simp only [pRight, range_all, eo, eP, sameP, wz_self, wz_zero h1, wz_zero h2, wz_zero h3, wz_zero h4, wz_zero h5, wz_zero h6, stRight, bad1, bad2, bad3, bad4, bad5, zeroB, numB, hd, hp, ht, ha, hb, hF, hV, hT, hL, eS, fZero_eq, len_zero]
  simp only [show (ByteArray.mk #[]) = ByteArray.empty from rfl]
  simp [fitB, negB, ba_refl, show btw 0 0 255 = true by decide, show btw 0 0 8 = true by decide]
  try grind [btw]

theorem st_29 (t : Stp) (hw : WfS t) (h : t.op = 29) : pRight t = stRight t := by
  obtain ⟨h1, h2, h3, h4, h5, h6⟩ := hw
  obtain ⟨op, form, field, place, to, a, b, f, vn, vs, T, fields⟩ := t
  simp only at h h1 h2 h3 h4 h5 h6
  subst h
  have eP : usesP 29 = [0] := by decide
  have eS : ((usesS 29).toList == (ByteArray.mk #[]).toList) = false := nonempty (by decide)
  have hd : hasB 29 100 = false := by decide
  have hp : hasB 29 112 = false := by decide
  have ht : hasB 29 116 = false := by decide
  have ha : hasB 29 97 = false := by decide
  have hb : hasB 29 98 = false := by decide
  have hF : hasB 29 70 = false := by decide
  have hV : hasB 29 86 = false := by decide
  have hT : hasB 29 84 = false := by decide
  have hL : hasB 29 76 = false := by decide
  have eo : onlyP ⟨29, form, field, place, to, a, b, f, vn, vs, T, fields⟩ = ⟨29, form, 0, 0, 0, 0, 0, default, 0, ByteArray.empty, [], []⟩ := by
    unfold onlyP
    rw [eP]
    rfl
  simp only [pRight, range_all, eo, eP, sameP, wz_self, wz_zero h1, wz_zero h2, wz_zero h3, wz_zero h4, wz_zero h5, wz_zero h6, stRight, bad1, bad2, bad3, bad4, bad5, zeroB, numB, hd, hp, ht, ha, hb, hF, hV, hT, hL, eS, fZero_eq, len_zero]
  simp only [show (ByteArray.mk #[]) = ByteArray.empty from rfl]
  simp [fitB, negB, ba_refl, show btw 0 0 255 = true by decide, show btw 0 0 8 = true by decide]
  try grind [btw]

theorem st_30 (t : Stp) (hw : WfS t) (h : t.op = 30) : pRight t = stRight t := by
  obtain ⟨h1, h2, h3, h4, h5, h6⟩ := hw
  obtain ⟨op, form, field, place, to, a, b, f, vn, vs, T, fields⟩ := t
  simp only at h h1 h2 h3 h4 h5 h6
  subst h
  have eP : usesP 30 = [0, 9] := by decide
  have eS : ((usesS 30).toList == (ByteArray.mk #[]).toList) = false := nonempty (by decide)
  have hd : hasB 30 100 = false := by decide
  have hp : hasB 30 112 = false := by decide
  have ht : hasB 30 116 = false := by decide
  have ha : hasB 30 97 = false := by decide
  have hb : hasB 30 98 = false := by decide
  have hF : hasB 30 70 = false := by decide
  have hV : hasB 30 86 = false := by decide
  have hT : hasB 30 84 = false := by decide
  have hL : hasB 30 76 = true := by decide
  have eo : onlyP ⟨30, form, field, place, to, a, b, f, vn, vs, T, fields⟩ = ⟨30, form, 0, 0, 0, 0, 0, default, 0, ByteArray.empty, [], fields⟩ := by
    unfold onlyP
    rw [eP]
    rfl
  simp only [pRight, range_all, eo, eP, sameP, wz_self, wz_zero h1, wz_zero h2, wz_zero h3, wz_zero h4, wz_zero h5, wz_zero h6, stRight, bad1, bad2, bad3, bad4, bad5, zeroB, numB, hd, hp, ht, ha, hb, hF, hV, hT, hL, eS, fZero_eq, len_zero]
  simp only [show (ByteArray.mk #[]) = ByteArray.empty from rfl]
  simp [fitB, negB, ba_refl, show btw 0 0 255 = true by decide, show btw 0 0 8 = true by decide]
  try grind [btw]

theorem pRight_eq (t : Stp) (hw : WfS t) : pRight t = stRight t := by
  by_cases h1 : t.op = 1
  · exact st_1 t hw h1
  by_cases h2 : t.op = 2
  · exact st_2 t hw h2
  by_cases h3 : t.op = 3
  · exact st_3 t hw h3
  by_cases h4 : t.op = 4
  · exact st_4 t hw h4
  by_cases h5 : t.op = 5
  · exact st_5 t hw h5
  by_cases h6 : t.op = 6
  · exact st_6 t hw h6
  by_cases h7 : t.op = 7
  · exact st_7 t hw h7
  by_cases h8 : t.op = 8
  · exact st_8 t hw h8
  by_cases h9 : t.op = 9
  · exact st_9 t hw h9
  by_cases h10 : t.op = 10
  · exact st_10 t hw h10
  by_cases h21 : t.op = 21
  · exact st_21 t hw h21
  by_cases h22 : t.op = 22
  · exact st_22 t hw h22
  by_cases h23 : t.op = 23
  · exact st_23 t hw h23
  by_cases h24 : t.op = 24
  · exact st_24 t hw h24
  by_cases h25 : t.op = 25
  · exact st_25 t hw h25
  by_cases h26 : t.op = 26
  · exact st_26 t hw h26
  by_cases h27 : t.op = 27
  · exact st_27 t hw h27
  by_cases h28 : t.op = 28
  · exact st_28 t hw h28
  by_cases h29 : t.op = 29
  · exact st_29 t hw h29
  by_cases h30 : t.op = 30
  · exact st_30 t hw h30
  have eP : usesP t.op = [] := by simp only [usesP, Bool.or_false, cond_false, show (t.op == 1) = false from beq_eq_false_iff_ne.2 h1, show (t.op == 2) = false from beq_eq_false_iff_ne.2 h2, show (t.op == 3) = false from beq_eq_false_iff_ne.2 h3, show (t.op == 4) = false from beq_eq_false_iff_ne.2 h4, show (t.op == 5) = false from beq_eq_false_iff_ne.2 h5, show (t.op == 6) = false from beq_eq_false_iff_ne.2 h6, show (t.op == 7) = false from beq_eq_false_iff_ne.2 h7, show (t.op == 8) = false from beq_eq_false_iff_ne.2 h8, show (t.op == 9) = false from beq_eq_false_iff_ne.2 h9, show (t.op == 10) = false from beq_eq_false_iff_ne.2 h10, show (t.op == 21) = false from beq_eq_false_iff_ne.2 h21, show (t.op == 22) = false from beq_eq_false_iff_ne.2 h22, show (t.op == 23) = false from beq_eq_false_iff_ne.2 h23, show (t.op == 24) = false from beq_eq_false_iff_ne.2 h24, show (t.op == 25) = false from beq_eq_false_iff_ne.2 h25, show (t.op == 26) = false from beq_eq_false_iff_ne.2 h26, show (t.op == 27) = false from beq_eq_false_iff_ne.2 h27, show (t.op == 28) = false from beq_eq_false_iff_ne.2 h28, show (t.op == 29) = false from beq_eq_false_iff_ne.2 h29, show (t.op == 30) = false from beq_eq_false_iff_ne.2 h30]
  have eS : usesS t.op = bs [] := by simp only [usesS, Bool.or_false, cond_false, show (t.op == 1) = false from beq_eq_false_iff_ne.2 h1, show (t.op == 2) = false from beq_eq_false_iff_ne.2 h2, show (t.op == 3) = false from beq_eq_false_iff_ne.2 h3, show (t.op == 4) = false from beq_eq_false_iff_ne.2 h4, show (t.op == 5) = false from beq_eq_false_iff_ne.2 h5, show (t.op == 6) = false from beq_eq_false_iff_ne.2 h6, show (t.op == 7) = false from beq_eq_false_iff_ne.2 h7, show (t.op == 8) = false from beq_eq_false_iff_ne.2 h8, show (t.op == 9) = false from beq_eq_false_iff_ne.2 h9, show (t.op == 10) = false from beq_eq_false_iff_ne.2 h10, show (t.op == 21) = false from beq_eq_false_iff_ne.2 h21, show (t.op == 22) = false from beq_eq_false_iff_ne.2 h22, show (t.op == 23) = false from beq_eq_false_iff_ne.2 h23, show (t.op == 24) = false from beq_eq_false_iff_ne.2 h24, show (t.op == 25) = false from beq_eq_false_iff_ne.2 h25, show (t.op == 26) = false from beq_eq_false_iff_ne.2 h26, show (t.op == 27) = false from beq_eq_false_iff_ne.2 h27, show (t.op == 28) = false from beq_eq_false_iff_ne.2 h28, show (t.op == 29) = false from beq_eq_false_iff_ne.2 h29, show (t.op == 30) = false from beq_eq_false_iff_ne.2 h30]
  have e1 : bad1 t = true := by simp only [bad1, eS, empty_list, negB, Bool.true_or]
  simp only [pRight, eP, stRight, e1]
  rfl

theorem step_right (t : Stp) (hw : WfS t) (hl : t.t.length ≤ 1000000) (hf : t.fields.length ≤ 1000) : AC P step_Right.id [.agg t.cells] [] (.bool (stRight t)) [] := by
  rw [← pRight_eq t hw]
  exact step_right_p t hl hf
end Go.Proofs.Ytbpcjahjbkiofaa.Sp

set_option linter.unusedVariables false
namespace Go.Proofs.Ytbpcjahjbkiofaa.Sp
open Go Go.Proofs.Ytbpcjahjbkiofaa.AV Go.Proofs.Ytbpcjahjbkiofaa.Fn
set_option maxRecDepth 10000

theorem at_1 (x : Fld) (id : Int) : AC P schema_At_1.id [.agg x.cells, .ptr 0 0 0 0] [.box [.int .i64 id]] (.bool (x.id == id)) [.box [.int .i64 id]] := by
  refine schema_At_1.intro rfl (Goes.run ?_)
  conv => whnf
  refine ⟨rfl, ?_⟩
  refine Run.retS ?_
  conv => whnf
  exact FinS.keep 1 rfl rfl rfl rfl (.refl _)

theorem indexFunc_at (l : List Fld) (id : Int) (hb : l.length ≤ 1000) : AC P slices_IndexFunc_api_Field_api_Field.id [encFs l, .func 131 [.ptr 0 0 0 0]] [.box [.int .i64 id]] (.int .i64 (placeI (fAt l id))) [.box [.int .i64 id]] := by
  refine slices_IndexFunc_api_Field_api_Field.intro rfl (Goes.run ?_)
  conv => whnf
  refine ⟨rfl, ?_⟩
  refine Run.loopN (ι := Nat) (fun i => i ≤ l.length ∧ ∀ j, j < i → ((l.getD j default).id == id) = false) (fun i => [(0, encFs l), (1, .func 131 [.ptr 0 0 0 0]), (7, .int .i64 (l.length : Int)), (8, .int .i64 (i : Int))]) (fun _ => [.box [.int .i64 id]])
    (fun i => l.length - i) 0 ⟨Nat.zero_le _, fun j hj => absurd hj (Nat.not_lt_zero _)⟩ (Wk.ofEnv (Wk.cons (.refl _) (Wk.cons (.refl _) (Wk.cons (.refl _) (Wk.cons (.refl _) Wk.done))))) fun i ⟨hi, hp⟩ => ?_
  conv => whnf
  refine ⟨rfl, ?_⟩
  refine Run.condC rfl (fun h => ?_) (fun h => ?_) <;> (conv => whnf) <;> refine ⟨rfl, ?_⟩
  · have hlt : i < l.length := by simpa using h
    refine Run.iaC rfl rfl rfl rfl rfl (fun _ => ⟨by omega, by omega⟩) ?_
    conv => whnf
    refine ⟨rfl, ?_⟩
    refine Run.callvG [0] Try.func131 (by kernel_rfl) rfl (at_1 (l.getD i default) id) rfl rfl ⟨rfl, trivial⟩ ?_
    conv => whnf
    refine ⟨rfl, ?_⟩
    refine Run.condC rfl (fun h => ?_) (fun h => ?_) <;> (conv => whnf) <;> refine ⟨rfl, ?_⟩
    · refine Run.retSR ?_
      conv => whnf
      refine FinS.keep 1 rfl rfl rfl rfl (.int ?_)
      have : fAt l id = some i := findIdx_hit hlt h hp
      rw [this]
      rfl
    · refine Run.endR ⟨i + 1, ⟨by omega, fun j hj => ?_⟩, by omega, Wk.ofEnv (Wk.cons (.refl _) (Wk.cons (.refl _) (Wk.cons (.refl _) (Wk.cons (.int ?_) Wk.done))))⟩
      · by_cases e : j < i
        · exact hp j e
        · obtain rfl : j = i := by omega
          exact h
      · rw [wrap_of (by omega) (by omega)]
        simp
  · have hge : l.length ≤ i := by simpa using h
    refine Run.exitR rfl rfl ?_
    conv => whnf
    refine ⟨rfl, ?_⟩
    refine Run.retS ?_
    conv => whnf
    refine FinS.keep 1 rfl rfl rfl rfl (.int ?_)
    have : fAt l id = none := findIdx_miss fun j hj => hp j (by omega)
    rw [this]
    rfl

theorem schema_at (x : Frm) (id : Int) (hb : x.fields.length ≤ 1000) : AC P schema_At.id [.agg x.cells, .int .i64 id] [] (.int .i64 (placeI (fAt x.fields id))) [] := by
  refine schema_At.intro rfl (Goes.run ?_)
  conv => whnf
  refine ⟨rfl, ?_⟩
  refine Run.callG [1] (indexFunc_at x.fields id hb) rfl rfl rfl ⟨rfl, trivial⟩ ?_
  conv => whnf
  refine ⟨rfl, ?_⟩
  refine Run.retP ?_
  conv => whnf
  exact ⟨rfl, .refl _⟩
end Go.Proofs.Ytbpcjahjbkiofaa.Sp

set_option linter.unusedVariables false
namespace Go.Proofs.Ytbpcjahjbkiofaa.Sp
open Go Go.Proofs.Ytbpcjahjbkiofaa.AV Go.Proofs.Ytbpcjahjbkiofaa.Fn
set_option maxRecDepth 10000

/-- A 'made' in cells: the step, the version, the forms, the form's place, the field's place. -/
def mB (t : Stp) (v : Int) (forms : AV) (fm at_ : Int) : List AV := [.int .i64 t.op, .int .i64 t.form, .int .i64 t.field, .int .i64 t.place, .int .i64 t.to, .int .i64 t.a, .int .i64 t.b,
  .int .i64 t.f.id, .int .i64 t.f.kind, .int .i64 t.f.lo, .int .i64 t.f.hi, .int .i64 t.f.most, .int .i64 t.vn, .str t.vs, encIs t.t, encFs t.fields, .int .i64 v, forms, .int .i64 fm, .int .i64 at_]

/-- Where a form of that number stands, or would have to stand. -/
def fPos (l : List Frm) (id : Int) : Nat := l.findIdx fun x => decide (id ≤ x.id)
def hasPos (l : List Frm) (id : Int) : Bool := decide (fPos l id < l.length) && ((l.getD (fPos l id) default).id == id)

theorem fPos_le (l : List Frm) (id : Int) : fPos l id ≤ l.length := List.findIdx_le_length

theorem fPos_eq {l : List Frm} {id : Int} {i : Nat} (hi : i ≤ l.length) (h1 : ∀ j, j < i → (l.getD j default).id < id) (h2 : i < l.length → ¬ (l.getD i default).id < id) : fPos l id = i := by
  unfold fPos
  rcases Nat.lt_or_ge i l.length with h | h
  · rw [List.findIdx_eq h]
    have e : ∀ (j : Nat) (h : j < l.length), l.getD j default = l[j] := fun j h => by simp [List.getD_eq_getElem?_getD, h]
    refine ⟨?_, fun j hj => ?_⟩
    · have := h2 h
      rw [e i h] at this
      simp; omega
    · have := h1 j hj
      rw [e j (by omega)] at this
      simp; omega
  · have : i = l.length := by omega
    subst this
    rw [List.findIdx_eq_length]
    intro x hx
    obtain ⟨j, hj, rfl⟩ := List.mem_iff_getElem.1 hx
    have := h1 j hj
    rw [show l.getD j default = l[j] by simp [List.getD_eq_getElem?_getD, hj]] at this
    simp; omega

theorem made_find (t : Stp) (v : Int) (l : List Frm) (fm at_ : Int) (hb : l.length ≤ 1000) :
    AC P typing_made_find.id [.ptr 0 0 0 0] [.box (mB t v (.row 2 1 0 0 l.length) fm at_), .row 2 l.length 0 (frmF l)] (.bool (hasPos l t.form)) [.box (mB t v (.row 2 1 0 0 l.length) (fPos l t.form) at_), .row 2 l.length 0 (frmF l)] := by
  refine typing_made_find.intro rfl (Goes.run ?_)
  conv => whnf
  refine ⟨rfl, ?_⟩
  refine Run.loopN (ι := Nat) (fun i => i ≤ l.length ∧ ∀ j, j < i → (l.getD j default).id < t.form) (fun i => [(0, .ptr 0 0 0 0)]) (fun i => [.box (mB t v (.row 2 1 0 0 l.length) i at_), .row 2 l.length 0 (frmF l)])
    (fun i => l.length - i) 0 ⟨Nat.zero_le _, fun j hj => absurd hj (Nat.not_lt_zero _)⟩ (Wk.ofEnv (Wk.cons (.refl _) Wk.done)) fun i ⟨hi, hp⟩ => ?_
  conv => whnf
  refine ⟨rfl, ?_⟩
  refine Run.iaRD rfl rfl rfl rfl rfl rfl rfl (fun h => ⟨by omega, ?_⟩) (j := i) ?_ rfl ?_
  · have := h.1
    simpa [pol] using this
  · rw [Nat.zero_add]; rfl
  conv => whnf
  refine ⟨rfl, ?_⟩
  refine Run.condC rfl (fun h => ?_) (fun h => ?_) <;> (conv => whnf) <;> refine ⟨rfl, ?_⟩
  · have h2 : i < l.length ∧ (l.getD i default).id < t.form := by
      simpa using h
    refine Run.endR ⟨i + 1, ⟨by omega, fun j hj => ?_⟩, by omega, Wk.trans (Wk.ofEnv (Wk.cons (.refl _) Wk.done)) (Wk.tab fun k => ?_)⟩
    · by_cases e : j < i
      · exact hp j e
      · obtain rfl : j = i := by omega
        exact h2.2
    · match k with
      | 0 =>
        have e : IntKind.i64.wrap ((i : Int) + 1) = ((i + 1 : Nat) : Int) := by rw [wrap_of (by omega) (by omega)]; simp
        exact leL_eq (by rw [e]; rfl)
      | 1 => exact LeOb.refl _
      | k + 2 => exact .inl rfl
  · have h2 : i < l.length → ¬ (l.getD i default).id < t.form := fun hlt hlt2 => by
      simp [hlt] at h
      rw [show l.getD i default = l[i] by simp [List.getD_eq_getElem?_getD, hlt]] at hlt2
      omega
    have hpos : fPos l t.form = i := fPos_eq hi hp h2
    refine Run.exitR rfl rfl ?_
    conv => whnf
    refine ⟨rfl, ?_⟩
    refine Run.iaRD rfl rfl rfl rfl rfl rfl rfl (fun h => ⟨by omega, ?_⟩) (j := i) ?_ rfl ?_
    · have := h.1
      simpa [pol] using this
    · rw [Nat.zero_add]; rfl
    conv => whnf
    refine ⟨rfl, ?_⟩
    refine Run.retS ?_
    conv => whnf
    rw [hpos]
    refine FinS.keep 2 rfl rfl rfl rfl (Le.bool ?_)
    unfold hasPos
    rw [hpos]
    show _ = (decide (i < l.length) && ((l.getD i default).id == t.form))
    simp only [Int.ofNat_lt]
end Go.Proofs.Ytbpcjahjbkiofaa.Sp

set_option linter.unusedVariables false
set_option linter.unusedSimpArgs false
namespace Go.Proofs.Ytbpcjahjbkiofaa.Sp
open Go Go.Proofs.Ytbpcjahjbkiofaa.AV Go.Proofs.Ytbpcjahjbkiofaa.Fn
set_option maxRecDepth 10000

def thAt0 (fs : List Fld) (t : Stp) : Int := bif t.op == 1 then t.place else bif (t.op == 6 || t.op == 8) then placeI (fAt fs t.field) else bif t.op == 10 then 0 else placeI (fAt fs t.field)
def thFresh (t : Stp) : Int := bif t.op == 1 then t.f.id else bif (t.op == 6 || t.op == 8) then t.to else -1
def thFs (l : List Frm) (t : Stp) : List Fld := (l.getD (fPos l t.form) default).fields
def thErr (l : List Frm) (t : Stp) : Int :=
  bif t.op == 9 then (bif hasPos l t.form then 9 else 0) else bif hasPos l t.form then
    (bif decide (thAt0 (thFs l t) t < 0) then 8 else bif (decide (thFresh t ≥ 0) && decide (placeI (fAt (thFs l t) (thFresh t)) ≥ 0)) then 9 else
      bif (t.op == 1 && decide (t.place > ((thFs l t).length : Int))) || (t.op == 7 && decide (t.place ≥ ((thFs l t).length : Int))) then 3 else 0)
  else 8
def thAt (l : List Frm) (t : Stp) (at_ : Int) : Int := bif t.op == 9 then at_ else bif hasPos l t.form then thAt0 (thFs l t) t else at_

theorem made_there (t : Stp) (v : Int) (l : List Frm) (fm at_ : Int) (hb : l.length ≤ 1000) (hf : ∀ i, (l.getD i default).fields.length ≤ 1000) :
    AC P typing_made_there.id [.ptr 0 0 0 0] [.box (mB t v (.row 2 1 0 0 l.length) fm at_), .row 2 l.length 0 (frmF l)] (.int .i64 (thErr l t)) [.box (mB t v (.row 2 1 0 0 l.length) (fPos l t.form) (thAt l t at_)), .row 2 l.length 0 (frmF l)] := by
  refine typing_made_there.intro rfl (Goes.run ?_)
  conv => whnf
  refine ⟨rfl, ?_⟩
  refine Run.callG [0, 1] (made_find t v l fm at_ hb) rfl rfl rfl ⟨rfl, rfl, trivial⟩ ?_
  conv => whnf
  refine ⟨rfl, ?_⟩
  refine Run.condC rfl (fun h9 => ?_) (fun h9 => ?_) <;> (conv => whnf) <;> refine ⟨rfl, ?_⟩
  · refine Run.condC rfl (fun hh => ?_) (fun hh => ?_) <;> (conv => whnf) <;> refine ⟨rfl, ?_⟩
    · refine Run.retS ?_
      conv => whnf
      rw [show thErr l t = 9 by simp only [thErr, h9, hh, cond_true], show thAt l t at_ = at_ by simp only [thAt, h9, cond_true]]
      exact FinS.keep 2 rfl rfl rfl rfl (.refl _)
    · refine Run.retS ?_
      conv => whnf
      rw [show thErr l t = 0 by simp only [thErr, h9, hh, cond_true, cond_false], show thAt l t at_ = at_ by simp only [thAt, h9, cond_true]]
      exact FinS.keep 2 rfl rfl rfl rfl (.refl _)
  refine Run.condC rfl (fun hh => ?_) (fun hh => ?_) <;> (conv => whnf) <;> refine ⟨rfl, ?_⟩
  · refine Run.retS ?_
    conv => whnf
    simp only [Bool.not_eq_true'] at hh
    rw [show thErr l t = 8 by simp only [thErr, h9, hh, cond_false], show thAt l t at_ = at_ by simp only [thAt, h9, hh, cond_false]]
    exact FinS.keep 2 rfl rfl rfl rfl (.refl _)
  simp only [Bool.not_eq_false'] at hh
  have hlt : fPos l t.form < l.length := by
    unfold hasPos at hh
    simp only [Bool.and_eq_true, decide_eq_true_eq] at hh
    exact hh.1
  refine Run.iaRD rfl rfl rfl rfl rfl rfl rfl (fun _ => ⟨by omega, by omega⟩) (j := fPos l t.form) (by rw [Nat.zero_add]; rfl) rfl ?_
  conv => whnf
  refine ⟨rfl, ?_⟩
  refine Run.callD (av := [.agg (l.getD (fPos l t.form) default).cells, .int .i64 t.field]) rfl rfl rfl (fun _ => schema_at _ _ (hf _)) rfl rfl rfl ?_
  conv => whnf
  refine ⟨rfl, ?_⟩
  refine Run.condC rfl (fun k1 => ?_) (fun k1 => ?_) <;> (conv => whnf) <;> refine ⟨rfl, ?_⟩
  · have e0 : thAt0 (thFs l t) t = t.place := by simp only [thAt0, k1, cond_true, cond_false, Bool.or_true, Bool.true_or, Bool.or_false]
    have ef : thFresh t = t.f.id := by simp only [thFresh, k1, cond_true, cond_false, Bool.or_true, Bool.true_or, Bool.or_false]
    have ea : thAt l t at_ = t.place := by simp only [thAt, h9, hh, cond_true, cond_false, e0]
    rw [ea]
    refine Run.condC rfl (fun h1 => ?_) (fun h1 => ?_) <;> (conv => whnf) <;> refine ⟨rfl, ?_⟩
    · refine Run.retS ?_
      conv => whnf
      have h1' : decide (t.place < 0) = true := h1
      rw [show thErr l t = 8 by simp only [thErr, h9, hh, e0, h1', cond_true, cond_false]]
      exact FinS.keep 2 rfl rfl rfl rfl (.refl _)
    have h1' : decide (t.place < 0) = false := h1
    refine Run.callC (av := [.agg (l.getD (fPos l t.form) default).cells, .int .i64 (t.f.id)]) rfl rfl rfl (fun _ => schema_at _ _ (hf _)) rfl rfl ?_
    conv => whnf
    refine ⟨rfl, ?_⟩
    refine Run.condC rfl (fun h2 => ?_) (fun h2 => ?_) <;> (conv => whnf) <;> refine ⟨rfl, ?_⟩
    · refine Run.retS ?_
      conv => whnf
      have h2' : (decide (t.f.id ≥ 0) && decide (placeI (fAt (thFs l t) (t.f.id)) ≥ 0)) = true := h2
      rw [show thErr l t = 9 by simp only [thErr, h9, hh, e0, ef, h1', h2', cond_true, cond_false]]
      exact FinS.keep 2 rfl rfl rfl rfl (.refl _)
    have h2' : (decide (t.f.id ≥ 0) && decide (placeI (fAt (thFs l t) (t.f.id)) ≥ 0)) = false := h2
    refine Run.condC rfl (fun h3 => ?_) (fun h3 => ?_) <;> (conv => whnf) <;> refine ⟨rfl, ?_⟩
    · refine Run.retS ?_
      conv => whnf
      have h3' : (t.op == 1 && decide (t.place > ((thFs l t).length : Int))) = true := h3
      rw [show thErr l t = 3 by simp only [thErr, h9, hh, e0, ef, h1', h2', h3', cond_true, cond_false, Bool.true_or]]
      exact FinS.keep 2 rfl rfl rfl rfl (.refl _)
    have h3' : (t.op == 1 && decide (t.place > ((thFs l t).length : Int))) = false := h3
    refine Run.condC rfl (fun h4 => ?_) (fun h4 => ?_) <;> (conv => whnf) <;> refine ⟨rfl, ?_⟩
    · refine Run.retS ?_
      conv => whnf
      have h4' : (t.op == 7 && decide (t.place ≥ ((thFs l t).length : Int))) = true := h4
      rw [show thErr l t = 3 by simp only [thErr, h9, hh, e0, ef, h1', h2', h3', h4', cond_true, cond_false, Bool.false_or]]
      exact FinS.keep 2 rfl rfl rfl rfl (.refl _)
    have h4' : (t.op == 7 && decide (t.place ≥ ((thFs l t).length : Int))) = false := h4
    refine Run.retS ?_
    conv => whnf
    rw [show thErr l t = 0 by simp only [thErr, h9, hh, e0, ef, h1', h2', h3', h4', cond_true, cond_false, Bool.false_or]]
    exact FinS.keep 2 rfl rfl rfl rfl (.refl _)
  refine Run.condC rfl (fun k6 => ?_) (fun k6 => ?_) <;> (conv => whnf) <;> refine ⟨rfl, ?_⟩
  · have e0 : thAt0 (thFs l t) t = placeI (fAt (thFs l t) t.field) := by simp only [thAt0, k1, k6, cond_true, cond_false, Bool.or_true, Bool.true_or, Bool.or_false]
    have ef : thFresh t = t.to := by simp only [thFresh, k1, k6, cond_true, cond_false, Bool.or_true, Bool.true_or, Bool.or_false]
    have ea : thAt l t at_ = placeI (fAt (thFs l t) t.field) := by simp only [thAt, h9, hh, cond_true, cond_false, e0]
    rw [ea]
    refine Run.condC rfl (fun h1 => ?_) (fun h1 => ?_) <;> (conv => whnf) <;> refine ⟨rfl, ?_⟩
    · refine Run.retS ?_
      conv => whnf
      have h1' : decide (placeI (fAt (thFs l t) t.field) < 0) = true := h1
      rw [show thErr l t = 8 by simp only [thErr, h9, hh, e0, h1', cond_true, cond_false]]
      exact FinS.keep 2 rfl rfl rfl rfl (.refl _)
    have h1' : decide (placeI (fAt (thFs l t) t.field) < 0) = false := h1
    refine Run.callC (av := [.agg (l.getD (fPos l t.form) default).cells, .int .i64 (t.to)]) rfl rfl rfl (fun _ => schema_at _ _ (hf _)) rfl rfl ?_
    conv => whnf
    refine ⟨rfl, ?_⟩
    refine Run.condC rfl (fun h2 => ?_) (fun h2 => ?_) <;> (conv => whnf) <;> refine ⟨rfl, ?_⟩
    · refine Run.retS ?_
      conv => whnf
      have h2' : (decide (t.to ≥ 0) && decide (placeI (fAt (thFs l t) (t.to)) ≥ 0)) = true := h2
      rw [show thErr l t = 9 by simp only [thErr, h9, hh, e0, ef, h1', h2', cond_true, cond_false]]
      exact FinS.keep 2 rfl rfl rfl rfl (.refl _)
    have h2' : (decide (t.to ≥ 0) && decide (placeI (fAt (thFs l t) (t.to)) ≥ 0)) = false := h2
    refine Run.condC rfl (fun h3 => ?_) (fun h3 => ?_) <;> (conv => whnf) <;> refine ⟨rfl, ?_⟩
    · refine Run.retS ?_
      conv => whnf
      have h3' : (t.op == 1 && decide (t.place > ((thFs l t).length : Int))) = true := h3
      rw [show thErr l t = 3 by simp only [thErr, h9, hh, e0, ef, h1', h2', h3', cond_true, cond_false, Bool.true_or]]
      exact FinS.keep 2 rfl rfl rfl rfl (.refl _)
    have h3' : (t.op == 1 && decide (t.place > ((thFs l t).length : Int))) = false := h3
    refine Run.condC rfl (fun h4 => ?_) (fun h4 => ?_) <;> (conv => whnf) <;> refine ⟨rfl, ?_⟩
    · refine Run.retS ?_
      conv => whnf
      have h4' : (t.op == 7 && decide (t.place ≥ ((thFs l t).length : Int))) = true := h4
      rw [show thErr l t = 3 by simp only [thErr, h9, hh, e0, ef, h1', h2', h3', h4', cond_true, cond_false, Bool.false_or]]
      exact FinS.keep 2 rfl rfl rfl rfl (.refl _)
    have h4' : (t.op == 7 && decide (t.place ≥ ((thFs l t).length : Int))) = false := h4
    refine Run.retS ?_
    conv => whnf
    rw [show thErr l t = 0 by simp only [thErr, h9, hh, e0, ef, h1', h2', h3', h4', cond_true, cond_false, Bool.false_or]]
    exact FinS.keep 2 rfl rfl rfl rfl (.refl _)
  refine Run.condC rfl (fun k8 => ?_) (fun k8 => ?_) <;> (conv => whnf) <;> refine ⟨rfl, ?_⟩
  · have e0 : thAt0 (thFs l t) t = placeI (fAt (thFs l t) t.field) := by simp only [thAt0, k1, k6, k8, cond_true, cond_false, Bool.or_true, Bool.true_or, Bool.or_false]
    have ef : thFresh t = t.to := by simp only [thFresh, k1, k6, k8, cond_true, cond_false, Bool.or_true, Bool.true_or, Bool.or_false]
    have ea : thAt l t at_ = placeI (fAt (thFs l t) t.field) := by simp only [thAt, h9, hh, cond_true, cond_false, e0]
    rw [ea]
    refine Run.condC rfl (fun h1 => ?_) (fun h1 => ?_) <;> (conv => whnf) <;> refine ⟨rfl, ?_⟩
    · refine Run.retS ?_
      conv => whnf
      have h1' : decide (placeI (fAt (thFs l t) t.field) < 0) = true := h1
      rw [show thErr l t = 8 by simp only [thErr, h9, hh, e0, h1', cond_true, cond_false]]
      exact FinS.keep 2 rfl rfl rfl rfl (.refl _)
    have h1' : decide (placeI (fAt (thFs l t) t.field) < 0) = false := h1
    refine Run.callC (av := [.agg (l.getD (fPos l t.form) default).cells, .int .i64 (t.to)]) rfl rfl rfl (fun _ => schema_at _ _ (hf _)) rfl rfl ?_
    conv => whnf
    refine ⟨rfl, ?_⟩
    refine Run.condC rfl (fun h2 => ?_) (fun h2 => ?_) <;> (conv => whnf) <;> refine ⟨rfl, ?_⟩
    · refine Run.retS ?_
      conv => whnf
      have h2' : (decide (t.to ≥ 0) && decide (placeI (fAt (thFs l t) (t.to)) ≥ 0)) = true := h2
      rw [show thErr l t = 9 by simp only [thErr, h9, hh, e0, ef, h1', h2', cond_true, cond_false]]
      exact FinS.keep 2 rfl rfl rfl rfl (.refl _)
    have h2' : (decide (t.to ≥ 0) && decide (placeI (fAt (thFs l t) (t.to)) ≥ 0)) = false := h2
    refine Run.condC rfl (fun h3 => ?_) (fun h3 => ?_) <;> (conv => whnf) <;> refine ⟨rfl, ?_⟩
    · refine Run.retS ?_
      conv => whnf
      have h3' : (t.op == 1 && decide (t.place > ((thFs l t).length : Int))) = true := h3
      rw [show thErr l t = 3 by simp only [thErr, h9, hh, e0, ef, h1', h2', h3', cond_true, cond_false, Bool.true_or]]
      exact FinS.keep 2 rfl rfl rfl rfl (.refl _)
    have h3' : (t.op == 1 && decide (t.place > ((thFs l t).length : Int))) = false := h3
    refine Run.condC rfl (fun h4 => ?_) (fun h4 => ?_) <;> (conv => whnf) <;> refine ⟨rfl, ?_⟩
    · refine Run.retS ?_
      conv => whnf
      have h4' : (t.op == 7 && decide (t.place ≥ ((thFs l t).length : Int))) = true := h4
      rw [show thErr l t = 3 by simp only [thErr, h9, hh, e0, ef, h1', h2', h3', h4', cond_true, cond_false, Bool.false_or]]
      exact FinS.keep 2 rfl rfl rfl rfl (.refl _)
    have h4' : (t.op == 7 && decide (t.place ≥ ((thFs l t).length : Int))) = false := h4
    refine Run.retS ?_
    conv => whnf
    rw [show thErr l t = 0 by simp only [thErr, h9, hh, e0, ef, h1', h2', h3', h4', cond_true, cond_false, Bool.false_or]]
    exact FinS.keep 2 rfl rfl rfl rfl (.refl _)
  refine Run.condC rfl (fun k10 => ?_) (fun k10 => ?_) <;> (conv => whnf) <;> refine ⟨rfl, ?_⟩
  · have e0 : thAt0 (thFs l t) t = 0 := by simp only [thAt0, k1, k6, k8, k10, cond_true, cond_false, Bool.or_true, Bool.true_or, Bool.or_false]
    have ef : thFresh t = -1 := by simp only [thFresh, k1, k6, k8, k10, cond_true, cond_false, Bool.or_true, Bool.true_or, Bool.or_false]
    have ea : thAt l t at_ = 0 := by simp only [thAt, h9, hh, cond_true, cond_false, e0]
    rw [ea]
    refine Run.condC rfl (fun h1 => ?_) (fun h1 => ?_) <;> (conv => whnf) <;> refine ⟨rfl, ?_⟩
    · refine Run.retS ?_
      conv => whnf
      have h1' : decide ((0 : Int) < 0) = true := h1
      rw [show thErr l t = 8 by simp only [thErr, h9, hh, e0, h1', cond_true, cond_false]]
      exact FinS.keep 2 rfl rfl rfl rfl (.refl _)
    have h1' : decide ((0 : Int) < 0) = false := h1
    refine Run.callC (av := [.agg (l.getD (fPos l t.form) default).cells, .int .i64 (-1)]) rfl rfl rfl (fun _ => schema_at _ _ (hf _)) rfl rfl ?_
    conv => whnf
    refine ⟨rfl, ?_⟩
    refine Run.condC rfl (fun h2 => ?_) (fun h2 => ?_) <;> (conv => whnf) <;> refine ⟨rfl, ?_⟩
    · refine Run.retS ?_
      conv => whnf
      have h2' : (decide ((-1 : Int) ≥ 0) && decide (placeI (fAt (thFs l t) (-1)) ≥ 0)) = true := h2
      rw [show thErr l t = 9 by simp only [thErr, h9, hh, e0, ef, h1', h2', cond_true, cond_false]]
      exact FinS.keep 2 rfl rfl rfl rfl (.refl _)
    have h2' : (decide ((-1 : Int) ≥ 0) && decide (placeI (fAt (thFs l t) (-1)) ≥ 0)) = false := h2
    refine Run.condC rfl (fun h3 => ?_) (fun h3 => ?_) <;> (conv => whnf) <;> refine ⟨rfl, ?_⟩
    · refine Run.retS ?_
      conv => whnf
      have h3' : (t.op == 1 && decide (t.place > ((thFs l t).length : Int))) = true := h3
      rw [show thErr l t = 3 by simp only [thErr, h9, hh, e0, ef, h1', h2', h3', cond_true, cond_false, Bool.true_or]]
      exact FinS.keep 2 rfl rfl rfl rfl (.refl _)
    have h3' : (t.op == 1 && decide (t.place > ((thFs l t).length : Int))) = false := h3
    refine Run.condC rfl (fun h4 => ?_) (fun h4 => ?_) <;> (conv => whnf) <;> refine ⟨rfl, ?_⟩
    · refine Run.retS ?_
      conv => whnf
      have h4' : (t.op == 7 && decide (t.place ≥ ((thFs l t).length : Int))) = true := h4
      rw [show thErr l t = 3 by simp only [thErr, h9, hh, e0, ef, h1', h2', h3', h4', cond_true, cond_false, Bool.false_or]]
      exact FinS.keep 2 rfl rfl rfl rfl (.refl _)
    have h4' : (t.op == 7 && decide (t.place ≥ ((thFs l t).length : Int))) = false := h4
    refine Run.retS ?_
    conv => whnf
    rw [show thErr l t = 0 by simp only [thErr, h9, hh, e0, ef, h1', h2', h3', h4', cond_true, cond_false, Bool.false_or]]
    exact FinS.keep 2 rfl rfl rfl rfl (.refl _)
  have e0 : thAt0 (thFs l t) t = placeI (fAt (thFs l t) t.field) := by simp only [thAt0, k1, k6, k8, k10, cond_true, cond_false, Bool.or_true, Bool.true_or, Bool.or_false]
  have ef : thFresh t = -1 := by simp only [thFresh, k1, k6, k8, k10, cond_true, cond_false, Bool.or_true, Bool.true_or, Bool.or_false]
  have ea : thAt l t at_ = placeI (fAt (thFs l t) t.field) := by simp only [thAt, h9, hh, cond_true, cond_false, e0]
  rw [ea]
  refine Run.condC rfl (fun h1 => ?_) (fun h1 => ?_) <;> (conv => whnf) <;> refine ⟨rfl, ?_⟩
  · refine Run.retS ?_
    conv => whnf
    have h1' : decide (placeI (fAt (thFs l t) t.field) < 0) = true := h1
    rw [show thErr l t = 8 by simp only [thErr, h9, hh, e0, h1', cond_true, cond_false]]
    exact FinS.keep 2 rfl rfl rfl rfl (.refl _)
  have h1' : decide (placeI (fAt (thFs l t) t.field) < 0) = false := h1
  refine Run.callC (av := [.agg (l.getD (fPos l t.form) default).cells, .int .i64 (-1)]) rfl rfl rfl (fun _ => schema_at _ _ (hf _)) rfl rfl ?_
  conv => whnf
  refine ⟨rfl, ?_⟩
  refine Run.condC rfl (fun h2 => ?_) (fun h2 => ?_) <;> (conv => whnf) <;> refine ⟨rfl, ?_⟩
  · refine Run.retS ?_
    conv => whnf
    have h2' : (decide ((-1 : Int) ≥ 0) && decide (placeI (fAt (thFs l t) (-1)) ≥ 0)) = true := h2
    rw [show thErr l t = 9 by simp only [thErr, h9, hh, e0, ef, h1', h2', cond_true, cond_false]]
    exact FinS.keep 2 rfl rfl rfl rfl (.refl _)
  have h2' : (decide ((-1 : Int) ≥ 0) && decide (placeI (fAt (thFs l t) (-1)) ≥ 0)) = false := h2
  refine Run.condC rfl (fun h3 => ?_) (fun h3 => ?_) <;> (conv => whnf) <;> refine ⟨rfl, ?_⟩
  · refine Run.retS ?_
    conv => whnf
    have h3' : (t.op == 1 && decide (t.place > ((thFs l t).length : Int))) = true := h3
    rw [show thErr l t = 3 by simp only [thErr, h9, hh, e0, ef, h1', h2', h3', cond_true, cond_false, Bool.true_or]]
    exact FinS.keep 2 rfl rfl rfl rfl (.refl _)
  have h3' : (t.op == 1 && decide (t.place > ((thFs l t).length : Int))) = false := h3
  refine Run.condC rfl (fun h4 => ?_) (fun h4 => ?_) <;> (conv => whnf) <;> refine ⟨rfl, ?_⟩
  · refine Run.retS ?_
    conv => whnf
    have h4' : (t.op == 7 && decide (t.place ≥ ((thFs l t).length : Int))) = true := h4
    rw [show thErr l t = 3 by simp only [thErr, h9, hh, e0, ef, h1', h2', h3', h4', cond_true, cond_false, Bool.false_or]]
    exact FinS.keep 2 rfl rfl rfl rfl (.refl _)
  have h4' : (t.op == 7 && decide (t.place ≥ ((thFs l t).length : Int))) = false := h4
  refine Run.retS ?_
  conv => whnf
  rw [show thErr l t = 0 by simp only [thErr, h9, hh, e0, ef, h1', h2', h3', h4', cond_true, cond_false, Bool.false_or]]
  exact FinS.keep 2 rfl rfl rfl rfl (.refl _)
end Go.Proofs.Ytbpcjahjbkiofaa.Sp

set_option linter.unusedVariables false
set_option linter.unusedSimpArgs false
namespace Go.Proofs.Ytbpcjahjbkiofaa.Sp
open Go Go.Proofs.Ytbpcjahjbkiofaa.AV Go.Proofs.Ytbpcjahjbkiofaa.Fn
set_option maxRecDepth 10000

theorem made_fields (t : Stp) (v : Int) (l : List Frm) (k : Nat) (at_ : Int) (hk : k < l.length) :
    AC P typing_made_fields.id [.ptr 0 0 0 0] [.box (mB t v (.row 2 1 0 0 l.length) k at_), .row 2 l.length 0 (frmF l)] (encFs (l.getD k default).fields) [.box (mB t v (.row 2 1 0 0 l.length) k at_), .row 2 l.length 0 (frmF l)] := by
  refine typing_made_fields.intro rfl (Goes.run ?_)
  conv => whnf
  refine ⟨rfl, ?_⟩
  refine Run.iaRD rfl rfl rfl rfl rfl rfl rfl (fun _ => ⟨by omega, by omega⟩) (j := k) (by rw [Nat.zero_add]; rfl) rfl ?_
  conv => whnf
  refine ⟨rfl, ?_⟩
  refine Run.retS ?_
  conv => whnf
  exact FinS.keep 2 rfl rfl rfl rfl (.refl _)

theorem made_own (t : Stp) (v : Int) (l : List Frm) (k a : Nat) (hk : k < l.length) (ha : a < (l.getD k default).fields.length) :
    AC P typing_made_own.id [.ptr 0 0 0 0] [.box (mB t v (.row 2 1 0 0 l.length) k a), .row 2 l.length 0 (frmF l)] (.agg ((l.getD k default).fields.getD a default).cells) [.box (mB t v (.row 2 1 0 0 l.length) k a), .row 2 l.length 0 (frmF l)] := by
  refine typing_made_own.intro rfl (Goes.run ?_)
  conv => whnf
  refine ⟨rfl, ?_⟩
  refine Run.callGN [0, 1] (made_fields t v l k a hk) rfl rfl rfl ⟨rfl, rfl, trivial⟩ ⟨rfl, rfl, trivial⟩ rfl ?_
  conv => whnf
  refine ⟨rfl, ?_⟩
  refine Run.iaD rfl rfl rfl rfl rfl (fun _ => ⟨by omega, by omega⟩) rfl ?_
  conv => whnf
  refine ⟨rfl, ?_⟩
  refine Run.retS ?_
  conv => whnf
  exact FinS.keep 2 rfl rfl rfl rfl (.refl _)

def sclI (a b x : Int) : Int := IntKind.i64.wrap (IntKind.i64.wrap (a * x) + b)
def scl (f : Fld) (a b : Int) : Fld := { f with lo := if sclI a b f.hi < sclI a b f.lo then sclI a b f.hi else sclI a b f.lo, hi := if sclI a b f.hi > sclI a b f.lo then sclI a b f.hi else sclI a b f.lo }

theorem typing_scaled_spec (f : Fld) (a b : Int) : AC P typing_scaled.id [.agg f.cells, .int .i64 a, .int .i64 b] [] (.tuple [.agg (scl f a b).cells, .bool (fRight (scl f a b))]) [] := by
  refine typing_scaled.intro rfl (Goes.run ?_)
  conv => whnf
  refine ⟨rfl, ?_⟩
  refine Run.callD (av := [.agg (scl f a b).cells]) rfl rfl rfl (fun _ => field_right _) rfl rfl rfl ?_
  conv => whnf
  refine ⟨rfl, ?_⟩
  refine Run.retP ?_
  conv => whnf
  exact ⟨rfl, .refl _⟩
end Go.Proofs.Ytbpcjahjbkiofaa.Sp

set_option linter.unusedVariables false
set_option linter.unusedSimpArgs false
namespace Go.Proofs.Ytbpcjahjbkiofaa.Sp
open Go Go.Proofs.Ytbpcjahjbkiofaa.AV Go.Proofs.Ytbpcjahjbkiofaa.Fn
set_option maxRecDepth 10000

/-- What comes in place of a field. -/
def tuL (f : Fld) (t : Stp) : List Fld :=
  bif t.op == 1 then [t.f] else bif t.op == 2 then [] else bif t.op == 3 then [t.f] else bif t.op == 4 then [bif f.kind == 1 then scl f t.a t.b else f] else bif t.op == 5 then [{ f with most := t.a }] else
  bif t.op == 6 then [{ f with hi := IntKind.i64.wrap (f.hi.tdiv t.a) }, ⟨t.to, 1, 0, if f.hi < IntKind.i64.wrap (t.a - 1) then f.hi else IntKind.i64.wrap (t.a - 1), 0⟩] else [{ f with id := t.to }]
def tuN (t : Stp) : Int := bif t.op == 1 then 0 else 1
def tuO (f : Fld) (t : Stp) : Bool :=
  bif t.op == 1 then true else bif t.op == 2 then fHas f t.vn t.vs else bif t.op == 3 then fWider f t.f else bif t.op == 4 then (bif f.kind == 1 then fRight (scl f t.a t.b) else false) else bif t.op == 5 then (f.kind == 3 && (f.most == (t.t.length : Int))) else
  bif t.op == 6 then (f.kind == 1 && (f.lo == 0)) else true

theorem IsL.two {α : Type} [Inhabited α] {enc : α → List AV} (x y : α) : IsL enc 2 (nthL [enc x, enc y]) [x, y] := ⟨rfl, fun i hi => by
  match i, hi with
  | 0, _ => rfl
  | 1, _ => rfl⟩

theorem made_turned (t : Stp) (v : Int) (l : List Frm) (k : Nat) (at_ : Int) (f : Fld) (h6 : t.op = 6 → t.a ≠ 0)
    (hf : (t.op == 1) = false → k < l.length ∧ ∃ a : Nat, at_ = a ∧ a < (l.getD k default).fields.length ∧ (l.getD k default).fields.getD a default = f) :
    AC P typing_made_turned.id [.ptr 0 0 0 0] [.box (mB t v (.row 2 1 0 0 l.length) k at_), .row 2 l.length 0 (frmF l)] (.tuple [encFs (tuL f t), .int .i64 (tuN t), .bool (tuO f t)]) [.box (mB t v (.row 2 1 0 0 l.length) k at_), .row 2 l.length 0 (frmF l)] := by
  refine typing_made_turned.intro rfl (Goes.run ?_)
  conv => whnf
  refine ⟨rfl, ?_⟩
  refine Run.condC rfl (fun h1 => ?_) (fun h1 => ?_) <;> (conv => whnf) <;> refine ⟨rfl, ?_⟩
  · refine Run.retS ?_
    conv => whnf
    rw [show tuL f t = [t.f] by simp only [tuL, h1, cond_true], show tuN t = 0 by simp only [tuN, h1, cond_true], show tuO f t = true by simp only [tuO, h1, cond_true]]
    exact FinS.keepP 2 rfl rfl rfl (Le.tuple (.cons (IsL.le (enc := Fld.cells) (IsL.one t.f)) (.cons (.refl _) (.cons (.tt rfl) .nil))))
  have en : tuN t = 1 := by simp only [tuN, h1, cond_false]
  rw [en]
  obtain ⟨hk, a, rfl, ha, rfl⟩ := hf h1
  refine Run.callG [0, 1] (made_own t v l k a hk ha) rfl rfl rfl ⟨rfl, rfl, trivial⟩ ?_
  conv => whnf
  refine ⟨rfl, ?_⟩
  generalize (l.getD k default).fields.getD a default = f
  refine Run.condC rfl (fun h2 => ?_) (fun h2 => ?_) <;> (conv => whnf) <;> refine ⟨rfl, ?_⟩
  · refine Run.callC (av := [.agg f.cells, .agg [.int .i64 t.vn, .str t.vs]]) rfl rfl rfl (fun _ => field_has _ _ _) rfl rfl ?_
    conv => whnf
    refine ⟨rfl, ?_⟩
    refine Run.retS ?_
    conv => whnf
    rw [show tuL f t = [] by simp only [tuL, h1, h2, cond_true, cond_false], show tuO f t = fHas f t.vn t.vs by simp only [tuO, h1, h2, cond_true, cond_false]]
    exact FinS.keepP 2 rfl rfl rfl (Le.tuple (.cons (Le.zsl (by omega)) (.cons (.refl _) (.cons (.refl _) .nil))))
  refine Run.condC rfl (fun h3 => ?_) (fun h3 => ?_) <;> (conv => whnf) <;> refine ⟨rfl, ?_⟩
  · refine Run.callD (av := [.agg f.cells, .agg t.f.cells]) rfl rfl rfl (fun _ => field_wider _ _) rfl rfl rfl ?_
    conv => whnf
    refine ⟨rfl, ?_⟩
    refine Run.retS ?_
    conv => whnf
    rw [show tuL f t = [t.f] by simp only [tuL, h1, h2, h3, cond_true, cond_false], show tuO f t = fWider f t.f by simp only [tuO, h1, h2, h3, cond_true, cond_false]]
    exact FinS.keepP 2 rfl rfl rfl (Le.tuple (.cons (IsL.le (enc := Fld.cells) (IsL.one t.f)) (.cons (.refl _) (.cons (.refl _) .nil))))
  refine Run.condC rfl (fun h4 => ?_) (fun h4 => ?_) <;> (conv => whnf) <;> refine ⟨rfl, ?_⟩
  · refine Run.condC rfl (fun hk1 => ?_) (fun hk1 => ?_) <;> (conv => whnf) <;> refine ⟨rfl, ?_⟩
    · refine Run.callC (av := [.agg f.cells, .int .i64 t.a, .int .i64 t.b]) rfl rfl rfl (fun _ => typing_scaled_spec _ _ _) rfl rfl ?_
      conv => whnf
      refine ⟨rfl, ?_⟩
      refine Run.retS ?_
      conv => whnf
      rw [show tuL f t = [scl f t.a t.b] by simp only [tuL, h1, h2, h3, h4, hk1, cond_true, cond_false], show tuO f t = fRight (scl f t.a t.b) by simp only [tuO, h1, h2, h3, h4, hk1, cond_true, cond_false]]
      exact FinS.keepP 2 rfl rfl rfl (Le.tuple (.cons (IsL.le (enc := Fld.cells) (IsL.one (scl f t.a t.b))) (.cons (.refl _) (.cons (.refl _) .nil))))
    · refine Run.retS ?_
      conv => whnf
      rw [show tuL f t = [f] by simp only [tuL, h1, h2, h3, h4, hk1, cond_true, cond_false], show tuO f t = false by simp only [tuO, h1, h2, h3, h4, hk1, cond_true, cond_false]]
      exact FinS.keepP 2 rfl rfl rfl (Le.tuple (.cons (IsL.le (enc := Fld.cells) (IsL.one f)) (.cons (.refl _) (.cons (.ff rfl) .nil))))
  refine Run.condC rfl (fun h5 => ?_) (fun h5 => ?_) <;> (conv => whnf) <;> refine ⟨rfl, ?_⟩
  · refine Run.retS ?_
    conv => whnf
    rw [show tuL f t = [{ f with most := t.a }] by simp only [tuL, h1, h2, h3, h4, h5, cond_true, cond_false], show tuO f t = (f.kind == 3 && (f.most == (t.t.length : Int))) by simp only [tuO, h1, h2, h3, h4, h5, cond_true, cond_false]]
    exact FinS.keepP 2 rfl rfl rfl (Le.tuple (.cons (IsL.le (enc := Fld.cells) (IsL.one { f with most := t.a })) (.cons (.refl _) (.cons (.refl _) .nil))))
  refine Run.condC rfl (fun h6' => ?_) (fun h6' => ?_) <;> (conv => whnf) <;> refine ⟨rfl, ?_⟩
  · refine Run.doesC rfl rfl (fun _ => Does.quo rfl rfl (h6 (by simpa using h6'))) ?_
    conv => whnf
    refine ⟨rfl, ?_⟩
    refine Run.retS ?_
    conv => whnf
    rw [show tuL f t = [{ f with hi := IntKind.i64.wrap (f.hi.tdiv t.a) }, ⟨t.to, 1, 0, if f.hi < IntKind.i64.wrap (t.a - 1) then f.hi else IntKind.i64.wrap (t.a - 1), 0⟩] by simp only [tuL, h1, h2, h3, h4, h5, h6', cond_true, cond_false], show tuO f t = (f.kind == 1 && (f.lo == 0)) by simp only [tuO, h1, h2, h3, h4, h5, h6', cond_true, cond_false]]
    exact FinS.keepP 2 rfl rfl rfl (Le.tuple (.cons (IsL.le (enc := Fld.cells) (IsL.two { f with hi := IntKind.i64.wrap (f.hi.tdiv t.a) } ⟨t.to, 1, 0, if f.hi < IntKind.i64.wrap (t.a - 1) then f.hi else IntKind.i64.wrap (t.a - 1), 0⟩)) (.cons (.refl _) (.cons (.refl _) .nil))))
  refine Run.retS ?_
  conv => whnf
  rw [show tuL f t = [{ f with id := t.to }] by simp only [tuL, h1, h2, h3, h4, h5, h6', cond_true, cond_false], show tuO f t = true by simp only [tuO, h1, h2, h3, h4, h5, h6', cond_true, cond_false]]
  exact FinS.keepP 2 rfl rfl rfl (Le.tuple (.cons (IsL.le (enc := Fld.cells) (IsL.one { f with id := t.to })) (.cons (.refl _) (.cons (.tt rfl) .nil))))
end Go.Proofs.Ytbpcjahjbkiofaa.Sp

set_option linter.unusedVariables false
set_option linter.unusedSimpArgs false
namespace Go.Proofs.Ytbpcjahjbkiofaa.Sp
open Go Go.Proofs.Ytbpcjahjbkiofaa.AV Go.Proofs.Ytbpcjahjbkiofaa.Fn
set_option maxRecDepth 10000

theorem fldF_nth (l : List Fld) (k : Nat) (x : Fld) (h : l[k]? = some x) : fldF l k = x.cells := by
  unfold fldF
  rw [List.getD_eq_getElem?_getD, h]
  rfl

/-- As functions: the lists with some taken out, put in. -/
theorem del_list {fs : List Fld} {a : Nat} {k : Nat} (ha : a < fs.length) (hk : k < fs.length - 1) : delF a (a + 1) (fldF fs) k = fldF (fcut fs a) k := by
  unfold delF fldF fcut
  have e : ∀ (l m : List Fld) (j : Nat), l[j]? = m[j]? → l.getD j default = m.getD j default := fun l m j h => by rw [List.getD_eq_getElem?_getD, List.getD_eq_getElem?_getD, h]
  have hl : (fs.take a).length = a := by simp; omega
  by_cases h : k < a
  · rw [if_pos h]
    congr 1
    rw [List.getD_eq_getElem?_getD, List.getD_eq_getElem?_getD, List.getElem?_append_left (by omega), List.getElem?_take, if_pos h]
  · rw [if_neg h]
    congr 1
    rw [List.getD_eq_getElem?_getD, List.getD_eq_getElem?_getD, List.getElem?_append_right (by omega), hl, List.getElem?_drop]
    congr 2
    omega

theorem ins_list {r l : List Fld} {F g : Nat → List AV} {i k : Nat} (hF : ∀ k, k < r.length → F k = fldF r k) (hg : ∀ k, k < l.length → g k = fldF l k) (hi : i ≤ r.length) (hk : k < r.length + l.length) : insF i l.length g F k = fldF (r.take i ++ l ++ r.drop i) k := by
  have hl : (r.take i).length = i := by simp; omega
  have hl2 : (r.take i ++ l).length = i + l.length := by simp; omega
  unfold insF
  by_cases h : k < i
  · rw [if_pos h, hF k (by omega)]
    unfold fldF
    congr 1
    rw [List.getD_eq_getElem?_getD, List.getD_eq_getElem?_getD, List.getElem?_append_left (by omega), List.getElem?_append_left (by omega), List.getElem?_take, if_pos h]
  · rw [if_neg h]
    by_cases h2 : k < i + l.length
    · rw [if_pos h2, hg _ (by omega)]
      unfold fldF
      congr 1
      rw [List.getD_eq_getElem?_getD, List.getD_eq_getElem?_getD, List.getElem?_append_left (by omega), List.getElem?_append_right (by omega), hl]
    · rw [if_neg h2, hF _ (by omega)]
      unfold fldF
      congr 1
      rw [List.getD_eq_getElem?_getD, List.getD_eq_getElem?_getD, List.getElem?_append_right (by omega), hl2, List.getElem?_drop]
      congr 2
      omega

theorem rep_list {r l : List Fld} {F g : Nat → List AV} {i j k : Nat} (hF : ∀ k, k < r.length → F k = fldF r k) (hg : ∀ k, k < l.length → g k = fldF l k) (hi : i ≤ j) (hj : j ≤ r.length) (hk : k < r.length - (j - i) + l.length) : repF i j l.length g F k = fldF (r.take i ++ l ++ r.drop j) k := by
  have hl : (r.take i).length = i := by simp; omega
  have hl2 : (r.take i ++ l).length = i + l.length := by simp; omega
  unfold repF
  by_cases h : k < i
  · rw [if_pos h, hF k (by omega)]
    unfold fldF
    congr 1
    rw [List.getD_eq_getElem?_getD, List.getD_eq_getElem?_getD, List.getElem?_append_left (by omega), List.getElem?_append_left (by omega), List.getElem?_take, if_pos h]
  · rw [if_neg h]
    by_cases h2 : k < i + l.length
    · rw [if_pos h2, hg _ (by omega)]
      unfold fldF
      congr 1
      rw [List.getD_eq_getElem?_getD, List.getD_eq_getElem?_getD, List.getElem?_append_left (by omega), List.getElem?_append_right (by omega), hl]
    · rw [if_neg h2, hF _ (by omega)]
      unfold fldF
      congr 1
      rw [List.getD_eq_getElem?_getD, List.getD_eq_getElem?_getD, List.getElem?_append_right (by omega), hl2, List.getElem?_drop]
      congr 2
      omega

def chL (fs : List Fld) (t : Stp) (a : Nat) : List Fld :=
  bif t.op == 7 then fput (fcut fs a) t.place.toNat (fs.getD a default) else fs.take a ++ tuL (fs.getD a default) t ++ fs.drop (a + (tuN t).toNat)
def chO (fs : List Fld) (t : Stp) (a : Nat) : Bool := t.op == 7 || tuO (fs.getD a default) t
def chForms (l : List Frm) (k : Nat) (t : Stp) (a : Nat) : List Frm :=
  bif chO (l.getD k default).fields t a then l.set k ⟨(l.getD k default).id, chL (l.getD k default).fields t a⟩ else l

theorem fput_len {l : List Fld} {k : Nat} {f : Fld} (h : k ≤ l.length) : (fput l k f).length = l.length + 1 := by
  simp [fput]; omega
theorem fcut_len {l : List Fld} {k : Nat} (h : k < l.length) : (fcut l k).length = l.length - 1 := by
  simp [fcut]; omega

/-- A form's fields told anew. -/
theorem set_tab {l : List Frm} {k m : Nat} {G : Nat → List AV} {new : List Fld} (hk : k < l.length) (hm : m = new.length) (hG : ∀ j, j < m → G j = fldF new j) : ∀ i, i < l.length → LeL (bif Nat.beq i k then lsets (frmF l i) (0 + 1) [.list 5 m G] else frmF l i) (frmF (l.set k ⟨(l.getD k default).id, new⟩) i) := by
  intro i hi
  cases hb : Nat.beq i k with
  | true =>
    obtain rfl := Nat.eq_of_beq_eq_true hb
    have e : frmF (l.set i ⟨(l.getD i default).id, new⟩) i = Frm.cells ⟨(l.getD i default).id, new⟩ := by
      unfold frmF
      congr 1
      simp [List.getD_eq_getElem?_getD, hi]
    rw [cond_true, e]
    exact .cons (.refl _) (.cons (Le.list hm fun j hj => by rw [hG j hj]; exact LeL.refl _) .nil)
  | false =>
    rw [cond_false]
    have hne : k ≠ i := fun e => by subst e; simp at hb
    have : frmF (l.set k ⟨(l.getD k default).id, new⟩) i = frmF l i := by
      unfold frmF
      congr 1
      simp [List.getD_eq_getElem?_getD, hne]
    rw [this]
    exact LeL.refl _

theorem delete_fld' {n i j : Nat} {f : Nat → List AV} {x y : Int} (ex : x = (i : Int)) (ey : y = (j : Int)) (hij : i < j) (hj : j ≤ n) (hn : n ≤ 1000000) :
    AC P slices_Delete_api_Field_api_Field.id [.row 5 0 0 0 n, .int .i64 x, .int .i64 y] [.row 5 n 0 f] (.row 5 0 1 0 (n - (j - i))) [.row 5 (n - (j - i)) 1 (delF i j f)] := by
  subst ex
  subst ey
  exact delete_fld hij hj hn
theorem insert_fld1' {n i m : Nat} {f g : Nat → List AV} {x : Int} (ex : x = (i : Int)) (hi : i ≤ n) (hm : 1 ≤ m) (hn : n ≤ 1000000) (hm2 : m ≤ 1000000) :
    AC P slices_Insert_api_Field_api_Field.id [.row 5 0 1 0 n, .int .i64 x, .list 5 m g] [.row 5 n 1 f] (.row 5 0 3 0 (n + m)) [.row 5 (n + m) 3 (insF i m g f)] := by
  subst ex
  exact insert_fld1 hi hm hn hm2
theorem replace_fld' {n i j m : Nat} {f g : Nat → List AV} {x y : Int} (ex : x = (i : Int)) (ey : y = (j : Int)) (hij : i ≤ j) (hj : j ≤ n) (hm : i = j → 1 ≤ m) (hn : n ≤ 1000000) (hm2 : m ≤ 1000000) :
    AC P slices_Replace_api_Field_api_Field.id [.row 5 0 0 0 n, .int .i64 x, .int .i64 y, .list 5 m g] [.row 5 n 0 f] (.row 5 0 3 0 (n - (j - i) + m)) [.row 5 (n - (j - i) + m) 3 (repF i j m g f)] := by
  subst ex
  subst ey
  exact replace_fld hij hj hm hn hm2

theorem tuL_len (f : Fld) (t : Stp) : (tuL f t).length ≤ 2 := by
  unfold tuL
  cases t.op == 1 <;> cases t.op == 2 <;> cases t.op == 3 <;> cases t.op == 4 <;> cases t.op == 5 <;> cases t.op == 6 <;> simp

theorem made_change (t : Stp) (v : Int) (l : List Frm) (k a : Nat) (hk : k < l.length) (ha : a ≤ (l.getD k default).fields.length) (ha1 : (t.op == 1) = false → a < (l.getD k default).fields.length)
    (h7 : t.op = 7 → 0 ≤ t.place ∧ t.place < (l.getD k default).fields.length) (h6 : t.op = 6 → t.a ≠ 0) (hb : (l.getD k default).fields.length ≤ 1000) :
    AC P typing_made_change.id [.ptr 0 0 0 0] [.box (mB t v (.row 2 1 0 0 l.length) k a), .row 2 l.length 0 (frmF l)] (.bool (chO (l.getD k default).fields t a)) [.box (mB t v (.row 2 1 0 0 l.length) k a), .row 2 l.length 0 (frmF (chForms l k t a))] := by
  refine typing_made_change.intro rfl (Goes.run ?_)
  conv => whnf
  refine ⟨rfl, ?_⟩
  refine Run.callG [0, 1] (made_fields t v l k a hk) rfl rfl rfl ⟨rfl, rfl, trivial⟩ ?_
  conv => whnf
  refine ⟨rfl, ?_⟩
  refine Run.callG [2] (clone_new (l.getD k default).fields (by omega)) rfl rfl rfl ⟨rfl, trivial⟩ ?_
  conv => whnf
  refine ⟨rfl, ?_⟩
  have hwa : IntKind.i64.wrap ((a : Int) + 1) = ((a + 1 : Nat) : Int) := by rw [wrap_of (by omega) (by omega)]; omega
  refine Run.condC rfl (fun h => ?_) (fun h => ?_) <;> (conv => whnf) <;> refine ⟨rfl, ?_⟩
  · have hop : t.op = 7 := by simpa using h
    have h1 : (t.op == 1) = false := by rw [hop]; rfl
    have haf := ha1 h1
    obtain ⟨hp0, hp1⟩ := h7 hop
    obtain ⟨p, hp⟩ : ∃ p : Nat, t.place = p := ⟨t.place.toNat, by omega⟩
    refine Run.callG [0, 1] (made_own t v l k a hk haf) rfl rfl rfl ⟨rfl, rfl, trivial⟩ ?_
    conv => whnf
    refine ⟨rfl, ?_⟩
    refine Run.callGD [2] 2 (delete_fld' (i := a) (j := a + 1) rfl hwa (by omega) (by omega) (by omega)) rfl rfl rfl ⟨rfl, trivial⟩ rfl ⟨rfl, trivial⟩ rfl ?_
    conv => whnf
    refine ⟨rfl, ?_⟩
    refine Run.callGDs [2] 2 (insert_fld1' (i := p) (m := 1) hp (by omega) (Nat.le_refl _) (by omega) (by omega)) rfl rfl rfl ⟨rfl, trivial⟩ rfl ⟨rfl, trivial⟩ rfl ?_
    conv => whnf
    refine ⟨rfl, ?_⟩
    refine Run.frzC 2 rfl ?_
    conv => whnf
    refine ⟨rfl, ?_⟩
    refine Run.iaRD rfl rfl rfl rfl rfl rfl rfl (fun _ => ⟨by omega, by omega⟩) (j := k) (by rw [Nat.zero_add]; rfl) rfl ?_
    conv => whnf
    refine ⟨rfl, ?_⟩
    refine Run.retS ?_
    conv => whnf
    have ec : chO (l.getD k default).fields t a = true := by simp [chO, hop]
    rw [ec]
    refine FinS.tab rfl (FinS.keep 2 rfl rfl rfl rfl (.tt rfl)) fun i => ?_
    match i with
    | 0 => exact LeOb.refl _
    | 1 =>
      refine ⟨rfl, rfl, rfl, ?_⟩
      simp only [chForms, ec, cond_true]
      have hl7 : chL (l.getD k default).fields t a = fput (fcut (l.getD k default).fields a) p ((l.getD k default).fields.getD a default) := by
        simp only [chL, h, cond_true]
        rw [hp]; rfl
      rw [hl7]
      refine set_tab hk ?_ fun j hj => ?_
      · rw [fput_len (by rw [fcut_len haf]; omega), fcut_len haf]
        omega
      · have hj' : j < (l.getD k default).fields.length - (a + 1 - a) + 1 := hj
        have hj2 : j < (l.getD k default).fields.length - 1 + 1 := by omega
        rw [Nat.zero_add]
        refine (ins_list (r := fcut (l.getD k default).fields a) (l := [(l.getD k default).fields.getD a default]) (fun q hq => del_list haf (by rw [fcut_len haf] at hq; exact hq)) (fun q hq => ?_) (by rw [fcut_len haf]; omega) (by rw [fcut_len haf]; exact hj2)).trans ?_
        · match q, hq with
          | 0, _ => rfl
        · congr 1
          simp [fput]
    | i + 2 => exact .inl rfl
  · have hN : tuN t = ((tuN t).toNat : Int) ∧ (tuN t).toNat ≤ 1 := by unfold tuN; cases t.op == 1 <;> simp
    refine Run.callG [0, 1] (made_turned t v l k a ((l.getD k default).fields.getD a default) h6 (fun h1 => ⟨hk, a, rfl, ha1 h1, rfl⟩)) rfl rfl rfl ⟨rfl, rfl, trivial⟩ ?_
    conv => whnf
    refine ⟨rfl, ?_⟩
    refine Run.condC rfl (fun ho => ?_) (fun ho => ?_) <;> (conv => whnf) <;> refine ⟨rfl, ?_⟩
    · have ec : chO (l.getD k default).fields t a = false := by
        unfold chO
        rw [h, Bool.false_or]
        simpa using ho
      refine Run.retS ?_
      conv => whnf
      rw [ec]
      simp only [chForms, ec, cond_false]
      exact FinS.keep 2 rfl rfl rfl rfl (.ff rfl)
    have ec : chO (l.getD k default).fields t a = true := by
      unfold chO
      rw [h, Bool.false_or]
      simpa using ho
    have han : a + (tuN t).toNat ≤ (l.getD k default).fields.length := by
      cases h1 : t.op == 1 with
      | true => simp only [tuN, h1, cond_true]; simpa using ha
      | false => have := ha1 h1; omega
    have hm1 : a = a + (tuN t).toNat → 1 ≤ (tuL ((l.getD k default).fields.getD a default) t).length := fun e => by
      cases h1 : t.op == 1 with
      | true => simp [tuL, h1]
      | false => simp only [tuN, h1, cond_false] at e; simp at e
    have hwn : IntKind.i64.wrap ((a : Int) + tuN t) = ((a + (tuN t).toNat : Nat) : Int) := by rw [wrap_of (by omega) (by omega)]; omega
    have htl := tuL_len ((l.getD k default).fields.getD a default) t
    refine Run.callGDs [2] 2 (replace_fld' (i := a) (j := a + (tuN t).toNat) rfl hwn (by omega) han hm1 (by omega) (by omega)) rfl rfl rfl ⟨rfl, trivial⟩ rfl ⟨rfl, trivial⟩ rfl ?_
    conv => whnf
    refine ⟨rfl, ?_⟩
    refine Run.frzC 2 rfl ?_
    conv => whnf
    refine ⟨rfl, ?_⟩
    refine Run.iaRD rfl rfl rfl rfl rfl rfl rfl (fun _ => ⟨by omega, by omega⟩) (j := k) (by rw [Nat.zero_add]; rfl) rfl ?_
    conv => whnf
    refine ⟨rfl, ?_⟩
    refine Run.retS ?_
    conv => whnf
    rw [ec]
    refine FinS.tab rfl (FinS.keep 2 rfl rfl rfl rfl (.tt rfl)) fun i => ?_
    match i with
    | 0 => exact LeOb.refl _
    | 1 =>
      refine ⟨rfl, rfl, rfl, ?_⟩
      simp only [chForms, ec, cond_true]
      have hl7 : chL (l.getD k default).fields t a = (l.getD k default).fields.take a ++ tuL ((l.getD k default).fields.getD a default) t ++ (l.getD k default).fields.drop (a + (tuN t).toNat) := by
        simp only [chL, h, cond_false]
      rw [hl7]
      refine set_tab hk ?_ fun j hj => ?_
      · rw [List.length_append, List.length_append, List.length_take, List.length_drop]
        omega
      · rw [Nat.zero_add]
        exact rep_list (fun q _ => rfl) (fun q _ => rfl) (by omega) han hj
    | i + 2 => exact .inl rfl
end Go.Proofs.Ytbpcjahjbkiofaa.Sp

set_option linter.unusedVariables false
set_option linter.unusedSimpArgs false
namespace Go.Proofs.Ytbpcjahjbkiofaa.Sp
open Go Go.Proofs.Ytbpcjahjbkiofaa.AV Go.Proofs.Ytbpcjahjbkiofaa.Fn
set_option maxRecDepth 10000

/-- The forms after a step. -/
def tForms (l : List Frm) (t : Stp) : List Frm :=
  bif t.op == 9 then l.take (fPos l t.form) ++ [⟨t.form, t.fields⟩] ++ l.drop (fPos l t.form) else bif t.op == 10 then l.take (fPos l t.form) ++ l.drop (fPos l t.form + 1) else chForms l (fPos l t.form) t (thAt l t 0).toNat
def badOn (s : Sch) (t : Stp) : Bool := !sRight s || !stRight t || decide (t.op < 1) || decide (t.op > 10)
def tOn (s : Sch) (t : Stp) : Sch × Int :=
  bif badOn s t then (⟨0, []⟩, 2) else bif thErr s.forms t != 0 then (⟨0, []⟩, thErr s.forms t) else
  bif t.op != 9 && (t.op != 10 && !chO (thFs s.forms t) t (thAt s.forms t 0).toNat) then (⟨0, []⟩, 17) else
  bif !sRight ⟨s.version, tForms s.forms t⟩ then (⟨0, []⟩, 7) else (⟨s.version, tForms s.forms t⟩, 0)

theorem st_place {t : Stp} (h : stRight t = true) : 0 ≤ t.place ∧ t.place ≤ 8 := by
  unfold stRight at h
  cases h1 : bad1 t with
  | true => rw [h1] at h; simp at h
  | false =>
    simp only [bad1, Bool.or_eq_false_iff, Bool.not_eq_false'] at h1
    have h2 := h1.1.1.2
    simp only [btw, Bool.and_eq_true, decide_eq_true_eq] at h2
    omega
theorem st_num {t : Stp} (h : stRight t = true) : numB t = true := by
  unfold stRight at h
  cases h1 : bad1 t with
  | true => rw [h1] at h; simp at h
  | false =>
    simp only [bad1, Bool.or_eq_false_iff, Bool.not_eq_false'] at h1
    exact h1.2
theorem st_a6 {t : Stp} (h : stRight t = true) (h6 : t.op = 6) : t.a ≠ 0 := by
  have h1 := st_num h
  simp [numB, h6, btw] at h1
  omega

theorem hasPos_lt {l : List Frm} {id : Int} (h : hasPos l id = true) : fPos l id < l.length := by
  unfold hasPos at h
  simp only [Bool.and_eq_true, decide_eq_true_eq] at h
  exact h.1

theorem fAt_lt {l : List Fld} {id : Int} {i : Nat} (h : fAt l id = some i) : i < l.length := by
  unfold fAt at h
  rw [List.findIdx?_eq_some_iff_getElem] at h
  exact h.1
theorem placeI_nat {l : List Fld} {id : Int} (h : ¬ placeI (fAt l id) < 0) : ∃ a : Nat, placeI (fAt l id) = a ∧ a < l.length := by
  cases h1 : fAt l id with
  | none => rw [h1] at h; simp [placeI] at h
  | some i => exact ⟨i, rfl, fAt_lt h1⟩

theorem th_has {l : List Frm} {t : Stp} (h : thErr l t = 0) (h9 : (t.op == 9) = false) : hasPos l t.form = true := by
  unfold thErr at h
  rw [h9, cond_false] at h
  cases hh : hasPos l t.form with
  | true => rfl
  | false => rw [hh, cond_false] at h; omega

theorem th_facts {l : List Frm} {t : Stp} (h : thErr l t = 0) (h9 : (t.op == 9) = false) (h10 : (t.op == 10) = false) (hp : 0 ≤ t.place) :
    ∃ a : Nat, thAt l t 0 = a ∧ a ≤ (thFs l t).length ∧ ((t.op == 1) = false → a < (thFs l t).length) ∧ (t.op = 7 → t.place < (thFs l t).length) := by
  have hh := th_has h h9
  unfold thErr at h
  rw [h9, hh, cond_false, cond_true] at h
  have e1 : thAt l t 0 = thAt0 (thFs l t) t := by simp only [thAt, h9, hh, cond_false, cond_true]
  rw [e1]
  cases hd : decide (thAt0 (thFs l t) t < 0) with
  | true => rw [hd, cond_true] at h; omega
  | false =>
    rw [hd, cond_false] at h
    simp only [decide_eq_false_iff_not] at hd
    cases hf : (decide (thFresh t ≥ 0) && decide (placeI (fAt (thFs l t) (thFresh t)) ≥ 0)) with
    | true => rw [hf, cond_true] at h; omega
    | false =>
      rw [hf, cond_false] at h
      cases hg : ((t.op == 1 && decide (t.place > ((thFs l t).length : Int))) || (t.op == 7 && decide (t.place ≥ ((thFs l t).length : Int)))) with
      | true => rw [hg, cond_true] at h; omega
      | false =>
        simp only [Bool.or_eq_false_iff, Bool.and_eq_false_iff, decide_eq_false_iff_not] at hg
        obtain ⟨g1, g7⟩ := hg
        have f7 : t.op = 7 → t.place < (thFs l t).length := fun e => by
          rcases g7 with g | g
          · rw [e] at g; simp at g
          · omega
        cases h1 : t.op == 1 with
        | true =>
          have e2 : thAt0 (thFs l t) t = t.place := by simp only [thAt0, h1, cond_true]
          rw [e2]
          rw [h1] at g1
          refine ⟨t.place.toNat, by omega, ?_, fun e => by simp at e, f7⟩
          rcases g1 with g | g
          · simp at g
          · omega
        | false =>
          have e2 : thAt0 (thFs l t) t = placeI (fAt (thFs l t) t.field) := by
            simp only [thAt0, h1, h10, cond_false]
            cases (t.op == 6 || t.op == 8) <;> rfl
          rw [e2] at hd ⊢
          obtain ⟨a, ha, hlt⟩ := placeI_nat hd
          exact ⟨a, ha, by omega, fun _ => hlt, f7⟩

/-- A schema that may be is small. -/
theorem fine_len {x : Frm} (h : fFine x = true) : x.fields.length ≤ 8 ∧ 1 ≤ x.fields.length := by
  simp only [fFine, Bool.and_eq_true, decide_eq_true_eq] at h
  omega
theorem sRight_len {s : Sch} (h : sRight s = true) : s.forms.length ≤ 8 ∧ ∀ i, (s.forms.getD i default).fields.length ≤ 8 := by
  simp only [sRight, Bool.and_eq_true, decide_eq_true_eq, List.all_eq_true] at h
  obtain ⟨h1, h2⟩ := h
  refine ⟨h1.2.2, fun i => ?_⟩
  by_cases hi : i < s.forms.length
  · have := h2 i (List.mem_range.2 hi)
    simp only [okAt, Bool.and_eq_true] at this
    exact (fine_len this.1).1
  · rw [List.getD_eq_getElem?_getD, List.getElem?_eq_none (by omega)]
    show ([] : List Fld).length ≤ 8
    simp

theorem chL_len {fs : List Fld} {t : Stp} {a : Nat} : (chL fs t a).length ≤ fs.length + 2 := by
  unfold chL
  have := tuL_len (fs.getD a default) t
  cases t.op == 7
  · rw [cond_false, List.length_append, List.length_append, List.length_take, List.length_drop]; omega
  · rw [cond_true]; simp [fput, fcut]; omega

theorem all_small {l : List Frm} {m : Nat} (h : ∀ x ∈ l, x.fields.length ≤ m) : ∀ i, (l.getD i default).fields.length ≤ m := by
  intro i
  by_cases hi : i < l.length
  · rw [show l.getD i default = l[i] by simp [List.getD_eq_getElem?_getD, hi]]
    exact h _ (List.getElem_mem hi)
  · rw [List.getD_eq_getElem?_getD, List.getElem?_eq_none (by omega)]
    exact Nat.zero_le _
theorem mem_small {l : List Frm} {m : Nat} (h : ∀ i, (l.getD i default).fields.length ≤ m) : ∀ x ∈ l, x.fields.length ≤ m := by
  intro x hx
  obtain ⟨i, hi, rfl⟩ := List.mem_iff_getElem.1 hx
  have := h i
  rwa [show l.getD i default = l[i] by simp [List.getD_eq_getElem?_getD, hi]] at this

theorem tForms_small {s : Sch} {t : Stp} (h : sRight s = true) (hf : t.fields.length ≤ 100) : Small ⟨s.version, tForms s.forms t⟩ := by
  obtain ⟨h1, h2⟩ := sRight_len h
  have hm := mem_small h2
  have key : (tForms s.forms t).length ≤ 9 ∧ ∀ x ∈ tForms s.forms t, x.fields.length ≤ 100 := by
    unfold tForms
    cases t.op == 9 with
    | true =>
      rw [cond_true]
      refine ⟨by simp; omega, fun x hx => ?_⟩
      simp only [List.mem_append, List.mem_singleton] at hx
      rcases hx with (hx | hx) | hx
      · have := hm x (List.mem_of_mem_take hx); omega
      · subst hx; exact hf
      · have := hm x (List.mem_of_mem_drop hx); omega
    | false =>
      rw [cond_false]
      cases t.op == 10 with
      | true =>
        rw [cond_true]
        refine ⟨by simp; omega, fun x hx => ?_⟩
        simp only [List.mem_append] at hx
        rcases hx with hx | hx
        · have := hm x (List.mem_of_mem_take hx); omega
        · have := hm x (List.mem_of_mem_drop hx); omega
      | false =>
        rw [cond_false]
        unfold chForms
        cases chO (s.forms.getD (fPos s.forms t.form) default).fields t (thAt s.forms t 0).toNat with
        | false => rw [cond_false]; exact ⟨by omega, fun x hx => by have := hm x hx; omega⟩
        | true =>
          rw [cond_true]
          refine ⟨by simp; omega, fun x hx => ?_⟩
          rcases List.mem_or_eq_of_mem_set hx with hx | hx
          · have := hm x hx; omega
          · subst hx
            have h3 := chL_len (fs := (s.forms.getD (fPos s.forms t.form) default).fields) (t := t) (a := (thAt s.forms t 0).toNat)
            have h4 := h2 (fPos s.forms t.form)
            show (chL _ _ _).length ≤ 100
            omega
  exact ⟨by have := key.1; show (tForms s.forms t).length ≤ 1000; omega, fun i => by have := all_small key.2 i; show ((tForms s.forms t).getD i default).fields.length ≤ 1000; omega⟩

/-- As functions. -/
theorem insM_list {l : List Frm} {x : Frm} {k i : Nat} (hk : k ≤ l.length) (hi : i < l.length + 1) : insF k 1 (nthL [x.cells]) (frmF l) i = frmF (l.take k ++ [x] ++ l.drop k) i := by
  have hl : (l.take k).length = k := by simp; omega
  have hl2 : (l.take k ++ [x]).length = k + 1 := by simp; omega
  unfold insF frmF
  by_cases h : i < k
  · rw [if_pos h]
    congr 1
    rw [List.getD_eq_getElem?_getD, List.getD_eq_getElem?_getD, List.getElem?_append_left (by omega), List.getElem?_append_left (by omega), List.getElem?_take, if_pos h]
  · rw [if_neg h]
    by_cases h2 : i < k + 1
    · rw [if_pos h2]
      obtain rfl : i = k := by omega
      rw [Nat.sub_self]
      show x.cells = _
      congr 1
      rw [List.getD_eq_getElem?_getD, List.getElem?_append_left (by omega), List.getElem?_append_right (by omega), hl]
      simp
    · rw [if_neg h2]
      congr 1
      rw [List.getD_eq_getElem?_getD, List.getD_eq_getElem?_getD, List.getElem?_append_right (by omega), hl2, List.getElem?_drop]
      congr 2
      omega
theorem delM_list {l : List Frm} {k i : Nat} (hk : k < l.length) (hi : i < l.length - 1) : delF k (k + 1) (frmF l) i = frmF (l.take k ++ l.drop (k + 1)) i := by
  have hl : (l.take k).length = k := by simp; omega
  unfold delF frmF
  by_cases h : i < k
  · rw [if_pos h]
    congr 1
    rw [List.getD_eq_getElem?_getD, List.getD_eq_getElem?_getD, List.getElem?_append_left (by omega), List.getElem?_take, if_pos h]
  · rw [if_neg h]
    congr 1
    rw [List.getD_eq_getElem?_getD, List.getD_eq_getElem?_getD, List.getElem?_append_right (by omega), hl, List.getElem?_drop]
    congr 2
    omega
theorem chForms_len {l : List Frm} {k a : Nat} {t : Stp} : (chForms l k t a).length = l.length := by
  unfold chForms
  cases chO (l.getD k default).fields t a <;> simp

theorem delete_frm' {n i j : Nat} {f : Nat → List AV} {x y : Int} (ex : x = (i : Int)) (ey : y = (j : Int)) (hij : i < j) (hj : j ≤ n) (hn : n ≤ 1000000) :
    AC P slices_Delete_api_Form_api_Form.id [.row 2 0 0 0 n, .int .i64 x, .int .i64 y] [.row 2 n 0 f] (.row 2 0 1 0 (n - (j - i))) [.row 2 (n - (j - i)) 1 (delF i j f)] := by
  subst ex
  subst ey
  exact delete_frm hij hj hn
theorem zsch : Le (.agg [.int .i64 0, .zsl]) (.agg (Sch.cells ⟨0, []⟩)) := Le.agg (.cons (.refl _) (.cons (Le.zsl (by omega)) .nil))
end Go.Proofs.Ytbpcjahjbkiofaa.Sp

set_option linter.unusedVariables false
set_option linter.unusedSimpArgs false
namespace Go.Proofs.Ytbpcjahjbkiofaa.Sp
open Go Go.Proofs.Ytbpcjahjbkiofaa.AV Go.Proofs.Ytbpcjahjbkiofaa.Fn
set_option maxRecDepth 10000

set_option maxHeartbeats 4000000 in
theorem typing_on (s : Sch) (t : Stp) (hs : Small s) (hw : WfS t) (hl : t.t.length ≤ 1000000) (hfl : t.fields.length ≤ 100) :
    AC P typing_On.id [.agg s.cells, .agg t.cells] [] (.tuple [.agg (tOn s t).1.cells, .int .i64 (tOn s t).2]) [] := by
  refine typing_On.intro rfl (Goes.run ?_)
  conv => whnf
  refine ⟨rfl, ?_⟩
  refine Run.callC (av := [.agg s.cells]) rfl rfl rfl (fun _ => schema_right s hs) rfl rfl ?_
  conv => whnf
  refine ⟨rfl, ?_⟩
  refine Run.callC (av := [.agg t.cells]) rfl rfl rfl (fun _ => step_right t hw hl (by omega)) rfl rfl ?_
  conv => whnf
  refine ⟨rfl, ?_⟩
  refine Run.condC rfl (fun hb => ?_) (fun hb => ?_) <;> (conv => whnf) <;> refine ⟨rfl, ?_⟩
  · refine Run.retZ ?_
    conv => whnf
    have e : tOn s t = (⟨0, []⟩, 2) := by simp only [tOn, show badOn s t = true from hb, cond_true]
    rw [e]
    exact ⟨rfl, Le.tuple (.cons zsch (.cons (.refl _) .nil))⟩
  have hbad : badOn s t = false := hb
  have hb2 := hbad
  simp only [badOn, Bool.or_eq_false_iff, Bool.not_eq_false', decide_eq_false_iff_not] at hb2
  obtain ⟨⟨⟨hsr, hst⟩, _⟩, _⟩ := hb2
  obtain ⟨hn8, hf8⟩ := sRight_len hsr
  have hpl := st_place hst
  refine Run.callGD [3] 3 (copied_new s (by omega) (fun i => by have := hf8 i; omega)) rfl rfl rfl ⟨rfl, trivial⟩ rfl ⟨rfl, trivial⟩ rfl ?_
  conv => whnf
  refine ⟨rfl, ?_⟩
  refine Run.callG [4, 3] (made_there t s.version s.forms 0 0 (by omega) (fun i => by have := hf8 i; omega)) rfl rfl rfl ⟨rfl, rfl, trivial⟩ ?_
  conv => whnf
  refine ⟨rfl, ?_⟩
  refine Run.condC rfl (fun he => ?_) (fun he => ?_) <;> (conv => whnf) <;> refine ⟨rfl, ?_⟩
  · refine Run.retZ ?_
    conv => whnf
    have e : tOn s t = (⟨0, []⟩, thErr s.forms t) := by simp only [tOn, hbad, show (thErr s.forms t != 0) = true from he, cond_true, cond_false]
    rw [e]
    exact ⟨rfl, Le.tuple (.cons zsch (.cons (.refl _) .nil))⟩
  have he0 : (thErr s.forms t != 0) = false := he
  have hth : thErr s.forms t = 0 := by simpa using he0
  have hple := fPos_le s.forms t.form
  refine Run.condC rfl (fun h9 => ?_) (fun h9 => ?_) <;> (conv => whnf) <;> refine ⟨rfl, ?_⟩
  · refine Run.callD (av := [encFs t.fields]) rfl rfl rfl (fun _ => clone_spec _ (by omega)) rfl rfl rfl ?_
    conv => whnf
    refine ⟨rfl, ?_⟩
    refine Run.callGD [3] 3 (insert_frm (i := fPos s.forms t.form) (m := 1) hple (Nat.le_refl _) (by omega) (by omega)) rfl rfl rfl ⟨rfl, trivial⟩ rfl ⟨rfl, trivial⟩ rfl ?_
    conv => whnf
    refine ⟨rfl, ?_⟩
    have hN : s.forms.length + 1 = (tForms s.forms t).length := by simp only [tForms, h9, cond_true]; simp; omega
    have hF : ∀ i, i < s.forms.length + 1 → insF (fPos s.forms t.form) 1 (nthL [Frm.cells ⟨t.form, t.fields⟩]) (frmF s.forms) i = Frm.cells ((tForms s.forms t).getD i default) := fun i hi => by
      rw [insM_list hple hi]
      simp only [tForms, h9, cond_true]
      rfl
    have hsm := tForms_small (t := t) hsr hfl
    refine Run.callB (av := [.agg [.int .i64 s.version, .list 2 (s.forms.length + 1) (fun i => insF (fPos s.forms t.form) 1 (nthL [Frm.cells ⟨t.form, t.fields⟩]) (frmF s.forms) (0 + i))]]) rfl rfl rfl (fun _ => (schema_right ⟨s.version, tForms s.forms t⟩ hsm).le_args (.cons (Le.agg (.cons (.refl _) (.cons (Le.list hN fun i hi => leL_eq (by rw [Nat.zero_add]; exact hF i hi)) .nil))) .nil)) rfl rfl ?_
    conv => whnf
    refine ⟨rfl, ?_⟩
    refine Run.condC rfl (fun hr => ?_) (fun hr => ?_) <;> (conv => whnf) <;> refine ⟨rfl, ?_⟩
    · refine Run.retZ ?_
      conv => whnf
      have e : tOn s t = (⟨0, []⟩, 7) := by simp only [tOn, hbad, he0, hr, show (t.op != 9) = false by simp only [bne, h9, Bool.not_true], cond_true, cond_false, Bool.false_and, Bool.and_false, Bool.not_true, Bool.not_false]
      rw [e]
      exact ⟨rfl, Le.tuple (.cons zsch (.cons (.refl _) .nil))⟩
    · refine Run.retZ ?_
      conv => whnf
      have e : tOn s t = (⟨s.version, tForms s.forms t⟩, 0) := by simp only [tOn, hbad, he0, hr, show (t.op != 9) = false by simp only [bne, h9, Bool.not_true], cond_true, cond_false, Bool.false_and, Bool.and_false, Bool.not_true, Bool.not_false]
      rw [e]
      exact ⟨rfl, Le.tuple (.cons (Le.agg (.cons (.refl _) (.cons (Le.list hN fun i hi => leL_eq (by rw [Nat.zero_add]; exact hF i hi)) .nil))) (.cons (.refl _) .nil))⟩
  have hhas := th_has hth h9
  have hlt := hasPos_lt hhas
  refine Run.condC rfl (fun h10 => ?_) (fun h10 => ?_) <;> (conv => whnf) <;> refine ⟨rfl, ?_⟩
  · have hwk : IntKind.i64.wrap ((fPos s.forms t.form : Int) + 1) = ((fPos s.forms t.form + 1 : Nat) : Int) := by rw [wrap_of (by omega) (by omega)]; omega
    refine Run.callGD [3] 3 (delete_frm' (i := fPos s.forms t.form) (j := fPos s.forms t.form + 1) rfl hwk (by omega) (by omega) (by omega)) rfl rfl rfl ⟨rfl, trivial⟩ rfl ⟨rfl, trivial⟩ rfl ?_
    conv => whnf
    refine ⟨rfl, ?_⟩
    have hN : s.forms.length - (fPos s.forms t.form + 1 - fPos s.forms t.form) = (tForms s.forms t).length := by simp only [tForms, h9, h10, cond_true, cond_false]; simp; omega
    have hF : ∀ i, i < s.forms.length - (fPos s.forms t.form + 1 - fPos s.forms t.form) → delF (fPos s.forms t.form) (fPos s.forms t.form + 1) (frmF s.forms) i = Frm.cells ((tForms s.forms t).getD i default) := fun i hi => by
      rw [delM_list hlt (by omega)]
      simp only [tForms, h9, h10, cond_true, cond_false]
      rfl
    have hsm := tForms_small (t := t) hsr hfl
    refine Run.callB (av := [.agg [.int .i64 s.version, .list 2 (s.forms.length - (fPos s.forms t.form + 1 - fPos s.forms t.form)) (fun i => delF (fPos s.forms t.form) (fPos s.forms t.form + 1) (frmF s.forms) (0 + i))]]) rfl rfl rfl (fun _ => (schema_right ⟨s.version, tForms s.forms t⟩ hsm).le_args (.cons (Le.agg (.cons (.refl _) (.cons (Le.list hN fun i hi => leL_eq (by rw [Nat.zero_add]; exact hF i hi)) .nil))) .nil)) rfl rfl ?_
    conv => whnf
    refine ⟨rfl, ?_⟩
    refine Run.condC rfl (fun hr => ?_) (fun hr => ?_) <;> (conv => whnf) <;> refine ⟨rfl, ?_⟩
    · refine Run.retZ ?_
      conv => whnf
      have e : tOn s t = (⟨0, []⟩, 7) := by simp only [tOn, hbad, he0, hr, show (t.op != 10) = false by simp only [bne, h10, Bool.not_true], cond_true, cond_false, Bool.false_and, Bool.and_false, Bool.not_true, Bool.not_false]
      rw [e]
      exact ⟨rfl, Le.tuple (.cons zsch (.cons (.refl _) .nil))⟩
    · refine Run.retZ ?_
      conv => whnf
      have e : tOn s t = (⟨s.version, tForms s.forms t⟩, 0) := by simp only [tOn, hbad, he0, hr, show (t.op != 10) = false by simp only [bne, h10, Bool.not_true], cond_true, cond_false, Bool.false_and, Bool.and_false, Bool.not_true, Bool.not_false]
      rw [e]
      exact ⟨rfl, Le.tuple (.cons (Le.agg (.cons (.refl _) (.cons (Le.list hN fun i hi => leL_eq (by rw [Nat.zero_add]; exact hF i hi)) .nil))) (.cons (.refl _) .nil))⟩
  obtain ⟨a, ha0, ha1, ha2, ha3⟩ := th_facts hth h9 h10 hpl.1
  have hch : (thAt s.forms t 0).toNat = a := by rw [ha0]; rfl
  refine Run.callG [4, 3] (made_change t s.version s.forms (fPos s.forms t.form) a hlt ha1 ha2 (fun h7 => ⟨hpl.1, ha3 h7⟩) (st_a6 hst) (by have := hf8 (fPos s.forms t.form); omega)) ?_ rfl rfl ⟨?_, rfl, trivial⟩ ?_
  · rfl
  · rw [← ha0]; rfl
  conv => whnf
  refine ⟨rfl, ?_⟩
  refine Run.condC rfl (fun ho => ?_) (fun ho => ?_) <;> (conv => whnf) <;> refine ⟨rfl, ?_⟩
  · refine Run.retZ ?_
    conv => whnf
    have ho' : chO (thFs s.forms t) t (thAt s.forms t 0).toNat = false := by rw [hch]; simpa only [Bool.not_eq_true'] using (show (!chO (thFs s.forms t) t a) = true from ho)
    have e : tOn s t = (⟨0, []⟩, 17) := by simp only [tOn, hbad, he0, ho', show (t.op != 9) = true by simp only [bne, h9, Bool.not_false], show (t.op != 10) = true by simp only [bne, h10, Bool.not_false], cond_true, cond_false, Bool.not_false, Bool.and_true]
    rw [e]
    exact ⟨rfl, Le.tuple (.cons zsch (.cons (.refl _) .nil))⟩
  have ho' : chO (thFs s.forms t) t (thAt s.forms t 0).toNat = true := by rw [hch]; simpa only [Bool.not_eq_false'] using (show (!chO (thFs s.forms t) t a) = false from ho)
  have hN : s.forms.length = (tForms s.forms t).length := by simp only [tForms, h9, h10, cond_false]; rw [chForms_len]
  have hF : ∀ i, i < s.forms.length → frmF (chForms s.forms (fPos s.forms t.form) t a) i = Frm.cells ((tForms s.forms t).getD i default) := fun i hi => by
    simp only [tForms, h9, h10, cond_false, hch]
    rfl
  have hsm := tForms_small (t := t) hsr hfl
  refine Run.callB (av := [.agg [.int .i64 s.version, .list 2 s.forms.length (fun i => frmF (chForms s.forms (fPos s.forms t.form) t a) (0 + i))]]) rfl rfl rfl (fun _ => (schema_right ⟨s.version, tForms s.forms t⟩ hsm).le_args (.cons (Le.agg (.cons (.refl _) (.cons (Le.list hN fun i hi => leL_eq (by rw [Nat.zero_add]; exact hF i hi)) .nil))) .nil)) rfl rfl ?_
  conv => whnf
  refine ⟨rfl, ?_⟩
  refine Run.condC rfl (fun hr => ?_) (fun hr => ?_) <;> (conv => whnf) <;> refine ⟨rfl, ?_⟩
  · refine Run.retZ ?_
    conv => whnf
    have e : tOn s t = (⟨0, []⟩, 7) := by simp only [tOn, hbad, he0, hr, ho', cond_true, cond_false, Bool.false_and, Bool.and_false, Bool.not_true, Bool.not_false]
    rw [e]
    exact ⟨rfl, Le.tuple (.cons zsch (.cons (.refl _) .nil))⟩
  · refine Run.retZ ?_
    conv => whnf
    have e : tOn s t = (⟨s.version, tForms s.forms t⟩, 0) := by simp only [tOn, hbad, he0, hr, ho', cond_true, cond_false, Bool.false_and, Bool.and_false, Bool.not_true, Bool.not_false]
    rw [e]
    exact ⟨rfl, Le.tuple (.cons (Le.agg (.cons (.refl _) (.cons (Le.list hN fun i hi => leL_eq (by rw [Nat.zero_add]; exact hF i hi)) .nil))) (.cons (.refl _) .nil))⟩
end Go.Proofs.Ytbpcjahjbkiofaa.Sp

set_option linter.unusedVariables false
set_option linter.unusedSimpArgs false
namespace Go.Proofs.Ytbpcjahjbkiofaa.Sp
open Go Go.Proofs.Ytbpcjahjbkiofaa.AV Go.Proofs.Ytbpcjahjbkiofaa.Fn
set_option maxRecDepth 10000

theorem r16_field (op : Int) : AC P R16_field.id [.int .i64 op] [] (.bool (op != 1 && op != 9 && op != 10)) [] := by
  refine R16_field.intro rfl (Goes.run ?_)
  conv => whnf
  refine ⟨rfl, ?_⟩
  refine Run.retP ?_
  conv => whnf
  exact ⟨rfl, .bool rfl⟩

def nm1 (fs : List Fld) (t : Stp) : Bool := (t.op != 1 && t.op != 9 && t.op != 10) && decide (placeI (fAt fs t.field) < 0)
def nm2 (fs : List Fld) (t : Stp) : Bool := (t.op == 1 && decide (placeI (fAt fs t.f.id) ≥ 0)) || ((t.op == 6 || t.op == 8) && decide (placeI (fAt fs t.to) ≥ 0))
def nm3 (fs : List Fld) (t : Stp) : Bool := (t.op == 1 && decide (t.place > (fs.length : Int))) || (t.op == 7 && decide (t.place ≥ (fs.length : Int)))
def nmErr (l : List Frm) (t : Stp) : Int :=
  match sFind l t.form with
  | none => bif t.op == 9 then 0 else 8
  | some k => bif t.op == 9 then 9 else bif nm1 (l.getD k default).fields t then 8 else bif nm2 (l.getD k default).fields t then 9 else bif nm3 (l.getD k default).fields t then 3 else 0

theorem sFind_lt {l : List Frm} {id : Int} {k : Nat} (h : sFind l id = some k) : k < l.length := by
  unfold sFind at h
  rw [List.findIdx?_eq_some_iff_getElem] at h
  exact h.1

theorem r16_names (s : Sch) (t : Stp) (hs : Small s) : AC P R16_names.id [.agg s.cells, .agg t.cells] [] (.int .i64 (nmErr s.forms t)) [] := by
  obtain ⟨hb, hf⟩ := hs
  have hfind := r13_find s t.form hb
  refine R16_names.intro rfl (Goes.run ?_)
  conv => whnf
  refine ⟨rfl, ?_⟩
  cases hk : sFind s.forms t.form with
  | none =>
    rw [hk] at hfind
    refine Run.callC (av := [.agg s.cells, .int .i64 t.form]) rfl rfl rfl (fun _ => hfind) rfl rfl ?_
    conv => whnf
    refine ⟨rfl, ?_⟩
    refine Run.condC rfl (fun h9 => ?_) (fun h9 => ?_) <;> (conv => whnf) <;> refine ⟨rfl, ?_⟩
    · refine Run.condC rfl (fun h => ?_) (fun h => ?_) <;> (conv => whnf) <;> refine ⟨rfl, ?_⟩
      · exfalso; simp [placeI] at h
      · refine Run.retP ?_
        conv => whnf
        refine ⟨rfl, .int ?_⟩
        simp only [nmErr, hk, h9, cond_true]
    · refine Run.condC rfl (fun h => ?_) (fun h => ?_) <;> (conv => whnf) <;> refine ⟨rfl, ?_⟩
      · refine Run.retP ?_
        conv => whnf
        refine ⟨rfl, .int ?_⟩
        simp only [nmErr, hk, h9, cond_false]
      · exfalso; simp [placeI] at h
  | some k =>
    have hlt := sFind_lt hk
    rw [hk] at hfind
    have hfind : AC P R13_Find.id [.agg s.cells, .int .i64 t.form] [] (.int .i64 (k : Int)) [] := hfind
    refine Run.callC (av := [.agg s.cells, .int .i64 t.form]) rfl rfl rfl (fun _ => hfind) rfl rfl ?_
    conv => whnf
    refine ⟨rfl, ?_⟩
    refine Run.condC rfl (fun h9 => ?_) (fun h9 => ?_) <;> (conv => whnf) <;> refine ⟨rfl, ?_⟩
    · refine Run.condC rfl (fun h => ?_) (fun h => ?_) <;> (conv => whnf) <;> refine ⟨rfl, ?_⟩
      · refine Run.retP ?_
        conv => whnf
        refine ⟨rfl, .int ?_⟩
        simp only [nmErr, hk, h9, cond_true]
      · exfalso; simp at h
    refine Run.condC rfl (fun h => ?_) (fun h => ?_) <;> (conv => whnf) <;> refine ⟨rfl, ?_⟩
    · exfalso; simp at h; omega
    refine Run.iaC rfl rfl rfl rfl rfl (fun _ => ⟨by omega, by omega⟩) ?_
    conv => whnf
    refine ⟨rfl, ?_⟩
    refine Run.callC (av := [.int .i64 t.op]) rfl rfl rfl (fun _ => r16_field _) rfl rfl ?_
    conv => whnf
    refine ⟨rfl, ?_⟩
    refine Run.callC (av := [.agg (s.forms.getD k default).cells, .int .i64 t.field]) rfl rfl rfl (fun _ => r13_at _ _ (hf k)) rfl rfl ?_
    conv => whnf
    refine ⟨rfl, ?_⟩
    refine Run.condC rfl (fun h1 => ?_) (fun h1 => ?_) <;> (conv => whnf) <;> refine ⟨rfl, ?_⟩
    · refine Run.retP ?_
      conv => whnf
      refine ⟨rfl, .int ?_⟩
      simp only [nmErr, hk, h9, show nm1 (s.forms.getD k default).fields t = true from h1, cond_true, cond_false]
    refine Run.callC (av := [.agg (s.forms.getD k default).cells, .int .i64 t.f.id]) rfl rfl rfl (fun _ => r13_at _ _ (hf k)) rfl rfl ?_
    conv => whnf
    refine ⟨rfl, ?_⟩
    refine Run.callC (av := [.agg (s.forms.getD k default).cells, .int .i64 t.to]) rfl rfl rfl (fun _ => r13_at _ _ (hf k)) rfl rfl ?_
    conv => whnf
    refine ⟨rfl, ?_⟩
    refine Run.condC rfl (fun h2 => ?_) (fun h2 => ?_) <;> (conv => whnf) <;> refine ⟨rfl, ?_⟩
    · refine Run.retP ?_
      conv => whnf
      refine ⟨rfl, .int ?_⟩
      simp only [nmErr, hk, h9, show nm1 (s.forms.getD k default).fields t = false from h1, show nm2 (s.forms.getD k default).fields t = true from h2, cond_true, cond_false]
    refine Run.condC rfl (fun h3 => ?_) (fun h3 => ?_) <;> (conv => whnf) <;> refine ⟨rfl, ?_⟩
    · refine Run.retP ?_
      conv => whnf
      refine ⟨rfl, .int ?_⟩
      simp only [nmErr, hk, h9, show nm1 (s.forms.getD k default).fields t = false from h1, show nm2 (s.forms.getD k default).fields t = false from h2, show nm3 (s.forms.getD k default).fields t = true from h3, cond_true, cond_false]
    refine Run.retP ?_
    conv => whnf
    refine ⟨rfl, .int ?_⟩
    simp only [nmErr, hk, h9, show nm1 (s.forms.getD k default).fields t = false from h1, show nm2 (s.forms.getD k default).fields t = false from h2, show nm3 (s.forms.getD k default).fields t = false from h3, cond_false]

def sclG (f : Fld) (a b : Int) : Fld := ⟨f.id, 1, if sclI a b f.hi < sclI a b f.lo then sclI a b f.hi else sclI a b f.lo, if sclI a b f.hi > sclI a b f.lo then sclI a b f.hi else sclI a b f.lo, 0⟩
def tyL (f : Fld) (t : Stp) : List Fld :=
  bif t.op == 2 then [] else bif t.op == 3 then [t.f] else bif t.op == 4 then [sclG f t.a t.b] else bif t.op == 5 then [⟨f.id, 3, 0, 0, t.a⟩] else
  bif t.op == 6 then [⟨f.id, 1, 0, IntKind.i64.wrap (f.hi.tdiv t.a), 0⟩, ⟨t.to, 1, 0, if IntKind.i64.wrap (t.a - 1) < f.hi then IntKind.i64.wrap (t.a - 1) else f.hi, 0⟩] else bif t.op == 8 then [{ f with id := t.to }] else [f]
def tyO (f : Fld) (t : Stp) : Bool :=
  bif t.op == 2 then fHas f t.vn t.vs else bif t.op == 3 then fWider f t.f else bif t.op == 4 then (f.kind == 1 && fRight (sclG f t.a t.b)) else bif t.op == 5 then (f.kind == 3 && (f.most == (t.t.length : Int))) else
  bif t.op == 6 then (f.kind == 1 && (f.lo == 0)) else true

theorem r16_types (f : Fld) (t : Stp) (h6 : t.op = 6 → t.a ≠ 0) : AC P R16_Types.id [.agg f.cells, .agg t.cells] [] (.tuple [encFs (tyL f t), .bool (tyO f t)]) [] := by
  refine R16_Types.intro rfl (Goes.run ?_)
  conv => whnf
  refine ⟨rfl, ?_⟩
  refine Run.condC rfl (fun h2 => ?_) (fun h2 => ?_) <;> (conv => whnf) <;> refine ⟨rfl, ?_⟩
  · refine Run.callC (av := [.agg f.cells, .agg [.int .i64 t.vn, .str t.vs]]) rfl rfl rfl (fun _ => r12_has _ _ _) rfl rfl ?_
    conv => whnf
    refine ⟨rfl, ?_⟩
    refine Run.retP ?_
    conv => whnf
    rw [show tyL f t = [] by simp only [tyL, h2, cond_true], show tyO f t = fHas f t.vn t.vs by simp only [tyO, h2, cond_true]]
    exact ⟨rfl, Le.tuple (.cons (Le.zsl (by omega)) (.cons (.refl _) .nil))⟩
  refine Run.condC rfl (fun h3 => ?_) (fun h3 => ?_) <;> (conv => whnf) <;> refine ⟨rfl, ?_⟩
  · refine Run.callD (av := [.agg f.cells, .agg t.f.cells]) rfl rfl rfl (fun _ => r12_wider _ _) rfl rfl rfl ?_
    conv => whnf
    refine ⟨rfl, ?_⟩
    refine Run.retP ?_
    conv => whnf
    rw [show tyL f t = [t.f] by simp only [tyL, h2, h3, cond_true, cond_false], show tyO f t = fWider f t.f by simp only [tyO, h2, h3, cond_true, cond_false]]
    exact ⟨rfl, Le.tuple (.cons (IsL.le (enc := Fld.cells) (IsL.one t.f)) (.cons (.refl _) .nil))⟩
  refine Run.condC rfl (fun h4 => ?_) (fun h4 => ?_) <;> (conv => whnf) <;> refine ⟨rfl, ?_⟩
  · refine Run.callD (av := [.agg (sclG f t.a t.b).cells]) rfl rfl rfl (fun _ => r12_right _) rfl rfl rfl ?_
    conv => whnf
    refine ⟨rfl, ?_⟩
    refine Run.retP ?_
    conv => whnf
    rw [show tyL f t = [sclG f t.a t.b] by simp only [tyL, h2, h3, h4, cond_true, cond_false], show tyO f t = (f.kind == 1 && fRight (sclG f t.a t.b)) by simp only [tyO, h2, h3, h4, cond_true, cond_false]]
    exact ⟨rfl, Le.tuple (.cons (IsL.le (enc := Fld.cells) (IsL.one (sclG f t.a t.b))) (.cons (.refl _) .nil))⟩
  refine Run.condC rfl (fun h5 => ?_) (fun h5 => ?_) <;> (conv => whnf) <;> refine ⟨rfl, ?_⟩
  · refine Run.retP ?_
    conv => whnf
    rw [show tyL f t = [⟨f.id, 3, 0, 0, t.a⟩] by simp only [tyL, h2, h3, h4, h5, cond_true, cond_false], show tyO f t = (f.kind == 3 && (f.most == (t.t.length : Int))) by simp only [tyO, h2, h3, h4, h5, cond_true, cond_false]]
    exact ⟨rfl, Le.tuple (.cons (IsL.le (enc := Fld.cells) (IsL.one ⟨f.id, 3, 0, 0, t.a⟩)) (.cons (.refl _) .nil))⟩
  refine Run.condC rfl (fun h6' => ?_) (fun h6' => ?_) <;> (conv => whnf) <;> refine ⟨rfl, ?_⟩
  · have h0 := h6 (by simpa using h6')
    refine Run.doesDN (v := .int .i64 (IntKind.i64.wrap (f.hi.tdiv t.a))) [] rfl (fun env' T' he _ => Does.quo (by rw [oval_congr fun n hn => he n (mem_lapp.2 (.inl hn))]; rfl) (by rw [oval_congr fun n hn => he n (mem_lapp.2 (.inr hn))]; rfl) h0) rfl ?_
    conv => whnf
    refine ⟨rfl, ?_⟩
    refine Run.retP ?_
    conv => whnf
    rw [show tyL f t = [⟨f.id, 1, 0, IntKind.i64.wrap (f.hi.tdiv t.a), 0⟩, ⟨t.to, 1, 0, if IntKind.i64.wrap (t.a - 1) < f.hi then IntKind.i64.wrap (t.a - 1) else f.hi, 0⟩] by simp only [tyL, h2, h3, h4, h5, h6', cond_true, cond_false], show tyO f t = (f.kind == 1 && (f.lo == 0)) by simp only [tyO, h2, h3, h4, h5, h6', cond_true, cond_false]]
    exact ⟨rfl, Le.tuple (.cons (IsL.le (enc := Fld.cells) (IsL.two ⟨f.id, 1, 0, IntKind.i64.wrap (f.hi.tdiv t.a), 0⟩ ⟨t.to, 1, 0, if IntKind.i64.wrap (t.a - 1) < f.hi then IntKind.i64.wrap (t.a - 1) else f.hi, 0⟩)) (.cons (.refl _) .nil))⟩
  refine Run.condC rfl (fun h8 => ?_) (fun h8 => ?_) <;> (conv => whnf) <;> refine ⟨rfl, ?_⟩
  · refine Run.retP ?_
    conv => whnf
    rw [show tyL f t = [{ f with id := t.to }] by simp only [tyL, h2, h3, h4, h5, h6', h8, cond_true, cond_false], show tyO f t = true by simp only [tyO, h2, h3, h4, h5, h6', h8, cond_true, cond_false]]
    exact ⟨rfl, Le.tuple (.cons (IsL.le (enc := Fld.cells) (IsL.one { f with id := t.to })) (.cons (.tt rfl) .nil))⟩
  refine Run.retP ?_
  conv => whnf
  rw [show tyL f t = [f] by simp only [tyL, h2, h3, h4, h5, h6', h8, cond_true, cond_false], show tyO f t = true by simp only [tyO, h2, h3, h4, h5, h6', h8, cond_true, cond_false]]
  exact ⟨rfl, Le.tuple (.cons (IsL.le (enc := Fld.cells) (IsL.one f)) (.cons (.tt rfl) .nil))⟩
end Go.Proofs.Ytbpcjahjbkiofaa.Sp

