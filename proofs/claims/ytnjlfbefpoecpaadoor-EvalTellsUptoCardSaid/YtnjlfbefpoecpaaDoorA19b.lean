/- The reading of terms, names, cells, programs, where what is read is small. -/
import Derived.Test.YtnjlfbefpoecpaaDoorA19
import Derived.Test.YtnjlfbefpoecpaaDoorWB
import Derived.Test.YtnjlfbefpoecpaaDoorWJ
namespace Go.Proofs.YtnjlfbefpoecpaaDoor
set_option linter.unusedVariables false
set_option linter.unusedSimpArgs false
set_option maxRecDepth 100000
open Go.RowKit Fw

mutual
/-- How many names a value holds, within, too. -/
def Val.w : Val → Nat
  | .mk _ _ _ _ e => Bd.ws e + 1
def Bd.w : Bd → Nat
  | .mk _ v => Val.w v + 1
def Bd.ws : List Bd → Nat
  | [] => 0
  | b :: l => Bd.w b + Bd.ws l
end
theorem Bd.ws_sum : ∀ l : List Bd, Bd.ws l = (l.map Bd.w).sum
  | [] => rfl
  | b :: l => by simp only [Bd.ws, List.map_cons, List.sum_cons, Bd.ws_sum l]
theorem Bd.w_mem : ∀ {l : List Bd} {b : Bd}, b ∈ l → b.v.w < Bd.ws l
  | c :: l, b, h => by
    cases h with
    | head => cases c with | mk s v => simp only [Bd.ws, Bd.w, Bd.v]; omega
    | tail _ h => have := Bd.w_mem h; simp only [Bd.ws]; omega
theorem Bd.w_pos (b : Bd) : 0 < b.w := by cases b; simp only [Bd.w]; omega
theorem Bd.ws_len : ∀ l : List Bd, l.length ≤ Bd.ws l
  | [] => Nat.le_refl _
  | b :: l => by have := Bd.ws_len l; have := Bd.w_pos b; simp only [Bd.ws, List.length_cons]; omega
theorem Val.w_EB : ∀ (n : Nat) (v : Val), v.w ≤ n → Val.EB n v := by
  suffices ∀ m n : Nat, ∀ v : Val, v.w ≤ m → m ≤ n → Val.EB n v from fun n v h => this n n v h (Nat.le_refl n)
  intro m
  induction m with
  | zero => intro n v h; cases v; simp only [Val.w] at h; omega
  | succ m ih =>
    intro n v h hm
    have he : Bd.ws v.env + 1 ≤ m + 1 := by cases v; simpa only [Val.w, Val.env] using h
    refine .mk v (by have := Bd.ws_len v.env; omega) fun b hb => ih n b.v (by have := Bd.w_mem hb; omega) (by omega)
theorem ws_EL {n : Nat} {l : List Bd} (h : Bd.ws l ≤ n) : EL n l := ⟨Nat.le_trans (Bd.ws_len l) h, fun b hb => Val.w_EB n b.v (by have := Bd.w_mem hb; omega)⟩

theorem Val.Ok.ov : ∀ v : Val, v.Ok → OV v := by
  suffices ∀ n, ∀ v : Val, SizeOf.sizeOf v < n → v.Ok → OV v from fun v => this _ v (Nat.lt_succ_self _)
  intro n
  induction n with
  | zero => intro v h; omega
  | succ n ih =>
    intro v h hv
    obtain ⟨_, h1, h2, h3, h4⟩ := hv
    exact .mk v h2.k fun b hb => ih b.v (by have := Val.env_lt hb; omega) (by cases h4 b hb; assumption)
theorem ok_OE {l : List Bd} (h : ∀ b ∈ l, b.Ok) : OE l := fun b hb => Val.Ok.ov _ (by cases h b hb; assumption)

theorem by27 : Tryd.prog.bytesOf 29 = 56 := by kernel_rfl
theorem by99 : Tryd.prog.bytesOf 99 = 128 := by kernel_rfl
theorem by53 : Tryd.prog.bytesOf 53 = 24 := by kernel_rfl
theorem ce29 : 0 < Tryd.prog.cellsOf 29 := of_decide_eq_true (by kernel_rfl)
theorem ce99 : 0 < Tryd.prog.cellsOf 99 := of_decide_eq_true (by kernel_rfl)
theorem ce53 : 0 < Tryd.prog.cellsOf 53 := of_decide_eq_true (by kernel_rfl)
theorem ce51 : 0 < Tryd.prog.cellsOf 51 := of_decide_eq_true (by kernel_rfl)
theorem ce92 : 0 < Tryd.prog.cellsOf 92 := of_decide_eq_true (by kernel_rfl)

theorem decB_tm (W : World) : ∀ n, DecB Tryd.prog W n 29 Tm.enc Tm.Ok (fun _ => 0) := by
  intro n
  induction n using Nat.strongRecOn with
  | _ n ih =>
    cases n with
    | zero => exact DecB.zero
    | succ n =>
      have kids : DecB Tryd.prog W n 27 (fun xs : List Tm => [.vec (xs.map Tm.enc) false]) (fun xs => xs.length * 56 ≤ reachBytes ∧ ∀ x ∈ xs, x.Ok) (fun _ => 0) := by
        cases n with
        | zero => exact DecB.zero
        | succ n => exact (decB_slice Tryd.underlying27 ce29 (ih n (by omega))).weaken (fun xs h => by rwa [by27] at h) (fun _ => Nat.zero_le _)
      exact DecB.map (decB_struct Tryd.underlying29 (by kernel_rfl) (decFB_cons rfl (by kernel_rfl) (decB_int Tryd.underlying3) (decFB_cons rfl (by kernel_rfl) (decB_str Tryd.underlying9) (decFB_cons rfl (by kernel_rfl) (decB_int Tryd.underlying2) (decFB_last rfl kids)))))
        (fun x => Tm.mk x.1 x.2.1 x.2.2.1 x.2.2.2) (fun x => by rw [Tm.enc_eq]; rfl) (fun x h => .mk _ h.2.1 h.2.2.2.1 h.2.2.2.2) (fun _ => Nat.zero_le _)

theorem decB_val (W : World) : ∀ n, DecB Tryd.prog W n 44 Val.enc Val.Ok Val.w ∧ DecB Tryd.prog W n 99 Bd.enc Bd.Ok Bd.w := by
  intro n
  induction n using Nat.strongRecOn with
  | _ n ih =>
    cases n with
    | zero => exact ⟨DecB.zero, DecB.zero⟩
    | succ n =>
      have env : DecB Tryd.prog W n 42 (fun xs : List Bd => [.vec (xs.map Bd.enc) false]) (fun xs => xs.length * 128 ≤ reachBytes ∧ ∀ x ∈ xs, x.Ok) (fun xs => Bd.ws xs) := by
        cases n with
        | zero => exact DecB.zero
        | succ n => exact (decB_slice Tryd.underlying42 ce99 (ih n (by omega)).2).weaken (fun xs h => by rwa [by99] at h) (fun xs => by rw [Bd.ws_sum]; omega)
      refine ⟨?_, ?_⟩
      · exact DecB.map (decB_struct Tryd.underlying44 (by kernel_rfl) (decFB_cons rfl (by kernel_rfl) (decB_int Tryd.underlying3) (decFB_cons rfl (by kernel_rfl) (decB_int Tryd.underlying2) (decFB_cons rfl (by kernel_rfl) (decB_str Tryd.underlying9) (decFB_cons rfl (by kernel_rfl) (decB_tm W n) (decFB_last rfl env))))))
          (fun x => Val.mk x.1 x.2.1 x.2.2.1 x.2.2.2.1 x.2.2.2.2) (fun x => by rw [Val.enc_eq]; rfl) (fun x h => .mk _ h.2.2.1 h.2.2.2.1 h.2.2.2.2.1 h.2.2.2.2.2) (fun x => by simp only [Val.w]; omega)
      · exact DecB.map (decB_struct Tryd.underlying99 (by kernel_rfl) (decFB_cons rfl (by kernel_rfl) (decB_str Tryd.underlying9) (decFB_last rfl (ih n (by omega)).1)))
          (fun x => Bd.mk x.1 x.2) (fun x => by rw [Bd.enc_eq]; rfl) (fun x h => .mk _ h.1 h.2) (fun x => by simp only [Bd.w]; omega)

theorem decB_sl (W : World) : ∀ n, DecB Tryd.prog W n 53 Sl.enc (fun _ => True) (fun _ => 0) := by
  intro n
  cases n with
  | zero => exact DecB.zero
  | succ n => exact DecB.map (decB_struct Tryd.underlying53 (by kernel_rfl) (decFB_cons rfl (by kernel_rfl) (decB_str Tryd.underlying9) (decFB_last rfl (decB_int Tryd.underlying2)))) (fun x => Sl.mk x.1 x.2) (fun x => rfl) (fun _ _ => trivial) (fun _ => Nat.zero_le _)
theorem decB_dl (W : World) : ∀ n, DecB Tryd.prog W n 51 Dl.enc (fun _ => True) (fun _ => 0) := by
  intro n
  cases n with
  | zero => exact DecB.zero
  | succ n => exact DecB.map (decB_struct Tryd.underlying51 (by kernel_rfl) (decFB_cons rfl (by kernel_rfl) (decB_str Tryd.underlying9) (decFB_cons rfl (by kernel_rfl) (decB_str Tryd.underlying9) (decFB_last rfl (decB_int Tryd.underlying2))))) (fun x => Dl.mk x.1 x.2.1 x.2.2) (fun x => rfl) (fun _ _ => trivial) (fun _ => Nat.zero_le _)
theorem decB_df (W : World) : ∀ n, DecB Tryd.prog W n 92 Df.enc (fun d => d.t.Ok) (fun _ => 0) := by
  intro n
  cases n with
  | zero => exact DecB.zero
  | succ n => exact DecB.map (decB_struct Tryd.underlying92 (by kernel_rfl) (decFB_cons rfl (by kernel_rfl) (decB_str Tryd.underlying9) (decFB_last rfl (decB_tm W n)))) (fun x => Df.mk x.1 x.2) (fun x => rfl) (fun x h => h.2) (fun _ => Nat.zero_le _)
theorem decB_dls (W : World) : ∀ n, DecB Tryd.prog W n 25 (fun xs : List Dl => [.vec (xs.map Dl.enc) false]) (fun _ => True) (fun _ => 0) := by
  intro n
  cases n with
  | zero => exact DecB.zero
  | succ n => exact (decB_slice Tryd.underlying25 ce51 (decB_dl W n)).weaken (fun _ _ => trivial) (fun _ => Nat.zero_le _)
theorem decB_dfs (W : World) : ∀ n, DecB Tryd.prog W n 26 (fun xs : List Df => [.vec (xs.map Df.enc) false]) (fun xs => ∀ d ∈ xs, d.t.Ok) (fun _ => 0) := by
  intro n
  cases n with
  | zero => exact DecB.zero
  | succ n => exact (decB_slice Tryd.underlying26 ce92 (decB_df W n)).weaken (fun xs h => h.2) (fun _ => Nat.zero_le _)
theorem decB_pg (W : World) : ∀ n, DecB Tryd.prog W n 31 Pg.enc (fun p => (∀ d ∈ p.defs, d.t.Ok) ∧ p.body.Ok) (fun _ => 0) := by
  intro n
  cases n with
  | zero => exact DecB.zero
  | succ n => exact DecB.map (decB_struct Tryd.underlying31 (by kernel_rfl) (decFB_cons rfl (by kernel_rfl) (decB_dls W n) (decFB_cons rfl (by kernel_rfl) (decB_dls W n) (decFB_cons rfl (by kernel_rfl) (decB_dfs W n) (decFB_last rfl (decB_tm W n)))))) (fun x => Pg.mk x.1 x.2.1 x.2.2.1 x.2.2.2) (fun x => rfl) (fun x h => ⟨h.2.2.1, h.2.2.2⟩) (fun _ => Nat.zero_le _)

theorem readsB_u8s (W : World) : ReadsArgB Tryd.prog W 22 (fun l : List Int => .vec (l.map fun n => [.int .u8 n]) false) (fun l => l.length * Tryd.prog.bytesOf 5 ≤ reachBytes ∧ ∀ y ∈ l, (Lit.int .u8 y).wf = true) (fun l => (l.map fun _ => 1).sum + 1) := readsB_slice Tryd.underlying22 ce5 fun n => decB_int Tryd.underlying5
theorem readsB_i64s (W : World) : ReadsArgB Tryd.prog W 23 (fun l : List Int => .vec (l.map fun n => [.int .i64 n]) false) (fun l => l.length * Tryd.prog.bytesOf 2 ≤ reachBytes ∧ ∀ y ∈ l, (Lit.int .i64 y).wf = true) (fun l => (l.map fun _ => 1).sum + 1) := readsB_slice Tryd.underlying23 ce2 fun n => decB_int Tryd.underlying2
theorem readsB_tm (W : World) : ReadsArgB Tryd.prog W 29 (fun t : Tm => .agg t.enc) Tm.Ok (fun _ => 0) := readsB_struct Tryd.underlying29 fun n => decB_tm W n
theorem readsB_bds (W : World) : ReadsArgB Tryd.prog W 42 (fun l : List Bd => .vec (l.map Bd.enc) false) (fun l => l.length * Tryd.prog.bytesOf 99 ≤ reachBytes ∧ ∀ x ∈ l, x.Ok) (fun l => (l.map Bd.w).sum + 1) := readsB_slice Tryd.underlying42 ce99 fun n => (decB_val W n).2
theorem readsB_sls (W : World) : ReadsArgB Tryd.prog W 45 (fun l : List Sl => .vec (l.map Sl.enc) false) (fun l => l.length * Tryd.prog.bytesOf 53 ≤ reachBytes ∧ ∀ x ∈ l, True) (fun l => (l.map fun _ => 0).sum + 1) := readsB_slice Tryd.underlying45 ce53 fun n => decB_sl W n
theorem readsB_pg (W : World) : ReadsArgB Tryd.prog W 31 (fun p : Pg => .agg p.enc) (fun p => (∀ d ∈ p.defs, d.t.Ok) ∧ p.body.Ok) (fun _ => 0) := readsB_struct Tryd.underlying31 fun n => decB_pg W n

end Go.Proofs.YtnjlfbefpoecpaaDoor
