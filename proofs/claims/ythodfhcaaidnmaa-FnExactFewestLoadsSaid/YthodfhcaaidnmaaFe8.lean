/- Functions of the program as Lean functions; of each a proof that the machine's call does what its Lean function says. -/
import Derived.Test.YthodfhcaaidnmaaFe0
import Derived.Test.YthodfhcaaidnmaaFe7
namespace Go.Proofs.Ythodfhcaaidnmaa.Fe
open Go.RowKit Go.Proofs.YthodfhcaaidnmaaW.PrintWords Go.Proofs.YthodfhcaaidnmaaW.PrintLast Go.Proofs.YthodfhcaaidnmaaW.PrintMore
attribute [local go_sem] max2_int min2_int max_two min_two max_three min_three max_four min_four   -- for this text's walks alone
set_option linter.unusedVariables false
set_option linter.unusedSimpArgs false

/-! ### impl_grouped: function 105 (told by hand) -/
def dfsG {σ : Type} (up : List Int → Nat → σ → σ) (p : List Int → Int → Bool) : Nat → List Int → Nat → σ → σ
 | 0, o, m, s => up o m s
 | d + 1, o, m, s => (List.range (m + 1)).foldl (fun (s : σ) (k : Nat) => if p o (k : Int) = true then dfsG up p d (o ++ [(k : Int)]) (max m (k + 1)) s else s) s
def stepG {σ : Type} (up : List Int → Nat → σ → σ) (p : List Int → Int → Bool) (d : Nat) (o : List Int) (m : Nat) (s : σ) (k : Nat) : σ := if p o (k : Int) = true then dfsG up p d (o ++ [(k : Int)]) (max m (k + 1)) s else s
theorem dfsG_succ {σ : Type} (up : List Int → Nat → σ → σ) (p : List Int → Int → Bool) (d : Nat) (o : List Int) (m : Nat) (s : σ) : dfsG up p (d + 1) o m s = (List.range (m + 1)).foldl (stepG up p d o m) s := rfl
theorem kept_blk {w W : World} {S : Nat → Prop} {k : Nat} {o : Obj} (h : Kept w W S) (hb : w.heap[k]? = some o) (hn : ¬ S k) : W.heap[k]? = some o := (h.2 k (blk_lt hb) hn).trans hb
theorem C_new1 (w : World) (x : Int) : Kd.C (Kd.int .i64) (w.alloc (.cells #[.int .i64 x] 2)) (some ⟨w.heap.size, 0, none⟩) [x].length [x] := by
 refine Own.C_single [.int .i64 x] rfl (fun i u hu => ?_)
 rcases i with _ | i
 ·simp at hu
  subst hu
  simp [go_sem]
 ·simp at hu
set_option maxHeartbeats 4000000 in
set_option maxRecDepth 100000 in
theorem choose_calls {σ : Type} (W1 : World) (lo n gn ge gm gc : Nat) (Sx : Nat → Prop) (fm fe : Nat) (lbm lbe : Array Value) (up : List Int → Nat → σ → σ) (p : List Int → Int → Bool) (I : World → σ → Prop) (hn : n ≤ 1000) (hlo : lo ≤ W1.heap.size) (hsx : ∀ k, Sx k → k < W1.heap.size)
  (bn : W1.heap[gn]? = some (.cells #[.int .i64 (n : Int)] 3 (0, 0))) (be : W1.heap[ge]? = some (.cells #[.func (.func fe) #[] lbe] 91 (0, 0))) (bm : W1.heap[gm]? = some (.cells #[.func (.func fm) #[] lbm] 91 (0, 0)))
  (bc : W1.heap[gc]? = some (.cells #[.func (.func 110) #[] #[.pointer (some ⟨gn, 0, none⟩), .pointer (some ⟨ge, 0, none⟩), .pointer (some ⟨gm, 0, none⟩), .pointer (some ⟨gc, 0, none⟩)]] 91 (0, 0)))
  (nn : ¬ Sx gn) (ne : ¬ Sx ge) (nm : ¬ Sx gm) (nc : ¬ Sx gc)
  (em : ∀ args w, (callFunc fm args).run Try.prog w = .ok (.enter fm args) w) (ee : ∀ args w, (callFunc fe args).run Try.prog w = .ok (.enter fe args) w)
  (hIk : ∀ W s, I W s → Kept W1 W Sx) (hIb : ∀ W W' s, I W s → Below W.heap.size W W' → I W' s)
  (hMay : ∀ (W : World) (s : σ) (A : Option Addr) (c : Nat) (o : List Int) (k : Int), I W s → Kd.C (Kd.int .i64) W A o.length o → o.length ≤ c → o.length < n →
   Calls Try.prog fm (#[.slice A o.length c, .int .i64 k] ++ lbm) W fun e w' => e = .returned (.bool (p o k)) ∧ Below W.heap.size W w')
  (hEach : ∀ (W : World) (s : σ) (A : Option Addr) (c : Nat) (o : List Int) (m : Nat), I W s → Kd.R (Kd.int .i64) 2 W lo (fun k => ¬ Sx k) (.slice A o.length c) o → o.length ≤ c → o.length = n → m ≤ n →
   Calls Try.prog fe (#[.slice A o.length c, .int .i64 (m : Int)] ++ lbe) W fun e w' => e = .returned (.bool true) ∧ Kept W w' Sx ∧ I w' (up o m s)) :
  ∀ (d : Nat) (W : World) (v : Value) (o : List Int) (m : Nat) (s : σ), o.length + d = n → m ≤ o.length → Kd.R (Kd.int .i64) 2 W lo (fun k => ¬ Sx k) v o → I W s →
   Calls Try.prog 110 #[v, .int .i64 (m : Int), .pointer (some ⟨gn, 0, none⟩), .pointer (some ⟨ge, 0, none⟩), .pointer (some ⟨gm, 0, none⟩), .pointer (some ⟨gc, 0, none⟩)] W fun e w' =>
    e = .returned (.bool true) ∧ Kept W w' Sx ∧ I w' (dfsG up p d o m s) := by
 intro d
 induction d with
 | zero =>
  intro W v o m s hd hm hR hI
  have hK := hIk W s hI
  have q1 : W.cell? ⟨gn, 0, none⟩ = some (.int .i64 (n : Int)) := (blk_cell (kept_blk hK bn nn) 0).trans rfl
  have q2 : W.cell? ⟨ge, 0, none⟩ = some (.func (.func fe) #[] lbe) := (blk_cell (kept_blk hK be ne) 0).trans rfl
  obtain ⟨A, c, rfl, hoc, hC⟩ := Kd.R_reads hR
  have e1 : ((o.length : Int) == (n : Int)) = true := by simp; omega
  have e2 : (o.length == n) = true := by simp; omega
  have HSC := Aside0.mk (hEach W s A c o m hI hR hoc (by omega) (by omega))
  clear hEach hMay hIk hIb hI hR hC hK bn be bm bc hd hm hn hlo hsx
  go_enter Try.func110, Try.ntmps110
  go_wp2_with (go_at_fn fe; refine HSC.out.mono ?_; rintro e w1 ⟨rfl, hk1, hi1⟩)
  go_ret
  exact ⟨rfl, hk1, hi1⟩
 | succ d ih =>
  intro W v o m s hd hm hR hI
  have hK := hIk W s hI
  have q1 : W.cell? ⟨gn, 0, none⟩ = some (.int .i64 (n : Int)) := (blk_cell (kept_blk hK bn nn) 0).trans rfl
  obtain ⟨A, c, rfl, hoc, _⟩ := Kd.R_reads hR
  have e1 : ((o.length : Int) == (n : Int)) = false := by simp; omega
  have e2 : (o.length == n) = false := by simp; omega
  have hm1 : (m : Int) ≤ 1000 := by omega
  have HI0 := Aside0.mk hI
  have HR := Aside0.mk hR
  have IH := Aside0.mk ih
  have HMAY := Aside0.mk hMay
  have HIk := Aside0.mk hIk
  have HIb := Aside0.mk hIb
  have HSX := Aside0.mk hsx
  have HLO' := Aside0.mk hlo
  have HD := Aside0.mk hd
  have HN := Aside0.mk hn
  have BM := Aside0.mk bm
  have BC := Aside0.mk bc
  have HOL := Aside0.mk (show o.length ≤ 1000 by omega)
  have HOLT := Aside0.mk (show o.length < n by omega)
  have HCL := Aside0.mk (show slices_Clone_int64.f o = some o from if_pos (by omega))
  have HMM := Aside0.mk hm
  clear hEach hMay hIk hIb hI hR hK ih bn be bm bc hsx hlo hd hn hm
  go_enter Try.func110, Try.ntmps110
  go_wp2
  go_loopg [9, 20] (m + 1) (fun gg _ v20 w' => ∃ kk : Nat, kk ≤ m + 1 ∧ m + 1 - kk ≤ gg ∧ v20 = .int .i64 (kk : Int) ∧ Aside0 (Kept W w' Sx) ∧ Aside0 (I w' ((List.range kk).foldl (stepG up p d o m) s)))
  case atStart => exact ⟨0, Nat.zero_le _, by omega, rfl, ⟨Kept.refl _ _⟩, HI0⟩
  case round =>
   obtain ⟨kk, hkk, hg, rfl, KP, HI⟩ := hrel
   by_cases hlt : kk < m + 1
   ·have hlti : (kk : Int) < (m : Int) + 1 := by omega
    have hRr := Kd.R_kept HR.out KP.out (fun k hk hS => hk hS)
    obtain ⟨A2, c2, ee_, _, hCr⟩ := Kd.R_reads hRr
    cases ee_
    have hK := HIk.out _ _ HI.out
    have q3 : wr.cell? ⟨gm, 0, none⟩ = some (.func (.func fm) #[] lbm) := (blk_cell (kept_blk hK BM.out nm) 0).trans rfl
    have q4 : wr.cell? ⟨gc, 0, none⟩ = some (.func (.func 110) #[] #[.pointer (some ⟨gn, 0, none⟩), .pointer (some ⟨ge, 0, none⟩), .pointer (some ⟨gm, 0, none⟩), .pointer (some ⟨gc, 0, none⟩)]) := (blk_cell (kept_blk hK BC.out nc) 0).trans rfl
    have HLO := Aside0.mk (show lo ≤ wr.heap.size from Nat.le_trans HLO'.out hK.1)
    have HSXr := Aside0.mk (show ∀ k, Sx k → k < wr.heap.size from fun k hk => Nat.lt_of_lt_of_le (HSX.out k hk) hK.1)
    have HF0 : (List.range (kk + 1)).foldl (stepG up p d o m) s = stepG up p d o m ((List.range kk).foldl (stepG up p d o m) s) kk := by rw [List.range_succ, List.foldl_append]; rfl
    have hmay := HMAY.out wr.drew _ A c o (kk : Int) (HIb.out _ _ _ HI.out (below_drew (Below.refl _ _))) (Kd.C_below hCr (below_drew (Below.refl _ _))) hoc HOLT.out
    have HCr := Aside0.mk hCr
    clear hRr hCr hK
    cases hp : p o (kk : Int) with
    | false =>
     rw [hp] at hmay
     have HF := Aside0.mk (HF0.trans (if_neg (by rw [hp]; decide)))
     have HMAYF := hmay
     clear HF0 hmay hp
     go_wp2
     refine wp_region_held_drew (S := (fun w' => w'.cell? ⟨gm, 0, none⟩ = some (.func (.func fm) #[] lbm) ∧ w'.cell? ⟨gc, 0, none⟩ = some (.func (.func 110) #[] #[.pointer (some ⟨gn, 0, none⟩), .pointer (some ⟨ge, 0, none⟩), .pointer (some ⟨gm, 0, none⟩), .pointer (some ⟨gc, 0, none⟩)]))) (by kernel_rfl) ⟨q3, q4⟩ (fun hHeld => ?_)
     refine wpAnyH_take (i := 0) (oi := { dst := some 23, op := Op.load 91 (Operand.tmp 4), type := 91, pos := "l01_loads.go:257", after := #[], guard := none }) (v := .func (.func fm) #[] lbm) rfl (by kernel_rfl) (by kernel_rfl) (by kernel_rfl) (fun _ _ _ h => h) (Or.inl ⟨by rfl, (by intro w hSw; (try dsimp only at hSw); obtain ⟨hS1, hS2⟩ := hSw; go_simp)⟩) (by assumption) ?_; (try simp only [Act.put, List.setIfInBounds_toArray, List.set_cons_zero, List.set_cons_succ])
     refine wpAnyH_take (i := 1) (oi := { dst := some 24, op := Op.move (Operand.tmp 0), type := 51, pos := "l01_loads.go:257", after := #[], guard := none }) (v := .slice A o.length c) rfl (by kernel_rfl) (by kernel_rfl) (by kernel_rfl) (fun _ _ _ h => h) (Or.inl ⟨by rfl, (by intro w hSw; (try dsimp only at hSw); obtain ⟨hS1, hS2⟩ := hSw; go_simp)⟩) (by assumption) ?_; (try simp only [Act.put, List.setIfInBounds_toArray, List.set_cons_zero, List.set_cons_succ])
     refine wpAnyH_take (i := 2) (oi := { dst := some 25, op := Op.move (Operand.tmp 9), type := 2, pos := "l01_loads.go:257", after := #[], guard := none }) (v := .int .i64 (kk : Int)) rfl (by kernel_rfl) (by kernel_rfl) (by kernel_rfl) (fun _ _ _ h => h) (Or.inl ⟨by rfl, (by intro w hSw; (try dsimp only at hSw); obtain ⟨hS1, hS2⟩ := hSw; go_simp)⟩) (by assumption) ?_; (try simp only [Act.put, List.setIfInBounds_toArray, List.set_cons_zero, List.set_cons_succ])
     refine wpAnyH_ready (rs := [3]) (by kernel_rfl) (by simp) ?_
     refine AllReadyH.cons (o := { dst := some 26, op := Op.call { callee := Callee.value (Operand.tmp 23), args := #[Operand.tmp 24, Operand.tmp 25], argTypes := #[51, 2] }, type := 4, pos := "l01_loads.go:257", after := #[{ on := 0, ground := Ground.data }, { on := 1, ground := Ground.data }, { on := 2, ground := Ground.data }], guard := none }) rfl (fun K hK => ?_) AllReadyH.nil
     go_simp
     go_at_fn fm
     refine HMAYF.mono ?_
     rintro e w1 ⟨rfl, hb1⟩
     go_simp
     refine hK.out _ _ ⟨pw_cell_below hb1 q3, pw_cell_below hb1 q4⟩ (fun hHeld => ?_)
     clear hK K
     (try simp only [Act.put, List.setIfInBounds_toArray, List.set_cons_zero, List.set_cons_succ])
     refine wpAnyH_take (i := 4) (oi := { dst := some 27, op := Op.move (Operand.tmp 26), type := 4, pos := "l01_loads.go:257", after := #[{ on := 3, ground := Ground.data }, { on := 3, ground := Ground.chain }], guard := none }) (v := .bool false) rfl (by kernel_rfl) (by kernel_rfl) (by kernel_rfl) (fun _ _ _ h => h) (Or.inl ⟨by rfl, (by intro w hSw; (try dsimp only at hSw); obtain ⟨hS1, hS2⟩ := hSw; go_simp)⟩) (by assumption) ?_; (try simp only [Act.put, List.setIfInBounds_toArray, List.set_cons_zero, List.set_cons_succ])
     refine wpAnyH_take (i := 5) (oi := { dst := some 28, op := Op.load 91 (Operand.tmp 5), type := 91, pos := "l01_loads.go:257", after := #[{ on := 4, ground := Ground.guard }], guard := some (4, true) }) (v := undef) rfl (by kernel_rfl) (by kernel_rfl) (by kernel_rfl) (fun _ _ _ h => h) (Or.inr ⟨by rfl, rfl⟩) (by assumption) ?_; (try simp only [Act.put, List.setIfInBounds_toArray, List.set_cons_zero, List.set_cons_succ])
     refine wpAnyH_take (i := 6) (oi := { dst := some 29, op := Op.move (Operand.tmp 0), type := 51, pos := "l01_loads.go:257", after := #[{ on := 4, ground := Ground.guard }], guard := some (4, true) }) (v := undef) rfl (by kernel_rfl) (by kernel_rfl) (by kernel_rfl) (fun _ _ _ h => h) (Or.inr ⟨by rfl, rfl⟩) (by assumption) ?_; (try simp only [Act.put, List.setIfInBounds_toArray, List.set_cons_zero, List.set_cons_succ])
     refine wpAnyH_take (i := 7) (oi := { dst := some 30, op := Op.call { callee := Callee.value (Operand.func 111), args := #[Operand.tmp 29], argTypes := #[51] }, type := 51, pos := "l01_loads.go:257", after := #[{ on := 6, ground := Ground.data }, { on := 4, ground := Ground.chain }, { on := 4, ground := Ground.guard }], guard := some (4, true) }) (v := undef) rfl (by kernel_rfl) (by kernel_rfl) (by kernel_rfl) (fun _ _ _ h => h) (Or.inr ⟨by rfl, rfl⟩) (by assumption) ?_; (try simp only [Act.put, List.setIfInBounds_toArray, List.set_cons_zero, List.set_cons_succ])
     refine wpAnyH_take (i := 8) (oi := { dst := some 31, op := Op.move (Operand.tmp 9), type := 2, pos := "l01_loads.go:257", after := #[{ on := 4, ground := Ground.guard }], guard := some (4, true) }) (v := undef) rfl (by kernel_rfl) (by kernel_rfl) (by kernel_rfl) (fun _ _ _ h => h) (Or.inr ⟨by rfl, rfl⟩) (by assumption) ?_; (try simp only [Act.put, List.setIfInBounds_toArray, List.set_cons_zero, List.set_cons_succ])
     refine wpAnyH_take (i := 9) (oi := { dst := some 32, op := Op.buildSlice 51 1 #[(0, Operand.tmp 31)], type := 51, pos := "l01_loads.go:257", after := #[{ on := 8, ground := Ground.data }, { on := 4, ground := Ground.guard }], guard := some (4, true) }) (v := undef) rfl (by kernel_rfl) (by kernel_rfl) (by kernel_rfl) (fun _ _ _ h => h) (Or.inr ⟨by rfl, rfl⟩) (by assumption) ?_; (try simp only [Act.put, List.setIfInBounds_toArray, List.set_cons_zero, List.set_cons_succ])
     refine wpAnyH_take (i := 10) (oi := { dst := some 33, op := Op.call { callee := Callee.builtin Builtin.append, args := #[Operand.tmp 30, Operand.tmp 32], argTypes := #[51, 51] }, type := 51, pos := "l01_loads.go:257", after := #[{ on := 7, ground := Ground.data }, { on := 9, ground := Ground.data }, { on := 7, ground := Ground.chain }, { on := 4, ground := Ground.guard }], guard := some (4, true) }) (v := undef) rfl (by kernel_rfl) (by kernel_rfl) (by kernel_rfl) (fun _ _ _ h => h) (Or.inr ⟨by rfl, rfl⟩) (by assumption) ?_; (try simp only [Act.put, List.setIfInBounds_toArray, List.set_cons_zero, List.set_cons_succ])
     refine wpAnyH_take (i := 11) (oi := { dst := some 34, op := Op.move (Operand.tmp 1), type := 2, pos := "l01_loads.go:257", after := #[{ on := 4, ground := Ground.guard }], guard := some (4, true) }) (v := undef) rfl (by kernel_rfl) (by kernel_rfl) (by kernel_rfl) (fun _ _ _ h => h) (Or.inr ⟨by rfl, rfl⟩) (by assumption) ?_; (try simp only [Act.put, List.setIfInBounds_toArray, List.set_cons_zero, List.set_cons_succ])
     refine wpAnyH_take (i := 12) (oi := { dst := some 35, op := Op.move (Operand.tmp 9), type := 2, pos := "l01_loads.go:257", after := #[{ on := 4, ground := Ground.guard }], guard := some (4, true) }) (v := undef) rfl (by kernel_rfl) (by kernel_rfl) (by kernel_rfl) (fun _ _ _ h => h) (Or.inr ⟨by rfl, rfl⟩) (by assumption) ?_; (try simp only [Act.put, List.setIfInBounds_toArray, List.set_cons_zero, List.set_cons_succ])
     refine wpAnyH_take (i := 13) (oi := { dst := some 36, op := Op.binOp BinOp.add 2 (Operand.tmp 35) (Operand.const (Value.int IntKind.i64 1)) 2, type := 2, pos := "l01_loads.go:257", after := #[{ on := 12, ground := Ground.data }, { on := 4, ground := Ground.guard }], guard := some (4, true) }) (v := undef) rfl (by kernel_rfl) (by kernel_rfl) (by kernel_rfl) (fun _ _ _ h => h) (Or.inr ⟨by rfl, rfl⟩) (by assumption) ?_; (try simp only [Act.put, List.setIfInBounds_toArray, List.set_cons_zero, List.set_cons_succ])
     refine wpAnyH_take (i := 14) (oi := { dst := some 37, op := Op.call { callee := Callee.builtin Builtin.max, args := #[Operand.tmp 34, Operand.tmp 36], argTypes := #[2, 2] }, type := 2, pos := "l01_loads.go:257", after := #[{ on := 11, ground := Ground.data }, { on := 13, ground := Ground.data }, { on := 4, ground := Ground.guard }], guard := some (4, true) }) (v := undef) rfl (by kernel_rfl) (by kernel_rfl) (by kernel_rfl) (fun _ _ _ h => h) (Or.inr ⟨by rfl, rfl⟩) (by assumption) ?_; (try simp only [Act.put, List.setIfInBounds_toArray, List.set_cons_zero, List.set_cons_succ])
     refine wpAnyH_take (i := 15) (oi := { dst := some 38, op := Op.call { callee := Callee.value (Operand.tmp 28), args := #[Operand.tmp 33, Operand.tmp 37], argTypes := #[51, 2] }, type := 4, pos := "l01_loads.go:257", after := #[{ on := 5, ground := Ground.data }, { on := 10, ground := Ground.data }, { on := 14, ground := Ground.data }, { on := 10, ground := Ground.chain }, { on := 4, ground := Ground.guard }], guard := some (4, true) }) (v := undef) rfl (by kernel_rfl) (by kernel_rfl) (by kernel_rfl) (fun _ _ _ h => h) (Or.inr ⟨by rfl, rfl⟩) (by assumption) ?_; (try simp only [Act.put, List.setIfInBounds_toArray, List.set_cons_zero, List.set_cons_succ])
     refine wpAnyH_take (i := 16) (oi := { dst := some 39, op := Op.unOp UnOp.not 4 (Operand.tmp 38), type := 4, pos := "l01_loads.go:257", after := #[{ on := 15, ground := Ground.data }, { on := 4, ground := Ground.guard }], guard := some (4, true) }) (v := undef) rfl (by kernel_rfl) (by kernel_rfl) (by kernel_rfl) (fun _ _ _ h => h) (Or.inr ⟨by rfl, rfl⟩) (by assumption) ?_; (try simp only [Act.put, List.setIfInBounds_toArray, List.set_cons_zero, List.set_cons_succ])
     refine wpAnyH_take (i := 17) (oi := { dst := some 40, op := Op.pick (Operand.tmp 27) (Operand.tmp 39) (Operand.const (Value.bool false)), type := 4, pos := "l01_loads.go:257", after := #[{ on := 4, ground := Ground.data }, { on := 16, ground := Ground.data }], guard := none }) (v := .bool false) rfl (by kernel_rfl) (by kernel_rfl) (by kernel_rfl) (fun _ _ _ h => h) (Or.inl ⟨by rfl, (by intro w hSw; (try dsimp only at hSw); obtain ⟨hS1, hS2⟩ := hSw; go_simp)⟩) (by assumption) ?_; (try simp only [Act.put, List.setIfInBounds_toArray, List.set_cons_zero, List.set_cons_succ])
     refine wpAnyH_done (by kernel_rfl) ?_ _
     go_wp2
     go_roundg (m + 1 - (kk + 1))
     case measure => omega
     case rel => exact ⟨kk + 1, by omega, by omega, by go_num, ⟨KP.out.below (below_step (below_drew (Below.refl _ _)) hb1)⟩, ⟨by rw [HF.out]; exact HIb.out _ _ _ HI.out (below_step (below_drew (Below.refl _ _)) hb1)⟩⟩
    | true =>
     rw [hp] at hmay
     have HF := Aside0.mk (HF0.trans (if_pos hp))
     have HMAYT := Aside0.mk hmay
     have HMX := Aside0.mk (show (if (m : Int) < IntKind.i64.wrap ((kk : Int) + 1) then IntKind.i64.wrap ((kk : Int) + 1) else (m : Int)) = ((max m (kk + 1) : Nat) : Int) from by rw [IntWalk.i64_in _ (by omega)]; split <;> omega)
     clear HF0 hmay hp
     go_wp2
     refine wp_region_held_drew (S := (fun w' => w'.cell? ⟨gm, 0, none⟩ = some (.func (.func fm) #[] lbm) ∧ w'.cell? ⟨gc, 0, none⟩ = some (.func (.func 110) #[] #[.pointer (some ⟨gn, 0, none⟩), .pointer (some ⟨ge, 0, none⟩), .pointer (some ⟨gm, 0, none⟩), .pointer (some ⟨gc, 0, none⟩)]))) (by kernel_rfl) ⟨q3, q4⟩ (fun hHeld => ?_)
     refine wpAnyH_take (i := 0) (oi := { dst := some 23, op := Op.load 91 (Operand.tmp 4), type := 91, pos := "l01_loads.go:257", after := #[], guard := none }) (v := .func (.func fm) #[] lbm) rfl (by kernel_rfl) (by kernel_rfl) (by kernel_rfl) (fun _ _ _ h => h) (Or.inl ⟨by rfl, (by intro w hSw; (try dsimp only at hSw); obtain ⟨hS1, hS2⟩ := hSw; go_simp)⟩) (by assumption) ?_; (try simp only [Act.put, List.setIfInBounds_toArray, List.set_cons_zero, List.set_cons_succ])
     refine wpAnyH_take (i := 1) (oi := { dst := some 24, op := Op.move (Operand.tmp 0), type := 51, pos := "l01_loads.go:257", after := #[], guard := none }) (v := .slice A o.length c) rfl (by kernel_rfl) (by kernel_rfl) (by kernel_rfl) (fun _ _ _ h => h) (Or.inl ⟨by rfl, (by intro w hSw; (try dsimp only at hSw); obtain ⟨hS1, hS2⟩ := hSw; go_simp)⟩) (by assumption) ?_; (try simp only [Act.put, List.setIfInBounds_toArray, List.set_cons_zero, List.set_cons_succ])
     refine wpAnyH_take (i := 2) (oi := { dst := some 25, op := Op.move (Operand.tmp 9), type := 2, pos := "l01_loads.go:257", after := #[], guard := none }) (v := .int .i64 (kk : Int)) rfl (by kernel_rfl) (by kernel_rfl) (by kernel_rfl) (fun _ _ _ h => h) (Or.inl ⟨by rfl, (by intro w hSw; (try dsimp only at hSw); obtain ⟨hS1, hS2⟩ := hSw; go_simp)⟩) (by assumption) ?_; (try simp only [Act.put, List.setIfInBounds_toArray, List.set_cons_zero, List.set_cons_succ])
     refine wpAnyH_ready (rs := [3]) (by kernel_rfl) (by simp) ?_
     refine AllReadyH.cons (o := { dst := some 26, op := Op.call { callee := Callee.value (Operand.tmp 23), args := #[Operand.tmp 24, Operand.tmp 25], argTypes := #[51, 2] }, type := 4, pos := "l01_loads.go:257", after := #[{ on := 0, ground := Ground.data }, { on := 1, ground := Ground.data }, { on := 2, ground := Ground.data }], guard := none }) rfl (fun K hK => ?_) AllReadyH.nil
     go_simp
     go_at_fn fm
     refine HMAYT.out.mono ?_
     rintro e w1 ⟨rfl, hb1⟩
     go_simp
     refine hK.out _ _ ⟨pw_cell_below hb1 q3, pw_cell_below hb1 q4⟩ (fun hHeld => ?_)
     clear hK K
     (try simp only [Act.put, List.setIfInBounds_toArray, List.set_cons_zero, List.set_cons_succ])
     refine wpAnyH_take (i := 4) (oi := { dst := some 27, op := Op.move (Operand.tmp 26), type := 4, pos := "l01_loads.go:257", after := #[{ on := 3, ground := Ground.data }, { on := 3, ground := Ground.chain }], guard := none }) (v := .bool true) rfl (by kernel_rfl) (by kernel_rfl) (by kernel_rfl) (fun _ _ _ h => h) (Or.inl ⟨by rfl, (by intro w hSw; (try dsimp only at hSw); obtain ⟨hS1, hS2⟩ := hSw; go_simp)⟩) (by assumption) ?_; (try simp only [Act.put, List.setIfInBounds_toArray, List.set_cons_zero, List.set_cons_succ])
     refine wpAnyH_take (i := 5) (oi := { dst := some 28, op := Op.load 91 (Operand.tmp 5), type := 91, pos := "l01_loads.go:257", after := #[{ on := 4, ground := Ground.guard }], guard := some (4, true) }) (v := .func (.func 110) #[] #[.pointer (some ⟨gn, 0, none⟩), .pointer (some ⟨ge, 0, none⟩), .pointer (some ⟨gm, 0, none⟩), .pointer (some ⟨gc, 0, none⟩)]) rfl (by kernel_rfl) (by kernel_rfl) (by kernel_rfl) (fun _ _ _ h => h) (Or.inl ⟨by rfl, (by intro w hSw; (try dsimp only at hSw); obtain ⟨hS1, hS2⟩ := hSw; go_simp)⟩) (by assumption) ?_; (try simp only [Act.put, List.setIfInBounds_toArray, List.set_cons_zero, List.set_cons_succ])
     refine wpAnyH_take (i := 6) (oi := { dst := some 29, op := Op.move (Operand.tmp 0), type := 51, pos := "l01_loads.go:257", after := #[{ on := 4, ground := Ground.guard }], guard := some (4, true) }) (v := .slice A o.length c) rfl (by kernel_rfl) (by kernel_rfl) (by kernel_rfl) (fun _ _ _ h => h) (Or.inl ⟨by rfl, (by intro w hSw; (try dsimp only at hSw); obtain ⟨hS1, hS2⟩ := hSw; go_simp)⟩) (by assumption) ?_; (try simp only [Act.put, List.setIfInBounds_toArray, List.set_cons_zero, List.set_cons_succ])
     refine wpAnyH_take (i := 8) (oi := { dst := some 31, op := Op.move (Operand.tmp 9), type := 2, pos := "l01_loads.go:257", after := #[{ on := 4, ground := Ground.guard }], guard := some (4, true) }) (v := .int .i64 (kk : Int)) rfl (by kernel_rfl) (by kernel_rfl) (by kernel_rfl) (fun _ _ _ h => h) (Or.inl ⟨by rfl, (by intro w hSw; (try dsimp only at hSw); obtain ⟨hS1, hS2⟩ := hSw; go_simp)⟩) (by assumption) ?_; (try simp only [Act.put, List.setIfInBounds_toArray, List.set_cons_zero, List.set_cons_succ])
     refine wpAnyH_take (i := 11) (oi := { dst := some 34, op := Op.move (Operand.tmp 1), type := 2, pos := "l01_loads.go:257", after := #[{ on := 4, ground := Ground.guard }], guard := some (4, true) }) (v := .int .i64 (m : Int)) rfl (by kernel_rfl) (by kernel_rfl) (by kernel_rfl) (fun _ _ _ h => h) (Or.inl ⟨by rfl, (by intro w hSw; (try dsimp only at hSw); obtain ⟨hS1, hS2⟩ := hSw; go_simp)⟩) (by assumption) ?_; (try simp only [Act.put, List.setIfInBounds_toArray, List.set_cons_zero, List.set_cons_succ])
     refine wpAnyH_take (i := 12) (oi := { dst := some 35, op := Op.move (Operand.tmp 9), type := 2, pos := "l01_loads.go:257", after := #[{ on := 4, ground := Ground.guard }], guard := some (4, true) }) (v := .int .i64 (kk : Int)) rfl (by kernel_rfl) (by kernel_rfl) (by kernel_rfl) (fun _ _ _ h => h) (Or.inl ⟨by rfl, (by intro w hSw; (try dsimp only at hSw); obtain ⟨hS1, hS2⟩ := hSw; go_simp)⟩) (by assumption) ?_; (try simp only [Act.put, List.setIfInBounds_toArray, List.set_cons_zero, List.set_cons_succ])
     refine wpAnyH_take (i := 13) (oi := { dst := some 36, op := Op.binOp BinOp.add 2 (Operand.tmp 35) (Operand.const (Value.int IntKind.i64 1)) 2, type := 2, pos := "l01_loads.go:257", after := #[{ on := 12, ground := Ground.data }, { on := 4, ground := Ground.guard }], guard := some (4, true) }) (v := .int .i64 (IntKind.i64.wrap ((kk : Int) + 1))) rfl (by kernel_rfl) (by kernel_rfl) (by kernel_rfl) (fun _ _ _ h => h) (Or.inl ⟨by rfl, (by intro w hSw; (try dsimp only at hSw); obtain ⟨hS1, hS2⟩ := hSw; go_simp)⟩) (by assumption) ?_; (try simp only [Act.put, List.setIfInBounds_toArray, List.set_cons_zero, List.set_cons_succ])
     refine wpAnyH_take (i := 14) (oi := { dst := some 37, op := Op.call { callee := Callee.builtin Builtin.max, args := #[Operand.tmp 34, Operand.tmp 36], argTypes := #[2, 2] }, type := 2, pos := "l01_loads.go:257", after := #[{ on := 11, ground := Ground.data }, { on := 13, ground := Ground.data }, { on := 4, ground := Ground.guard }], guard := some (4, true) }) (v := .int .i64 ((max m (kk + 1) : Nat) : Int)) rfl (by kernel_rfl) (by kernel_rfl) (by kernel_rfl) (fun _ _ _ h => h) (Or.inl ⟨by rfl, (by intro w hSw; (try dsimp only at hSw); obtain ⟨hS1, hS2⟩ := hSw; go_simp; first | rw [HMX.out] | rw [← HMX.out] | done)⟩) (by assumption) ?_; (try simp only [Act.put, List.setIfInBounds_toArray, List.set_cons_zero, List.set_cons_succ])
     refine wpAnyH_ready (rs := [7, 9]) (by kernel_rfl) (by simp) ?_
     refine AllReadyH.cons (o := { dst := some 30, op := Op.call { callee := Callee.value (Operand.func 111), args := #[Operand.tmp 29], argTypes := #[51] }, type := 51, pos := "l01_loads.go:257", after := #[{ on := 6, ground := Ground.data }, { on := 4, ground := Ground.chain }, { on := 4, ground := Ground.guard }], guard := some (4, true) }) rfl (fun K hK => ?_) (AllReadyH.cons (o := { dst := some 32, op := Op.buildSlice 51 1 #[(0, Operand.tmp 31)], type := 51, pos := "l01_loads.go:257", after := #[{ on := 8, ground := Ground.data }, { on := 4, ground := Ground.guard }], guard := some (4, true) }) rfl (fun K hK => ?_) AllReadyH.nil)
     ·go_simp
      go_at_call 111
      refine (slices_Clone_int64.calls A c o o _ (Kd.C_below HCr.out (by repeat (first | exact Below.refl _ _ | apply below_alloc | apply pw_below_drewN | apply below_drew | refine below_step ?_ hb1 | refine below_step ?_ hb2))) hoc HCL.out).mono ?_; rintro e w2 ⟨v2, rfl, ho2, hb2⟩
      go_simp
      refine hK.out _ _ ⟨pw_cell_below hb2 (pw_cell_below hb1 q3), pw_cell_below hb2 (pw_cell_below hb1 q4)⟩ (fun hHeld => ?_)
      clear hK K
      (try simp only [Act.put, List.setIfInBounds_toArray, List.set_cons_zero, List.set_cons_succ])
      refine wpAnyH_ready (rs := [9]) (by kernel_rfl) (by simp) ?_
      refine AllReadyH.cons (o := { dst := some 32, op := Op.buildSlice 51 1 #[(0, Operand.tmp 31)], type := 51, pos := "l01_loads.go:257", after := #[{ on := 8, ground := Ground.data }, { on := 4, ground := Ground.guard }], guard := some (4, true) }) rfl (fun K hK => ?_) AllReadyH.nil
      go_simp
      refine hK.out _ _ ⟨pw_cell_below (below_alloc (Below.refl _ _) _) (pw_cell_below hb2 (pw_cell_below hb1 q3)), pw_cell_below (below_alloc (Below.refl _ _) _) (pw_cell_below hb2 (pw_cell_below hb1 q4))⟩ (fun hHeld => ?_)
      clear hK K
      (try simp only [Act.put, List.setIfInBounds_toArray, List.set_cons_zero, List.set_cons_succ])
      refine wpAnyH_ready (rs := [10]) (by kernel_rfl) (by simp) ?_
      refine AllReadyH.cons (o := { dst := some 33, op := Op.call { callee := Callee.builtin Builtin.append, args := #[Operand.tmp 30, Operand.tmp 32], argTypes := #[51, 51] }, type := 51, pos := "l01_loads.go:257", after := #[{ on := 7, ground := Ground.data }, { on := 9, ground := Ground.data }, { on := 7, ground := Ground.chain }, { on := 4, ground := Ground.guard }], guard := some (4, true) }) rfl (fun K hK => ?_) AllReadyH.nil
      have HB_ : Below wr.heap.size wr (w2.alloc (.cells #[.int .i64 (kk : Int)] 2)) := (by repeat (first | exact Below.refl _ _ | apply below_alloc | apply pw_below_drewN | apply below_drew | refine below_step ?_ hb1 | refine below_step ?_ hb2)); have HO_ : Kd.R (Kd.int .i64) 2 (w2.alloc (.cells #[.int .i64 (kk : Int)] 2)) wr.heap.size (fun _ => True) v2 o := (Kd.R_lower (Kd.R_below ho2 (below_alloc (Below.refl _ _) _)) (below_size (by repeat (first | exact Below.refl _ _ | apply below_alloc | apply pw_below_drewN | apply below_drew | refine below_step ?_ hb1)))); have HR_ : Kd.C (Kd.int .i64) (w2.alloc (.cells #[.int .i64 (kk : Int)] 2)) _ [(kk : Int)].length [(kk : Int)] := C_new1 w2 kk; refine Kd.R_append_rows_step (Kd.int .i64) (w0 := wr) wr.heap.size ?hw (.tmp 30) (.tmp 32) 51 2 (.int .i64 0) 8 rfl Try.underlying51 info2 rfl (by decide) (by omega) v2 o [(kk : Int)] _ _ _ (fun _ => True) (fun _ => False) rfl rfl HO_ HR_ (fun _ _ h => h) (fun _ h => h.elim) (fun _ _ => trivial) HB_ HB_.size (by have := HOL.out; simp; omega) ?_; (case hw => first | rfl | kernel_rfl | decide); clear HO_ HR_ HB_; intro v3 w3 ho3 hb3 _ _
      refine hK.out _ _ ⟨pw_cell_below hb3 q3, pw_cell_below hb3 q4⟩ (fun hHeld => ?_)
      clear hK K
      (try simp only [Act.put, List.setIfInBounds_toArray, List.set_cons_zero, List.set_cons_succ])
      refine wpAnyH_ready (rs := [15]) (by kernel_rfl) (by simp) ?_
      refine AllReadyH.cons (o := { dst := some 38, op := Op.call { callee := Callee.value (Operand.tmp 28), args := #[Operand.tmp 33, Operand.tmp 37], argTypes := #[51, 2] }, type := 4, pos := "l01_loads.go:257", after := #[{ on := 5, ground := Ground.data }, { on := 10, ground := Ground.data }, { on := 14, ground := Ground.data }, { on := 10, ground := Ground.chain }, { on := 4, ground := Ground.guard }], guard := some (4, true) }) rfl (fun K hK => ?_) AllReadyH.nil
      go_simp
      go_at_call 110
      refine (IH.out w3 v3 (o ++ [(kk : Int)]) (max m (kk + 1)) _ (by have := HD.out; simp; omega) (by have := HMM.out; simp; omega) (Kd.R_lower (Kd.R_mono (Kd.R_bound ho3) (fun k hk hx => by have := hk.2.1; have := HSXr.out k hx; omega)) HLO.out) (HIb.out _ _ _ HI.out hb3)).mono ?_
      rintro e w4 ⟨rfl, hk4, hi4⟩
      go_simp
      refine hK.out _ _ ⟨(blk_cell (kept_blk (HIk.out _ _ hi4) BM.out nm) 0).trans rfl, (blk_cell (kept_blk (HIk.out _ _ hi4) BC.out nc) 0).trans rfl⟩ (fun hHeld => ?_)
      clear hK K
      (try simp only [Act.put, List.setIfInBounds_toArray, List.set_cons_zero, List.set_cons_succ])
      refine wpAnyH_take (i := 16) (oi := { dst := some 39, op := Op.unOp UnOp.not 4 (Operand.tmp 38), type := 4, pos := "l01_loads.go:257", after := #[{ on := 15, ground := Ground.data }, { on := 4, ground := Ground.guard }], guard := some (4, true) }) (v := .bool false) rfl (by kernel_rfl) (by kernel_rfl) (by kernel_rfl) (fun _ _ _ h => h) (Or.inl ⟨by rfl, (by intro w hSw; (try dsimp only at hSw); obtain ⟨hS1, hS2⟩ := hSw; go_simp)⟩) (by assumption) ?_; (try simp only [Act.put, List.setIfInBounds_toArray, List.set_cons_zero, List.set_cons_succ])
      refine wpAnyH_take (i := 17) (oi := { dst := some 40, op := Op.pick (Operand.tmp 27) (Operand.tmp 39) (Operand.const (Value.bool false)), type := 4, pos := "l01_loads.go:257", after := #[{ on := 4, ground := Ground.data }, { on := 16, ground := Ground.data }], guard := none }) (v := .bool false) rfl (by kernel_rfl) (by kernel_rfl) (by kernel_rfl) (fun _ _ _ h => h) (Or.inl ⟨by rfl, (by intro w hSw; (try dsimp only at hSw); obtain ⟨hS1, hS2⟩ := hSw; go_simp)⟩) (by assumption) ?_; (try simp only [Act.put, List.setIfInBounds_toArray, List.set_cons_zero, List.set_cons_succ])
      refine wpAnyH_done (by kernel_rfl) ?_ _
      go_wp2
      go_roundg (m + 1 - (kk + 1))
      case measure => omega
      case rel => exact ⟨kk + 1, by omega, by omega, by go_num, ⟨(KP.out.below hb3).then_ hk4 (fun _ h => .inl h)⟩, ⟨by rw [HF.out]; exact hi4⟩⟩
     ·go_simp
      refine hK.out _ _ ⟨pw_cell_below (below_alloc (Below.refl _ _) _) (pw_cell_below hb1 q3), pw_cell_below (below_alloc (Below.refl _ _) _) (pw_cell_below hb1 q4)⟩ (fun hHeld => ?_)
      clear hK K
      (try simp only [Act.put, List.setIfInBounds_toArray, List.set_cons_zero, List.set_cons_succ])
      refine wpAnyH_ready (rs := [7]) (by kernel_rfl) (by simp) ?_
      refine AllReadyH.cons (o := { dst := some 30, op := Op.call { callee := Callee.value (Operand.func 111), args := #[Operand.tmp 29], argTypes := #[51] }, type := 51, pos := "l01_loads.go:257", after := #[{ on := 6, ground := Ground.data }, { on := 4, ground := Ground.chain }, { on := 4, ground := Ground.guard }], guard := some (4, true) }) rfl (fun K hK => ?_) AllReadyH.nil
      go_simp
      go_at_call 111
      refine (slices_Clone_int64.calls A c o o _ (Kd.C_below HCr.out (by repeat (first | exact Below.refl _ _ | apply below_alloc | apply pw_below_drewN | apply below_drew | refine below_step ?_ hb1 | refine below_step ?_ hb2))) hoc HCL.out).mono ?_; rintro e w2 ⟨v2, rfl, ho2, hb2⟩
      go_simp
      refine hK.out _ _ ⟨pw_cell_below hb2 (pw_cell_below (below_alloc (Below.refl _ _) _) (pw_cell_below hb1 q3)), pw_cell_below hb2 (pw_cell_below (below_alloc (Below.refl _ _) _) (pw_cell_below hb1 q4))⟩ (fun hHeld => ?_)
      clear hK K
      (try simp only [Act.put, List.setIfInBounds_toArray, List.set_cons_zero, List.set_cons_succ])
      refine wpAnyH_ready (rs := [10]) (by kernel_rfl) (by simp) ?_
      refine AllReadyH.cons (o := { dst := some 33, op := Op.call { callee := Callee.builtin Builtin.append, args := #[Operand.tmp 30, Operand.tmp 32], argTypes := #[51, 51] }, type := 51, pos := "l01_loads.go:257", after := #[{ on := 7, ground := Ground.data }, { on := 9, ground := Ground.data }, { on := 7, ground := Ground.chain }, { on := 4, ground := Ground.guard }], guard := some (4, true) }) rfl (fun K hK => ?_) AllReadyH.nil
      have HB_ : Below wr.heap.size wr (w2) := (by repeat (first | exact Below.refl _ _ | apply below_alloc | apply pw_below_drewN | apply below_drew | refine below_step ?_ hb1 | refine below_step ?_ hb2)); have HO_ : Kd.R (Kd.int .i64) 2 (w2) wr.heap.size (fun _ => True) v2 o := (Kd.R_lower ho2 (below_size (by repeat (first | exact Below.refl _ _ | apply below_alloc | apply pw_below_drewN | apply below_drew | refine below_step ?_ hb1)))); have HR_ : Kd.C (Kd.int .i64) (w2) _ [(kk : Int)].length [(kk : Int)] := (Kd.C_below (C_new1 _ kk) hb2); refine Kd.R_append_rows_step (Kd.int .i64) (w0 := wr) wr.heap.size ?hw (.tmp 30) (.tmp 32) 51 2 (.int .i64 0) 8 rfl Try.underlying51 info2 rfl (by decide) (by omega) v2 o [(kk : Int)] _ _ _ (fun _ => True) (fun _ => False) rfl rfl HO_ HR_ (fun _ _ h => h) (fun _ h => h.elim) (fun _ _ => trivial) HB_ HB_.size (by have := HOL.out; simp; omega) ?_; (case hw => first | rfl | kernel_rfl | decide); clear HO_ HR_ HB_; intro v3 w3 ho3 hb3 _ _
      refine hK.out _ _ ⟨pw_cell_below hb3 q3, pw_cell_below hb3 q4⟩ (fun hHeld => ?_)
      clear hK K
      (try simp only [Act.put, List.setIfInBounds_toArray, List.set_cons_zero, List.set_cons_succ])
      refine wpAnyH_ready (rs := [15]) (by kernel_rfl) (by simp) ?_
      refine AllReadyH.cons (o := { dst := some 38, op := Op.call { callee := Callee.value (Operand.tmp 28), args := #[Operand.tmp 33, Operand.tmp 37], argTypes := #[51, 2] }, type := 4, pos := "l01_loads.go:257", after := #[{ on := 5, ground := Ground.data }, { on := 10, ground := Ground.data }, { on := 14, ground := Ground.data }, { on := 10, ground := Ground.chain }, { on := 4, ground := Ground.guard }], guard := some (4, true) }) rfl (fun K hK => ?_) AllReadyH.nil
      go_simp
      go_at_call 110
      refine (IH.out w3 v3 (o ++ [(kk : Int)]) (max m (kk + 1)) _ (by have := HD.out; simp; omega) (by have := HMM.out; simp; omega) (Kd.R_lower (Kd.R_mono (Kd.R_bound ho3) (fun k hk hx => by have := hk.2.1; have := HSXr.out k hx; omega)) HLO.out) (HIb.out _ _ _ HI.out hb3)).mono ?_
      rintro e w4 ⟨rfl, hk4, hi4⟩
      go_simp
      refine hK.out _ _ ⟨(blk_cell (kept_blk (HIk.out _ _ hi4) BM.out nm) 0).trans rfl, (blk_cell (kept_blk (HIk.out _ _ hi4) BC.out nc) 0).trans rfl⟩ (fun hHeld => ?_)
      clear hK K
      (try simp only [Act.put, List.setIfInBounds_toArray, List.set_cons_zero, List.set_cons_succ])
      refine wpAnyH_take (i := 16) (oi := { dst := some 39, op := Op.unOp UnOp.not 4 (Operand.tmp 38), type := 4, pos := "l01_loads.go:257", after := #[{ on := 15, ground := Ground.data }, { on := 4, ground := Ground.guard }], guard := some (4, true) }) (v := .bool false) rfl (by kernel_rfl) (by kernel_rfl) (by kernel_rfl) (fun _ _ _ h => h) (Or.inl ⟨by rfl, (by intro w hSw; (try dsimp only at hSw); obtain ⟨hS1, hS2⟩ := hSw; go_simp)⟩) (by assumption) ?_; (try simp only [Act.put, List.setIfInBounds_toArray, List.set_cons_zero, List.set_cons_succ])
      refine wpAnyH_take (i := 17) (oi := { dst := some 40, op := Op.pick (Operand.tmp 27) (Operand.tmp 39) (Operand.const (Value.bool false)), type := 4, pos := "l01_loads.go:257", after := #[{ on := 4, ground := Ground.data }, { on := 16, ground := Ground.data }], guard := none }) (v := .bool false) rfl (by kernel_rfl) (by kernel_rfl) (by kernel_rfl) (fun _ _ _ h => h) (Or.inl ⟨by rfl, (by intro w hSw; (try dsimp only at hSw); obtain ⟨hS1, hS2⟩ := hSw; go_simp)⟩) (by assumption) ?_; (try simp only [Act.put, List.setIfInBounds_toArray, List.set_cons_zero, List.set_cons_succ])
      refine wpAnyH_done (by kernel_rfl) ?_ _
      go_wp2
      go_roundg (m + 1 - (kk + 1))
      case measure => omega
      case rel => exact ⟨kk + 1, by omega, by omega, by go_num, ⟨(KP.out.below hb3).then_ hk4 (fun _ h => .inl h)⟩, ⟨by rw [HF.out]; exact hi4⟩⟩
   ·have hlti : ¬ (kk : Int) < (m : Int) + 1 := by omega
    go_wp2
    go_ret
    obtain rfl : kk = m + 1 := by omega
    exact ⟨rfl, KP.out, HI.out⟩
set_option maxHeartbeats 4000000 in
set_option maxRecDepth 100000 in
theorem grouped_calls {σ : Type} (W : World) (lo n : Nat) (Sx : Nat → Prop) (fm fe : Nat) (lbm lbe : Array Value) (up : List Int → Nat → σ → σ) (p : List Int → Int → Bool) (I : World → σ → Prop) (s : σ) (hn : n ≤ 1000) (hlo : lo ≤ W.heap.size) (hsx : ∀ k, Sx k → k < W.heap.size)
  (em : ∀ args w, (callFunc fm args).run Try.prog w = .ok (.enter fm args) w) (ee : ∀ args w, (callFunc fe args).run Try.prog w = .ok (.enter fe args) w)
  (hI : I W s) (hIb : ∀ W W' s, I W s → Below W.heap.size W W' → I W' s)
  (hMay : ∀ (W : World) (s : σ) (A : Option Addr) (c : Nat) (o : List Int) (k : Int), I W s → Kd.C (Kd.int .i64) W A o.length o → o.length ≤ c → o.length < n →
   Calls Try.prog fm (#[.slice A o.length c, .int .i64 k] ++ lbm) W fun e w' => e = .returned (.bool (p o k)) ∧ Below W.heap.size W w')
  (hEach : ∀ (W : World) (s : σ) (A : Option Addr) (c : Nat) (o : List Int) (m : Nat), I W s → Kd.R (Kd.int .i64) 2 W lo (fun k => ¬ Sx k) (.slice A o.length c) o → o.length ≤ c → o.length = n → m ≤ n →
   Calls Try.prog fe (#[.slice A o.length c, .int .i64 (m : Int)] ++ lbe) W fun e w' => e = .returned (.bool true) ∧ Kept W w' Sx ∧ I w' (up o m s)) :
  Calls Try.prog 105 #[.int .i64 (n : Int), .func (.func fm) #[] lbm, .func (.func fe) #[] lbe] W fun e w' => e = .returned (.tuple #[]) ∧ I w' (dfsG up p n [] 0 s) := by
 have n0 : ∀ (w : World) (o : Obj) (k : Nat), w.heap.size = k → (w.alloc o).heap.size = k + 1 := fun w o k h => by rw [← h]; simp
 have nw : ∀ (w : World) (o : Obj) (k : Nat), w.heap.size = k → (w.alloc o).heap[k]? = some o := fun w o k h => h ▸ blk_new w o
 obtain ⟨W5, hW5⟩ : ∃ W5, W5 = ((((W.alloc (.cells #[.int .i64 (n : Int)] 3)).alloc (.cells #[.func (.func fm) #[] lbm] 91)).alloc (.cells #[.func (.func fe) #[] lbe] 91)).alloc (.cells #[.func (.func 110) #[] #[.pointer (some ⟨W.heap.size, 0, none⟩), .pointer (some ⟨W.heap.size + 1 + 1, 0, none⟩), .pointer (some ⟨W.heap.size + 1, 0, none⟩), .pointer (some ⟨W.heap.size + 1 + 1 + 1, 0, none⟩)]] 91)) := ⟨_, rfl⟩
 have h1 : W5.heap[W.heap.size]? = some (.cells #[.int .i64 (n : Int)] 3 (0, 0)) := by rw [hW5]; exact blk_alloc (blk_alloc (blk_alloc (nw _ _ _ rfl) _) _) _
 have h2 : W5.heap[W.heap.size + 1]? = some (.cells #[.func (.func fm) #[] lbm] 91 (0, 0)) := by rw [hW5]; exact blk_alloc (blk_alloc (nw _ _ _ (n0 _ _ _ rfl)) _) _
 have h3 : W5.heap[W.heap.size + 1 + 1]? = some (.cells #[.func (.func fe) #[] lbe] 91 (0, 0)) := by rw [hW5]; exact blk_alloc (nw _ _ _ (n0 _ _ _ (n0 _ _ _ rfl))) _
 have h4 : W5.heap[W.heap.size + 1 + 1 + 1]? = some (.cells #[.func (.func 110) #[] #[.pointer (some ⟨W.heap.size, 0, none⟩), .pointer (some ⟨W.heap.size + 1 + 1, 0, none⟩), .pointer (some ⟨W.heap.size + 1, 0, none⟩), .pointer (some ⟨W.heap.size + 1 + 1 + 1, 0, none⟩)]] 91 (0, 0)) := by rw [hW5]; exact nw _ _ _ (n0 _ _ _ (n0 _ _ _ (n0 _ _ _ rfl)))
 have hb : Below W.heap.size W W5 := by rw [hW5]; exact below_alloc (below_alloc (below_alloc (below_alloc (Below.refl _ _) _) _) _) _
 have CH := Aside0.mk (choose_calls W5 lo n W.heap.size (W.heap.size + 1 + 1) (W.heap.size + 1) (W.heap.size + 1 + 1 + 1) Sx fm fe lbm lbe up p (fun W' s' => I W' s' ∧ Kept W5 W' Sx) hn (Nat.le_trans hlo hb.size) (fun k hk => Nat.lt_of_lt_of_le (hsx k hk) hb.size)
  h1 h3 h2 h4 (fun h => by have := hsx _ h; omega) (fun h => by have := hsx _ h; omega) (fun h => by have := hsx _ h; omega) (fun h => by have := hsx _ h; omega) em ee (fun W' s' h => h.2) (fun W' W2 s' h hb' => ⟨hIb _ _ _ h.1 hb', h.2.below hb'⟩)
  (fun W' s' A c o k h => hMay W' s' A c o k h.1) (fun W' s' A c o m h hR hoc hon hmn => (hEach W' s' A c o m h.1 hR hoc hon hmn).mono (fun e w' h' => ⟨h'.1, h'.2.1, h'.2.2, h.2.then_ h'.2.1 (fun _ h => .inl h)⟩))
  n W5 (.slice none 0 0) [] 0 s (by simp) (Nat.le_refl _) (Kd.R_nil _ _ _ _ _) ⟨hIb _ _ _ hI hb, Kept.refl _ _⟩)
 rw [hW5] at CH
 clear h1 h2 h3 h4 hb hW5 n0 nw hMay hEach hIb hI hsx hlo hn em ee
 go_enter Try.func105, Try.ntmps105
 go_wp2_with (go_at_call 110; refine CH.out.mono ?_; rintro e w1 ⟨rfl, hk, hi⟩)
 go_end0
 exact ⟨rfl, hi.1⟩

/-! ### impl_Rules_bestLoads: function 84 (told by hand) -/
def upL (sc : List Int → Nat → Int) (o : List Int) (m : Nat) (s : List Int × Int) : List Int × Int := if s.2 < 0 ∨ sc o m < s.2 then (o, sc o m) else s
def bestL (sc : List Int → Nat → Int) (p : List Int → Int → Bool) (n : Nat) : List Int × Int := dfsG (upL sc) p n [] 0 ([], -1)
def SetB (gl gb : Nat) : Nat → Prop := fun k => k = gl ∨ k = gb
structure StB (W0 W1 W : World) (gl gb : Nat) (s : List Int × Int) : Prop where
 bel : Below W0.heap.size W0 W
 kept : Kept W1 W (SetB gl gb)
 hl : W.heap[gl]? = some (.cells #[.int .i64 s.2] 2 (0, 0))
 hb : ∃ v : Value, W.heap[gb]? = some (.cells #[v] 51 (0, 0)) ∧ Kd.R (Kd.int .i64) 2 W W0.heap.size (fun k => ¬ SetB gl gb k) v s.1
theorem StB.below {W0 W1 W W' : World} {gl gb : Nat} {s : List Int × Int} (h : StB W0 W1 W gl gb s) (b : Below W.heap.size W W') : StB W0 W1 W' gl gb s := by
 obtain ⟨v, h1, h2⟩ := h.hb
 exact ⟨below_step h.bel b, h.kept.below b, blk_below h.hl b, v, blk_below h1 b, Kd.R_below h2 b⟩
theorem StB.store {W0 W1 W : World} {gl gb : Nat} {v : Value} {s : List Int × Int} {o : List Int} {m : Int} (h : StB W0 W1 W gl gb s) (hl : W0.heap.size ≤ gl) (hb : W0.heap.size ≤ gb)
  (ho : Kd.R (Kd.int .i64) 2 W W0.heap.size (fun k => ¬ SetB gl gb k) v o) : StB W0 W1 ((W.setCell ⟨gb, 0, none⟩ v).setCell ⟨gl, 0, none⟩ (.int .i64 m)) gl gb (o, m) := by
 obtain ⟨v0, h1, h2⟩ := h.hb
 have n7 : gl ≠ gb := blk_ne h.hl h1 (by decide)
 have hk : Kept W ((W.setCell ⟨gb, 0, none⟩ v).setCell ⟨gl, 0, none⟩ (.int .i64 m)) (SetB gl gb) := ((Kept.refl W _).setCell (.inl (.inr rfl)) v).setCell (.inl (.inl rfl)) _
 refine ⟨below_set (below_set h.bel hb) hl, h.kept.then_ hk (fun _ h => .inl h), ?_, v, ?_, ?_⟩
 ·exact blk_put (blk_far h.hl n7 _) 0 _ rfl
 ·exact blk_far (blk_put h1 0 _ rfl) n7.symm _
 ·exact Kd.R_kept ho hk (fun k hk hS => hk hS)
set_option maxHeartbeats 4000000 in
set_option maxRecDepth 100000 in
theorem best_each (W0 W1 : World) (gs gl gb n g : Nat) (lb : Array Value) (sc : List Int → Nat → Int) (hl : W0.heap.size ≤ gl) (hb : W0.heap.size ≤ gb)
  (bs : W1.heap[gs]? = some (.cells #[.func (.func g) #[] lb] 102 (0, 0))) (ns : ¬ SetB gl gb gs)
  (eg : ∀ args w, (callFunc g args).run Try.prog w = .ok (.enter g args) w)
  (hsc : ∀ (W : World) (A : Option Addr) (c : Nat) (o : List Int) (m : Nat), Below W0.heap.size W0 W → Kd.C (Kd.int .i64) W A o.length o → o.length ≤ c → o.length = n → m ≤ n →
   Calls Try.prog g (#[.slice A o.length c, .int .i64 (m : Int)] ++ lb) W fun e w' => e = .returned (.int .i64 (sc o m)) ∧ Below W.heap.size W w')
  (W : World) (s : List Int × Int) (A : Option Addr) (c : Nat) (o : List Int) (m : Nat) (hS : StB W0 W1 W gl gb s) (hR : Kd.R (Kd.int .i64) 2 W W0.heap.size (fun k => ¬ SetB gl gb k) (.slice A o.length c) o) (hoc : o.length ≤ c) (hon : o.length = n) (hmn : m ≤ n) :
  Calls Try.prog 106 #[.slice A o.length c, .int .i64 (m : Int), .pointer (some ⟨gs, 0, none⟩), .pointer (some ⟨gl, 0, none⟩), .pointer (some ⟨gb, 0, none⟩)] W fun e w' => e = .returned (.bool true) ∧ Kept W w' (SetB gl gb) ∧ StB W0 W1 w' gl gb (upL sc o m s) := by
 have q2 : W.cell? ⟨gs, 0, none⟩ = some (.func (.func g) #[] lb) := (blk_cell (kept_blk hS.kept bs ns) 0).trans rfl
 have HS := Aside0.mk hS
 have HR := Aside0.mk hR
 have hcall := hsc W A c o m hS.bel (Kd.R_reads' hR).2.2 hoc hon hmn
 have HU := Aside0.mk (show upL sc o m s = if s.2 < 0 ∨ sc o m < s.2 then (o, sc o m) else s from rfl)
 obtain ⟨x, hx⟩ : ∃ x, sc o m = x := ⟨_, rfl⟩
 obtain ⟨mm, hm⟩ : ∃ mm, s.2 = mm := ⟨_, rfl⟩
 rw [hx] at hcall HU
 rw [hm] at HU
 have HM := Aside0.mk hm
 have HSC := Aside0.mk hcall
 have FIN := Aside0.mk (show ∀ W' : World, Below W.heap.size W W' → StB W0 W1 W' gl gb s from fun W' h => hS.below h)
 clear hS hR hsc hcall hx hm bs ns hon hmn
 by_cases h2 : mm < 0
 ·have c2 : decide (mm < 0) = true := decide_eq_true h2
  have HU2 := Aside0.mk (HU.out.trans (if_pos (.inl h2)))
  clear h2 HU
  go_enter Try.func106, Try.ntmps106
  go_wp2_with (go_at_fn g; refine HSC.out.mono ?_; rintro e w1 ⟨rfl, hb1⟩; have hS1 := FIN.out w1 hb1; have q3 : w1.cell? ⟨gl, 0, none⟩ = some (.int .i64 mm) := (blk_cell hS1.hl 0).trans (by rw [HM.out]; rfl); obtain ⟨vb, hvb, _⟩ := hS1.hb; have q4 : w1.cell? ⟨gb, 0, none⟩ = some vb := (blk_cell hvb 0).trans rfl; have q5 := blk_frozen hvb 0; have n7 : gl ≠ gb := blk_ne hS1.hl hvb (by decide); have hl2 := blk_far (p := ⟨gb, 0, none⟩) hS1.hl n7 (.slice A o.length c); have q6 : (w1.setCell ⟨gb, 0, none⟩ (.slice A o.length c)).cell? ⟨gl, 0, none⟩ = some (.int .i64 mm) := (blk_cell hl2 0).trans (by rw [HM.out]; rfl); have q7 := blk_frozen hl2 0; have HS1 := Aside0.mk hS1; have HB1 := Aside0.mk hb1; clear hS1 hb1 hvb hl2 n7)
  go_ret
  rw [HU2.out]
  exact ⟨rfl, ((Kept.of_below HB1.out _).setCell (.inl (.inr rfl)) _).setCell (.inl (.inl rfl)) _, HS1.out.store hl hb (Kd.R_below HR.out HB1.out)⟩
 ·have c2 : decide (mm < 0) = false := decide_eq_false h2
  by_cases h3 : x < mm
  ·have c3 : decide (x < mm) = true := decide_eq_true h3
   have HU2 := Aside0.mk (HU.out.trans (if_pos (.inr h3)))
   clear h2 h3 HU
   go_enter Try.func106, Try.ntmps106
   go_wp2_with (go_at_fn g; refine HSC.out.mono ?_; rintro e w1 ⟨rfl, hb1⟩; have hS1 := FIN.out w1 hb1; have q3 : w1.cell? ⟨gl, 0, none⟩ = some (.int .i64 mm) := (blk_cell hS1.hl 0).trans (by rw [HM.out]; rfl); obtain ⟨vb, hvb, _⟩ := hS1.hb; have q4 : w1.cell? ⟨gb, 0, none⟩ = some vb := (blk_cell hvb 0).trans rfl; have q5 := blk_frozen hvb 0; have n7 : gl ≠ gb := blk_ne hS1.hl hvb (by decide); have hl2 := blk_far (p := ⟨gb, 0, none⟩) hS1.hl n7 (.slice A o.length c); have q6 : (w1.setCell ⟨gb, 0, none⟩ (.slice A o.length c)).cell? ⟨gl, 0, none⟩ = some (.int .i64 mm) := (blk_cell hl2 0).trans (by rw [HM.out]; rfl); have q7 := blk_frozen hl2 0; have HS1 := Aside0.mk hS1; have HB1 := Aside0.mk hb1; clear hS1 hb1 hvb hl2 n7)
   go_ret
   rw [HU2.out]
   exact ⟨rfl, ((Kept.of_below HB1.out _).setCell (.inl (.inr rfl)) _).setCell (.inl (.inl rfl)) _, HS1.out.store hl hb (Kd.R_below HR.out HB1.out)⟩
  ·have c3 : decide (x < mm) = false := decide_eq_false h3
   have HU2 := Aside0.mk (HU.out.trans (if_neg (fun h => h.elim h2 h3)))
   clear h2 h3 HU
   go_enter Try.func106, Try.ntmps106
   go_wp2_with (go_at_fn g; refine HSC.out.mono ?_; rintro e w1 ⟨rfl, hb1⟩; have hS1 := FIN.out w1 hb1; have q3 : w1.cell? ⟨gl, 0, none⟩ = some (.int .i64 mm) := (blk_cell hS1.hl 0).trans (by rw [HM.out]; rfl); obtain ⟨vb, hvb, _⟩ := hS1.hb; have q4 : w1.cell? ⟨gb, 0, none⟩ = some vb := (blk_cell hvb 0).trans rfl; have q5 := blk_frozen hvb 0; have n7 : gl ≠ gb := blk_ne hS1.hl hvb (by decide); have hl2 := blk_far (p := ⟨gb, 0, none⟩) hS1.hl n7 (.slice A o.length c); have q6 : (w1.setCell ⟨gb, 0, none⟩ (.slice A o.length c)).cell? ⟨gl, 0, none⟩ = some (.int .i64 mm) := (blk_cell hl2 0).trans (by rw [HM.out]; rfl); have q7 := blk_frozen hl2 0; have HS1 := Aside0.mk hS1; have HB1 := Aside0.mk hb1; clear hS1 hb1 hvb hl2 n7)
   go_ret
   rw [HU2.out]
   exact ⟨rfl, Kept.of_below HB1.out _, HS1.out⟩
set_option maxHeartbeats 4000000 in
set_option maxRecDepth 100000 in
theorem best_run (W0 W1 : World) (gs gl gb g1 g2 g3 g : Nat) (lb : Array Value) (sc : List Int → Nat → Int) (a0 a1 a2 a3 a4 a5 hold : Int) (l2 : List S37) (A2 : Option Addr) (c2 : Nat) (hn : l2.length ≤ 1000) (hcol : colB l2 = true) (hl : W0.heap.size ≤ gl) (hb : W0.heap.size ≤ gb) (hB : Below W0.heap.size W0 W1)
  (hr2 : Kd.C k37 W0 A2 l2.length l2) (hc2 : l2.length ≤ c2)
  (bs : W1.heap[gs]? = some (.cells #[.func (.func g) #[] lb] 102 (0, 0))) (bl : W1.heap[gl]? = some (.cells #[.int .i64 (-1)] 2 (0, 0))) (bb : W1.heap[gb]? = some (.cells #[.slice none 0 0] 51 (0, 0)))
  (b1 : W1.heap[g1]? = some (.cells #[.int .u8 a0, .int .u8 a1, .int .u8 a2, .int .u8 a3, .int .u8 a4, .int .u8 a5] 35 (0, 0))) (b2 : W1.heap[g2]? = some (.cells #[.int .i64 hold] 2 (0, 0))) (b3 : W1.heap[g3]? = some (.cells #[.slice A2 l2.length c2] 25 (0, 0))) (h2l : g2 ≠ gl)
  (eg : ∀ args w, (callFunc g args).run Try.prog w = .ok (.enter g args) w)
  (hsc : ∀ (W : World) (A : Option Addr) (c : Nat) (o : List Int) (m : Nat), Below W0.heap.size W0 W → Kd.C (Kd.int .i64) W A o.length o → o.length ≤ c → o.length = l2.length → m ≤ l2.length →
   Calls Try.prog g (#[.slice A o.length c, .int .i64 (m : Int)] ++ lb) W fun e w' => e = .returned (.int .i64 (sc o m)) ∧ Below W.heap.size W w') :
  Calls Try.prog 105 #[.int .i64 (l2.length : Int), .func (.func 103) #[] #[.pointer (some ⟨g1, 0, none⟩), .pointer (some ⟨g2, 0, none⟩), .pointer (some ⟨g3, 0, none⟩)], .func (.func 106) #[] #[.pointer (some ⟨gs, 0, none⟩), .pointer (some ⟨gl, 0, none⟩), .pointer (some ⟨gb, 0, none⟩)]] W1 fun e w' =>
   e = .returned (.tuple #[]) ∧ StB W0 W1 w' gl gb (bestL sc (joinB [a0, a1, a2, a3, a4, a5] hold l2) l2.length) := by
 have e1 : ¬ SetB gl gb g1 := by rintro (h | h); exact blk_ne b1 bl (by decide) h; exact blk_ne b1 bb (by decide) h
 have e2 : ¬ SetB gl gb g2 := by rintro (h | h); exact h2l h; exact blk_ne b2 bb (by decide) h
 have e3 : ¬ SetB gl gb g3 := by rintro (h | h); exact blk_ne b3 bl (by decide) h; exact blk_ne b3 bb (by decide) h
 have es : ¬ SetB gl gb gs := by rintro (h | h); exact blk_ne bs bl (by decide) h; exact blk_ne bs bb (by decide) h
 exact grouped_calls W1 W0.heap.size l2.length (SetB gl gb) 103 106 _ _ (upL sc) (joinB [a0, a1, a2, a3, a4, a5] hold l2) (fun W s => StB W0 W1 W gl gb s) ([], -1) hn hB.size (by rintro k (rfl | rfl); exact blk_lt bl; exact blk_lt bb)
  (enters_of Try.func103 (by kernel_rfl) rfl) (enters_of Try.func106 (by kernel_rfl) rfl) ⟨hB, Kept.refl _ _, bl, _, bb, Kd.R_nil _ _ _ _ _⟩ (fun W W' s h hb' => h.below hb')
  (fun W s A c o k hS hC hoc hol => mayJoin_1 a0 a1 a2 a3 a4 a5 hold k l2 o A2 A c2 c g1 g2 g3 W (by omega) hol hcol (Kd.C_below hr2 hS.bel) hc2 hC hoc (kept_blk hS.kept b1 e1) (kept_blk hS.kept b2 e2) (kept_blk hS.kept b3 e3))
  (fun W s A c o m hS hR hoc hon hmn => best_each W0 W1 gs gl gb l2.length g lb sc hl hb bs es eg hsc W s A c o m hS hR hoc hon hmn)
set_option maxHeartbeats 4000000 in
set_option maxRecDepth 100000 in
theorem bestLoads_calls (W0 : World) (g : Nat) (lb : Array Value) (sc : List Int → Nat → Int) (a0 a1 a2 a3 a4 a5 hold : Int) (l2 : List S37) (A2 : Option Addr) (c2 : Nat) (hn : l2.length ≤ 1000) (hcol : colB l2 = true) (hr2 : Kd.C k37 W0 A2 l2.length l2) (hc2 : l2.length ≤ c2)
  (eg : ∀ args w, (callFunc g args).run Try.prog w = .ok (.enter g args) w)
  (hsc : ∀ (W : World) (A : Option Addr) (c : Nat) (o : List Int) (m : Nat), Below W0.heap.size W0 W → Kd.C (Kd.int .i64) W A o.length o → o.length ≤ c → o.length = l2.length → m ≤ l2.length →
   Calls Try.prog g (#[.slice A o.length c, .int .i64 (m : Int)] ++ lb) W fun e w' => e = .returned (.int .i64 (sc o m)) ∧ Below W.heap.size W w') :
  Calls Try.prog 84 #[.agg #[.int .u8 a0, .int .u8 a1, .int .u8 a2, .int .u8 a3, .int .u8 a4, .int .u8 a5], .int .i64 hold, .slice A2 l2.length c2, .func (.func g) #[] lb] W0 fun e w' =>
   ∃ v : Value, e = .returned (.tuple #[v, .int .i64 (bestL sc (joinB [a0, a1, a2, a3, a4, a5] hold l2) l2.length).2]) ∧ Kd.R (Kd.int .i64) 2 w' W0.heap.size (fun _ => True) v (bestL sc (joinB [a0, a1, a2, a3, a4, a5] hold l2) l2.length).1 ∧ Below W0.heap.size W0 w' := by
 have n0 : ∀ (w : World) (o : Obj) (k : Nat), w.heap.size = k → (w.alloc o).heap.size = k + 1 := fun w o k h => by rw [← h]; simp
 have nw : ∀ (w : World) (o : Obj) (k : Nat), w.heap.size = k → (w.alloc o).heap[k]? = some o := fun w o k h => h ▸ blk_new w o
 have BR := Aside0.mk (fun (W1 : World) (gs gl gb g1 g2 g3 : Nat) (hl : W0.heap.size ≤ gl) (hb : W0.heap.size ≤ gb) (hB : Below W0.heap.size W0 W1) bs bl bb b1 b2 b3 h2l =>
  best_run W0 W1 gs gl gb g1 g2 g3 g lb sc a0 a1 a2 a3 a4 a5 hold l2 A2 c2 hn hcol hl hb hB hr2 hc2 bs bl bb b1 b2 b3 h2l eg hsc)
 obtain ⟨x, hx⟩ : ∃ x, bestL sc (joinB [a0, a1, a2, a3, a4, a5] hold l2) l2.length = x := ⟨_, rfl⟩
 rw [hx] at BR ⊢
 have hn0 : l2.length ≤ 9223372036854775807 := by omega
 have BK := Aside0.mk (fun (W : World) (hb : Below ((((W0.alloc (.cells #[.int .u8 a0, .int .u8 a1, .int .u8 a2, .int .u8 a3, .int .u8 a4, .int .u8 a5] 35)).alloc (.cells #[.func (.func g) #[] lb] 102)).alloc (.cells #[.slice none 0 0] 51)).alloc (.cells #[.int .i64 (-1)] 2)).heap.size ((((W0.alloc (.cells #[.int .u8 a0, .int .u8 a1, .int .u8 a2, .int .u8 a3, .int .u8 a4, .int .u8 a5] 35)).alloc (.cells #[.func (.func g) #[] lb] 102)).alloc (.cells #[.slice none 0 0] 51)).alloc (.cells #[.int .i64 (-1)] 2)) W) =>
  (⟨below_step (below_alloc (below_alloc (below_alloc (below_alloc (Below.refl _ _) _) _) _) _) hb, blk_below (blk_alloc (blk_alloc (nw _ _ _ (n0 _ _ _ rfl)) _) _) hb, blk_below (nw _ _ _ (n0 _ _ _ (n0 _ _ _ (n0 _ _ _ rfl)))) hb, blk_below (blk_alloc (nw _ _ _ (n0 _ _ _ (n0 _ _ _ rfl))) _) hb⟩ :
   Below W0.heap.size W0 W ∧ W.heap[W0.heap.size + 1]? = some (.cells #[.func (.func g) #[] lb] 102 (0, 0)) ∧ W.heap[W0.heap.size + 1 + 1 + 1]? = some (.cells #[.int .i64 (-1)] 2 (0, 0)) ∧ W.heap[W0.heap.size + 1 + 1]? = some (.cells #[.slice none 0 0] 51 (0, 0))))
 have SZ := Aside0.mk (n0 _ (.cells #[.int .i64 (-1)] 2) _ (n0 _ (.cells #[.slice none 0 0] 51) _ (n0 _ (.cells #[.func (.func g) #[] lb] 102) _ (n0 W0 (.cells #[.int .u8 a0, .int .u8 a1, .int .u8 a2, .int .u8 a3, .int .u8 a4, .int .u8 a5] 35) _ rfl))))
 clear hx n0 nw hsc hr2 eg hcol hn
 go_enter Try.func84, Try.ntmps84
 go_wp2_with (first
  | (go_at_call 76; refine (impl_Rules_mayJoin.made a0 a1 a2 a3 a4 a5 hold A2 l2.length c2 _).mono ?_; rintro e w1 ⟨rfl, hb1, h1, h2, h3⟩; obtain ⟨hB, bs, bl, bb⟩ := BK.out w1 hb1; rw [SZ.out] at h1 h2 h3; have HR := Aside0.mk (BR.out w1 (W0.heap.size + 1) (W0.heap.size + 1 + 1 + 1) (W0.heap.size + 1 + 1) _ _ _ (by omega) (by omega) hB bs bl bb h1 h2 h3 (by omega)); clear hb1 h1 h2 h3 hB bs bl bb)
  | (go_at_call 105; refine HR.out.mono ?_; rintro e w2 ⟨rfl, hs⟩; have q4 : w2.cell? ⟨W0.heap.size + 1 + 1 + 1, 0, none⟩ = some (.int .i64 x.2) := (blk_cell hs.hl 0).trans rfl; obtain ⟨vb, hvb, hrb⟩ := hs.hb; have q5 : w2.cell? ⟨W0.heap.size + 1 + 1, 0, none⟩ = some vb := (blk_cell hvb 0).trans rfl; have HS1 := Aside0.mk hs; have HR1 := Aside0.mk hrb; clear hs hvb hrb))
 go_quiet (fail)
 go_wp2
 go_ret2
 exact ⟨vb, rfl, Kd.R_mono HR1.out (fun _ _ => trivial), pw_below_drewN HS1.out.bel _⟩

/-! ### impl_FewestLoads: function 46 (told by hand) -/
def manySc (_ : List Int) (m : Nat) : Int := (m : Int)
def impl_FewestLoads.f (k : Nat) (a0_0 : Int) (a0_1 : Int) (a0_2 : Int) (a0_3 : Int) (a0_4 : Int) (a0_5 : Int) (a1 : Int) (l2 : List S37) : Option (List Int × Int × Int) :=
 (impl_lightCode.f k a0_0 a0_1 a0_2 a0_3 a0_4 a0_5 a1 l2).bind fun c => if c = 0 then (if l2.length ≤ 1000 ∧ colB l2 = true then some ((bestL manySc (joinB [a0_0, a0_1, a0_2, a0_3, a0_4, a0_5] a1 l2) l2.length).1, (bestL manySc (joinB [a0_0, a0_1, a0_2, a0_3, a0_4, a0_5] a1 l2) l2.length).2, 0) else none) else some ([], 0, c)
theorem impl_FewestLoads.mono : ∀ a0 a1 a2 a3 a4 a5 a6 a7 k, LeO (impl_FewestLoads.f k a0 a1 a2 a3 a4 a5 a6 a7) (impl_FewestLoads.f (k + 1) a0 a1 a2 a3 a4 a5 a6 a7) := by
 intro a0 a1 a2 a3 a4 a5 a6 a7 k
 unfold impl_FewestLoads.f
 exact LeO.bind (impl_lightCode.mono a0 a1 a2 a3 a4 a5 a6 a7 k) (fun _ => LeO.refl _)
theorem FewestLoads_1 (A : Option Addr) (n c : Nat) (m : Nat) (W : World) :
  Calls Try.prog 85 #[.slice A n c, .int .i64 (m : Int)] W fun e w' => e = .returned (.int .i64 (m : Int)) ∧ Below W.heap.size W w' := by
 go_enter Try.func85, Try.ntmps85
 go_wp2
 go_ret
 exact ⟨rfl, Below.refl _ _⟩
set_option maxHeartbeats 8000000 in
set_option maxRecDepth 100000 in
theorem impl_FewestLoads.calls (k : Nat) (a0_0 : Int) (a0_1 : Int) (a0_2 : Int) (a0_3 : Int) (a0_4 : Int) (a0_5 : Int) (a1 : Int) (A2 : Option Addr) (c2 : Nat) (l2 : List S37) (r1 : List Int) (r2 : Int) (r3 : Int) (w : World) (hr2 : Kd.C k37 w A2 l2.length l2) (hc2 : l2.length ≤ c2) (h : impl_FewestLoads.f k a0_0 a0_1 a0_2 a0_3 a0_4 a0_5 a1 l2 = some (r1, r2, r3)) :
  Calls Try.prog 46 #[.agg #[.int .u8 a0_0, .int .u8 a0_1, .int .u8 a0_2, .int .u8 a0_3, .int .u8 a0_4, .int .u8 a0_5], .int .i64 a1, .slice A2 l2.length c2] w fun e w' => ∃ v0_ : Value, e = .returned (.tuple #[v0_, .int .i64 r2, .int .i64 r3]) ∧ Kd.R (Kd.int .i64) 2 w' w.heap.size (fun _ => True) v0_ r1 ∧ Below w.heap.size w w' := by
 unfold impl_FewestLoads.f at h
 obtain ⟨cd, hcd, h'⟩ := Option.bind_eq_some_iff.mp h
 clear h
 have HCD := Aside0.mk hcd
 have HR2 := Aside0.mk hr2
 have hn : l2.length ≤ 9223372036854775807 := hr2.2.1
 clear hcd hr2
 by_cases h0 : cd = 0
 ·subst h0
  rw [if_pos rfl] at h'
  by_cases hq : l2.length ≤ 1000 ∧ colB l2 = true
  case neg => rw [if_neg hq] at h'; cases h'
  rw [if_pos hq] at h'
  simp only [Option.some.injEq, Prod.mk.injEq] at h'
  obtain ⟨rfl, rfl, rfl⟩ := h'
  have HB := Aside0.mk (fun (W : World) (hB : Below w.heap.size w W) => bestLoads_calls W 85 #[] manySc a0_0 a0_1 a0_2 a0_3 a0_4 a0_5 a1 l2 A2 c2 hq.1 hq.2 (Kd.C_below HR2.out hB) hc2 (enters_of Try.func85 (by kernel_rfl) rfl) (fun W' A c o m _ _ _ _ _ => FewestLoads_1 A o.length c m W'))
  obtain ⟨x, hx⟩ : ∃ x, bestL manySc (joinB [a0_0, a0_1, a0_2, a0_3, a0_4, a0_5] a1 l2) l2.length = x := ⟨_, rfl⟩
  rw [hx] at HB ⊢
  clear hx hq
  go_enter Try.func46, Try.ntmps46
  go_wp2_with (first
   | (go_at_call 75; refine (impl_lightCode.calls k a0_0 a0_1 a0_2 a0_3 a0_4 a0_5 a1 A2 c2 l2 0 _ (Kd.C_below HR2.out (by repeat (first | exact Below.refl _ _ | apply below_alloc))) hc2 HCD.out).mono ?_; rintro e w1 ⟨rfl, hb1⟩; have HB1 := Aside0.mk (show Below w.heap.size w w1 from below_step (below_alloc (Below.refl _ _) _) hb1); have BK1 := blk_below (blk_new w (.cells #[.int .u8 a0_0, .int .u8 a0_1, .int .u8 a0_2, .int .u8 a0_3, .int .u8 a0_4, .int .u8 a0_5] 35)) hb1; have c10 : w1.cell? ⟨w.heap.size, 0, none⟩ = some (.int .u8 a0_0) := (blk_cell BK1 0).trans rfl; have c11 : w1.cell? ⟨w.heap.size, 1, none⟩ = some (.int .u8 a0_1) := (blk_cell BK1 1).trans rfl; have c12 : w1.cell? ⟨w.heap.size, 2, none⟩ = some (.int .u8 a0_2) := (blk_cell BK1 2).trans rfl; have c13 : w1.cell? ⟨w.heap.size, 3, none⟩ = some (.int .u8 a0_3) := (blk_cell BK1 3).trans rfl; have c14 : w1.cell? ⟨w.heap.size, 4, none⟩ = some (.int .u8 a0_4) := (blk_cell BK1 4).trans rfl; have c15 : w1.cell? ⟨w.heap.size, 5, none⟩ = some (.int .u8 a0_5) := (blk_cell BK1 5).trans rfl; clear hb1 BK1)
   | (go_at_call 84; refine (HB.out _ HB1.out).mono ?_; rintro e w2 ⟨v2, rfl, ho2, hb2⟩; have HO2 := Aside0.mk ho2; have HB2 := Aside0.mk hb2; clear ho2 hb2))
  go_ret3
  exact ⟨_, rfl, Kd.R_lower HO2.out HB1.out.size, below_step HB1.out HB2.out⟩
 ·rw [if_neg h0] at h'
  simp only [Option.some.injEq, Prod.mk.injEq] at h'
  obtain ⟨rfl, rfl, rfl⟩ := h'
  have hc1' : (cd != 0) = true := by simp [h0]
  have hc2' : (cd == 0) = false := by simp [h0]
  clear h0
  go_enter Try.func46, Try.ntmps46
  go_wp2_with (go_at_call 75; refine (impl_lightCode.calls k a0_0 a0_1 a0_2 a0_3 a0_4 a0_5 a1 A2 c2 l2 cd _ (Kd.C_below HR2.out (by repeat (first | exact Below.refl _ _ | apply below_alloc))) hc2 HCD.out).mono ?_; rintro e w1 ⟨rfl, hb1⟩; have HB := Aside0.mk (show Below w.heap.size w w1 from below_step (below_alloc (Below.refl _ _) _) hb1); clear hb1)
  go_ret3
  exact ⟨_, rfl, Kd.R_nil _ _ _ _ _, HB.out⟩

end Go.Proofs.Ythodfhcaaidnmaa.Fe
