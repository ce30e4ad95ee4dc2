import PyProof.Rows.All
import Wide.All
import OpenK.AllK
import Wide.FinOn
import HandS.ForMost
import HandS.Walk
import HandS.DictComp
import HandS.Sort
import HandS.More
import HandS.Deep
import PySem.Challenge.RW_recordroads_k67_disks_that_are_cut
set_option Elab.async false
set_option maxRecDepth 100000
set_option maxHeartbeats 4000000
/-! Small tools over HandS. -/
namespace Kit
open PySem L2
theorem un {H : Hp} {a p : Addr} {o u : HO} (h : H a = some o) (hn : H p = none) : upd H p u a = some o := by rw [upd_ne (ne_of_none h hn)]; exact h
theorem fr {H : Hp} {p q : Addr} {u : HO} (h : upd H p u q = none) : H q = none := by
  unfold upd at h; split at h
  · cases h
  · exact h
theorem fr_ne {H : Hp} {p q : Addr} {u : HO} (h : upd H p u q = none) : q ≠ p := by
  intro e; subst e; rw [upd_same] at h; cases h
theorem sup {H : Hp} {p : Addr} {u : HO} (hn : H p = none) : Same H (upd H p u) := fun _ _ e => un e hn
theorem Same.un {H H' : Hp} {p : Addr} {u : HO} (s : Same H H') (hn : H' p = none) : Same H (upd H' p u) := s.trans (sup hn)
/-- a store at what H does not know -/
theorem Same.mu {H H' : Hp} {p : Addr} {u : HO} (s : Same H H') (hn : H p = none) : Same H (upd H' p u) := fun b o e => by
  rw [upd_ne (ne_of_none e hn)]; exact s b o e
theorem free_of {H H' : Hp} {q : Addr} (s : Same H H') (h : H' q = none) : H q = none := L2.Same.free s h
theorem rep_flat (k : Nat) (i : Int) : (List.replicate k [V.int i]).flatten = (List.replicate k i).map V.int := by
  induction k with
  | zero => rfl
  | succ n ih => rw [List.replicate_succ, List.flatten_cons, ih, List.replicate_succ]; rfl
/-- the frozen part grows: what was known stays as F has it, what is new stands as H' has it, but M -/
def fz (F H H' : Hp) (M : List Addr) : Hp := fun a => match H a with
  | some _ => F a
  | none => if a ∈ M then none else H' a
theorem fz_old {F H H' : Hp} {M : List Addr} {a : Addr} (h : H a ≠ none) : fz F H H' M a = F a := by
  unfold fz
  cases e : H a with
  | none => exact absurd e h
  | some o => rfl
theorem fz_new {F H H' : Hp} {M : List Addr} {a : Addr} (h : H a = none) (hm : a ∉ M) : fz F H H' M a = H' a := by
  unfold fz; rw [h]; exact if_neg hm
theorem fz_out {F H H' : Hp} {M : List Addr} {a : Addr} (h : H a = none) (hm : a ∈ M) : fz F H H' M a = none := by
  unfold fz; rw [h]; exact if_pos hm
theorem fz_ge {F H H' : Hp} {M : List Addr} (s : Same F H) : Same F (fz F H H' M) := fun a o e => by
  rw [fz_old (by rw [s a o e]; simp)]; exact e
theorem fz_le {F H H' : Hp} {M : List Addr} (s : Same F H') : Same (fz F H H' M) H' := fun a o e => by
  unfold fz at e
  cases h : H a with
  | some u => rw [h] at e; exact s a o e
  | none =>
    rw [h] at e
    by_cases hm : a ∈ M
    · simp only [if_pos hm] at e; cases e
    · simp only [if_neg hm] at e; exact e
/-- a dict comprehension over a walk -/
theorem dc_it {J : It} {n : Nat} {G : Hp → Prop} {Y : Nat → Hp → V → Hp → Prop} (w : L2.Walk J n G Y) {g : TG} {tt : TT} {tk tv : TE} {vs : List Nat} {σ : L2.St} {H1 : Hp} {D : Addr} {Qd : Hp → Prop} (Pv : Nat → Hp → Prop) (h0 : Pv 0 (upd H1 D (.dK []))) (hG : ∀ i H, i ≤ n → Pv i H → G H)
    (hs : ∀ i x H H', i < n → Pv i H → Y i H x H' → g x (wipe σ vs) H' fun σ2 H2 => wipe σ2 vs = wipe σ vs ∧ tt σ2 H2 fun b H3 =>
      if b = true then tk σ2 H3 fun y H4 => tv σ2 H4 fun z H5 => ∃ kvs k, y = kV k ∧ H5 D = some (.dK kvs) ∧ kvs.length < sizeLine ∧ Pv (i + 1) (upd H5 D (.dK (putK kvs k z))) else Pv (i + 1) H3) (hd : ∀ H, Pv n H → Qd H) :
    ∃ W : Nat → Nat → Hp → Prop, (∃ m, W 0 m (upd H1 D (.dK []))) ∧ ∀ i m H, W i m H →
      (J.stop i H ∧ Qd H) ∨ (J.go i H ∧ ∃ Nx : Hp → Prop, (∀ H', Nx H' → ∃ m', m' < m ∧ W (i + 1) m' H') ∧ ∀ x H', J.yld i H x H' → g x (wipe σ vs) H' fun σ2 H2 => wipe σ2 vs = wipe σ vs ∧ tt σ2 H2 fun b H3 =>
        if b = true then tk σ2 H3 fun y H4 => tv σ2 H4 fun z H5 => ∃ kvs k, y = kV k ∧ H5 D = some (.dK kvs) ∧ kvs.length < sizeLine ∧ Nx (upd H5 D (.dK (putK kvs k z))) else Nx H3) := by
  refine ⟨fun i m H => m = n - i ∧ i ≤ n ∧ Pv i H, ⟨n, by simp, Nat.zero_le _, h0⟩, ?_⟩
  rintro i m H ⟨rfl, hi, p⟩
  have q := hG i H hi p
  by_cases hlt : i < n
  · refine .inr ⟨w.goes i H hlt q, Pv (i + 1), fun H' p' => ⟨n - (i + 1), by omega, rfl, hlt, p'⟩, fun x H' y => hs i x H H' hlt p (w.yields i H x H' hlt q y)⟩
  · have e : i = n := by omega
    subst e
    exact .inl ⟨w.stops H q, hd H p⟩
/-! the rules whose reading names the written part: K said by itself, so that they hold in a comprehension's block too -/
section
variable {X : Cx} (K : PySem.W.Frag)
theorem pe_fldB {e : Expr} {ta : TE} {f : Str} {pos : Pos} (he : PE X e ta) (hb : attributeBase e f X.env (eval e X.env) = eval e X.env) (hK : X.K = K := by rfl) : PE X (.Attribute e f pos) (tFld K ta f) := by subst hK; exact pe_fld he hb
theorem pg_tupB {es : List Expr} {k : Nat} {t : TGs} {n : Nat} {pos : Pos} (hc : X.calm = true) (h : PGs X es t)
    (hn : (assignEach es X.env).length = n := by rfl) (hst : (assignEach es X.env).findIdx? (·.1) = none := by rfl) (hK : X.K = K := by rfl) : PG X (.Tuple es k pos) (gTup K n t) := by subst hK; exact pg_tup hc h hn hst
theorem pi_listB {tg l : Expr} {tl : TE} (hl : PE X l tl) (hK : X.K = K := by rfl) : PI X tg l (iList K tl) := by subst hK; exact pi_list hl
theorem pi_tupB {tg l : Expr} {tl : TE} (hl : PE X l tl) (hK : X.K = K := by rfl) : PI X tg l (iTup K tl) := by subst hK; exact pi_tup hl
def rLen (K : PySem.W.Frag) : List V → Hp → VK → Prop := fun xs H Q => ∃ x n, xs = [x] ∧ LenV K x H n ∧ Q (.int n) H
theorem call_lenB (hK : X.K = K := by rfl) : CallR X (.builtin "len") (rLen K) := by subst hK; exact call_len
def rLenQ (K : PySem.W.Frag) : List V → Hp → VK → Prop := fun xs H Q => ∃ p ys, xs = [.ref p] ∧ (SqL K H p ys ∨ SqT K H p ys) ∧ Q (.int ys.length) H
theorem call_len_seqB (hK : X.K = K := by rfl) : CallR X (.builtin "len") (rLenQ K) := by subst hK; exact call_len_seq
def rListOf (K : PySem.W.Frag) : List V → Hp → VK → Prop := fun xs H Q => ∃ p ys, xs = [.ref p] ∧ (SqL K H p ys ∨ SqT K H p ys) ∧ ∀ l, H l = none → Q (.ref l) (upd H l (.lst ys))
theorem call_list_ofB (hK : X.K = K := by rfl) : CallR X (.type "list") (rListOf K) := by subst hK; exact call_list_of
def rTupleOf (K : PySem.W.Frag) : List V → Hp → VK → Prop := fun xs H Q => ∃ p ys, xs = [.ref p] ∧ ((SqL K H p ys ∧ ∀ l, H l = none → Q (.ref l) (upd H l (.tup ys))) ∨ (SqT K H p ys ∧ Q (.ref p) H))
theorem call_tuple_ofB (hK : X.K = K := by rfl) : CallR X (.type "tuple") (rTupleOf K) := by subst hK; exact call_tuple_of
theorem ix_listB (hK : X.K = K := by rfl) : IxR X (rIxL K) := by subst hK; exact ix_list
theorem ix_tupB (hK : X.K = K := by rfl) : IxR X (rIxT K) := by subst hK; exact ix_tup
theorem ix_seqB (hK : X.K = K := by rfl) : IxR X (rIx K) := by subst hK; exact ix_seq
theorem sl_listB (hK : X.K = K := by rfl) : SlR X (rSlL K) := by subst hK; exact sl_list
theorem sl_tupB (hK : X.K = K := by rfl) : SlR X (rSlT K) := by subst hK; exact sl_tup
theorem op_catTB (hK : X.K = K := by rfl) : OpR X (binaryOp .Add) (rCatT K) := by subst hK; exact op_catT
theorem op_in_seqB (hK : X.K = K := by rfl) : OpR X (compareOp .In) (rIn K false) := by subst hK; exact op_in_seq
theorem op_notIn_seqB (hK : X.K = K := by rfl) : OpR X (compareOp .NotIn) (rIn K true) := by subst hK; exact op_notIn_seq
theorem op_eqDB (hu : X.A.units + 64 < cLine) (hK : X.K = K := by rfl) : OpR X (compareOp .Eq) (rEqD K) := by subst hK; exact op_eqD hu
theorem op_neDB (hu : X.A.units + 64 < cLine) (hK : X.K = K := by rfl) : OpR X (compareOp .NotEq) (rNeD K) := by subst hK; exact op_neD hu
theorem pi_enumB {e : Expr} {ta : TA} {p pos tpos : Pos} {elts : List Expr} {kk : Nat} (hg : Gl X "enumerate") (hm : X.mg "enumerate" = none) (ha : PA X [e] ta) (hs : starEach [e] X.env = [(false, eval e X.env)] := by rfl) (hK : X.K = K := by rfl) :
    PI X (.Tuple elts kk tpos) (.Call (.Name "enumerate" p) [e] [] pos) (iEnum K ta) := by subst hK; exact pi_enum hg hm ha hs
end
/-- an expression that gives just v: what follows once -/
theorem via_set {te : TE} {g : TG} {D : Ends} {σ : L2.St} {H H1 : Hp} (v : V) (h : ∀ Q : VK, Q v H1 → te σ H Q) (k : g v σ H1 D.nx) : tAsg te g D σ H := h _ k
theorem via_seq {te : TE} {g : TG} {t : TS} {D : Ends} {σ : L2.St} {H H1 : Hp} (v : V) (h : ∀ Q : VK, Q v H1 → te σ H Q) (k : g v σ H1 (fun σ2 H2 => t D σ2 H2)) : tSeq (tAsg te g) t D σ H := h _ k
/-- what stands behind a statement, shown once -/
theorem seq_by {t u : TS} {D : Ends} {σ : L2.St} {H : Hp} (R : L2.St → Hp → Prop) (k : ∀ σ2 H2, R σ2 H2 → u D σ2 H2) (h : (∀ σ2 H2, R σ2 H2 → u D σ2 H2) → t { D with nx := u D } σ H) : tSeq t u D σ H := h k
/-- an if whose test gives just b -/
theorem via_if {tc : TT} {t u : TS} {D : Ends} {σ : L2.St} {H H1 : Hp} (b : Bool) (h : ∀ Q : Bool → Hp → Prop, Q b H1 → tc σ H Q) (k1 : b = true → t D σ H1) (k0 : b = false → u D σ H1) : tIfS tc t u D σ H := by
  refine h _ ?_
  cases b with
  | true => exact iteT (k1 rfl)
  | false => exact iteF (k0 rfl)
theorem via_te {te : TE} {σ : L2.St} {H H1 : Hp} {Q : VK} (v : V) (h : ∀ Q : VK, Q v H1 → te σ H Q) (k : Q v H1) : te σ H Q := h _ k
end Kit

set_option maxRecDepth 100000
set_option maxHeartbeats 4000000
/-! The plain law of a disk of blocks: what its words compute. -/
namespace D67
open PySem L2
abbrev Blk := List (Int × List Int)
def zeros : List Int := List.replicate 64 0
def putB (B : Blk) (n : Int) (c : List Int) : Blk := if B.any (fun b => decide (b.1 = n)) = true then B.map (fun b => if b.1 = n then (b.1, c) else b) else B ++ [(n, c)]
def lookB (B : Blk) (n : Int) : Option (List Int) := (B.find? fun b => decide (b.1 = n)).map (·.2)
def wholeB (B : Blk) (n : Int) : List Int := (lookB B n).getD zeros
def readN (B W : Blk) (n : Int) : Nat → List Int
  | 0 => wholeB B n
  | i + 1 => match W[i]? with
    | some (m, c) => if m = n then c else readN B W n i
    | none => readN B W n i
def readB (B W : Blk) (n : Int) : List Int := readN B W n W.length
def sizeB (kept : List Int) (k : Nat) : Int := match kept[k]? with
  | some z => (let m := if z > 0 then z else 0; if m < 64 then m else 64)
  | none => 0
def mixC (s : Int) (c w : List Int) : List Int := c.take s.toNat ++ w.drop s.toNat
def crashN (B W : Blk) (kept : List Int) : Nat → Blk
  | 0 => B
  | i + 1 => match W[i]? with
    | some (n, c) => putB (crashN B W kept i) n (mixC (sizeB kept i) c (wholeB (crashN B W kept i) n))
    | none => crashN B W kept i
def crashB (B W : Blk) (kept : List Int) : Blk := crashN B W kept W.length
def syncN (B W : Blk) : Nat → Blk
  | 0 => B
  | i + 1 => match W[i]? with
    | some (n, c) => putB (syncN B W i) n c
    | none => syncN B W i
def syncB (B W : Blk) : Blk := syncN B W W.length
def Good (B : Blk) : Prop := ∀ b ∈ B, b.2.length = 64
def Keys (B : Blk) : Prop := (B.map (·.1)).Nodup

theorem zeros_len : zeros.length = 64 := by simp [zeros]
theorem sizeB_le (kept : List Int) (k : Nat) : 0 ≤ sizeB kept k ∧ sizeB kept k ≤ 64 := by
  unfold sizeB
  split
  · rename_i z _
    simp only
    by_cases h : z > 0
    · rw [if_pos h]; by_cases g : z < 64
      · rw [if_pos g]; omega
      · rw [if_neg g]; omega
    · rw [if_neg h]; simp
  · omega
theorem mixC_len {s : Int} {c w : List Int} (h0 : 0 ≤ s) (h : s ≤ 64) (hc : c.length = 64) (hw : w.length = 64) : (mixC s c w).length = 64 := by
  unfold mixC
  rw [List.length_append, List.length_take, List.length_drop]
  omega
theorem putB_good {B : Blk} {n : Int} {c : List Int} (g : Good B) (hc : c.length = 64) : Good (putB B n c) := by
  unfold putB
  intro b hb
  split at hb
  · obtain ⟨x, hx, rfl⟩ := List.mem_map.mp hb
    split
    · exact hc
    · exact g x hx
  · rcases List.mem_append.mp hb with hb | hb
    · exact g b hb
    · rw [List.mem_singleton.mp hb]; exact hc
theorem putB_len (B : Blk) (n : Int) (c : List Int) : (putB B n c).length ≤ B.length + 1 := by
  unfold putB
  split
  · rw [List.length_map]; omega
  · rw [List.length_append]; simp
theorem putB_keys {B : Blk} {n : Int} {c : List Int} (k : Keys B) : Keys (putB B n c) := by
  unfold putB
  split
  · unfold Keys at *
    rw [List.map_map]
    have e : ((fun b : Int × List Int => b.1) ∘ fun b => if b.1 = n then (b.1, c) else b) = fun b => b.1 := by
      funext b
      show (if b.1 = n then (b.1, c) else b).1 = b.1
      split <;> rfl
    rw [e]; exact k
  · rename_i h
    unfold Keys at *
    rw [List.map_append, List.nodup_append]
    refine ⟨k, by simp, fun a ha b hb => ?_⟩
    have : b = n := by simpa using hb
    subst this
    intro e; subst e
    apply h
    obtain ⟨x, hx, e⟩ := List.mem_map.mp ha
    exact List.any_eq_true.mpr ⟨x, hx, by simpa using e⟩
theorem wholeB_len {B : Blk} {n : Int} (g : Good B) : (wholeB B n).length = 64 := by
  unfold wholeB lookB
  cases e : B.find? fun b => decide (b.1 = n) with
  | none => exact zeros_len
  | some b => exact g b (List.mem_of_find?_eq_some e)
theorem crashN_ok {B W : Blk} {kept : List Int} (gB : Good B) (gW : Good W) (k : Keys B) : ∀ i, Good (crashN B W kept i) ∧ Keys (crashN B W kept i) ∧ (crashN B W kept i).length ≤ B.length + i
  | 0 => ⟨gB, k, Nat.le_refl _⟩
  | i + 1 => by
    obtain ⟨h1, h2, h3⟩ := crashN_ok gB gW k (kept := kept) i
    unfold crashN
    split
    · rename_i n c e
      have hc := gW _ (List.mem_of_getElem? e)
      have hs := sizeB_le kept i
      refine ⟨putB_good h1 (mixC_len hs.1 hs.2 hc (wholeB_len h1)), putB_keys h2, ?_⟩
      have := putB_len (crashN B W kept i) n (mixC (sizeB kept i) c (wholeB (crashN B W kept i) n))
      omega
    · exact ⟨h1, h2, by omega⟩
theorem syncN_ok {B W : Blk} (gB : Good B) (gW : Good W) (k : Keys B) : ∀ i, Good (syncN B W i) ∧ Keys (syncN B W i) ∧ (syncN B W i).length ≤ B.length + i
  | 0 => ⟨gB, k, Nat.le_refl _⟩
  | i + 1 => by
    obtain ⟨h1, h2, h3⟩ := syncN_ok gB gW k i
    unfold syncN
    split
    · rename_i n c e
      refine ⟨putB_good h1 (gW _ (List.mem_of_getElem? e)), putB_keys h2, ?_⟩
      have := putB_len (syncN B W i) n c
      omega
    · exact ⟨h1, h2, by omega⟩
theorem readN_len {B W : Blk} {n : Int} (gB : Good B) (gW : Good W) : ∀ i, (readN B W n i).length = 64
  | 0 => wholeB_len gB
  | i + 1 => by
    have h := readN_len gB gW (n := n) i
    unfold readN
    split
    · rename_i m c e
      split
      · exact gW _ (List.mem_of_getElem? e)
      · exact h
    · exact h

/-! rows that are told -/
def dl (c : List Int) : PyData := .list (c.map .int)
def nz (c : List Int) : Bool := !PyData.eqv (dl c) (dl zeros)
def rowsB (B : Blk) (ys : List Int) : Blk := (ys.map fun n => (n, wholeB B n)).filter fun r => nz r.2
def dr (r : Int × List Int) : PyData := .tuple [.int r.1, dl r.2]
def drs (R : Blk) : PyData := .list (R.map dr)

theorem sort_same {a b : List Int} (hp : a.Perm b) (ha : a.Pairwise (· ≤ ·)) (hb : b.Pairwise (· ≤ ·)) : a = b :=
  List.Perm.eq_of_pairwise (le := fun x y : Int => decide (x ≤ y)) (fun x y _ _ h1 h2 => by simp at h1 h2; omega) (by simpa using ha) (by simpa using hb) hp

theorem lookB_some_of {B : Blk} {n : Int} {c : List Int} (k : Keys B) (h : (n, c) ∈ B) : lookB B n = some c := by
  unfold lookB
  induction B with
  | nil => cases h
  | cons b r ih =>
    unfold Keys at k
    rw [List.map_cons, List.nodup_cons] at k
    rw [List.find?_cons]
    by_cases e : b.1 = n
    · rw [decide_eq_true e]
      rcases List.mem_cons.mp h with q | q
      · rw [← q]; rfl
      · exact absurd (List.mem_map.mpr ⟨(n, c), q, e.symm⟩) k.1
    · rw [decide_eq_false e]
      rcases List.mem_cons.mp h with q | q
      · rw [← q] at e; exact absurd rfl e
      · exact ih k.2 q

/-- the rows of a new disk over rows that ascend are those rows -/
theorem putB_new {B : Blk} {n : Int} {c : List Int} (h : n ∉ B.map (·.1)) : putB B n c = B ++ [(n, c)] := by
  unfold putB
  rw [if_neg]
  intro e
  obtain ⟨x, hx, q⟩ := List.any_eq_true.mp e
  exact h (List.mem_map.mpr ⟨x, hx, by simpa using q⟩)
def mkN (R : Blk) : Nat → Blk
  | 0 => []
  | i + 1 => match R[i]? with
    | some (n, c) => putB (mkN R i) n c
    | none => mkN R i
theorem mkN_take {R : Blk} (k : Keys R) : ∀ i, i ≤ R.length → mkN R i = R.take i
  | 0, _ => by simp [mkN]
  | i + 1, h => by
    have ih := mkN_take k i (by omega)
    have hi : i < R.length := by omega
    unfold mkN
    rw [List.getElem?_eq_getElem hi, ih]
    show putB (R.take i) R[i].1 R[i].2 = _
    rw [putB_new, List.take_add_one, List.getElem?_eq_getElem hi]
    · rfl
    · intro hm
      unfold Keys at k
      obtain ⟨x, hx, e⟩ := List.mem_map.mp hm
      obtain ⟨j, hj, ej⟩ := List.getElem_of_mem hx
      rw [List.length_take] at hj
      rw [List.getElem_take] at ej
      rw [List.nodup_iff_pairwise_ne] at k
      have q := List.pairwise_iff_getElem.mp k j i (by rw [List.length_map]; omega) (by rw [List.length_map]; omega) (by omega)
      apply q
      rw [List.getElem_map, List.getElem_map, ej, e]
theorem mkN_all {R : Blk} (k : Keys R) : mkN R R.length = R := by rw [mkN_take k _ (Nat.le_refl _), List.take_length]
theorem rowsB_keys_sub (B : Blk) (ys : List Int) : ((rowsB B ys).map (·.1)).Sublist ys := by
  unfold rowsB
  have h : (((ys.map fun n => (n, wholeB B n)).filter fun r => nz r.2).map (·.1)).Sublist ((ys.map fun n => (n, wholeB B n)).map (·.1)) := List.filter_sublist.map _
  rw [List.map_map] at h
  simpa [Function.comp_def] using h
theorem rowsB_keys {B : Blk} {ys : List Int} (hp : ys.Perm (B.map (·.1))) (k : Keys B) : Keys (rowsB B ys) :=
  (rowsB_keys_sub B ys).nodup (hp.nodup_iff.mpr k)
theorem rowsB_len (B : Blk) (ys : List Int) : (rowsB B ys).length ≤ ys.length := by
  have := (rowsB_keys_sub B ys).length_le
  simpa using this
theorem rowsB_good {B : Blk} {ys : List Int} (g : Good B) : Good (rowsB B ys) := by
  intro b hb
  obtain ⟨h, _⟩ := List.mem_filter.mp hb
  obtain ⟨n, _, rfl⟩ := List.mem_map.mp h
  exact wholeB_len g
/-- the rows of the rows -/
theorem rowsB_again {B : Blk} {ys zs : List Int} (hp : ys.Perm (B.map (·.1))) (k : Keys B) (hs : ys.Pairwise (· ≤ ·)) (hz : zs.Perm ((rowsB B ys).map (·.1))) (hzs : zs.Pairwise (· ≤ ·)) : rowsB (rowsB B ys) zs = rowsB B ys := by
  have e : zs = (rowsB B ys).map (·.1) := sort_same hz hzs (hs.sublist (rowsB_keys_sub B ys))
  subst e
  have kR := rowsB_keys hp k
  generalize hR : rowsB B ys = R at kR ⊢
  show ((R.map (·.1)).map fun n => (n, wholeB R n)).filter (fun r => nz r.2) = R
  rw [List.map_map]
  have e2 : R.map ((fun n => (n, wholeB R n)) ∘ fun x => x.1) = R := by
    conv => rhs; rw [← List.map_id R]
    refine List.map_congr_left fun r hr => ?_
    show (r.1, wholeB R r.1) = r
    unfold wholeB
    rw [lookB_some_of kR (c := r.2) hr]
    rfl
  rw [e2]
  refine List.filter_eq_self.mpr fun r hr => ?_
  rw [← hR] at hr
  unfold rowsB at hr
  exact (List.mem_filter.mp hr).2

theorem canAll {ds : List PyData} (h : ∀ d ∈ ds, d.canLay0 = true) : PyData.canLayAll0 ds = true := by
  induction ds with
  | nil => rfl
  | cons d r ih =>
    unfold PyData.canLayAll0
    rw [h d List.mem_cons_self, ih fun x hx => h x (List.mem_cons_of_mem _ hx)]
    rfl
theorem depthAll_le {n : Nat} {ds : List PyData} (h : ∀ d ∈ ds, d.depth ≤ n) : PyData.depthAll ds ≤ n := by
  induction ds with
  | nil => exact Nat.zero_le _
  | cons d r ih =>
    unfold PyData.depthAll
    have := h d List.mem_cons_self
    have := ih fun x hx => h x (List.mem_cons_of_mem _ hx)
    omega
theorem dl_can (c : List Int) : (dl c).canLay0 = true := by
  unfold dl PyData.canLay0
  refine canAll fun d hd => ?_
  obtain ⟨i, _, rfl⟩ := List.mem_map.mp hd
  rfl
theorem dl_depth (c : List Int) : (dl c).depth ≤ 5 := by
  unfold dl PyData.depth
  have : PyData.depthAll (c.map PyData.int) ≤ 1 := depthAll_le fun d hd => by
    obtain ⟨i, _, rfl⟩ := List.mem_map.mp hd
    simp [PyData.depth]
  omega
theorem dr_can (r : Int × List Int) : (dr r).canLay0 = true := by
  unfold dr PyData.canLay0
  refine canAll fun d hd => ?_
  rcases List.mem_cons.mp hd with rfl | hd
  · rfl
  · rw [List.mem_singleton.mp hd]; exact dl_can _
theorem dr_depth (r : Int × List Int) : (dr r).depth ≤ 10 := by
  unfold dr PyData.depth
  have : PyData.depthAll [.int r.1, dl r.2] ≤ 5 := depthAll_le fun d hd => by
    rcases List.mem_cons.mp hd with rfl | hd
    · simp [PyData.depth]
    · rw [List.mem_singleton.mp hd]; exact dl_depth _
  omega
theorem drs_can (R : Blk) : (drs R).canLay0 = true := by
  unfold drs PyData.canLay0
  refine canAll fun d hd => ?_
  obtain ⟨i, _, rfl⟩ := List.mem_map.mp hd
  exact dr_can i
theorem drs_depth (R : Blk) : (drs R).depth ≤ 20 := by
  unfold drs PyData.depth
  have : PyData.depthAll (R.map dr) ≤ 10 := depthAll_le fun d hd => by
    obtain ⟨i, _, rfl⟩ := List.mem_map.mp hd
    exact dr_depth i
  omega
theorem dl_shaped (c : List Int) : SeqAt.shaped (dl c) = true := by
  unfold SeqAt.shaped
  rw [dl_can, decide_eq_true (by have := dl_depth c; omega)]; rfl
theorem drs_shaped (R : Blk) : SeqAt.shaped (drs R) = true := by
  unfold SeqAt.shaped
  rw [drs_can, decide_eq_true (by have := drs_depth R; omega)]; rfl
theorem eqv_rows (R : Blk) : PyData.eqv (drs R) (drs R) = true := SeqAt.eqv_refl _ (drs_can R)
theorem eqv_dl (c : List Int) : PyData.eqv (dl c) (dl c) = true := SeqAt.eqv_refl _ (dl_can c)
end D67

set_option maxRecDepth 100000
set_option maxHeartbeats 4000000
/-! The text by places, what stands of a disk in the heap. -/
namespace D67
open PySem L2
def top (i : Nat) : Stmt := PySem.Challenge.pw_recordroads_k67_disks_that_are_cut.main.body.getD i (.Pass ⟨0, 0, 0, 0⟩)
abbrev s_Disk_init : Stmt := inClass (top 2) 0
abbrev s_Disk_whole : Stmt := inClass (top 2) 1
abbrev s_Disk_read : Stmt := inClass (top 2) 2
abbrev s_Disk_cut_in : Stmt := inClass (top 2) 3
abbrev s_Disk_counts : Stmt := inClass (top 2) 4
abbrev s_Disk_write : Stmt := inClass (top 2) 5
abbrev s_Disk_sync : Stmt := inClass (top 2) 6
abbrev s_Disk_crash : Stmt := inClass (top 2) 7
abbrev s_Disk_synced : Stmt := inClass (top 2) 8
abbrev s_law_state : Stmt := top 4
abbrev s_law_take : Stmt := top 5
abbrev s_law_crashed : Stmt := top 6
abbrev s_law : Stmt := top 7

def flds (d wl : Addr) (lf : V) (ks : Addr) (ct : Bool) : List (Str × V) := [("blocks", .ref d), ("waiting", .ref wl), ("left", lf), ("kept", .ref ks), ("is_cut", .bl ct)]
theorem fl_blocks (d wl : Addr) (lf : V) (ks : Addr) (ct : Bool) : (flds d wl lf ks ct).lookup ("blocks" : Str) = some (.ref d) := by kernel_rfl
theorem fl_waiting (d wl : Addr) (lf : V) (ks : Addr) (ct : Bool) : (flds d wl lf ks ct).lookup ("waiting" : Str) = some (.ref wl) := by kernel_rfl
theorem fl_left (d wl : Addr) (lf : V) (ks : Addr) (ct : Bool) : (flds d wl lf ks ct).lookup ("left" : Str) = some lf := by kernel_rfl
theorem fl_kept (d wl : Addr) (lf : V) (ks : Addr) (ct : Bool) : (flds d wl lf ks ct).lookup ("kept" : Str) = some (.ref ks) := by kernel_rfl
theorem fl_is_cut (d wl : Addr) (lf : V) (ks : Addr) (ct : Bool) : (flds d wl lf ks ct).lookup ("is_cut" : Str) = some (.bl ct) := by kernel_rfl
theorem fl_no_whole (d wl : Addr) (lf : V) (ks : Addr) (ct : Bool) : (flds d wl lf ks ct).lookup ("whole" : Str) = none := by kernel_rfl
theorem fl_no_read (d wl : Addr) (lf : V) (ks : Addr) (ct : Bool) : (flds d wl lf ks ct).lookup ("read" : Str) = none := by kernel_rfl
theorem fl_no_cut_in (d wl : Addr) (lf : V) (ks : Addr) (ct : Bool) : (flds d wl lf ks ct).lookup ("cut_in" : Str) = none := by kernel_rfl
theorem fl_no_counts (d wl : Addr) (lf : V) (ks : Addr) (ct : Bool) : (flds d wl lf ks ct).lookup ("counts" : Str) = none := by kernel_rfl
theorem fl_no_write (d wl : Addr) (lf : V) (ks : Addr) (ct : Bool) : (flds d wl lf ks ct).lookup ("write" : Str) = none := by kernel_rfl
theorem fl_no_sync (d wl : Addr) (lf : V) (ks : Addr) (ct : Bool) : (flds d wl lf ks ct).lookup ("sync" : Str) = none := by kernel_rfl
theorem fl_no_crash (d wl : Addr) (lf : V) (ks : Addr) (ct : Bool) : (flds d wl lf ks ct).lookup ("crash" : Str) = none := by kernel_rfl
theorem fl_no_synced (d wl : Addr) (lf : V) (ks : Addr) (ct : Bool) : (flds d wl lf ks ct).lookup ("synced" : Str) = none := by kernel_rfl
theorem pf_waiting (d wl wl' : Addr) (lf : V) (ks : Addr) (ct : Bool) : putF "waiting" (.ref wl') (flds d wl lf ks ct) = flds d wl' lf ks ct := by kernel_rfl
theorem pf_left (d wl : Addr) (lf lf' : V) (ks : Addr) (ct : Bool) : putF "left" lf' (flds d wl lf ks ct) = flds d wl lf' ks ct := by kernel_rfl
theorem pf_kept (d wl : Addr) (lf : V) (ks ks' : Addr) (ct : Bool) : putF "kept" (.ref ks') (flds d wl lf ks ct) = flds d wl lf ks' ct := by kernel_rfl
theorem pf_is_cut (d wl : Addr) (lf : V) (ks : Addr) (ct ct' : Bool) : putF "is_cut" (.bl ct') (flds d wl lf ks ct) = flds d wl lf ks ct' := by kernel_rfl
theorem pf_all (d wl : Addr) (lf : V) (ks : Addr) (ct : Bool) : putF "is_cut" (.bl ct) (putF "kept" (.ref ks) (putF "left" lf (putF "waiting" (.ref wl) (putF "blocks" (.ref d) [])))) = flds d wl lf ks ct := by kernel_rfl

/-- the content of a block, frozen -/
def Ct (F : Hp) (v : V) (c : List Int) : Prop := ∃ a, v = .ref a ∧ F a = some (.lst (c.map .int))
def Bk (F : Hp) : List (Key × V) → Blk → Prop := Paired fun (kv : Key × V) b => kv.1 = .inl b.1 ∧ Ct F kv.2 b.2
def Wt (F : Hp) : List V → Blk → Prop := Paired fun (x : V) b => ∃ t v, x = .ref t ∧ F t = some (.tup [.int b.1, v]) ∧ Ct F v b.2
theorem Ct.mono {F F' : Hp} (s : Same F F') {v : V} {c : List Int} (h : Ct F v c) : Ct F' v c := let ⟨a, e, g⟩ := h; ⟨a, e, s _ _ g⟩
theorem Bk.mono {F F' : Hp} (s : Same F F') {kvs : List (Key × V)} {B : Blk} (h : Bk F kvs B) : Bk F' kvs B := Paired.mapP h fun _ _ q => ⟨q.1, q.2.mono s⟩
theorem Wt.mono {F F' : Hp} (s : Same F F') {xs : List V} {W : Blk} (h : Wt F xs W) : Wt F' xs W := Paired.mapP h fun _ _ ⟨t, v, e, g, c⟩ => ⟨t, v, e, s _ _ g, c.mono s⟩
def optV : Option Int → V
  | none => .non
  | some i => .int i
structure DS where
  B : Blk
  W : Blk
  left : Option Int
  kept : List Int
  cut : Bool
structure DiskAt (C : Addr) (F H : Hp) (p d wl : Addr) (S : DS) : Prop where
  same : Same F H
  fp : F p = none
  fd : F d = none
  fw : F wl = none
  ob : ∃ dx ks, H p = some (.ins C dx (flds d wl (optV S.left) ks S.cut)) ∧ F ks = some (.lst (S.kept.map .int))
  dc : ∃ kvs, H d = some (.dK kvs) ∧ Bk F kvs S.B
  wt : ∃ xs, H wl = some (.lst xs) ∧ Wt F xs S.W
structure Txt (K : PySem.W.Frag) (mg : Str → Option Value) where
  C : Addr
  cl : Cls K C
  nb : NoAttr K C "blocks"
  nw : NoAttr K C "waiting"
  nl : NoAttr K C "left"
  nk : NoAttr K C "kept"
  nc : NoAttr K C "is_cut"
  mg_Disk : mg "Disk" = some (.ref C)
  t_BLOCK : Tok
  mg_BLOCK : mg "BLOCK" = some (.int 64 t_BLOCK)
  n_list : mg "list" = none
  n_len : mg "len" = none
  n_min : mg "min" = none
  n_max : mg "max" = none
  n_abs : mg "abs" = none
  n_int : mg "int" = none
  n_dict : mg "dict" = none
  n_range : mg "range" = none
  n_sorted : mg "sorted" = none
  n_enumerate : mg "enumerate" = none
  f_Disk_init : Addr
  fd_Disk_init : FuncData
  F_Disk_init : Fun K "__init__" "Disk.__init__" s_Disk_init f_Disk_init fd_Disk_init
  b_Disk_init : Binds K fd_Disk_init ["self", "blocks"] []
  M_Disk : Mk K C f_Disk_init
  f_Disk_whole : Addr
  fd_Disk_whole : FuncData
  F_Disk_whole : Fun K "whole" "Disk.whole" s_Disk_whole f_Disk_whole fd_Disk_whole
  b_Disk_whole : Binds K fd_Disk_whole ["self", "number"] []
  m_Disk_whole : Meth K C "whole" f_Disk_whole
  f_Disk_read : Addr
  fd_Disk_read : FuncData
  F_Disk_read : Fun K "read" "Disk.read" s_Disk_read f_Disk_read fd_Disk_read
  b_Disk_read : Binds K fd_Disk_read ["self", "number"] []
  m_Disk_read : Meth K C "read" f_Disk_read
  f_Disk_cut_in : Addr
  fd_Disk_cut_in : FuncData
  F_Disk_cut_in : Fun K "cut_in" "Disk.cut_in" s_Disk_cut_in f_Disk_cut_in fd_Disk_cut_in
  b_Disk_cut_in : Binds K fd_Disk_cut_in ["self", "many", "kept"] []
  m_Disk_cut_in : Meth K C "cut_in" f_Disk_cut_in
  f_Disk_counts : Addr
  fd_Disk_counts : FuncData
  F_Disk_counts : Fun K "counts" "Disk.counts" s_Disk_counts f_Disk_counts fd_Disk_counts
  b_Disk_counts : Binds K fd_Disk_counts ["self"] []
  m_Disk_counts : Meth K C "counts" f_Disk_counts
  f_Disk_write : Addr
  fd_Disk_write : FuncData
  F_Disk_write : Fun K "write" "Disk.write" s_Disk_write f_Disk_write fd_Disk_write
  b_Disk_write : Binds K fd_Disk_write ["self", "number", "content"] []
  m_Disk_write : Meth K C "write" f_Disk_write
  f_Disk_sync : Addr
  fd_Disk_sync : FuncData
  F_Disk_sync : Fun K "sync" "Disk.sync" s_Disk_sync f_Disk_sync fd_Disk_sync
  b_Disk_sync : Binds K fd_Disk_sync ["self"] []
  m_Disk_sync : Meth K C "sync" f_Disk_sync
  f_Disk_crash : Addr
  fd_Disk_crash : FuncData
  F_Disk_crash : Fun K "crash" "Disk.crash" s_Disk_crash f_Disk_crash fd_Disk_crash
  b_Disk_crash : Binds K fd_Disk_crash ["self", "kept"] []
  m_Disk_crash : Meth K C "crash" f_Disk_crash
  f_Disk_synced : Addr
  fd_Disk_synced : FuncData
  F_Disk_synced : Fun K "synced" "Disk.synced" s_Disk_synced f_Disk_synced fd_Disk_synced
  b_Disk_synced : Binds K fd_Disk_synced ["self"] []
  m_Disk_synced : Meth K C "synced" f_Disk_synced
  f_law_state : Addr
  fd_law_state : FuncData
  F_law_state : Fun K "_law_state" "_law_state" s_law_state f_law_state fd_law_state
  b_law_state : Binds K fd_law_state ["script"] []
  mg_law_state : mg "_law_state" = some (.ref f_law_state)
  k_law_state : PySem.W.keepIn K (.ref f_law_state) = true
  f_law_take : Addr
  fd_law_take : FuncData
  F_law_take : Fun K "_law_take" "_law_take" s_law_take f_law_take fd_law_take
  b_law_take : Binds K fd_law_take ["state", "most"] []
  mg_law_take : mg "_law_take" = some (.ref f_law_take)
  k_law_take : PySem.W.keepIn K (.ref f_law_take) = true
  f_law_crashed : Addr
  fd_law_crashed : FuncData
  F_law_crashed : Fun K "_law_crashed" "_law_crashed" s_law_crashed f_law_crashed fd_law_crashed
  b_law_crashed : Binds K fd_law_crashed ["blocks", "waiting", "kept"] []
  mg_law_crashed : mg "_law_crashed" = some (.ref f_law_crashed)
  k_law_crashed : PySem.W.keepIn K (.ref f_law_crashed) = true

/-! ### what pairs tell -/
theorem Paired.len {α β : Type} {R : α → β → Prop} : ∀ {xs : List α} {ys : List β}, Paired R xs ys → xs.length = ys.length := fun h => Paired.length h
theorem Paired.at {α β : Type} {R : α → β → Prop} : ∀ {xs : List α} {ys : List β} {i : Nat} {x : α}, Paired R xs ys → xs[i]? = some x → ∃ y, ys[i]? = some y ∧ R x y
  | _, _, _, _, .nil, e => by simp at e
  | _, _, 0, _, .cons r _, e => by simp at e; subst e; exact ⟨_, rfl, r⟩
  | _, _, i + 1, x, .cons _ t, e => by
    obtain ⟨u, h1, h2⟩ := Paired.at (i := i) (x := x) t (by simpa using e)
    exact ⟨u, by simpa using h1, h2⟩
theorem Paired.app {α β : Type} {R : α → β → Prop} : ∀ {xs : List α} {ys : List β} {x : α} {y : β}, Paired R xs ys → R x y → Paired R (xs ++ [x]) (ys ++ [y])
  | _, _, _, _, .nil, r => .cons r .nil
  | _, _, _, _, .cons q t, r => .cons q (Paired.app t r)
theorem Bk.keys {F : Hp} : ∀ {kvs : List (Key × V)} {B : Blk}, Bk F kvs B → kvs.map (·.1) = (B.map (·.1)).map Sum.inl
  | _, _, .nil => rfl
  | _, _, .cons q t => by
    rw [List.map_cons, List.map_cons, List.map_cons, q.1, Bk.keys t]
theorem Bk.any {F : Hp} {n : Int} : ∀ {kvs : List (Key × V)} {B : Blk}, Bk F kvs B → (kvs.any fun kv => decide (kv.1 = (Sum.inl n : Key))) = B.any fun b => decide (b.1 = n)
  | _, _, .nil => rfl
  | (k, v) :: _, (m, c) :: _, .cons q t => by
    have e : k = Sum.inl m := q.1
    subst e
    rw [List.any_cons, List.any_cons, Bk.any t]
    congr 1
    rw [key_ll]
    simp [BEq.beq]
theorem Bk.put {F : Hp} {n : Int} {v : V} {c : List Int} {kvs : List (Key × V)} {B : Blk} (h : Bk F kvs B) (hv : Ct F v c) : Bk F (putK kvs (Sum.inl n : Key) v) (putB B n c) := by
  unfold putK putB
  rw [Bk.any h]
  by_cases e : (B.any fun b => decide (b.1 = n)) = true
  · rw [if_pos e, if_pos e]
    clear e
    induction h with
    | nil => exact .nil
    | @cons kv b r t q _ ih =>
      refine .cons ?_ ih
      obtain ⟨k, u⟩ := kv
      obtain ⟨m, c'⟩ := b
      have ek : k = Sum.inl m := q.1
      subst ek
      by_cases e : m = n
      · subst e
        show (if (Sum.inl m : Key) = Sum.inl m then ((Sum.inl m : Key), v) else (Sum.inl m, u)).fst = Sum.inl (if m = m then (m, c) else (m, c')).fst ∧ Ct F (if (Sum.inl m : Key) = Sum.inl m then ((Sum.inl m : Key), v) else (Sum.inl m, u)).snd (if m = m then (m, c) else (m, c')).snd
        rw [if_pos rfl, if_pos rfl]
        exact ⟨rfl, hv⟩
      · show (if (Sum.inl m : Key) = Sum.inl n then ((Sum.inl m : Key), v) else (Sum.inl m, u)).fst = Sum.inl (if m = n then (m, c) else (m, c')).fst ∧ Ct F (if (Sum.inl m : Key) = Sum.inl n then ((Sum.inl m : Key), v) else (Sum.inl m, u)).snd (if m = n then (m, c) else (m, c')).snd
        rw [if_neg (fun z => e (Sum.inl.inj z)), if_neg e]
        exact q
  · rw [if_neg e, if_neg e]
    exact Paired.app h ⟨rfl, hv⟩
theorem Bk.val {F : Hp} {n : Int} : ∀ {kvs : List (Key × V)} {B : Blk}, Bk F kvs B → (lookB B n = none ∧ valV kvs (Sum.inl n : Key) = none) ∨ ∃ v c, lookB B n = some c ∧ valV kvs (Sum.inl n : Key) = some v ∧ Ct F v c
  | _, _, .nil => .inl ⟨rfl, rfl⟩
  | (k, v) :: kr, (m, c) :: br, .cons q t => by
    have e : k = Sum.inl m := q.1
    subst e
    by_cases e : m = n
    · subst e
      refine .inr ⟨v, c, ?_, ?_, q.2⟩
      · unfold lookB; rw [List.find?_cons, decide_eq_true rfl]; rfl
      · unfold valV; rw [List.find?_cons, decide_eq_true rfl]; rfl
    · have ih := Bk.val (n := n) t
      have e1 : lookB ((m, c) :: br) n = lookB br n := by unfold lookB; rw [List.find?_cons, decide_eq_false e]
      have e2 : valV ((Sum.inl m, v) :: kr) (Sum.inl n : Key) = valV kr (Sum.inl n : Key) := by unfold valV; rw [List.find?_cons, decide_eq_false (fun z => e (Sum.inl.inj z))]
      rw [e1, e2]
      exact ih
theorem putK_len {F : Hp} {kvs : List (Key × V)} {B : Blk} (h : Bk F kvs B) : kvs.length = B.length := Paired.length h
end D67

set_option maxRecDepth 100000
set_option maxHeartbeats 4000000
namespace D67
open PySem L2 Kit
section
variable {P : Program} {w : World} {K : PySem.W.Frag} {mg : Str → Option Value} {base : Heap}
abbrev N_Disk_whole : List Str := ["self", "number"]
theorem sc_Disk_whole : FnScope N_Disk_whole ["self", "number"] (defScope s_Disk_whole) := ⟨rfl, rfl, rfl, by decide +kernel, rfl, by decide +kernel, by decide +kernel⟩
def spWhole (C : Addr) : Sp := fun vs H Q _ => ∃ (F : Hp) (p d wl : Addr) (S : DS) (n : Int), vs = [.ref p, .int n] ∧ DiskAt C F H p d wl S ∧
  ∀ q H', Same H H' → H q = none → H' q = some (.lst ((wholeB S.B n).map .int)) → Q (.ref q) H'
theorem zeros_flat : (List.replicate (64 : Int).toNat [V.int 0]).flatten = zeros.map V.int := rep_flat 64 0
theorem ok_Disk_whole (T : Txt K mg) : FnOk P w K mg base CX0 1 T.f_Disk_whole T.fd_Disk_whole ["self", "number"] (spWhole T.C) := by
  refine T.F_Disk_whole.ok sc_Disk_whole (fun vs H Q E h => ?_) (fun cdv A outer s H vs Q E hr h => ?_)
  · obtain ⟨F, p, d, wl, S, n, rfl, _⟩ := h
    rfl
  · obtain ⟨F, p, d, wl, S, n, rfl, D, k⟩ := h
    have hu := hu_of hr
    obtain ⟨dx, ks, hp, hk⟩ := D.ob
    obtain ⟨kvs, hd, hB⟩ := D.dc
    refine ⟨_, (pss_one (ps_ret (pe_callTy call_list_of (by rfl) T.n_list (by decide +kernel) (pa_cons (pe_dget2 hu (pe_fld (pv 0) rfl) (pv 1) (pe_op op_rep (pe_lst (pa_cons pe_int pa_nil)) (pe_glob (v := .int 64) rfl T.mg_BLOCK ⟨_, rfl⟩)) ⟨rfl, rfl, rfl, rfl⟩) pa_nil)))), ?_⟩
    refine ⟨_, rfl, p, T.C, dx, _, _, rfl, hp, T.cl, T.nb, fl_blocks _ _ _ _ _, d, rfl, .inl ⟨_, .inl hd⟩, _, rfl, (by decide), fun l hl => ?_⟩
    refine ⟨l, 64, _, rfl, rfl, upd_same, by decide, by decide, by decide, fun q hq => ?_⟩
    have hl0 : H l = none := hl
    have hq0 : H q = none := fr hq
    refine ⟨valV kvs (Sum.inl n), .inl ⟨kvs, Sum.inl n, .inl (un (un hd hl0) hq), rfl, rfl⟩, ?_⟩
    have s2 : Same H (upd (upd H l (.lst [.int 0])) q (.lst (zeros.map V.int))) := (sup hl0).trans (sup hq)
    rw [zeros_flat]
    rcases Bk.val (n := n) hB with ⟨e1, e2⟩ | ⟨v, c, e1, e2, a, rfl, ha⟩
    · rw [e2]
      refine ⟨q, _, rfl, .inl (SqL.of upd_same), fun r hr => ?_⟩
      refine k r _ (s2.trans (sup hr)) (fr (fr hr)) (Eq.trans upd_same ?_)
      unfold wholeB; rw [e1]; rfl
    · rw [e2]
      refine ⟨a, _, rfl, .inl (SqL.of (s2 _ _ (D.same _ _ ha))), fun r hr => ?_⟩
      refine k r _ (s2.trans (sup hr)) (fr (fr hr)) (Eq.trans upd_same ?_)
      unfold wholeB; rw [e1]; rfl
end
end D67

set_option maxRecDepth 100000
set_option maxHeartbeats 4000000
namespace D67
open PySem L2 Kit
section
variable {P : Program} {w : World} {K : PySem.W.Frag} {mg : Str → Option Value} {base : Heap}
theorem sc_Disk_read : FnScope ["self", "number", "found", "at", "content"] ["self", "number"] (defScope s_Disk_read) := ⟨rfl, rfl, rfl, by decide +kernel, rfl, by decide +kernel, by decide +kernel⟩
def spRead (C : Addr) : Sp := fun vs H Q _ => ∃ (F : Hp) (p d wl : Addr) (S : DS) (n : Int), vs = [.ref p, .int n] ∧ DiskAt C F H p d wl S ∧
  ∀ q H', Same H H' → H q = none → H' q = some (.lst ((readB S.B S.W n).map .int)) → Q (.ref q) H'
theorem DiskAt.mono {C : Addr} {F H H' : Hp} {p d wl : Addr} {S : DS} (D : DiskAt C F H p d wl S) (s : Same H H') : DiskAt C F H' p d wl S :=
  ⟨D.same.trans s, D.fp, D.fd, D.fw, let ⟨dx, ks, h1, h2⟩ := D.ob; ⟨dx, ks, s _ _ h1, h2⟩, let ⟨kvs, h1, h2⟩ := D.dc; ⟨kvs, s _ _ h1, h2⟩, let ⟨xs, h1, h2⟩ := D.wt; ⟨xs, s _ _ h1, h2⟩⟩
theorem ok_Disk_read (T : Txt K mg) : FnOk P w K mg base CX0 2 T.f_Disk_read T.fd_Disk_read ["self", "number"] (spRead T.C) := by
  refine T.F_Disk_read.ok sc_Disk_read (fun vs H Q E h => ?_) (fun cdv A outer s H vs Q E hr h => ?_)
  · obtain ⟨F, p, d, wl, S, n, rfl, _⟩ := h
    rfl
  · obtain ⟨F, p, d, wl, S, n, rfl, D, k⟩ := h
    have hu := hu_of hr
    obtain ⟨dx, ks, hp, hk⟩ := D.ob
    obtain ⟨xs, hw, hW⟩ := D.wt
    refine ⟨_, (pss_cons (ps_set (i := 2) sc_Disk_read.nd rfl (Or.inl rfl) (pe_meth (pv 0) T.cl T.m_Disk_whole (ok_Disk_whole T) (hr.mono (by decide)) T.b_Disk_whole .nil pass0 (pa_cons (pv 1) pa_nil)))
    (pss_cons (ps_for PassesOwn.never rfl (pi_list (pe_fld (pv 0) rfl)) (pg_tup rfl (pgs_cons (pg_name (i := 3) sc_Disk_read.nd rfl (Or.inl rfl)) (pgs_cons (pg_name (i := 4) sc_Disk_read.nd rfl (Or.inl rfl)) pgs_nil)))
      (pss_one (ps_set (i := 2) sc_Disk_read.nd rfl (Or.inl rfl) (pe_ifExp (pt_cmpR op_eq (pv 3) (pv 1) (nomark _)) (pe_callTy call_list_of (by rfl) T.n_list (by decide +kernel) (pa_cons (pv 4) pa_nil)) (pv 2)))))
    (pss_one (ps_ret (pv 2))))), ?_⟩
    refine ⟨_, rfl, p, dx, _, rfl, hp, fl_no_whole _ _ _ _ _, _, rfl, F, p, d, wl, S, n, rfl, D, fun q H1 s1 hq h1 => ?_⟩
    refine ⟨_, rfl, p, T.C, dx, _, _, rfl, s1 _ _ hp, T.cl, T.nw, fl_waiting _ _ _ _ _, wl, rfl, ⟨xs, SqL.of (s1 _ _ hw)⟩, for_list (K := K) (a := wl) (xs := xs)
      (fun i σ H2 => ∃ (q : Addr) (v1 v2 : Option V), σ = [some (.ref p), some (.int n), some (.ref q), v1, v2] ∧ Same H H2 ∧ H q = none ∧ H2 q = some (.lst ((readN S.B S.W n i).map .int)))
      ⟨q, none, none, rfl, s1, hq, h1⟩ (fun i σ H2 _ ⟨_, _, _, _, s2, _⟩ => SqL.of (s2 _ _ hw)) ?_ ?_⟩
    · rintro i x σ H2 hi ⟨q, v1, v2, rfl, s2, hq, h2⟩
      obtain ⟨b, hb, t, v, rfl, ht, a, rfl, ha⟩ := Paired.at hW hi
      refine ⟨t, _, rfl, SqT.of (s2 _ _ (D.same _ _ ht)), rfl, _, _, rfl, _, _, rfl, rfl, ?_⟩
      have e : readN S.B S.W n (i + 1) = if b.1 = n then b.2 else readN S.B S.W n i := by
        conv => lhs; unfold readN
        rw [hb]
      refine ⟨_, rfl, _, rfl, rfl, _, rfl, ite2 (fun he => ?_) (fun he => ?_)⟩
      · have he : b.1 = n := by simpa using he
        refine ⟨_, rfl, a, _, rfl, .inl (SqL.of (s2 _ _ (D.same _ _ ha))), fun r hr => ?_⟩
        refine ⟨r, _, _, rfl, Same.un s2 hr, free_of s2 hr, ?_⟩
        rw [e, if_pos he]
        exact upd_same
      · have he : ¬ b.1 = n := by simpa using he
        refine ⟨_, rfl, q, _, _, rfl, s2, hq, ?_⟩
        rw [e, if_neg he]
        exact h2
    · rintro σ H2 ⟨q, v1, v2, rfl, s2, hq, h2⟩
      refine ⟨_, rfl, k q H2 s2 hq ?_⟩
      unfold readB
      rw [← Paired.len hW]
      exact h2
theorem sc_Disk_cut_in : FnScope ["self", "many", "kept"] ["self", "many", "kept"] (defScope s_Disk_cut_in) := ⟨rfl, rfl, rfl, by decide +kernel, rfl, by decide +kernel, by decide +kernel⟩
/-- what a word of the disk changes: itself, its dict, its list of waiting rows -/
structure Moved (F H F' H' : Hp) (p d wl wl' : Addr) : Prop where
  grow : Same F F'
  old : ∀ a, H a ≠ none → F' a = F a
  own : wl' = wl ∨ H wl' = none
  keep : ∀ a o, H a = some o → a ≠ p → a ≠ d → a ≠ wl → H' a = some o
structure Mvd (F H F' H' : Hp) (p d wl wl' : Addr) : Prop extends Moved F H F' H' p d wl wl' where
  there : ∀ a, H a ≠ none → H' a ≠ none
def spCutIn (C : Addr) : Sp := fun vs H Q _ => ∃ (F : Hp) (p d wl ks : Addr) (S : DS) (n : Int) (kept : List Int), vs = [.ref p, .int n, .ref ks] ∧ DiskAt C F H p d wl S ∧ H ks = some (.lst (kept.map .int)) ∧
  ∀ F' H', Mvd F H F' H' p d wl wl → DiskAt C F' H' p d wl { S with left := some n, kept := kept } → Q .non H'
theorem ok_Disk_cut_in (T : Txt K mg) : FnOk P w K mg base CX0 1 T.f_Disk_cut_in T.fd_Disk_cut_in ["self", "many", "kept"] (spCutIn T.C) := by
  refine T.F_Disk_cut_in.ok sc_Disk_cut_in (fun vs H Q E h => ?_) (fun cdv A outer s H vs Q E hr h => ?_)
  · obtain ⟨F, p, d, wl, ks, S, n, kept, rfl, _⟩ := h
    rfl
  · obtain ⟨F, p, d, wl, ks, S, n, kept, rfl, D, hks, k⟩ := h
    have hu := hu_of hr
    obtain ⟨dx, ks0, hp, hk0⟩ := D.ob
    obtain ⟨kvs, hd, hB⟩ := D.dc
    obtain ⟨xs, hw, hW⟩ := D.wt
    refine ⟨_, (pss_cons (ps_fld (pv 0) (pv 1) rfl)
    (pss_one (ps_fld (pv 0) (pe_callTy call_list_of (by rfl) T.n_list (by decide +kernel) (pa_cons (pv 2) pa_nil)) rfl))), ?_⟩
    refine ⟨_, rfl, _, rfl, p, T.C, dx, _, rfl, hp, T.cl, T.nl, (by show 5 < 1000; decide), ?_⟩
    have nkp : ks ≠ p := ne_of hks hp (by intro z; cases z)
    have ndp : d ≠ p := ne_of hd hp (by intro z; cases z)
    have nwp : wl ≠ p := ne_of hw hp (by intro z; cases z)
    refine ⟨_, rfl, ks, _, rfl, .inl (SqL.of (by rw [upd_ne nkp]; exact hks)), fun r hr => ?_⟩
    have hr0 := fr hr
    have npr : p ≠ r := ne_of_none hp hr0
    refine ⟨_, rfl, p, T.C, dx, _, rfl, by rw [upd_ne npr, upd_same], T.cl, T.nk, (by rw [pf_left]; show 5 < 1000; decide), ?_⟩
    have ep : putF "kept" (V.ref r) (putF "left" (V.int n) (flds d wl (optV S.left) ks0 S.cut)) = flds d wl (.int n) r S.cut := by rw [pf_left, pf_kept]
    rw [ep]
    have g : ∀ a o, H a = some o → a ≠ p → upd (upd (upd H p (.ins T.C dx (putF "left" (V.int n) (flds d wl (optV S.left) ks0 S.cut)))) r (.lst (kept.map .int))) p (.ins T.C dx (flds d wl (.int n) r S.cut)) a = some o := fun a o e hne => by
      rw [upd_ne hne, upd_ne (ne_of_none e hr0), upd_ne hne]; exact e
    have fs : ∀ a o, F a = some o → upd (upd (upd H p (.ins T.C dx (putF "left" (V.int n) (flds d wl (optV S.left) ks0 S.cut)))) r (.lst (kept.map .int))) p (.ins T.C dx (flds d wl (.int n) r S.cut)) a = some o := fun a o e =>
      g a o (D.same a o e) fun z => by rw [z, D.fp] at e; cases e
    have hF := fz_ge (H' := upd (upd (upd H p (.ins T.C dx (putF "left" (V.int n) (flds d wl (optV S.left) ks0 S.cut)))) r (.lst (kept.map .int))) p (.ins T.C dx (flds d wl (.int n) r S.cut))) (M := []) D.same
    refine k (fz F H _ []) _ ⟨⟨hF, fun a ha => fz_old ha, .inl rfl, fun a o e h1 _ _ => g a o e h1⟩, fun a h => (by
      by_cases e : a = p
      · rw [e, upd_same]; simp
      · cases q : H a with
        | none => exact absurd q h
        | some o => rw [g a o q e]; simp)⟩ ⟨fz_le fs, ?_, ?_, ?_, ⟨dx, r, upd_same, ?_⟩, ⟨kvs, g _ _ hd ndp, hB.mono hF⟩, ⟨xs, g _ _ hw nwp, hW.mono hF⟩⟩
    · rw [fz_old (by rw [hp]; simp)]; exact D.fp
    · rw [fz_old (by rw [hd]; simp)]; exact D.fd
    · rw [fz_old (by rw [hw]; simp)]; exact D.fw
    · rw [fz_new hr0 (by simp), upd_ne npr.symm, upd_same]
end
end D67

set_option maxRecDepth 100000
set_option maxHeartbeats 4000000
namespace D67
open PySem L2 Kit
section
variable {P : Program} {w : World} {K : PySem.W.Frag} {mg : Str → Option Value} {base : Heap}
theorem cut_to {c : List Int} {s : Int} (h0 : 0 ≤ s) : cutV (c.map V.int) none (some s) = (c.take s.toNat).map V.int := by
  unfold cutV HT.sIx
  simp only [List.length_map]
  rw [if_neg (by omega), List.drop_zero, Nat.sub_zero, List.map_take]
  rcases Nat.le_total s.toNat c.length with h | h
  · rw [Nat.min_eq_left h]
  · rw [Nat.min_eq_right h, List.take_of_length_le (by simp), List.take_of_length_le (by simpa using h)]
theorem cut_from {c : List Int} {s : Int} (h0 : 0 ≤ s) : cutV (c.map V.int) (some s) none = (c.drop s.toNat).map V.int := by
  unfold cutV HT.sIx
  simp only [List.length_map]
  rw [if_neg (by omega), List.map_drop]
  rcases Nat.le_total s.toNat c.length with h | h
  · rw [Nat.min_eq_left h, List.take_of_length_le (by simp)]
  · rw [Nat.min_eq_right h, List.drop_of_length_le (by simp), List.drop_of_length_le (by simpa using h)]; simp
theorem Mvd.trans {F H F1 H1 F2 H2 : Hp} {p d wl wl1 wl2 : Addr} (a : Mvd F H F1 H1 p d wl wl1) (b : Mvd F1 H1 F2 H2 p d wl1 wl2) : Mvd F H F2 H2 p d wl wl2 := by
  refine ⟨⟨a.grow.trans b.grow, fun x h => (b.old x (a.there x h)).trans (a.old x h), ?_, fun x o e h1 h2 h3 => b.keep x o (a.keep x o e h1 h2 h3) h1 h2 ?_⟩, fun x h => b.there x (a.there x h)⟩
  · rcases b.own with e | e
    · rw [e]; exact a.own
    · refine .inr ?_
      cases q : H wl2 with
      | none => rfl
      | some o => exact absurd e (a.there wl2 (by rw [q]; simp))
  · rcases a.own with z | z
    · rw [z]; exact h3
    · exact ne_of_none e z
theorem Mvd.refl {F H : Hp} {p d wl : Addr} : Mvd F H F H p d wl wl := ⟨⟨Same.refl _, fun _ _ => rfl, .inl rfl, fun _ _ e _ _ _ => e⟩, fun _ h => h⟩
theorem mvd_mk {C : Addr} {F H H' : Hp} {p d wl wl' : Addr} {S : DS} {M : List Addr} (D : DiskAt C F H p d wl S) (g : ∀ a o, H a = some o → a ≠ p → a ≠ d → a ≠ wl → H' a = some o) (t : ∀ a, H a ≠ none → H' a ≠ none)
    (own : wl' = wl ∨ (H wl' = none ∧ wl' ∈ M)) : Mvd F H (fz F H H' M) H' p d wl wl' ∧ Same (fz F H H' M) H' ∧ fz F H H' M p = none ∧ fz F H H' M d = none ∧ fz F H H' M wl' = none := by
  obtain ⟨dx, ks, hp, _⟩ := D.ob
  obtain ⟨kvs, hd, _⟩ := D.dc
  obtain ⟨xs, hw, _⟩ := D.wt
  refine ⟨⟨⟨fz_ge D.same, fun a h => fz_old h, own.imp id (·.1), g⟩, t⟩, fz_le fun a o e => ?_, ?_, ?_, ?_⟩
  · refine g a o (D.same a o e) (fun z => ?_) (fun z => ?_) fun z => ?_
    · rw [z, D.fp] at e; cases e
    · rw [z, D.fd] at e; cases e
    · rw [z, D.fw] at e; cases e
  · rw [fz_old (by rw [hp]; simp)]; exact D.fp
  · rw [fz_old (by rw [hd]; simp)]; exact D.fd
  · rcases own with rfl | ⟨h1, h2⟩
    · rw [fz_old (by rw [hw]; simp)]; exact D.fw
    · exact fz_out h1 h2
theorem disk_put {C : Addr} {F H H1 : Hp} {p d wl : Addr} {S : DS} {n : Int} {v : V} {c : List Int} {kvs : List (Key × V)} (D : DiskAt C F H p d wl S) (hd : H d = some (.dK kvs)) (hB : Bk F kvs S.B) (s : Same H H1) (hv : Ct (fz F H H1 []) v c) :
    ∃ F2, DiskAt C F2 (upd H1 d (.dK (putK kvs (Sum.inl n : Key) v))) p d wl { S with B := putB S.B n c } ∧ Mvd F H F2 (upd H1 d (.dK (putK kvs (Sum.inl n : Key) v))) p d wl wl := by
  obtain ⟨dx, ks, hp, hk⟩ := D.ob
  obtain ⟨xs, hw, hW⟩ := D.wt
  have npd : p ≠ d := ne_of hp hd (by intro z; cases z)
  have nwd : wl ≠ d := ne_of hw hd (by intro z; cases z)
  obtain ⟨m, le, f1, f2, f3⟩ := mvd_mk (M := []) (H' := upd H1 d (.dK (putK kvs (Sum.inl n : Key) v))) (wl' := wl) D (fun a o e h1 h2 h3 => by rw [upd_ne h2]; exact s a o e) (fun a h => by
    by_cases e : a = d
    · rw [e, upd_same]; simp
    · rw [upd_ne e]
      cases q : H a with
      | none => exact absurd q h
      | some o => rw [s a o q]; simp) (.inl rfl)
  have ef : Same (fz F H H1 []) (fz F H (upd H1 d (.dK (putK kvs (Sum.inl n : Key) v))) []) := fun a o e => by
    cases q : H a with
    | some u => rw [fz_old (by rw [q]; simp)] at e ⊢; exact e
    | none =>
      rw [fz_new q (by simp)] at e ⊢
      rw [upd_ne (ne_of_none hd q).symm]; exact e
  have hF := m.grow
  exact ⟨_, ⟨le, f1, f2, f3, ⟨dx, ks, by rw [upd_ne npd]; exact s _ _ hp, hF _ _ hk⟩, ⟨_, upd_same, (hB.mono hF).put (hv.mono ef)⟩, ⟨xs, by rw [upd_ne nwd]; exact s _ _ hw, hW.mono hF⟩⟩, m⟩
/-- self.waiting = [] -/
theorem disk_empty {C : Addr} {F H : Hp} {p d wl l dx ks : Addr} {S : DS} (D : DiskAt C F H p d wl S) (hp : H p = some (.ins C dx (flds d wl (optV S.left) ks S.cut))) (hk : F ks = some (.lst (S.kept.map .int))) (hl : H l = none) :
    ∃ F2, DiskAt C F2 (upd (upd H l (.lst [])) p (.ins C dx (putF "waiting" (.ref l) (flds d wl (optV S.left) ks S.cut)))) p d l { S with W := [] } ∧ Mvd F H F2 (upd (upd H l (.lst [])) p (.ins C dx (putF "waiting" (.ref l) (flds d wl (optV S.left) ks S.cut)))) p d wl l := by
  obtain ⟨kvs, hd, hB⟩ := D.dc
  have ndp : d ≠ p := ne_of hd hp (by intro z; cases z)
  have nlp : l ≠ p := (ne_of_none hp hl).symm
  obtain ⟨m, le, f1, f2, f3⟩ := mvd_mk (M := [l]) (H' := upd (upd H l (.lst [])) p (.ins C dx (putF "waiting" (.ref l) (flds d wl (optV S.left) ks S.cut)))) (wl' := l) D (fun a o e h1 h2 h3 => by rw [upd_ne h1]; exact un e hl) (fun a h => by
    by_cases e : a = p
    · rw [e, upd_same]; simp
    · rw [upd_ne e]
      cases q : H a with
      | none => exact absurd q h
      | some o => rw [un q hl]; simp) (.inr ⟨hl, List.mem_singleton.mpr rfl⟩)
  have hF := m.grow
  exact ⟨_, ⟨le, f1, f2, f3, ⟨dx, ks, by rw [upd_same, pf_waiting], hF _ _ hk⟩, ⟨kvs, by rw [upd_ne ndp]; exact un hd hl, hB.mono hF⟩, ⟨[], by rw [upd_ne nlp, upd_same], .nil⟩⟩, m⟩
end
end D67

set_option maxRecDepth 100000
set_option maxHeartbeats 4000000
namespace D67
open PySem L2 Kit
section
variable {P : Program} {w : World} {K : PySem.W.Frag} {mg : Str → Option Value} {base : Heap}
theorem sc_Disk_crash : FnScope ["self", "kept", "at", "number", "content", "size"] ["self", "kept"] (defScope s_Disk_crash) := ⟨rfl, rfl, rfl, by decide +kernel, rfl, by decide +kernel, by decide +kernel⟩
def spCrash (C : Addr) : Sp := fun vs H Q _ => ∃ (F : Hp) (p d wl ks : Addr) (S : DS) (kept : List Int), vs = [.ref p, .ref ks] ∧ DiskAt C F H p d wl S ∧ H ks = some (.lst (kept.map .int)) ∧ ks ≠ wl ∧ Good S.B ∧ Good S.W ∧ Keys S.B ∧ S.B.length + S.W.length ≤ 63 ∧
  ∀ F' H' wl', Mvd F H F' H' p d wl wl' → DiskAt C F' H' p d wl' { S with B := crashB S.B S.W kept, W := [] } → Q .non H'
theorem ok_Disk_crash (T : Txt K mg) : FnOk P w K mg base CX0 2 T.f_Disk_crash T.fd_Disk_crash ["self", "kept"] (spCrash T.C) := by
  refine T.F_Disk_crash.ok sc_Disk_crash (fun vs H Q E h => ?_) (fun cdv A outer s H vs Q E hr h => ?_)
  · obtain ⟨F, p, d, wl, ks, S, kept, rfl, _⟩ := h
    rfl
  · obtain ⟨F, p, d, wl, ks, S, kept, rfl, D, hks, nkw, gB, gW, kB, hlen, k⟩ := h
    have hu := hu_of hr
    obtain ⟨dx, ks0, hp, hk0⟩ := D.ob
    obtain ⟨kvs0, hd0, _⟩ := D.dc
    obtain ⟨xs, hw, hW⟩ := D.wt
    have nkp : ks ≠ p := ne_of hks hp (by intro z; cases z)
    have nkd : ks ≠ d := ne_of hks hd0 (by intro z; cases z)
    refine ⟨_, (pss_cons (ps_for PassesOwn.never rfl (pi_enum (by rfl) T.n_enumerate (pa_cons (pe_fld (pv 0) rfl) pa_nil)) (pg_tup rfl (pgs_cons (pg_name (i := 2) sc_Disk_crash.nd rfl (Or.inl rfl)) (pgs_cons (pg_tup rfl (pgs_cons (pg_name (i := 3) sc_Disk_crash.nd rfl (Or.inl rfl)) (pgs_cons (pg_name (i := 4) sc_Disk_crash.nd rfl (Or.inl rfl)) pgs_nil))) pgs_nil)))
      (pss_cons (ps_set (i := 5) sc_Disk_crash.nd rfl (Or.inl rfl) (pe_ifExp (pt_cmpR op_lt (pv 2) (pe_callB call_len_seq (by rfl) T.n_len (by decide +kernel) (pa_cons (pv 1) pa_nil)) (nomark _)) (pe_callB (call_min2 rfl) (by rfl) T.n_min (by decide +kernel) (pa_cons (pe_glob (v := .int 64) rfl T.mg_BLOCK ⟨_, rfl⟩) (pa_cons (pe_callB (call_max2 rfl) (by rfl) T.n_max (by decide +kernel) (pa_cons pe_int (pa_cons (pe_ix ix_list (pv 1) (pv 2) (fun _ _ => rfl)) pa_nil))) pa_nil))) pe_int))
      (pss_one (ps_dput hu (pe_fld (pv 0) rfl) (pv 3) (pe_op op_cat (pe_slice sl_list (pv 4) po_none (po_some (pv 5))) (pe_slice sl_list (pe_meth (pv 0) T.cl T.m_Disk_whole (ok_Disk_whole T) (hr.mono (by decide)) T.b_Disk_whole .nil pass0 (pa_cons (pv 3) pa_nil)) (po_some (pv 5)) po_none)) rfl))))
    (pss_one (ps_fld (pv 0) (pe_lst pa_nil) rfl))), ?_⟩
    refine ⟨_, rfl, p, T.C, dx, _, _, rfl, hp, T.cl, T.nw, fl_waiting _ _ _ _ _, wl, xs, rfl, SqL.of hw, ?_⟩
    refine for_it (walk_enum (K := K) (a := wl) (xs := xs)) (fun i σ H2 => ∃ (F2 : Hp) (v2 v3 v4 v5 : Option V), σ = [some (.ref p), some (.ref ks), v2, v3, v4, v5] ∧ H2 p = some (.ins T.C dx (flds d wl (optV S.left) ks0 S.cut)) ∧ H2 wl = some (.lst xs) ∧ H2 ks = some (.lst (kept.map .int)) ∧
        DiskAt T.C F2 H2 p d wl { S with B := crashN S.B S.W kept i } ∧ Mvd F H F2 H2 p d wl wl) ⟨F, none, none, none, none, rfl, hp, hw, hks, D, Mvd.refl⟩ (fun i σ H2 _ ⟨_, _, _, _, _, _, _, h2, _⟩ => SqL.of h2) ?_ ?_
    · rintro i x σ H2 H3 hi ⟨F2, v2, v3, v4, v5, rfl, hp2, hw2, hks2, D2, M2⟩ ⟨t0, x0, x1, rfl, ht0, rfl, e0, e1⟩
      cases e0
      obtain ⟨⟨n, c⟩, hb, t, v, rfl, ht, a, rfl, ha⟩ := Paired.at hW e1
      have ht2 := M2.grow _ _ ht
      have ha2 := M2.grow _ _ ha
      have htH := D2.same _ _ ht2
      have haH := D2.same _ _ ha2
      refine ⟨t0, _, rfl, SqT.of upd_same, rfl, _, _, rfl, _, _, rfl, ⟨t, _, rfl, SqT.of (un htH ht0), rfl, _, _, rfl, _, _, rfl, rfl, rfl, ?_⟩⟩
      -- size
      have hgB := (crashN_ok (kept := kept) gB gW kB i)
      have hc : c.length = 64 := gW _ (List.mem_of_getElem? hb)
      have hsz : ∀ z, z = sizeB kept i → True := fun _ _ => trivial
      have hs := sizeB_le kept i
      have hil : i < S.W.length := (List.getElem?_eq_some_iff.mp hb).1
      have hstep : crashN S.B S.W kept (i + 1) = putB (crashN S.B S.W kept i) n (mixC (sizeB kept i) c (wholeB (crashN S.B S.W kept i) n)) := by
        conv => lhs; unfold crashN
        rw [hb]
      refine via_set (.int (sizeB kept i)) (H1 := upd H2 t0 (.tup [.int i, .ref t])) (fun Q2 hq => ?_) ?_
      · refine ⟨_, rfl, _, rfl, ks, _, rfl, .inl (SqL.of (un hks2 ht0)), _, _, rfl, rfl, _, rfl, ite2 (fun he => ?_) (fun he => ?_)⟩
        · have he : i < kept.length := by simpa using he
          have eg : kept[i]? = some kept[i] := List.getElem?_eq_getElem he
          refine ⟨_, rfl, _, rfl, ks, _, _, .int kept[i], rfl, rfl, SqL.of (un hks2 ht0), atI_nat (by rw [List.getElem?_map, eg]; rfl), _, _, rfl, _, _, rfl, ?_⟩
          have e : sizeB kept i = (if (if kept[i] > 0 then kept[i] else 0) < 64 then (if kept[i] > 0 then kept[i] else 0) else 64) := by unfold sizeB; rw [eg]
          rw [e] at hq
          exact hq
        · have he : ¬ i < kept.length := by simpa using he
          have e : sizeB kept i = 0 := by unfold sizeB; rw [List.getElem?_eq_none (by omega)]
          rw [e] at hq
          exact hq
      -- self.blocks[number] = content[:size] + self.whole(number)[size:]
      have sT : Same H2 (upd H2 t0 (.tup [.int i, .ref t])) := sup ht0
      refine ⟨_, rfl, _, rfl, _, rfl, a, _, rfl, SqL.of (sT _ _ haH), fun q1 hq1 => ?_⟩
      have s1 := Same.un (u := .lst (cutV ((n, c).snd.map V.int) none (some (sizeB kept i)))) sT hq1
      refine ⟨_, rfl, p, dx, _, rfl, s1 _ _ hp2, fl_no_whole _ _ _ _ _, _, rfl, F2, p, d, wl, _, n, rfl, D2.mono s1, fun q2 H4 s2 hq2 h2 => ?_⟩
      have s3 := s1.trans s2
      refine ⟨_, rfl, _, rfl, q2, _, rfl, SqL.of h2, fun q3 hq3 => ?_⟩
      have s4 := Same.un (u := .lst (cutV ((wholeB (crashN S.B S.W kept i) n).map V.int) (some (sizeB kept i)) none)) s3 hq3
      have sq : sizeLine > 200 := by decide
      refine ⟨q1, q3, _, _, rfl, rfl, un (s2 _ _ upd_same) hq3, upd_same, ?_, fun q4 hq4 => ?_⟩
      · rw [cut_to hs.1, cut_from hs.1, List.length_map, List.length_map, List.length_take, List.length_drop, wholeB_len hgB.1]
        omega
      have s5 := Same.un (u := .lst (cutV ((n, c).snd.map V.int) none (some (sizeB kept i)) ++ cutV ((wholeB (crashN S.B S.W kept i) n).map V.int) (some (sizeB kept i)) none)) s4 hq4
      obtain ⟨kvs, hd2, hB2⟩ := D2.dc
      have hlen2 : kvs.length < sizeLine := by
        rw [putK_len hB2]
        show (crashN S.B S.W kept i).length < sizeLine
        have := hgB.2.2
        omega
      have hf4 : H2 q4 = none := free_of s4 hq4
      obtain ⟨F3, D3, M3⟩ := disk_put (n := n) (v := .ref q4) (c := mixC (sizeB kept i) c (wholeB (crashN S.B S.W kept i) n)) D2 hd2 hB2 s5 ⟨q4, rfl, by
        rw [fz_new hf4 (by simp), upd_same, cut_to hs.1, cut_from hs.1, ← List.map_append]
        rfl⟩
      refine ⟨_, rfl, p, T.C, dx, _, _, rfl, s5 _ _ hp2, T.cl, T.nb, fl_blocks _ _ _ _ _, _, rfl, d, _, rfl, DPut.k (k := Sum.inl n) (s5 _ _ hd2) hlen2, ?_⟩
      have nwd : wl ≠ d := ne_of hw hd0 (by intro z; cases z)
      have npd : p ≠ d := ne_of hp hd0 (by intro z; cases z)
      refine ⟨F3, _, _, _, _, rfl, by rw [upd_ne npd]; exact s5 _ _ hp2, by rw [upd_ne nwd]; exact s5 _ _ hw2, by rw [upd_ne nkd]; exact s5 _ _ hks2, ?_, M2.trans M3⟩
      rw [hstep]
      exact D3
    · rintro σ H2 ⟨F2, v2, v3, v4, v5, rfl, hp2, hw2, hks2, D2, M2⟩
      -- self.waiting = []
      refine ⟨by decide, fun l hl => ?_⟩
      have npl : p ≠ l := ne_of_none hp2 hl
      have hk2 : F2 ks0 = some (.lst (S.kept.map .int)) := M2.grow _ _ hk0
      obtain ⟨F3, D3, M3⟩ := disk_empty D2 hp2 hk2 hl
      refine ⟨_, rfl, p, T.C, dx, _, rfl, by rw [upd_ne npl]; exact hp2, T.cl, T.nw, (by show 5 < 1000; decide), ?_⟩
      refine k F3 _ l (M2.trans M3) ?_
      unfold crashB
      rw [← Paired.len hW]
      exact D3
end
end D67

set_option maxRecDepth 100000
set_option maxHeartbeats 4000000
namespace D67
open PySem L2 Kit
def countS (S : DS) : DS := match S.left with
  | none => S
  | some l => if S.cut = true then S else if l - 1 ≤ 0 then { S with B := crashB S.B S.W S.kept, W := [], left := some (l - 1), cut := true } else { S with left := some (l - 1) }
section
variable {P : Program} {w : World} {K : PySem.W.Frag} {mg : Str → Option Value} {base : Heap}
theorem disk_re {C : Addr} {F H : Hp} {p d wl dx ks : Addr} {S : DS} (D : DiskAt C F H p d wl S) (hp : H p = some (.ins C dx (flds d wl (optV S.left) ks S.cut))) (hk : F ks = some (.lst (S.kept.map .int))) (l : Option Int) (c : Bool) :
    DiskAt C F (upd H p (.ins C dx (flds d wl (optV l) ks c))) p d wl { S with left := l, cut := c } ∧ Mvd F H F (upd H p (.ins C dx (flds d wl (optV l) ks c))) p d wl wl := by
  obtain ⟨kvs, hd, hB⟩ := D.dc
  obtain ⟨xs, hw, hW⟩ := D.wt
  have ndp : d ≠ p := ne_of hd hp (by intro z; cases z)
  have nwp : wl ≠ p := ne_of hw hp (by intro z; cases z)
  have g : ∀ a o, H a = some o → a ≠ p → upd H p (.ins C dx (flds d wl (optV l) ks c)) a = some o := fun a o e h => by rw [upd_ne h]; exact e
  refine ⟨⟨fun a o e => g a o (D.same a o e) fun z => ?_, D.fp, D.fd, D.fw, ⟨dx, ks, upd_same, hk⟩, ⟨kvs, g _ _ hd ndp, hB⟩, ⟨xs, g _ _ hw nwp, hW⟩⟩, ⟨⟨Same.refl _, fun _ _ => rfl, .inl rfl, fun a o e h _ _ => g a o e h⟩, fun a h => ?_⟩⟩
  · rw [z, D.fp] at e; cases e
  · by_cases e : a = p
    · rw [e, upd_same]; simp
    · rw [upd_ne e]; exact h
theorem sc_Disk_counts : FnScope ["self"] ["self"] (defScope s_Disk_counts) := ⟨rfl, rfl, rfl, by decide +kernel, rfl, by decide +kernel, by decide +kernel⟩
structure SOk (S : DS) : Prop where
  gB : Good S.B
  gW : Good S.W
  kB : Keys S.B
  len : S.B.length + S.W.length ≤ 62
theorem countS_ok {S : DS} (h : SOk S) : SOk (countS S) := by
  unfold countS
  split
  · exact h
  · split
    · exact h
    · split
      · obtain ⟨h1, h2, h3⟩ := crashN_ok (kept := S.kept) h.gB h.gW h.kB S.W.length
        exact ⟨h1, fun b hb => (by cases hb), h2, by have := h.len; show (crashN S.B S.W S.kept S.W.length).length + 0 ≤ 62; omega⟩
      · exact ⟨h.gB, h.gW, h.kB, h.len⟩
def spCounts (C : Addr) : Sp := fun vs H Q _ => ∃ (F : Hp) (p d wl : Addr) (S : DS), vs = [.ref p] ∧ DiskAt C F H p d wl S ∧ SOk S ∧
  ∀ F' H' wl', Mvd F H F' H' p d wl wl' → DiskAt C F' H' p d wl' (countS S) → Q (.bl (!(countS S).cut)) H'
theorem ok_Disk_counts (T : Txt K mg) : FnOk P w K mg base CX0 3 T.f_Disk_counts T.fd_Disk_counts ["self"] (spCounts T.C) := by
  refine T.F_Disk_counts.ok sc_Disk_counts (fun vs H Q E h => ?_) (fun cdv A outer s H vs Q E hr h => ?_)
  · obtain ⟨F, p, d, wl, S, rfl, _⟩ := h
    rfl
  · obtain ⟨F, p, d, wl, S, rfl, D, ok, k⟩ := h
    have hu := hu_of hr
    obtain ⟨dx, ks, hp, hk⟩ := D.ob
    refine ⟨_, (pss_cons (ps_if (PW.pt (pw_and (pt_cmpR op_notN (pe_fld (pv 0) rfl) pe_non (nomark _)) (pw_and1 (pt_not (pt_val (pe_fld (pv 0) rfl))))))
      (pss_cons (ps_fld (pv 0) (pe_op op_sub (pe_fld (pv 0) rfl) pe_int) rfl)
      (pss_one (ps_if (pt_cmpR op_le (pe_fld (pv 0) rfl) pe_int (nomark _))
        (pss_cons (ps_expr (pe_meth (pv 0) T.cl T.m_Disk_crash (ok_Disk_crash T) (hr.mono (by decide)) T.b_Disk_crash .nil pass0 (pa_cons (pe_fld (pv 0) rfl) pa_nil)))
        (pss_one (ps_fld (pv 0) pe_bl rfl)))
        pss_nil)))
      pss_nil)
    (pss_one (ps_ret (pe_not (pe_fld (pv 0) rfl))))), ?_⟩
    -- what is told
    have fin : ∀ F' H' wl', Mvd F H F' H' p d wl wl' → DiskAt T.C F' H' p d wl' (countS S) → ((tNotV (tFld K (tVar 0) ("is_cut" : Str))) [some (V.ref p)] H' Q) := fun F' H' wl' m D' => by
      obtain ⟨dx', ks', hp', _⟩ := D'.ob
      exact ⟨_, rfl, p, T.C, dx', _, _, rfl, hp', T.cl, T.nc, fl_is_cut _ _ _ _ _, _, rfl, k F' H' wl' m D'⟩
    refine ⟨_, rfl, p, T.C, dx, _, _, rfl, hp, T.cl, T.nl, fl_left _ _ _ _ _, rfl, _, rfl, ?_⟩
    cases hl : S.left with
    | none =>
      refine iteF ?_
      refine iteF (fin F H wl Mvd.refl ?_)
      have e : countS S = S := by unfold countS; rw [hl]
      rw [e]; exact D
    | some l =>
      refine iteT ?_
      refine ⟨_, rfl, p, T.C, dx, _, _, rfl, hp, T.cl, T.nc, fl_is_cut _ _ _ _ _, _, rfl, ?_⟩
      cases hc : S.cut with
      | true =>
        refine iteF (fin F H wl Mvd.refl ?_)
        have e : countS S = S := by unfold countS; rw [hl]; exact if_pos hc
        rw [e]; exact D
      | false =>
        refine iteT ?_
        rw [hl, hc] at hp
        obtain ⟨D1, M1⟩ := disk_re D (by rw [hl, hc]; exact hp) hk (some (l - 1)) false
        refine ⟨_, rfl, p, T.C, dx, _, _, rfl, hp, T.cl, T.nl, fl_left _ _ _ _ _, _, _, rfl, rfl, _, rfl, p, T.C, dx, _, rfl, hp, T.cl, T.nl, (by show 5 < 1000; decide), ?_⟩
        rw [show putF "left" (V.int (l - 1)) (flds d wl (optV (some l)) ks false) = flds d wl (optV (some (l - 1))) ks false from pf_left _ _ _ _ _ _]
        refine ⟨_, rfl, p, T.C, dx, _, _, rfl, upd_same, T.cl, T.nl, fl_left _ _ _ _ _, _, _, rfl, rfl, _, rfl, ite2 (fun hle => ?_) (fun hle => ?_)⟩
        · have hle : l - 1 ≤ 0 := by simpa using hle
          have nkw : ks ≠ wl := fun z => by rw [z, D.fw] at hk; cases hk
          refine ⟨_, rfl, p, dx, _, rfl, upd_same, fl_no_crash _ _ _ _ _, ⟨_, rfl, p, T.C, dx, _, _, rfl, upd_same, T.cl, T.nk, fl_kept _ _ _ _ _, F, p, d, wl, ks, _, S.kept, rfl, D1, D1.same _ _ hk, nkw, ok.gB, ok.gW, ok.kB, (by have := ok.len; show S.B.length + S.W.length ≤ 63; omega), fun F2 H2 wl2 M2 D2 => ?_⟩⟩
          obtain ⟨dx2, ks2, hp2, hk2⟩ := D2.ob
          obtain ⟨D3, M3⟩ := disk_re D2 hp2 hk2 (some (l - 1)) true
          refine ⟨_, rfl, p, T.C, dx2, _, rfl, hp2, T.cl, T.nc, (by show 5 < 1000; decide), ?_⟩
          have e2 : putF "is_cut" (V.bl true) (flds d wl2 (optV (some (l - 1))) ks2 false) = flds d wl2 (optV (some (l - 1))) ks2 true := pf_is_cut _ _ _ _ _ _
          refine fin F2 _ wl2 ((M1.trans M2).trans M3) ?_
          show DiskAt T.C F2 (upd H2 p (.ins T.C dx2 (putF "is_cut" (V.bl true) (flds d wl2 (optV (some (l - 1))) ks2 false)))) p d wl2 (countS S)
          have e : countS S = { S with B := crashB S.B S.W S.kept, W := [], left := some (l - 1), cut := true } := by
            unfold countS; rw [hl]; show (if S.cut = true then _ else _) = _; rw [hc, if_neg (by decide)]; exact if_pos hle
          rw [e2, e]
          exact D3
        · have hle : ¬ l - 1 ≤ 0 := by simpa using hle
          refine fin F _ wl M1 ?_
          have e : countS S = { S with left := some (l - 1) } := by
            unfold countS; rw [hl]; show (if S.cut = true then _ else _) = _; rw [hc, if_neg (by decide)]; exact if_neg hle
          rw [e]
          rw [show ({ S with left := some (l - 1) } : DS) = { S with left := some (l - 1), cut := false } from by rw [← hc]]
          exact D1
end
end D67

set_option maxRecDepth 100000
set_option maxHeartbeats 4000000
namespace D67
open PySem L2 Kit
def writeS (S : DS) (n : Int) (c : List Int) : DS := if (countS S).cut = true then countS S else { countS S with W := (countS S).W ++ [(n, c)] }
def syncS (S : DS) : DS := if (countS S).cut = true then countS S else { countS S with B := syncB (countS S).B (countS S).W, W := [] }
section
variable {P : Program} {w : World} {K : PySem.W.Frag} {mg : Str → Option Value} {base : Heap}
theorem sc_Disk_write : FnScope ["self", "number", "content"] ["self", "number", "content"] (defScope s_Disk_write) := ⟨rfl, rfl, rfl, by decide +kernel, rfl, by decide +kernel, by decide +kernel⟩
def spWrite (C : Addr) : Sp := fun vs H Q _ => ∃ (F : Hp) (p d wl cl : Addr) (S : DS) (n : Int) (c : List Int), vs = [.ref p, .int n, .ref cl] ∧ DiskAt C F H p d wl S ∧ SOk S ∧ H cl = some (.lst (c.map .int)) ∧ cl ≠ wl ∧ c.length = 64 ∧
  ∀ F' H' wl', Mvd F H F' H' p d wl wl' → DiskAt C F' H' p d wl' (writeS S n c) → Q .non H'
theorem ok_Disk_write (T : Txt K mg) : FnOk P w K mg base CX0 4 T.f_Disk_write T.fd_Disk_write ["self", "number", "content"] (spWrite T.C) := by
  refine T.F_Disk_write.ok sc_Disk_write (fun vs H Q E h => ?_) (fun cdv A outer s H vs Q E hr h => ?_)
  · obtain ⟨F, p, d, wl, cl, S, n, c, rfl, _⟩ := h
    rfl
  · obtain ⟨F, p, d, wl, cl, S, n, c, rfl, D, ok, hcl, ncw, hc, k⟩ := h
    have hu := hu_of hr
    obtain ⟨dx, ks, hp, hk⟩ := D.ob
    obtain ⟨kvs, hd, _⟩ := D.dc
    have ncp : cl ≠ p := ne_of hcl hp (by intro z; cases z)
    have ncd : cl ≠ d := ne_of hcl hd (by intro z; cases z)
    refine ⟨_, (pss_one (ps_if (pt_val (pe_meth0 (pv 0) T.cl T.m_Disk_counts (ok_Disk_counts T) (hr.mono (by decide)) T.b_Disk_counts .nil pass0))
      (pss_one (ps_expr (pe_bm PySem.F.plainAttrs_list PySem.F.slot_list_append PySem.F.type_list_append mt_append (pe_fld (pv 0) rfl) (pa_cons (pe_tup (pa_cons (pv 1) (pa_cons (pe_callTy call_list_of (by rfl) T.n_list (by decide +kernel) (pa_cons (pv 2) pa_nil)) pa_nil))) pa_nil))))
      pss_nil)), ?_⟩
    refine ⟨_, rfl, p, dx, _, rfl, hp, fl_no_counts _ _ _ _ _, F, p, d, wl, S, rfl, D, ok, fun F1 H1 wl1 M1 D1 => ⟨_, rfl, ?_⟩⟩
    have ok1 := countS_ok ok
    cases hcut : (countS S).cut with
    | true =>
      refine iteF (k F1 H1 wl1 M1 ?_)
      unfold writeS; rw [if_pos hcut]; exact D1
    | false =>
      refine iteT ?_
      obtain ⟨dx1, ks1, hp1, hk1⟩ := D1.ob
      obtain ⟨kvs1, hd1, hB1⟩ := D1.dc
      obtain ⟨xs, hw1, hW1⟩ := D1.wt
      have hcl1 := M1.keep _ _ hcl ncp ncd ncw
      refine ⟨_, rfl, p, T.C, dx1, _, _, rfl, hp1, T.cl, T.nw, fl_waiting _ _ _ _ _, .inl ⟨rfl, _, SqL.of hw1⟩, _, rfl, _, rfl, cl, _, rfl, .inl (SqL.of hcl1), fun q hq => ⟨(by show 2 ≤ sizeLine; decide), fun t ht => ?_⟩⟩
      have s1 : Same H1 (upd (upd H1 q (.lst (c.map V.int))) t (.tup [.int n, .ref q])) := Same.un (sup hq) ht
      have nqt : q ≠ t := ne_of_none upd_same ht
      have hft : H1 t = none := fr ht
      have hxl : xs.length ≤ 62 := by rw [Paired.len hW1]; have := ok1.len; omega
      refine ⟨wl1, xs, _, rfl, rfl, s1 _ _ hw1, Nat.lt_of_le_of_lt hxl (by decide), ?_⟩
      have npw : p ≠ wl1 := ne_of hp1 hw1 (by intro z; cases z)
      have ndw : d ≠ wl1 := ne_of hd1 hw1 (by intro z; cases z)
      obtain ⟨m, le, f1, f2, f3⟩ := mvd_mk (M := []) (H' := upd (upd (upd H1 q (.lst (c.map V.int))) t (.tup [.int n, .ref q])) wl1 (.lst (xs ++ [.ref t]))) (wl' := wl1) D1 (fun a o e h1 h2 h3 => by rw [upd_ne h3]; exact s1 a o e) (fun a h => by
        by_cases e : a = wl1
        · rw [e, upd_same]; simp
        · rw [upd_ne e]
          cases q' : H1 a with
          | none => exact absurd q' h
          | some o => rw [s1 a o q']; simp) (.inl rfl)
      have nqw : q ≠ wl1 := (ne_of_none hw1 hq).symm
      have ntw : t ≠ wl1 := (ne_of_none hw1 hft).symm
      refine k _ _ wl1 (M1.trans m) ?_
      have e : writeS S n c = { countS S with W := (countS S).W ++ [(n, c)] } := by unfold writeS; rw [hcut]; exact if_neg (by decide)
      rw [e]
      refine ⟨le, f1, f2, f3, ⟨dx1, ks1, by rw [upd_ne npw]; exact s1 _ _ hp1, m.grow _ _ hk1⟩, ⟨kvs1, by rw [upd_ne ndw]; exact s1 _ _ hd1, hB1.mono m.grow⟩, ⟨_, upd_same, Paired.app (hW1.mono m.grow) ⟨t, .ref q, rfl, ?_, q, rfl, ?_⟩⟩⟩
      · rw [fz_new hft (by simp), upd_ne ntw, upd_same]
      · rw [fz_new hq (by simp), upd_ne nqw, upd_ne nqt, upd_same]
theorem sc_Disk_sync : FnScope ["self", "number", "content"] ["self"] (defScope s_Disk_sync) := ⟨rfl, rfl, rfl, by decide +kernel, rfl, by decide +kernel, by decide +kernel⟩
def spSync (C : Addr) : Sp := fun vs H Q _ => ∃ (F : Hp) (p d wl : Addr) (S : DS), vs = [.ref p] ∧ DiskAt C F H p d wl S ∧ SOk S ∧
  ∀ F' H' wl', Mvd F H F' H' p d wl wl' → DiskAt C F' H' p d wl' (syncS S) → Q .non H'
theorem ok_Disk_sync (T : Txt K mg) : FnOk P w K mg base CX0 4 T.f_Disk_sync T.fd_Disk_sync ["self"] (spSync T.C) := by
  refine T.F_Disk_sync.ok sc_Disk_sync (fun vs H Q E h => ?_) (fun cdv A outer s H vs Q E hr h => ?_)
  · obtain ⟨F, p, d, wl, S, rfl, _⟩ := h
    rfl
  · obtain ⟨F, p, d, wl, S, rfl, D, ok, k⟩ := h
    have hu := hu_of hr
    obtain ⟨dx, ks, hp, hk⟩ := D.ob
    refine ⟨_, (pss_one (ps_if (pt_val (pe_meth0 (pv 0) T.cl T.m_Disk_counts (ok_Disk_counts T) (hr.mono (by decide)) T.b_Disk_counts .nil pass0))
      (pss_cons (ps_for PassesOwn.never rfl (pi_list (pe_fld (pv 0) rfl)) (pg_tup rfl (pgs_cons (pg_name (i := 1) sc_Disk_sync.nd rfl (Or.inl rfl)) (pgs_cons (pg_name (i := 2) sc_Disk_sync.nd rfl (Or.inl rfl)) pgs_nil)))
        (pss_one (ps_dput hu (pe_fld (pv 0) rfl) (pv 1) (pv 2) rfl)))
      (pss_one (ps_fld (pv 0) (pe_lst pa_nil) rfl)))
      pss_nil)), ?_⟩
    refine ⟨_, rfl, p, dx, _, rfl, hp, fl_no_counts _ _ _ _ _, F, p, d, wl, S, rfl, D, ok, fun F1 H1 wl1 M1 D1 => ⟨_, rfl, ?_⟩⟩
    have ok1 := countS_ok ok
    cases hcut : (countS S).cut with
    | true =>
      refine iteF (k F1 H1 wl1 M1 ?_)
      unfold syncS; rw [if_pos hcut]; exact D1
    | false =>
      refine iteT ?_
      obtain ⟨dx1, ks1, hp1, hk1⟩ := D1.ob
      obtain ⟨kvs1, hd1, hB1⟩ := D1.dc
      obtain ⟨xs, hw1, hW1⟩ := D1.wt
      have nwd : wl1 ≠ d := ne_of hw1 hd1 (by intro z; cases z)
      have npd : p ≠ d := ne_of hp1 hd1 (by intro z; cases z)
      refine ⟨_, rfl, p, T.C, dx1, _, _, rfl, hp1, T.cl, T.nw, fl_waiting _ _ _ _ _, wl1, rfl, ⟨xs, SqL.of hw1⟩, for_list (K := K) (a := wl1) (xs := xs)
        (fun i σ H2 => ∃ (F2 : Hp) (v1 v2 : Option V), σ = [some (.ref p), v1, v2] ∧ H2 p = some (.ins T.C dx1 (flds d wl1 (optV (countS S).left) ks1 (countS S).cut)) ∧ H2 wl1 = some (.lst xs) ∧
          DiskAt T.C F2 H2 p d wl1 { countS S with B := syncN (countS S).B (countS S).W i } ∧ Mvd F1 H1 F2 H2 p d wl1 wl1)
        ⟨F1, none, none, rfl, hp1, hw1, D1, Mvd.refl⟩ (fun i σ H2 _ ⟨_, _, _, _, _, h2, _⟩ => SqL.of h2) ?_ ?_⟩
      · rintro i x σ H2 hi ⟨F2, v1, v2, rfl, hp2, hw2, D2, M2⟩
        obtain ⟨⟨n, c⟩, hb, t, v, rfl, ht, a, rfl, ha⟩ := Paired.at hW1 hi
        have ht2 := M2.grow _ _ ht
        have ha2 := M2.grow _ _ ha
        refine ⟨t, _, rfl, SqT.of (D2.same _ _ ht2), rfl, _, _, rfl, _, _, rfl, rfl, ?_⟩
        obtain ⟨kvs, hd2, hB2⟩ := D2.dc
        have hgB := syncN_ok ok1.gB ok1.gW ok1.kB i
        have hil : i < (countS S).W.length := (List.getElem?_eq_some_iff.mp hb).1
        have hlen2 : kvs.length < sizeLine := by
          rw [putK_len hB2]
          show (syncN (countS S).B (countS S).W i).length < sizeLine
          have := hgB.2.2
          have := ok1.len
          have sq : sizeLine > 200 := by decide
          omega
        obtain ⟨F3, D3, M3⟩ := disk_put (n := n) (v := .ref a) (c := c) D2 hd2 hB2 (Same.refl H2) ⟨a, rfl, fz_ge D2.same _ _ ha2⟩
        refine ⟨_, rfl, _, rfl, p, T.C, dx1, _, _, rfl, hp2, T.cl, T.nb, fl_blocks _ _ _ _ _, ?_⟩
        refine ⟨_, rfl, d, _, rfl, DPut.k (k := Sum.inl n) hd2 hlen2, ?_⟩
        refine ⟨F3, _, _, rfl, by rw [upd_ne npd]; exact hp2, by rw [upd_ne nwd]; exact hw2, ?_, M2.trans M3⟩
        have e : syncN (countS S).B (countS S).W (i + 1) = putB (syncN (countS S).B (countS S).W i) n c := by
          conv => lhs; unfold syncN
          rw [hb]
        rw [e]
        exact D3
      · rintro σ H2 ⟨F2, v1, v2, rfl, hp2, hw2, D2, M2⟩
        refine ⟨by decide, fun l hl => ?_⟩
        have npl : p ≠ l := ne_of_none hp2 hl
        have hk2 : F2 ks1 = some (.lst ((countS S).kept.map .int)) := M2.grow _ _ hk1
        obtain ⟨F3, D3, M3⟩ := disk_empty D2 hp2 hk2 hl
        refine ⟨_, rfl, p, T.C, dx1, _, rfl, by rw [upd_ne npl]; exact hp2, T.cl, T.nw, (by show 5 < 1000; decide), ?_⟩
        refine k F3 _ l (M1.trans (M2.trans M3)) ?_
        have e : syncS S = { countS S with B := syncB (countS S).B (countS S).W, W := [] } := by unfold syncS; rw [hcut]; exact if_neg (by decide)
        rw [e]
        unfold syncB
        rw [← Paired.len hW1]
        exact D3
end
end D67

set_option maxRecDepth 100000
set_option maxHeartbeats 4000000
namespace D67
open PySem L2 Kit
section
variable {P : Program} {w : World} {K : PySem.W.Frag} {mg : Str → Option Value} {base : Heap}
theorem dp_ints {H : Hp} : ∀ (c : List Int), DpAll K H (c.map V.int) (c.map PyData.int)
  | [] => .nil
  | i :: r => .cons (.int i) (dp_ints r)
theorem dp_list {H : Hp} {a : Addr} {c : List Int} (h : H a = some (.lst (c.map .int))) : Dp K H (.ref a) (dl c) := .lst (SqL.of h) (dp_ints c)
/-- rows that were made anew: tuples of a number and a list -/
def Rw (H H' : Hp) : List V → Blk → Prop := Paired fun (x : V) b => ∃ t a, x = .ref t ∧ H t = none ∧ H' t = some (.tup [.int b.1, .ref a]) ∧ H a = none ∧ H' a = some (.lst (b.2.map .int))
theorem Rw.mono {H H' H2 : Hp} (s : Same H' H2) {xs : List V} {R : Blk} (h : Rw H H' xs R) : Rw H H2 xs R := Paired.mapP h fun _ _ ⟨t, a, e, n1, h1, n2, h2⟩ => ⟨t, a, e, n1, s _ _ h1, n2, s _ _ h2⟩
/-- a store at a list that holds none of them -/
theorem Rw.at {H H' : Hp} {D : Addr} {acc ys : List V} {xs : List V} {R : Blk} (hD : H' D = some (.lst acc)) (no : ∀ b ∈ R, ¬ b.2.map V.int = acc) (h : Rw H H' xs R) : Rw H (upd H' D (.lst ys)) xs R := by
  induction h with
  | nil => exact .nil
  | @cons x b r t q _ ih =>
    obtain ⟨u, a, e, n1, h1, n2, h2⟩ := q
    refine .cons ⟨u, a, e, n1, ?_, n2, ?_⟩ (ih fun b hb => no b (List.mem_cons_of_mem _ hb))
    · rw [upd_ne (ne_of h1 hD (by intro z; cases z))]; exact h1
    · rw [upd_ne]; · exact h2
      intro z
      rw [z, hD] at h2
      exact no b List.mem_cons_self (by injection (Option.some.inj h2) with e; exact e.symm)
theorem sc_Disk_synced : FnScope ["self", "rows", "number", "row"] ["self"] (defScope s_Disk_synced) := ⟨rfl, rfl, rfl, by decide +kernel, rfl, by decide +kernel, by decide +kernel⟩
def spSynced (C : Addr) : Sp := fun vs H Q _ => ∃ (F : Hp) (p d wl : Addr) (S : DS), vs = [.ref p] ∧ DiskAt C F H p d wl S ∧ SOk S ∧
  ∀ ys q H' xs, ys.Perm (S.B.map (·.1)) → ys.Pairwise (· ≤ ·) → Same H H' → H q = none → H' q = some (.lst xs) → Rw H H' xs (rowsB S.B ys) → Q (.ref q) H'
theorem Bk.there {F : Hp} {n : Int} {kvs : List (Key × V)} {B : Blk} (h : Bk F kvs B) (hn : n ∈ B.map (·.1)) : ∃ v, valV kvs (Sum.inl n : Key) = some v ∧ Ct F v (wholeB B n) := by
  rcases Bk.val (n := n) h with ⟨e, _⟩ | ⟨v, c, e1, e2, hv⟩
  · obtain ⟨b, hb, e'⟩ := List.mem_map.mp hn
    unfold lookB at e
    have q : B.find? (fun b => decide (b.1 = n)) = none := by
      cases z : B.find? (fun b => decide (b.1 = n)) with
      | none => rfl
      | some x => rw [z] at e; cases e
    have := List.find?_eq_none.mp q b hb
    simp [e'] at this
  · refine ⟨v, e2, ?_⟩
    unfold wholeB; rw [e1]; exact hv
theorem ok_Disk_synced (T : Txt K mg) : FnOk P w K mg base CX0 1 T.f_Disk_synced T.fd_Disk_synced ["self"] (spSynced T.C) := by
  refine T.F_Disk_synced.ok sc_Disk_synced (fun vs H Q E h => ?_) (fun cdv A outer s H vs Q E hr h => ?_)
  · obtain ⟨F, p, d, wl, S, rfl, _⟩ := h
    rfl
  · obtain ⟨F, p, d, wl, S, rfl, D, ok, k⟩ := h
    have hu := hu_of hr
    obtain ⟨dx, ks, hp, hk⟩ := D.ob
    obtain ⟨kvs, hd, hB⟩ := D.dc
    refine ⟨_, (pss_cons (ps_setLc (i := 1) rfl sc_Disk_synced.nd rfl rfl (sw_true rfl rfl rfl (by decide +kernel)) (pi_listB K (pe_callB (call_sortedDI rfl) (by rfl) T.n_sorted (by decide +kernel) (pa_cons (pe_fldB K (pv 0) rfl) pa_nil))) (blkOk_by (own := [("number", 2)]) (N := ["self", "rows", "number", "row"]) (sc := defScope s_Disk_synced) (by decide +kernel)) (fun _ _ _ _ _ => (pg_name (i := 2) sc_Disk_synced.nd rfl (Or.inl rfl))) (fun _ _ _ _ _ => pts_nil) (fun _ _ _ _ _ => (pe_tup (pa_cons (pv 2) (pa_cons (pe_callTy (call_list_ofB K) (by rfl) T.n_list (by decide +kernel) (pa_cons (pe_dget hu (pe_fldB K (pv 0) rfl) (pv 2) (fun _ _ => rfl)) pa_nil)) pa_nil)))))
    (pss_one (ps_ret (pe_lc rfl sc_Disk_synced.nd (pi_listB K (pv 1)) (blkOk_by (own := [("row", 3)]) (N := ["self", "rows", "number", "row"]) (sc := defScope s_Disk_synced) (by decide +kernel)) (fun _ _ _ _ _ => (pg_name (i := 3) sc_Disk_synced.nd rfl (Or.inl rfl))) (fun _ _ _ _ _ => (pts_one (pt_cmpR (op_neDB K hr.units) (pe_ix (ix_tupB K) (pv 3) pe_int (fun _ _ => rfl)) (pe_op op_rep (pe_lst (pa_cons pe_int pa_nil)) (pe_glob (v := .int 64) rfl T.mg_BLOCK ⟨_, rfl⟩)) (nomark _)))) (fun _ _ _ _ _ => (pv 3)))))), ?_⟩
    have hlB : S.B.length ≤ 62 := by have := ok.len; omega
    refine ⟨_, rfl, p, T.C, dx, _, _, rfl, hp, T.cl, T.nb, fl_blocks _ _ _ _ _, d, kvs, S.B.map (·.1), rfl, .inl hd, Bk.keys hB, by rw [List.length_map]; omega, fun ys q0 hperm hpw hq0 => ?_⟩
    have hyl : ys.length ≤ 62 := by rw [hperm.length_eq, List.length_map]; exact hlB
    refine ⟨q0, rfl, ⟨_, SqL.of upd_same⟩, fun D0 hD0 => ?_⟩
    have s0 : Same H (upd H q0 (.lst (ys.map V.int))) := sup hq0
    refine lc_list (K := K) (a := q0) (xs := ys.map V.int) (fun i H2 => ∃ acc, H2 D0 = some (.lst acc) ∧ Same (upd H q0 (.lst (ys.map V.int))) H2 ∧ Rw H H2 acc ((ys.take i).map fun n => (n, wholeB S.B n)))
      ⟨[], upd_same, sup hD0, .nil⟩ (fun i H2 _ ⟨_, _, s2, _⟩ => SqL.of (s2 _ _ upd_same)) ?_ ?_
    · rintro i x H2 hi ⟨acc, ha, s2, hR⟩
      rw [List.getElem?_map] at hi
      cases hy : ys[i]? with
      | none => rw [hy] at hi; cases hi
      | some n =>
        rw [hy] at hi
        cases hi
        have hil : i < ys.length := (List.getElem?_eq_some_iff.mp hy).1
        obtain ⟨v, hv, a, rfl, hc⟩ := Bk.there hB (hperm.mem_iff.mp (List.mem_of_getElem? hy))
        have s02 : Same H H2 := s0.trans s2
        refine ⟨rfl, ?_⟩
        refine ⟨_, rfl, _, rfl, p, T.C, dx, _, _, rfl, s02 _ _ hp, T.cl, T.nb, fl_blocks _ _ _ _ _, _, rfl, d, .ref a, rfl, .inl ⟨kvs, Sum.inl n, .inl (s02 _ _ hd), rfl, hv.symm⟩, a, _, rfl, .inl (SqL.of (s02 _ _ (D.same _ _ hc))), fun l hl => ⟨(by show 2 ≤ sizeLine; decide), fun t ht => ?_⟩⟩
        have s3 : Same H2 (upd (upd H2 l (.lst ((wholeB S.B n).map V.int))) t (.tup [.int n, .ref l])) := Same.un (sup hl) ht
        have hlen := Paired.len hR
        refine ⟨acc, s3 _ _ ha, ?_, _, upd_same, Same.mu (s2.trans s3) hD0, ?_⟩
        · rw [hlen, List.length_map, List.length_take]
          have sq : sizeLine > 200 := by decide
          omega
        · have hR3 := hR.mono s3
          have ht2 := fr ht
          have nl0 : H l = none := free_of s02 hl
          have nt0 : H t = none := free_of s02 ht2
          rw [List.take_add_one, hy, List.map_append]
          refine Paired.app (Rw.at (s3 _ _ ha) (fun b hb e => ?_) hR3) ⟨t, l, rfl, nt0, ?_, nl0, ?_⟩
          · obtain ⟨m, _, rfl⟩ := List.mem_map.mp hb
            have e1 := congrArg List.length e
            rw [List.length_map, wholeB_len ok.gB, hlen, List.length_map, List.length_take] at e1
            omega
          · rw [upd_ne, upd_same]
            exact (ne_of_none ha ht2).symm
          · rw [upd_ne, upd_ne, upd_same]
            · exact ne_of_none upd_same ht
            · exact (ne_of_none ha hl).symm
    · rintro H2 ⟨acc, ha, s2, hR⟩
      rw [List.length_map] at hR
      rw [List.take_length] at hR
      have s02 : Same H H2 := s0.trans s2
      have hlen := Paired.len hR
      -- return [row for row in rows if row[1] != [0] * BLOCK]
      refine ⟨_, rfl, D0, rfl, ⟨_, SqL.of ha⟩, fun D1 hD1 => ?_⟩
      refine lc_list (K := K) (a := D0) (xs := acc) (fun i H3 => ∃ acc2, H3 D1 = some (.lst acc2) ∧ acc2.length ≤ i ∧ Same H2 H3 ∧ Rw H H3 acc2 (((ys.map fun n => (n, wholeB S.B n)).take i).filter fun r => nz r.2))
        ⟨[], upd_same, Nat.le_refl _, sup hD1, .nil⟩ (fun i H3 _ ⟨_, _, _, s3, _⟩ => SqL.of (s3 _ _ ha)) ?_ ?_
      · rintro i x H3 hi ⟨acc2, ha2, hl2, s3, hR2⟩
        obtain ⟨⟨n, c⟩, hb, t, a, rfl, nt, ht, na, hc⟩ := Paired.at hR hi
        have ht3 := s3 _ _ ht
        have hc3 := s3 _ _ hc
        have hil : i < acc.length := (List.getElem?_eq_some_iff.mp hi).1
        have hD0 : H D1 = none := free_of s02 hD1
        refine ⟨rfl, ?_⟩
        refine ⟨_, rfl, t, _, _, .ref a, rfl, rfl, SqT.of ht3, rfl, by decide, fun l hl => ?_⟩
        refine ⟨l, 64, _, rfl, rfl, upd_same, by decide, by decide, by decide, fun q hq => ?_⟩
        have s4 : Same H3 (upd (upd H3 l (.lst [.int 0])) q (.lst (List.replicate (64 : Int).toNat [V.int 0]).flatten)) := Same.un (sup hl) hq
        refine ⟨dl c, dl zeros, dp_list (s4 _ _ hc3), dp_list (by rw [upd_same, zeros_flat]), dl_shaped _, dl_shaped _, _, rfl, ?_⟩
        have ef : ((ys.map fun n => (n, wholeB S.B n)).take (i + 1)).filter (fun r => nz r.2) = ((ys.map fun n => (n, wholeB S.B n)).take i).filter (fun r => nz r.2) ++ (if nz c = true then [(n, c)] else []) := by
          rw [List.take_add_one, hb, List.filter_append]
          congr 1
          show List.filter _ [(n, c)] = _
          by_cases e : nz c = true
          · rw [if_pos e]; simp [List.filter, e]
          · rw [if_neg e]; simp [List.filter, e]
        have hR4 := hR2.mono s4
        cases e : nz c with
        | true =>
          have e' : (!PyData.eqv (dl c) (dl zeros)) = true := e
          rw [e']
          refine ⟨_, rfl, acc2, s4 _ _ ha2, ?_, _, upd_same, ?_, Same.mu (s3.trans s4) hD1, ?_⟩
          · have sq : sizeLine > 200 := by decide
            rw [hlen, List.length_map] at hil
            omega
          · rw [List.length_append]; simp; omega
          · rw [ef, if_pos e]
            refine Paired.app (Rw.at (s4 _ _ ha2) (fun b hb e => ?_) hR4) ⟨t, a, rfl, nt, ?_, na, ?_⟩
            · obtain ⟨hb1, _⟩ := List.mem_filter.mp hb
              obtain ⟨m, _, rfl⟩ := List.mem_map.mp (List.mem_of_mem_take hb1)
              have e1 := congrArg List.length e
              rw [List.length_map, wholeB_len ok.gB] at e1
              rw [hlen, List.length_map] at hil
              omega
            · rw [upd_ne (ne_of_none ht hD1)]; exact s4 _ _ ht3
            · rw [upd_ne (ne_of_none hc hD1)]; exact s4 _ _ hc3
        | false =>
          have e' : (!PyData.eqv (dl c) (dl zeros)) = false := e
          rw [e']
          refine ⟨acc2, s4 _ _ ha2, by omega, s3.trans s4, ?_⟩
          rw [ef, if_neg (by rw [e]; decide), List.append_nil]
          exact hR4
      · rintro H3 ⟨acc2, ha2, hl2, s3, hR2⟩
        refine k ys D1 H3 acc2 hperm hpw (s02.trans s3) (free_of s02 hD1) ha2 ?_
        rw [hlen, List.take_length] at hR2
        exact hR2
end
end D67

set_option maxRecDepth 100000
set_option maxHeartbeats 4000000
namespace D67
open PySem L2 Kit
section
variable {P : Program} {w : World} {K : PySem.W.Frag} {mg : Str → Option Value} {base : Heap}
theorem sc_Disk_init : FnScope ["self", "blocks", "number", "content"] ["self", "blocks"] (defScope s_Disk_init) := ⟨rfl, rfl, rfl, by decide +kernel, rfl, by decide +kernel, by decide +kernel⟩
def Rows (H : Hp) : List V → Blk → Prop := Paired fun (x : V) b => ∃ t a, x = .ref t ∧ H t = some (.tup [.int b.1, .ref a]) ∧ H a = some (.lst (b.2.map .int))
theorem Rows.mono {H H' : Hp} (s : Same H H') {xs : List V} {R : Blk} (h : Rows H xs R) : Rows H' xs R := Paired.mapP h fun _ _ ⟨t, a, e, h1, h2⟩ => ⟨t, a, e, s _ _ h1, s _ _ h2⟩
/-- contents that are lists made anew -/
def Bn (H0 H : Hp) : List (Key × V) → Blk → Prop := Paired fun (kv : Key × V) b => kv.1 = .inl b.1 ∧ ∃ a, kv.2 = .ref a ∧ H0 a = none ∧ H a = some (.lst (b.2.map .int))
def emptyS (R : Blk) : DS := { B := mkN R R.length, W := [], left := none, kept := [], cut := false }
def spInit (C : Addr) : Sp := fun vs H Q _ => ∃ (F : Hp) (p dx b : Addr) (xs : List V) (R : Blk), vs = [.ref p, .ref b] ∧ H p = some (.ins C dx []) ∧ H b = some (.lst xs) ∧ Rows H xs R ∧ R.length ≤ 100 ∧ Same F H ∧ F p = none ∧
  ∀ F' H' d wl, Same F F' → (∀ a, H a ≠ none → F' a = F a) → DiskAt C F' H' p d wl (emptyS R) → H d = none → H wl = none → (∀ a o, H a = some o → a ≠ p → H' a = some o) → Q .non H'
theorem Bn.put {H0 H : Hp} {n : Int} {v : V} {c : List Int} {kvs : List (Key × V)} {B : Blk} (h : Bn H0 H kvs B) (hv : ∃ a, v = .ref a ∧ H0 a = none ∧ H a = some (.lst (c.map .int))) : Bn H0 H (putK kvs (Sum.inl n : Key) v) (putB B n c) := by
  have sF : ∀ (a : Addr) (c : List Int), fz (fun _ => none) H0 H [] a = some (.lst (c.map .int)) ↔ (H0 a = none ∧ H a = some (.lst (c.map .int))) := fun a c => by
    cases e : H0 a with
    | none => rw [fz_new e (by simp)]; simp
    | some o => rw [fz_old (by rw [e]; simp)]; simp
  have h' : Bk (fz (fun _ => none) H0 H []) kvs B := Paired.mapP h fun kv b q => ⟨q.1, by obtain ⟨_, a, e, q1, q2⟩ := q; exact ⟨a, e, (sF a b.2).mpr ⟨q1, q2⟩⟩⟩
  have r := Bk.put (n := n) (v := v) (c := c) h' (by obtain ⟨a, e, q1, q2⟩ := hv; exact ⟨a, e, (sF a c).mpr ⟨q1, q2⟩⟩)
  exact Paired.mapP r fun kv b q => ⟨q.1, by obtain ⟨_, a, e, q⟩ := q; exact ⟨a, e, (sF a b.2).mp q⟩⟩
theorem mkN_len (R : Blk) : ∀ i, (mkN R i).length ≤ i
  | 0 => Nat.le_refl _
  | i + 1 => by
    unfold mkN
    have ih := mkN_len R i
    split
    · rename_i n c _
      have := putB_len (mkN R i) n c
      omega
    · omega
theorem ok_Disk_init (T : Txt K mg) : FnOk P w K mg base CX0 1 T.f_Disk_init T.fd_Disk_init ["self", "blocks"] (spInit T.C) := by
  refine T.F_Disk_init.ok sc_Disk_init (fun vs H Q E h => ?_) (fun cdv A outer s H vs Q E hr h => ?_)
  · obtain ⟨F, p, dx, b, xs, R, rfl, _⟩ := h
    rfl
  · obtain ⟨F, p, dx, b, xs, R, rfl, hp, hb, hR, hl, sF, fp, k⟩ := h
    have hu := hu_of hr
    refine ⟨_, (pss_cons (ps_fld (pv 0) (pe_dc rfl sc_Disk_init.nd (pi_listB K (pv 1)) (blkOk_by (own := [("number", 2), ("content", 3)]) (N := ["self", "blocks", "number", "content"]) (sc := defScope s_Disk_init) (by decide +kernel)) (fun _ _ _ _ _ => (pg_tupB K (n := 2) rfl (pgs_cons (pg_name (i := 2) sc_Disk_init.nd rfl (Or.inl rfl)) (pgs_cons (pg_name (i := 3) sc_Disk_init.nd rfl (Or.inl rfl)) pgs_nil)))) (fun _ _ _ _ _ => pts_nil) (fun _ _ _ _ _ => (pv 2)) (fun _ _ _ _ _ => (pe_callTy (call_list_ofB K) (by rfl) T.n_list (by decide +kernel) (pa_cons (pv 3) pa_nil)))) rfl)
    (pss_cons (ps_fld (pv 0) (pe_lst pa_nil) rfl)
    (pss_cons (ps_fld (pv 0) pe_non rfl)
    (pss_cons (ps_fld (pv 0) (pe_lst pa_nil) rfl)
    (pss_one (ps_fld (pv 0) pe_bl rfl)))))), ?_⟩
    refine ⟨_, rfl, b, rfl, ⟨_, SqL.of hb⟩, fun D hD => ?_⟩
    refine dc_it (walk_list (K := K) (a := b) (xs := xs)) (fun i H2 => ∃ kvs, H2 D = some (.dK kvs) ∧ kvs.length ≤ i ∧ Same H H2 ∧ Bn H H2 kvs (mkN R i))
      ⟨[], upd_same, Nat.le_refl _, sup hD, .nil⟩ (fun i H2 _ ⟨_, _, _, s2, _⟩ => SqL.of (s2 _ _ hb)) ?_ ?_
    · rintro i x H2 H3 hi ⟨kvs, hk, hkl, s2, hB⟩ ⟨rfl, hx⟩
      obtain ⟨⟨n, c⟩, hb', t, a, rfl, ht, ha⟩ := Paired.at hR hx
      refine ⟨t, _, rfl, SqT.of (s2 _ _ ht), rfl, _, _, rfl, _, _, rfl, rfl, rfl, ?_⟩
      refine ⟨_, rfl, _, rfl, a, _, rfl, .inl (SqL.of (s2 _ _ ha)), fun l hl' => ?_⟩
      have s3 : Same H3 (upd H3 l (.lst (c.map V.int))) := sup hl'
      have hlx : xs.length ≤ 100 := by rw [Paired.len hR]; exact hl
      have sq : sizeLine > 200 := by decide
      refine ⟨kvs, Sum.inl n, rfl, s3 _ _ hk, by omega, _, upd_same, ?_, Same.mu (s2.trans s3) hD, ?_⟩
      · have := length_putK kvs (Sum.inl n : Key) (V.ref l)
        omega
      · have es : mkN R (i + 1) = putB (mkN R i) n c := by
          conv => lhs; unfold mkN
          rw [hb']
        rw [es]
        have nl : H l = none := free_of s2 hl'
        refine Bn.put (Paired.mapP hB fun kv b' q => ⟨q.1, ?_⟩) ⟨l, rfl, nl, ?_⟩
        · obtain ⟨e1, a', e2, n2, h2⟩ := q
          refine ⟨a', e2, n2, ?_⟩
          rw [upd_ne (ne_of h2 hk (by intro z; cases z))]
          exact s3 _ _ h2
        · rw [upd_ne (ne_of_none hk hl').symm, upd_same]
    · rintro H2 ⟨kvs, hk, hkl, s2, hB⟩
      have sq : sizeLine > 200 := by decide
      have npD : p ≠ D := ne_of_none hp hD
      -- the other fields
      refine ⟨_, rfl, p, T.C, dx, [], rfl, s2 _ _ hp, T.cl, T.nb, (by show 0 < 1000; decide), ?_⟩
      refine ⟨by decide, fun wl hw => ?_⟩
      have hw0 : H2 wl = none := fr hw
      have npw : p ≠ wl := (fr_ne hw).symm
      refine ⟨_, rfl, p, T.C, dx, _, rfl, by rw [upd_ne npw, upd_same], T.cl, T.nw, (by show 1 < 1000; decide), ?_⟩
      refine ⟨_, rfl, p, T.C, dx, _, rfl, upd_same, T.cl, T.nl, (by show 2 < 1000; decide), ?_⟩
      refine ⟨by decide, fun ks hks => ?_⟩
      have hks1 := fr (fr hks)
      have nkw : ks ≠ wl := fr_ne hks1
      have hks0 : H2 ks = none := fr (fr hks1)
      have npk : p ≠ ks := (fr_ne hks).symm
      refine ⟨_, rfl, p, T.C, dx, _, rfl, by rw [upd_ne npk, upd_same], T.cl, T.nk, (by show 3 < 1000; decide), ?_⟩
      refine ⟨_, rfl, p, T.C, dx, _, rfl, upd_same, T.cl, T.nc, (by show 4 < 1000; decide), ?_⟩
      generalize hf : upd (upd (upd (upd (upd (upd (upd H2 p _) wl _) p _) p _) ks _) p _) p _ = Hf
      have g : ∀ a o, H2 a = some o → a ≠ p → Hf a = some o := fun a o e h => by
        rw [← hf, upd_ne h, upd_ne h, upd_ne (ne_of_none e hks0), upd_ne h, upd_ne h, upd_ne (ne_of_none e hw0), upd_ne h]
        exact e
      have hpf : Hf p = some (.ins T.C dx (flds D wl .non ks false)) := by rw [← hf, upd_same, pf_all]
      have hwf : Hf wl = some (.lst []) := by rw [← hf, upd_ne npw.symm, upd_ne npw.symm, upd_ne nkw.symm, upd_ne npw.symm, upd_ne npw.symm, upd_same]
      have hkf : Hf ks = some (.lst []) := by rw [← hf, upd_ne npk.symm, upd_ne npk.symm, upd_same]
      have gH : ∀ a o, H a = some o → a ≠ p → Hf a = some o := fun a o e h => g a o (s2 a o e) h
      have nwH : H wl = none := free_of s2 hw0
      have nkH : H ks = none := free_of s2 hks0
      have nDw : D ≠ wl := ne_of_none hk hw0
      have nDk : D ≠ ks := ne_of_none hk hks0
      have le : Same (fz F H Hf [D, wl]) Hf := fz_le fun a o e => gH a o (sF a o e) fun z => by rw [z, fp] at e; cases e
      refine k (fz F H Hf [D, wl]) Hf D wl (fz_ge sF) (fun a h => fz_old h) ⟨le, ?_, fz_out hD (by simp), fz_out nwH (by simp), ⟨dx, ks, hpf, ?_⟩, ⟨kvs, g _ _ hk npD.symm, ?_⟩, ⟨[], hwf, .nil⟩⟩ hD nwH gH
      · rw [fz_old (by rw [hp]; simp)]; exact fp
      · rw [fz_new nkH (by simp only [List.mem_cons, List.not_mem_nil, or_false, not_or]; exact ⟨nDk.symm, nkw⟩)]
        exact hkf
      · show Bk _ kvs (mkN R R.length)
        rw [← Paired.len hR]
        refine Paired.mapP hB fun kv b' q => ⟨q.1, ?_⟩
        obtain ⟨_, a, e, n1, h1⟩ := q
        refine ⟨a, e, ?_⟩
        have naD : a ≠ D := ne_of h1 hk (by intro z; cases z)
        have naw : a ≠ wl := ne_of_none h1 hw0
        rw [fz_new n1 (by simp only [List.mem_cons, List.not_mem_nil, or_false, not_or]; exact ⟨naD, naw⟩)]
        exact g _ _ h1 (ne_of_none hp n1).symm
end
end D67

set_option maxRecDepth 100000
set_option maxHeartbeats 4000000
namespace D67
open PySem L2 Kit
section
variable {P : Program} {w : World} {K : PySem.W.Frag} {mg : Str → Option Value} {base : Heap}
theorem sc_law_take : FnScope ["state", "most", "cells", "at", "cell", "mixed"] ["state", "most"] (defScope s_law_take) := ⟨rfl, rfl, rfl, by decide +kernel, rfl, by decide +kernel, by decide +kernel⟩
/-- the draws: a list of a number and the list of cells -/
structure StAt (H : Hp) (s cl : Addr) : Prop where
  at_ : ∃ i : Int, H s = some (.lst [.int i, .ref cl]) ∧ 0 ≤ i
  cells : ∃ ns : List Int, H cl = some (.lst (ns.map .int)) ∧ ns ≠ [] ∧ ∀ n ∈ ns, 0 ≤ n
  ne : s ≠ cl
def spTake : Sp := fun vs H Q _ => ∃ (s cl : Addr) (m : Int), vs = [.ref s, .int m] ∧ 1 ≤ m ∧ m < 1000000 ∧ StAt H s cl ∧
  ∀ r H', 0 ≤ r → r < m → StAt H' s cl → (∀ a o, H a = some o → a ≠ s → a ≠ cl → H' a = some o) → (∀ a, H a = none → H' a = none) → Q (.int r) H'
theorem set_nonneg {ns : List Int} {j : Nat} {v : Int} (h : ∀ n ∈ ns, 0 ≤ n) (hv : 0 ≤ v) : ∀ n ∈ ns.set j v, 0 ≤ n := fun n hn => by
  rcases List.mem_or_eq_of_mem_set hn with h' | h'
  · exact h n h'
  · rw [h']; exact hv
theorem ok_law_take (T : Txt K mg) : FnOk P w K mg base CX0 1 T.f_law_take T.fd_law_take ["state", "most"] spTake := by
  refine T.F_law_take.ok sc_law_take (fun vs H Q E h => ?_) (fun cdv A outer st H vs Q E hr h => ?_)
  · obtain ⟨s, cl, m, rfl, _⟩ := h
    rfl
  · obtain ⟨s, cl, m, rfl, hm, hm2, ⟨⟨i, hs, hi⟩, ⟨ns, hc, hne, hn⟩, nsc⟩, k⟩ := h
    refine ⟨_, (pss_cons (ps_set (i := 2) sc_law_take.nd rfl (Or.inl rfl) (pe_ix (ix_listB K) (pv 0) pe_int (fun _ _ => rfl)))
    (pss_cons (ps_set (i := 3) sc_law_take.nd rfl (Or.inl rfl) (pe_op op_modN (pe_ix (ix_listB K) (pv 0) pe_int (fun _ _ => rfl)) (pe_callB (call_len_seqB K) (by rfl) T.n_len (by decide +kernel) (pa_cons (pv 2) pa_nil))))
    (pss_cons (ps_set (i := 4) sc_law_take.nd rfl (Or.inl rfl) (pe_ix (ix_listB K) (pv 2) (pv 3) (fun _ _ => rfl)))
    (pss_cons (ps_if (pt_cmpR op_ge (pv 4) pe_int (nomark _))
      (pss_cons (ps_asg (pe_op op_fdivN (pv 4) (pv 1)) (pg_sub (pv 2) (pv 3) set_list))
      (pss_one (ps_ret (pe_op op_modN (pv 4) (pv 1)))))
      pss_nil)
    (pss_cons (ps_asg (pe_op op_add (pe_ix (ix_listB K) (pv 0) pe_int (fun _ _ => rfl)) pe_int) (pg_sub (pv 0) pe_int set_list))
    (pss_cons (ps_set (i := 5) sc_law_take.nd rfl (Or.inl rfl) (pe_op op_mod (pe_callTy call_int1 (by rfl) T.n_int (by decide +kernel) (pa_cons (pe_op op_add (pe_op op_mul (pv 4) pe_int) (pe_op op_mul (pe_ix (ix_listB K) (pv 0) pe_int (fun _ _ => rfl)) pe_int)) pa_nil)) pe_int))
    (pss_cons (ps_set (i := 5) sc_law_take.nd rfl (Or.inl rfl) (pe_op op_mod (pe_callTy call_int1 (by rfl) T.n_int (by decide +kernel) (pa_cons (pe_op op_add (pe_op op_mul (pv 5) pe_int) (pe_op op_mul (pe_ix (ix_listB K) (pv 0) pe_int (fun _ _ => rfl)) pe_int)) pa_nil)) pe_int))
    (pss_one (ps_ret (pe_op op_modN (pe_op op_fdiv (pv 5) pe_int) (pv 1))))))))))), ?_⟩
    have hnl : 0 < ns.length := List.length_pos_iff.mpr hne
    have hmod0 : 0 ≤ i.fmod (ns.length : Int) := Int.fmod_nonneg_of_pos _ (by omega)
    have hmod1 : i.fmod (ns.length : Int) < ns.length := Int.fmod_lt_of_pos _ (by omega)
    obtain ⟨j, hj⟩ : ∃ j : Nat, i.fmod (ns.length : Int) = j := ⟨_, (Int.toNat_of_nonneg hmod0).symm⟩
    have hjl : j < ns.length := by omega
    obtain ⟨c, hcj⟩ : ∃ c, ns[j]? = some c := ⟨_, List.getElem?_eq_getElem hjl⟩
    have hc0 : 0 ≤ c := hn c (List.mem_of_getElem? hcj)
    refine ⟨_, rfl, s, _, _, .ref cl, rfl, rfl, SqL.of hs, atI_nat (j := 1) rfl, ?_⟩
    refine ⟨_, rfl, s, _, _, .int i, rfl, rfl, SqL.of hs, atI_nat (j := 0) rfl, _, rfl, cl, _, rfl, .inl (SqL.of hc), _, _, rfl, rfl, ?_, ?_⟩
    · rw [List.length_map]; omega
    show gName 3 (V.int (i.fmod (((ns.map V.int).length : Nat) : Int))) _ _ _
    rw [List.length_map, hj]
    refine ⟨_, rfl, _, rfl, cl, _, _, .int c, rfl, rfl, SqL.of hc, atI_nat (by rw [List.getElem?_map, hcj]; rfl), ?_⟩
    refine ⟨_, rfl, _, _, rfl, rfl, _, rfl, ite2 (fun hb => ?_) (fun hb => ?_)⟩
    · refine ⟨_, rfl, _, rfl, _, _, rfl, rfl, ⟨by omega, by omega⟩, _, rfl, _, rfl, cl, _, _, j, rfl, rfl, hc, ?_, ?_⟩
      · unfold ixN
        rw [if_pos (by omega), if_pos (by rw [List.length_map]; omega)]; simp
      refine ⟨_, rfl, _, rfl, _, _, rfl, rfl, (by omega), ?_⟩
      refine k _ _ (Int.fmod_nonneg_of_pos _ (by omega)) (Int.fmod_lt_of_pos _ (by omega)) ⟨⟨i, by rw [upd_ne nsc]; exact hs, hi⟩, ⟨ns.set j (c.fdiv m), by rw [upd_same, List.map_set], ?_, set_nonneg hn (Int.fdiv_nonneg hc0 (by omega))⟩, nsc⟩ (fun a o e _ h2 => by rw [upd_ne h2]; exact e) (fun a e => ?_)
      · intro z
        have := congrArg List.length z
        rw [List.length_set, List.length_nil] at this
        omega
      · rw [upd_ne (fun z => by rw [z, hc] at e; cases e)]; exact e
    · have st1 : ([V.int i, V.ref cl]).set 0 (.int (i + 1)) = [V.int (i + 1), V.ref cl] := rfl
      refine ⟨_, rfl, s, _, _, .int i, rfl, rfl, SqL.of hs, atI_nat (j := 0) rfl, _, _, rfl, rfl, _, rfl, s, _, 0, 0, rfl, rfl, hs, rfl, ?_⟩
      rw [st1]
      refine ⟨_, rfl, _, _, rfl, rfl, .inr (by decide), _, rfl, s, _, _, .int (i + 1), rfl, rfl, SqL.of upd_same, atI_nat (j := 0) rfl, _, _, rfl, rfl, .inr (by decide), _, _, rfl, rfl, .inl ⟨_, rfl, _, _, rfl, rfl, (by show (0 : Int) < 2147483647; decide), ?_⟩⟩
      refine ⟨_, rfl, _, _, rfl, rfl, .inr (by decide), _, rfl, s, _, _, .int (i + 1), rfl, rfl, SqL.of upd_same, atI_nat (j := 0) rfl, _, _, rfl, rfl, .inr (by decide), _, _, rfl, rfl, .inl ⟨_, rfl, _, _, rfl, rfl, (by show (0 : Int) < 1000000007; decide), ?_⟩⟩
      refine ⟨_, rfl, _, _, rfl, rfl, ⟨by decide, by decide⟩, _, rfl, _, _, rfl, rfl, (by omega), ?_⟩
      exact k _ _ (Int.fmod_nonneg_of_pos _ (by omega)) (Int.fmod_lt_of_pos _ (by omega)) ⟨⟨i + 1, upd_same, by omega⟩, ⟨ns, by rw [upd_ne nsc.symm]; exact hc, hne, hn⟩, nsc⟩ (fun a o e h1 _ => by rw [upd_ne h1]; exact e) (fun a e => by
        rw [upd_ne (fun z => by rw [z, hs] at e; cases e)]; exact e)
end
end D67

set_option maxRecDepth 100000
set_option maxHeartbeats 4000000
namespace D67
open PySem L2 Kit
section
variable {P : Program} {w : World} {K : PySem.W.Frag} {mg : Str → Option Value} {base : Heap}
theorem sc_law_state : FnScope ["script", "cells", "cell"] ["script"] (defScope s_law_state) := ⟨rfl, rfl, rfl, by decide +kernel, rfl, by decide +kernel, by decide +kernel⟩
def spState (K : PySem.W.Frag) : Sp := fun vs H Q _ => ∃ (a : Addr) (ns : List Int), vs = [.ref a] ∧ SqL K H a (ns.map V.int) ∧ ns.length ≤ 63 ∧
  ∀ s cl H', H s = none → H cl = none → StAt H' s cl → Same H H' → Q (.ref s) H'
theorem ok_law_state (T : Txt K mg) : FnOk P w K mg base CX0 1 T.f_law_state T.fd_law_state ["script"] (spState K) := by
  refine T.F_law_state.ok sc_law_state (fun vs H Q E h => ?_) (fun cdv A outer st H vs Q E hr h => ?_)
  · obtain ⟨a, ns, rfl, _⟩ := h
    rfl
  · obtain ⟨a, ns, rfl, hS, hlen, k⟩ := h
    refine ⟨_, (pss_cons (ps_setLc (i := 1) rfl sc_law_state.nd rfl rfl (sw_true rfl rfl rfl (by decide +kernel)) (pi_listB K (pe_slice (sl_listB K) (pv 0) po_none (po_some pe_int))) (blkOk_by (own := [("cell", 2)]) (N := ["script", "cells", "cell"]) (sc := defScope s_law_state) (by decide +kernel)) (fun _ _ _ _ _ => (pg_name (i := 2) sc_law_state.nd rfl (Or.inl rfl))) (fun _ _ _ _ _ => pts_nil) (fun _ _ _ _ _ => (pe_callB call_abs (by rfl) T.n_abs (by decide +kernel) (pa_cons (pv 2) pa_nil))))
    (pss_cons (ps_if (pt_cmpR op_eq (pe_callB (call_len_seqB K) (by rfl) T.n_len (by decide +kernel) (pa_cons (pv 1) pa_nil)) pe_int (nomark _))
      (pss_one (ps_set (i := 1) sc_law_state.nd rfl (Or.inl rfl) (pe_lst (pa_cons pe_int pa_nil))))
      pss_nil)
    (pss_one (ps_ret (pe_lst (pa_cons pe_int (pa_cons (pv 1) pa_nil))))))), ?_⟩
    have sq : sizeLine > 200 := by decide
    refine ⟨_, rfl, _, rfl, a, _, rfl, hS, fun q hq => ?_⟩
    rw [cut_to (by decide)]
    generalize hms : ns.take (63 : Int).toNat = ms
    have hml : ms.length ≤ 63 := by rw [← hms, List.length_take]; omega
    refine ⟨q, rfl, ⟨_, SqL.of upd_same⟩, fun D hD => ?_⟩
    have s1 : Same H (upd H q (.lst (ms.map V.int))) := sup hq
    refine lc_list (K := K) (a := q) (xs := ms.map V.int) (fun i H2 => ∃ ks : List Int, H2 D = some (.lst (ks.map V.int)) ∧ ks.length = i ∧ Same (upd H q (.lst (ms.map V.int))) H2 ∧ ∀ n ∈ ks, 0 ≤ n)
      ⟨[], upd_same, rfl, sup hD, fun _ h => by cases h⟩ (fun i H2 _ ⟨_, _, _, s2, _⟩ => SqL.of (s2 _ _ upd_same)) ?_ ?_
    · rintro i x H2 hi ⟨ks, hk, hl, s2, h0⟩
      rw [List.getElem?_map] at hi
      cases hm : ms[i]? with
      | none => rw [hm] at hi; cases hi
      | some n =>
        rw [hm] at hi
        cases hi
        have hil : i < ms.length := (List.getElem?_eq_some_iff.mp hm).1
        refine ⟨rfl, ?_⟩
        refine ⟨_, rfl, n, rfl, _, hk, by rw [List.length_map]; omega, ks ++ [if n < 0 then -n else n], ?_, ?_, Same.mu s2 hD, ?_⟩
        · rw [upd_same, List.map_append]; rfl
        · rw [List.length_append, hl]; rfl
        · intro m hm'
          rcases List.mem_append.mp hm' with h | h
          · exact h0 m h
          · rw [List.mem_singleton.mp h]
            split <;> omega
    · rintro H2 ⟨ks, hk, hl, s2, h0⟩
      have s3 : Same H H2 := s1.trans s2
      have hD0 : H D = none := free_of s1 hD
      refine ⟨_, rfl, D, _, rfl, .inl (SqL.of hk), rfl, _, rfl, ite2 (fun he => ?_) (fun he => ?_)⟩
      · refine ⟨by decide, fun l hl' => ?_⟩
        refine ⟨_, rfl, (by show 2 ≤ sizeLine; decide), fun s hs => ?_⟩
        exact k s l _ (free_of s3 (fr hs)) (free_of s3 hl') ⟨⟨0, upd_same, by omega⟩, ⟨[0], by rw [upd_ne (fr_ne hs).symm, upd_same]; rfl, by decide, by simp⟩, fr_ne hs⟩ (Same.un (s3.trans (sup hl')) hs)
      · have he : ks ≠ [] := by
          intro z
          rw [z] at he
          exact he rfl
        refine ⟨_, rfl, (by show 2 ≤ sizeLine; decide), fun s hs => ?_⟩
        have nDs : D ≠ s := ne_of_none hk hs
        exact k s D _ (free_of s3 hs) hD0 ⟨⟨0, upd_same, by omega⟩, ⟨ks, un hk hs, he, h0⟩, nDs.symm⟩ (Same.un s3 hs)
theorem sc_law_crashed : FnScope ["blocks", "waiting", "kept", "k", "number", "content", "size"] ["blocks", "waiting", "kept"] (defScope s_law_crashed) := ⟨rfl, rfl, rfl, by decide +kernel, rfl, by decide +kernel, by decide +kernel⟩
/-- a dict of blocks of the law's own -/
structure Dct (F H : Hp) (b : Addr) (B : Blk) : Prop where
  same : Same F H
  free : F b = none
  dc : ∃ kvs, H b = some (.dK kvs) ∧ Bk F kvs B
theorem dct_put {F H H1 : Hp} {b : Addr} {B : Blk} {n : Int} {v : V} {c : List Int} {kvs : List (Key × V)} (D : Dct F H b B) (hd : H b = some (.dK kvs)) (hB : Bk F kvs B) (s : Same H H1) (hv : Ct (fz F H H1 []) v c) :
    ∃ F2, Dct F2 (upd H1 b (.dK (putK kvs (Sum.inl n : Key) v))) b (putB B n c) ∧ Same F F2 ∧ (∀ a, H a ≠ none → F2 a = F a) := by
  have g : ∀ a o, F a = some o → upd H1 b (.dK (putK kvs (Sum.inl n : Key) v)) a = some o := fun a o e => by
    rw [upd_ne (fun z => by rw [z, D.free] at e; cases e)]; exact s a o (D.same a o e)
  have ef : Same (fz F H H1 []) (fz F H (upd H1 b (.dK (putK kvs (Sum.inl n : Key) v))) []) := fun a o e => by
    cases q : H a with
    | some u => rw [fz_old (by rw [q]; simp)] at e ⊢; exact e
    | none =>
      rw [fz_new q (by simp)] at e ⊢
      rw [upd_ne (ne_of_none hd q).symm]; exact e
  refine ⟨fz F H (upd H1 b (.dK (putK kvs (Sum.inl n : Key) v))) [], ⟨fz_le g, by rw [fz_old (by rw [hd]; simp)]; exact D.free, ⟨_, upd_same, (hB.mono (fz_ge D.same)).put (hv.mono ef)⟩⟩, fz_ge D.same, fun a h => fz_old h⟩
def spCrashed : Sp := fun vs H Q _ => ∃ (F : Hp) (b wl ks : Addr) (B W : Blk) (xs : List V) (kept : List Int), vs = [.ref b, .ref wl, .ref ks] ∧ Dct F H b B ∧ H wl = some (.lst xs) ∧ Wt F xs W ∧ H ks = some (.lst (kept.map .int)) ∧ Good B ∧ Good W ∧ Keys B ∧ B.length + W.length ≤ 63 ∧
  ∀ F' H', Dct F' H' b (crashB B W kept) → Same F F' → (∀ a, H a ≠ none → F' a = F a) → (∀ a o, H a = some o → a ≠ b → H' a = some o) → Q .non H'
theorem ok_law_crashed (T : Txt K mg) : FnOk P w K mg base CX0 1 T.f_law_crashed T.fd_law_crashed ["blocks", "waiting", "kept"] spCrashed := by
  refine T.F_law_crashed.ok sc_law_crashed (fun vs H Q E h => ?_) (fun cdv A outer st H vs Q E hr h => ?_)
  · obtain ⟨F, b, wl, ks, B, W, xs, kept, rfl, _⟩ := h
    rfl
  · obtain ⟨F, b, wl, ks, B, W, xs, kept, rfl, D, hw, hW, hks, gB, gW, kB, hlen, k⟩ := h
    have hu := hu_of hr
    have sq : sizeLine > 200 := by decide
    obtain ⟨kvs0, hd0, _⟩ := D.dc
    have nkb : ks ≠ b := ne_of hks hd0 (by intro z; cases z)
    have nwb : wl ≠ b := ne_of hw hd0 (by intro z; cases z)
    refine ⟨_, (pss_one (ps_for PassesOwn.never rfl (pi_range1 rfl T.n_range (pa_cons (pe_callB (call_len_seqB K) (by rfl) T.n_len (by decide +kernel) (pa_cons (pv 1) pa_nil)) pa_nil)) (pg_name (i := 3) sc_law_crashed.nd rfl (Or.inl rfl))
      (pss_cons (ps_asg (pe_ix (ix_listB K) (pv 1) (pv 3) (fun _ _ => rfl)) (pg_tupB K (n := 2) rfl (pgs_cons (pg_name (i := 4) sc_law_crashed.nd rfl (Or.inl rfl)) (pgs_cons (pg_name (i := 5) sc_law_crashed.nd rfl (Or.inl rfl)) pgs_nil))))
      (pss_cons (ps_set (i := 6) sc_law_crashed.nd rfl (Or.inl rfl) (pe_ifExp (pt_cmpR op_lt (pv 3) (pe_callB (call_len_seqB K) (by rfl) T.n_len (by decide +kernel) (pa_cons (pv 2) pa_nil)) (nomark _)) (pe_callB (call_min2 rfl) (by rfl) T.n_min (by decide +kernel) (pa_cons pe_int (pa_cons (pe_callB (call_max2 rfl) (by rfl) T.n_max (by decide +kernel) (pa_cons pe_int (pa_cons (pe_ix (ix_listB K) (pv 2) (pv 3) (fun _ _ => rfl)) pa_nil))) pa_nil))) pe_int))
      (pss_one (ps_dput hu (pv 0) (pv 4) (pe_op op_cat (pe_slice (sl_listB K) (pv 5) po_none (po_some (pv 6))) (pe_slice (sl_listB K) (pe_dget2 hu (pv 0) (pv 4) (pe_op op_rep (pe_lst (pa_cons pe_int pa_nil)) pe_int) ⟨rfl, rfl, rfl, rfl⟩) (po_some (pv 6)) po_none)) rfl)))))), ?_⟩
    have hxl : xs.length = W.length := Paired.len hW
    refine ⟨_, rfl, wl, _, rfl, .inl (SqL.of hw), (xs.length : Int), rfl, by omega, by omega, ?_⟩
    refine for_range (lo := 0) (n := xs.length) (fun i σ H2 => ∃ (F2 : Hp) (v3 v4 v5 v6 : Option V), σ = [some (.ref b), some (.ref wl), some (.ref ks), v3, v4, v5, v6] ∧ Dct F2 H2 b (crashN B W kept i) ∧ Same F F2 ∧ (∀ a, H a ≠ none → F2 a = F a) ∧
      (∀ a o, H a = some o → a ≠ b → H2 a = some o) ∧ H2 b ≠ none) ⟨F, none, none, none, none, rfl, D, Same.refl _, fun _ _ => rfl, fun _ _ e _ => e, by rw [hd0]; simp⟩ ?_ ?_
    · rintro i σ H2 hi ⟨F2, v3, v4, v5, v6, rfl, D2, sF, old, keep, hb0⟩
      have hilW : i < W.length := by omega
      obtain ⟨⟨n, c⟩, hb⟩ : ∃ r, W[i]? = some r := ⟨_, List.getElem?_eq_getElem hilW⟩
      obtain ⟨x, hx⟩ : ∃ x, xs[i]? = some x := ⟨_, List.getElem?_eq_getElem hi⟩
      obtain ⟨r, hr', t, v, rfl, ht, a, rfl, ha⟩ := Paired.at hW hx
      rw [hb] at hr'; cases hr'
      have htH := D2.same _ _ (sF _ _ ht)
      have haH := D2.same _ _ (sF _ _ ha)
      have hw2 := keep _ _ hw nwb
      have hks2 := keep _ _ hks nkb
      have e0 : (0 : Int) + (i : Int) = (i : Int) := by omega
      rw [e0]
      refine ⟨_, rfl, _, rfl, wl, _, _, .ref t, rfl, rfl, SqL.of hw2, atI_nat hx, t, _, rfl, SqT.of htH, rfl, _, _, rfl, _, _, rfl, rfl, ?_⟩
      have hgB := (crashN_ok (kept := kept) gB gW kB i)
      have hc : c.length = 64 := gW _ (List.mem_of_getElem? hb)
      have hs := sizeB_le kept i
      have hstep : crashN B W kept (i + 1) = putB (crashN B W kept i) n (mixC (sizeB kept i) c (wholeB (crashN B W kept i) n)) := by
        conv => lhs; unfold crashN
        rw [hb]
      dsimp only
      refine via_seq (.int (sizeB kept i)) (H1 := H2) (fun Q2 hq => ?_) ?_
      · refine ⟨_, rfl, _, rfl, ks, _, rfl, .inl (SqL.of hks2), _, _, rfl, rfl, _, rfl, ite2 (fun he => ?_) (fun he => ?_)⟩
        · have he : i < kept.length := by simpa using he
          have eg : kept[i]? = some kept[i] := List.getElem?_eq_getElem he
          refine ⟨_, rfl, _, rfl, ks, _, _, .int kept[i], rfl, rfl, SqL.of hks2, atI_nat (by rw [List.getElem?_map, eg]; rfl), _, _, rfl, _, _, rfl, ?_⟩
          have e : sizeB kept i = (if (if kept[i] > 0 then kept[i] else 0) < 64 then (if kept[i] > 0 then kept[i] else 0) else 64) := by unfold sizeB; rw [eg]
          rw [e] at hq
          exact hq
        · have he : ¬ i < kept.length := by simpa using he
          have e : sizeB kept i = 0 := by unfold sizeB; rw [List.getElem?_eq_none (by omega)]
          rw [e] at hq
          exact hq
      obtain ⟨kvs, hd2, hB2⟩ := D2.dc
      refine ⟨_, rfl, _, rfl, _, rfl, a, _, rfl, SqL.of haH, fun q1 hq1 => ?_⟩
      have s1 : Same H2 (upd H2 q1 (.lst (cutV ((n, c).snd.map V.int) none (some (sizeB kept i))))) := sup hq1
      refine ⟨_, rfl, b, rfl, .inl ⟨_, .inl (s1 _ _ hd2)⟩, _, rfl, (by decide), fun l hl => ?_⟩
      refine ⟨l, 64, _, rfl, rfl, upd_same, by decide, by decide, by decide, fun z hz => ?_⟩
      rw [zeros_flat] at *
      have s2 : Same H2 (upd (upd (upd H2 q1 (.lst (cutV ((n, c).snd.map V.int) none (some (sizeB kept i))))) l (.lst [.int 0])) z (.lst (zeros.map V.int))) := Same.un (Same.un s1 hl) hz
      have hgot : ∃ g, (valV kvs (Sum.inl n : Key)).getD (.ref z) = .ref g ∧ upd (upd (upd H2 q1 (.lst (cutV ((n, c).snd.map V.int) none (some (sizeB kept i))))) l (.lst [.int 0])) z (.lst (zeros.map V.int)) g = some (.lst ((wholeB (crashN B W kept i) n).map V.int)) := by
        rcases Bk.val (n := n) hB2 with ⟨e1, e2⟩ | ⟨v, c', e1, e2, a', rfl, ha'⟩
        · refine ⟨z, by rw [e2]; rfl, ?_⟩
          rw [upd_same]; unfold wholeB; rw [e1]; rfl
        · refine ⟨a', by rw [e2]; rfl, ?_⟩
          rw [s2 _ _ (D2.same _ _ ha')]; unfold wholeB; rw [e1]; rfl
      obtain ⟨g, eg, hg⟩ := hgot
      refine ⟨_, .inl ⟨kvs, Sum.inl n, .inl (s2 _ _ hd2), rfl, rfl⟩, ?_⟩
      rw [eg]
      refine ⟨_, rfl, _, rfl, g, _, rfl, SqL.of hg, fun q3 hq3 => ?_⟩
      have s4 := Same.un (u := .lst (cutV ((wholeB (crashN B W kept i) n).map V.int) (some (sizeB kept i)) none)) s2 hq3
      refine ⟨q1, q3, _, _, rfl, rfl, un (un (un upd_same hl) hz) hq3, upd_same, ?_, fun q4 hq4 => ?_⟩
      · rw [cut_to hs.1, cut_from hs.1, List.length_map, List.length_map, List.length_take, List.length_drop, wholeB_len hgB.1]
        omega
      have s5 := Same.un (u := .lst (cutV ((n, c).snd.map V.int) none (some (sizeB kept i)) ++ cutV ((wholeB (crashN B W kept i) n).map V.int) (some (sizeB kept i)) none)) s4 hq4
      have hlen2 : kvs.length < sizeLine := by
        rw [putK_len hB2]
        have := hgB.2.2
        omega
      have hf4 : H2 q4 = none := free_of s4 hq4
      obtain ⟨F3, D3, sF3, old3⟩ := dct_put (n := n) (v := .ref q4) (c := mixC (sizeB kept i) c (wholeB (crashN B W kept i) n)) D2 hd2 hB2 s5 ⟨q4, rfl, by
        rw [fz_new hf4 (by simp), upd_same, cut_to hs.1, cut_from hs.1, ← List.map_append]
        rfl⟩
      refine ⟨_, rfl, _, rfl, b, _, rfl, DPut.k (k := Sum.inl n) (s5 _ _ hd2) hlen2, ?_⟩
      refine ⟨F3, _, _, _, _, rfl, by rw [hstep]; exact D3, sF.trans sF3, fun x h => ?_, fun x o e h => ?_, by rw [upd_same]; simp⟩
      · by_cases e : x = b
        · rw [e, D3.free, D.free]
        · rw [old3 x, old x h]
          cases q : H x with
          | none => exact absurd q h
          | some o => rw [keep x o q e]; simp
      · rw [upd_ne h]; exact s5 _ _ (keep x o e h)
    · rintro σ H2 ⟨F2, v3, v4, v5, v6, rfl, D2, sF, old, keep, _⟩
      refine k F2 H2 ?_ sF old keep
      unfold crashB
      rw [← hxl]
      exact D2
end
end D67

set_option maxRecDepth 100000
set_option maxHeartbeats 4000000
namespace D67
open PySem L2 Kit
/-- the whole state: the disk's objects, and the law's own -/
structure LI (C : Addr) (F H : Hp) (p d wl s cl b lw kl : Addr) (S L : DS) : Prop where
  D : DiskAt C F H p d wl S
  st : StAt H s cl
  fs : F s = none
  fc : F cl = none
  fb : F b = none
  fl : F lw = none
  bb : ∃ kvs, H b = some (.dK kvs) ∧ Bk F kvs L.B
  ww : ∃ xs, H lw = some (.lst xs) ∧ Wt F xs L.W
  kk : F kl = some (.lst (L.kept.map .int))
  nbd : b ≠ d
  nlw : lw ≠ wl
  nsw : s ≠ wl
  ncw : cl ≠ wl
  nsl : s ≠ lw
  ncl : cl ≠ lw
section
variable {C : Addr} {F H H' F' : Hp} {p d wl wl' s cl b lw kl : Addr} {S S' L : DS}
theorem StAt.sh (t : StAt H s cl) : (∃ xs, H s = some (.lst xs)) ∧ ∃ xs, H cl = some (.lst xs) := ⟨let ⟨_, h, _⟩ := t.at_; ⟨_, h⟩, let ⟨_, h, _⟩ := t.cells; ⟨_, h⟩⟩
theorem StAt.mono (t : StAt H s cl) (g : ∀ a o, H a = some o → a = s ∨ a = cl → H' a = some o) : StAt H' s cl :=
  ⟨let ⟨i, h, hi⟩ := t.at_; ⟨i, g _ _ h (.inl rfl), hi⟩, let ⟨ns, h, h1⟩ := t.cells; ⟨ns, g _ _ h (.inr rfl), h1⟩, t.ne⟩
theorem LI.same (I : LI C F H p d wl s cl b lw kl S L) (g : Same H H') : LI C F H' p d wl s cl b lw kl S L :=
  ⟨I.D.mono g, I.st.mono fun a o e _ => g a o e, I.fs, I.fc, I.fb, I.fl, let ⟨k, h, h2⟩ := I.bb; ⟨k, g _ _ h, h2⟩, let ⟨k, h, h2⟩ := I.ww; ⟨k, g _ _ h, h2⟩, I.kk, I.nbd, I.nlw, I.nsw, I.ncw, I.nsl, I.ncl⟩
theorem LI.take (I : LI C F H p d wl s cl b lw kl S L) (t : StAt H' s cl) (g : ∀ a o, H a = some o → a ≠ s → a ≠ cl → H' a = some o) : LI C F H' p d wl s cl b lw kl S L := by
  obtain ⟨⟨x1, h1⟩, ⟨x2, h2⟩⟩ := I.st.sh
  obtain ⟨dx, ks, hp, hk⟩ := I.D.ob
  obtain ⟨kvs, hd, hB⟩ := I.D.dc
  obtain ⟨xs, hw, hW⟩ := I.D.wt
  obtain ⟨kb, hb, hbB⟩ := I.bb
  obtain ⟨xl, hl, hlW⟩ := I.ww
  have k : ∀ a o, H a = some o → (∀ xs, o ≠ .lst xs) → H' a = some o := fun a o e n => g a o e (fun z => by rw [z, h1] at e; exact n _ (Option.some.inj e).symm) (fun z => by rw [z, h2] at e; exact n _ (Option.some.inj e).symm)
  have kF : Same F H' := fun a o e => g a o (I.D.same a o e) (fun z => by rw [z, I.fs] at e; cases e) (fun z => by rw [z, I.fc] at e; cases e)
  exact ⟨⟨kF, I.D.fp, I.D.fd, I.D.fw, ⟨dx, ks, k _ _ hp (fun _ z => by cases z), hk⟩, ⟨kvs, k _ _ hd (fun _ z => by cases z), hB⟩, ⟨xs, g _ _ hw I.nsw.symm I.ncw.symm, hW⟩⟩, t, I.fs, I.fc, I.fb, I.fl,
    ⟨kb, k _ _ hb (fun _ z => by cases z), hbB⟩, ⟨xl, g _ _ hl I.nsl.symm I.ncl.symm, hlW⟩, I.kk, I.nbd, I.nlw, I.nsw, I.ncw, I.nsl, I.ncl⟩
theorem LI.disk (I : LI C F H p d wl s cl b lw kl S L) (M : Mvd F H F' H' p d wl wl') (D' : DiskAt C F' H' p d wl' S') : LI C F' H' p d wl' s cl b lw kl S' L := by
  obtain ⟨⟨x1, h1⟩, ⟨x2, h2⟩⟩ := I.st.sh
  obtain ⟨dx, ks, hp, hk⟩ := I.D.ob
  obtain ⟨kvs, hd, hB⟩ := I.D.dc
  obtain ⟨kb, hb, hbB⟩ := I.bb
  obtain ⟨xl, hl, hlW⟩ := I.ww
  have nsp : s ≠ p := ne_of h1 hp (by intro z; cases z)
  have nsd : s ≠ d := ne_of h1 hd (by intro z; cases z)
  have ncp : cl ≠ p := ne_of h2 hp (by intro z; cases z)
  have ncd : cl ≠ d := ne_of h2 hd (by intro z; cases z)
  have nbp : b ≠ p := ne_of hb hp (by intro z; cases z)
  have nlp : lw ≠ p := ne_of hl hp (by intro z; cases z)
  have nld : lw ≠ d := ne_of hl hd (by intro z; cases z)
  obtain ⟨xw, hw, _⟩ := I.D.wt
  have nbw : b ≠ wl := ne_of hb hw (by intro z; cases z)
  have ow : ∀ {a : Addr} {o : HO}, H a = some o → a ≠ wl → a ≠ wl' := fun {a o} e n => by
    rcases M.own with z | z
    · rw [z]; exact n
    · exact ne_of_none e z
  refine ⟨D', I.st.mono fun a o e q => ?_, ?_, ?_, ?_, ?_, ⟨kb, M.keep _ _ hb nbp I.nbd nbw, hbB.mono M.grow⟩, ⟨xl, M.keep _ _ hl nlp nld I.nlw, hlW.mono M.grow⟩, M.grow _ _ I.kk, I.nbd, ow hl I.nlw, ow h1 I.nsw, ow h2 I.ncw, I.nsl, I.ncl⟩
  · rcases q with rfl | rfl
    · exact M.keep _ _ e nsp nsd I.nsw
    · exact M.keep _ _ e ncp ncd I.ncw
  · rw [M.old s (by rw [h1]; simp)]; exact I.fs
  · rw [M.old cl (by rw [h2]; simp)]; exact I.fc
  · rw [M.old b (by rw [hb]; simp)]; exact I.fb
  · rw [M.old lw (by rw [hl]; simp)]; exact I.fl
theorem LI.dct (I : LI C F H p d wl s cl b lw kl S L) : Dct F H b L.B := ⟨I.D.same, I.fb, I.bb⟩
theorem LI.dict {B' : Blk} (I : LI C F H p d wl s cl b lw kl S L) (D' : Dct F' H' b B') (sF : Same F F') (old : ∀ a, H a ≠ none → F' a = F a) (keep : ∀ a o, H a = some o → a ≠ b → H' a = some o) : LI C F' H' p d wl s cl b lw kl S { L with B := B' } := by
  obtain ⟨⟨x1, h1⟩, ⟨x2, h2⟩⟩ := I.st.sh
  obtain ⟨dx, ks, hp, hk⟩ := I.D.ob
  obtain ⟨kvs, hd, hB⟩ := I.D.dc
  obtain ⟨xs, hw, hW⟩ := I.D.wt
  obtain ⟨kb, hb, hbB⟩ := I.bb
  obtain ⟨xl, hl, hlW⟩ := I.ww
  have k : ∀ a o, H a = some o → (∀ kv, o ≠ .dK kv) → H' a = some o := fun a o e n => keep a o e (fun z => by rw [z, hb] at e; exact n _ (Option.some.inj e).symm)
  refine ⟨⟨D'.same, ?_, ?_, ?_, ⟨dx, ks, k _ _ hp (fun _ z => by cases z), sF _ _ hk⟩, ⟨kvs, keep _ _ hd I.nbd.symm, hB.mono sF⟩, ⟨xs, k _ _ hw (fun _ z => by cases z), hW.mono sF⟩⟩, I.st.mono fun a o e q => ?_, ?_, ?_, D'.free, ?_, D'.dc, ⟨xl, k _ _ hl (fun _ z => by cases z), hlW.mono sF⟩, sF _ _ I.kk, I.nbd, I.nlw, I.nsw, I.ncw, I.nsl, I.ncl⟩
  · rw [old p (by rw [hp]; simp)]; exact I.D.fp
  · rw [old d (by rw [hd]; simp)]; exact I.D.fd
  · rw [old wl (by rw [hw]; simp)]; exact I.D.fw
  · refine keep a o e ?_
    rcases q with rfl | rfl
    · exact ne_of h1 hb (by intro z; cases z)
    · exact ne_of h2 hb (by intro z; cases z)
  · rw [old s (by rw [h1]; simp)]; exact I.fs
  · rw [old cl (by rw [h2]; simp)]; exact I.fc
  · rw [old lw (by rw [hl]; simp)]; exact I.fl
/-- waiting = [] -/
theorem LI.none (I : LI C F H p d wl s cl b lw kl S L) {l : Addr} (hl : H l = Option.none) : LI C F (upd H l (.lst [])) p d wl s cl b l kl S { L with W := [] } := by
  have J := I.same (sup (u := .lst []) hl)
  obtain ⟨⟨x1, h1⟩, ⟨x2, h2⟩⟩ := I.st.sh
  obtain ⟨xs, hw, hW⟩ := I.D.wt
  refine ⟨J.D, J.st, J.fs, J.fc, J.fb, ?_, J.bb, ⟨[], upd_same, .nil⟩, J.kk, J.nbd, (ne_of_none hw hl).symm, J.nsw, J.ncw, ne_of_none h1 hl, ne_of_none h2 hl⟩
  cases e : F l with
  | none => rfl
  | some o => rw [I.D.same l o e] at hl; cases hl
/-- waiting.append((number, list(content))) -/
theorem LI.push (I : LI C F H p d wl s cl b lw kl S L) {q t : Addr} {n : Int} {c : List Int} {xs : List V} (hx : H lw = some (.lst xs)) (hq : H q = Option.none) (ht : upd H q (.lst (c.map .int)) t = Option.none) :
    ∃ F', LI C F' (upd (upd (upd H q (.lst (c.map .int))) t (.tup [.int n, .ref q])) lw (.lst (xs ++ [.ref t]))) p d wl s cl b lw kl S { L with W := L.W ++ [(n, c)] } ∧ ∀ a, H a ≠ Option.none → F' a = F a := by
  have s1 : Same H (upd (upd H q (.lst (c.map .int))) t (.tup [.int n, .ref q])) := Same.un (sup hq) ht
  have nqt : q ≠ t := ne_of_none upd_same ht
  have hft : H t = Option.none := fr ht
  obtain ⟨⟨x1, h1⟩, ⟨x2, h2⟩⟩ := I.st.sh
  obtain ⟨dx, ks, hp, hk⟩ := I.D.ob
  obtain ⟨kvs, hd, hB⟩ := I.D.dc
  obtain ⟨xw, hw, hW⟩ := I.D.wt
  obtain ⟨kb, hb, hbB⟩ := I.bb
  obtain ⟨xl, hl, hlW⟩ := I.ww
  rw [hx] at hl; cases hl
  have g : ∀ a o, H a = some o → a ≠ lw → upd (upd (upd H q (.lst (c.map .int))) t (.tup [.int n, .ref q])) lw (.lst (xs ++ [.ref t])) a = some o := fun a o e h => by rw [upd_ne h]; exact s1 a o e
  have gF : ∀ a o, F a = some o → upd (upd (upd H q (.lst (c.map .int))) t (.tup [.int n, .ref q])) lw (.lst (xs ++ [.ref t])) a = some o := fun a o e => g a o (I.D.same a o e) (fun z => by rw [z, I.fl] at e; cases e)
  have ge := fz_ge (H' := upd (upd (upd H q (.lst (c.map .int))) t (.tup [.int n, .ref q])) lw (.lst (xs ++ [.ref t]))) (M := []) I.D.same
  refine ⟨fz F H (upd (upd (upd H q (.lst (c.map .int))) t (.tup [V.int n, V.ref q])) lw (.lst (xs ++ [V.ref t]))) [], ⟨⟨fz_le gF, ?_, ?_, ?_, ⟨dx, ks, g _ _ hp (ne_of hp hx (by intro z; cases z)), ge _ _ hk⟩, ⟨kvs, g _ _ hd (ne_of hd hx (by intro z; cases z)), hB.mono ge⟩, ⟨xw, g _ _ hw I.nlw.symm, hW.mono ge⟩⟩, I.st.mono fun a o e z => g a o e ?_, ?_, ?_, ?_, ?_,
    ⟨kb, g _ _ hb (ne_of hb hx (by intro z; cases z)), hbB.mono ge⟩, ⟨_, upd_same, Paired.app (x := V.ref t) (y := (n, c)) (hlW.mono ge) ⟨t, .ref q, rfl, ?_, q, rfl, ?_⟩⟩, ge _ _ I.kk, I.nbd, I.nlw, I.nsw, I.ncw, I.nsl, I.ncl⟩, fun a h => fz_old h⟩
  · rw [fz_old (by rw [hp]; simp)]; exact I.D.fp
  · rw [fz_old (by rw [hd]; simp)]; exact I.D.fd
  · rw [fz_old (by rw [hw]; simp)]; exact I.D.fw
  · rcases z with rfl | rfl
    · exact I.nsl
    · exact I.ncl
  · rw [fz_old (by rw [h1]; simp)]; exact I.fs
  · rw [fz_old (by rw [h2]; simp)]; exact I.fc
  · rw [fz_old (by rw [hb]; simp)]; exact I.fb
  · rw [fz_old (by rw [hx]; simp)]; exact I.fl
  · rw [fz_new hft (by simp), upd_ne (ne_of_none hx hft).symm, upd_same]
  · rw [fz_new hq (by simp), upd_ne (ne_of_none hx hq).symm, upd_ne nqt, upd_same]
theorem LI.cast {L' : DS} (I : LI C F H p d wl s cl b lw kl S L) (hB : L'.B = L.B) (hW : L'.W = L.W) (hk : L'.kept = L.kept) : LI C F H p d wl s cl b lw kl S L' :=
  ⟨I.D, I.st, I.fs, I.fc, I.fb, I.fl, by rw [hB]; exact I.bb, by rw [hW]; exact I.ww, by rw [hk]; exact I.kk, I.nbd, I.nlw, I.nsw, I.ncw, I.nsl, I.ncl⟩
/-- apart from all that may change -/
structure Apart (F : Hp) (p d wl s cl b lw x : Addr) : Prop where
  f : F x = Option.none
  p : x ≠ p
  d : x ≠ d
  w : x ≠ wl
  s : x ≠ s
  c : x ≠ cl
  b : x ≠ b
  l : x ≠ lw
theorem LI.apart (I : LI C F H p d wl s cl b lw kl S L) {x : Addr} (hx : H x = Option.none) : Apart F p d wl s cl b lw x := by
  obtain ⟨⟨x1, h1⟩, ⟨x2, h2⟩⟩ := I.st.sh
  obtain ⟨dx, ks, hp, hk⟩ := I.D.ob
  obtain ⟨kvs, hd, hB⟩ := I.D.dc
  obtain ⟨xs, hw, hW⟩ := I.D.wt
  obtain ⟨kb, hb, hbB⟩ := I.bb
  obtain ⟨xl, hl, hlW⟩ := I.ww
  refine ⟨?_, (ne_of_none hp hx).symm, (ne_of_none hd hx).symm, (ne_of_none hw hx).symm, (ne_of_none h1 hx).symm, (ne_of_none h2 hx).symm, (ne_of_none hb hx).symm, (ne_of_none hl hx).symm⟩
  cases e : F x with
  | none => rfl
  | some o => rw [I.D.same x o e] at hx; cases hx
theorem Apart.disk {x : Addr} {o : HO} (A : Apart F p d wl s cl b lw x) (e : H x = some o) (M : Mvd F H F' H' p d wl wl') : Apart F' p d wl' s cl b lw x ∧ H' x = some o := by
  refine ⟨⟨by rw [M.old x (by rw [e]; simp)]; exact A.f, A.p, A.d, ?_, A.s, A.c, A.b, A.l⟩, M.keep x o e A.p A.d A.w⟩
  rcases M.own with z | z
  · rw [z]; exact A.w
  · exact ne_of_none e z
/-- a store at something apart -/
theorem LI.store (I : LI C F H p d wl s cl b lw kl S L) {x : Addr} {o : HO} (A : Apart F p d wl s cl b lw x) : LI C F (upd H x o) p d wl s cl b lw kl S L := by
  obtain ⟨dx, ks, hp, hk⟩ := I.D.ob
  obtain ⟨kvs, hd, hB⟩ := I.D.dc
  obtain ⟨xs, hw, hW⟩ := I.D.wt
  obtain ⟨kb, hb, hbB⟩ := I.bb
  obtain ⟨xl, hl, hlW⟩ := I.ww
  have g : ∀ a o', H a = some o' → a ≠ x → upd H x o a = some o' := fun a o' e h => by rw [upd_ne h]; exact e
  exact ⟨⟨fun a o' e => g a o' (I.D.same a o' e) (fun z => by rw [z, A.f] at e; cases e), I.D.fp, I.D.fd, I.D.fw, ⟨dx, ks, g _ _ hp A.p.symm, hk⟩, ⟨kvs, g _ _ hd A.d.symm, hB⟩, ⟨xs, g _ _ hw A.w.symm, hW⟩⟩, I.st.mono (fun a o' e z => g a o' e (by rcases z with rfl | rfl; exact A.s.symm; exact A.c.symm)),
    I.fs, I.fc, I.fb, I.fl, ⟨kb, g _ _ hb A.b.symm, hbB⟩, ⟨xl, g _ _ hl A.l.symm, hlW⟩, I.kk, I.nbd, I.nlw, I.nsw, I.ncw, I.nsl, I.ncl⟩
/-- a list apart is frozen as the law's kept one -/
theorem LI.freeze (I : LI C F H p d wl s cl b lw kl S L) {x : Addr} {ks : List Int} (A : Apart F p d wl s cl b lw x) (hx : H x = some (.lst (ks.map .int))) : LI C (upd F x (.lst (ks.map .int))) H p d wl s cl b lw x S { L with kept := ks } := by
  have sF : Same F (upd F x (.lst (ks.map .int))) := sup A.f
  obtain ⟨dx, k2, hp, hk⟩ := I.D.ob
  obtain ⟨kvs, hd, hB⟩ := I.D.dc
  obtain ⟨xs, hw, hW⟩ := I.D.wt
  obtain ⟨kb, hb, hbB⟩ := I.bb
  obtain ⟨xl, hl, hlW⟩ := I.ww
  refine ⟨⟨fun a o e => ?_, by rw [upd_ne A.p.symm]; exact I.D.fp, by rw [upd_ne A.d.symm]; exact I.D.fd, by rw [upd_ne A.w.symm]; exact I.D.fw, ⟨dx, k2, hp, sF _ _ hk⟩, ⟨kvs, hd, hB.mono sF⟩, ⟨xs, hw, hW.mono sF⟩⟩, I.st, by rw [upd_ne A.s.symm]; exact I.fs, by rw [upd_ne A.c.symm]; exact I.fc, by rw [upd_ne A.b.symm]; exact I.fb, by rw [upd_ne A.l.symm]; exact I.fl,
    ⟨kb, hb, hbB.mono sF⟩, ⟨xl, hl, hlW.mono sF⟩, upd_same, I.nbd, I.nlw, I.nsw, I.ncw, I.nsl, I.ncl⟩
  by_cases e' : a = x
  · rw [e', upd_same] at e; cases e; rw [e']; exact hx
  · rw [upd_ne e'] at e; exact I.D.same a o e
end
end D67

set_option maxRecDepth 100000
set_option maxHeartbeats 8000000
namespace D67
open PySem L2 Kit
abbrev N_law : List Str := ["script", "state", "first", "disk", "blocks", "waiting", "left", "kept", "cut", "turn", "kind", "number", "rows", "content", "one", "row", "due", "told", "k"]
theorem sc_law : FnScope N_law ["script"] (defScope s_law) := ⟨rfl, rfl, rfl, by decide +kernel, rfl, by decide +kernel, by decide +kernel⟩
/-- the slots of law: what stands in those that matter -/
def Sg (a s p b lw kl : Addr) (l : Option Int) (c : Bool) (σ : L2.St) : Prop := ∃ v2 v9 v10 v11 v12 v13 v14 v15 v16 v17 v18 : Option V,
  σ = [some (.ref a), some (.ref s), v2, some (.ref p), some (.ref b), some (.ref lw), some (optV l), some (.ref kl), some (.bl c), v9, v10, v11, v12, v13, v14, v15, v16, v17, v18]
structure Okd (S : DS) (n : Nat) : Prop where
  gB : Good S.B
  gW : Good S.W
  kB : Keys S.B
  len : S.B.length + S.W.length ≤ n
  left : ∀ l, S.left = some l → S.cut = false → 1 ≤ l
theorem Okd.sok {S : DS} {n : Nat} (h : Okd S n) (hn : n ≤ 62) : SOk S := ⟨h.gB, h.gW, h.kB, Nat.le_trans h.len hn⟩
theorem countS_okd {S : DS} {n : Nat} (h : Okd S n) (hn : n ≤ 62) : Okd (countS S) n := by
  have ok := countS_ok (h.sok hn)
  refine ⟨ok.gB, ok.gW, ok.kB, ?_, ?_⟩
  · unfold countS
    split
    · exact h.len
    · split
      · exact h.len
      · split
        · obtain ⟨_, _, h3⟩ := crashN_ok (kept := S.kept) h.gB h.gW h.kB S.W.length
          have := h.len
          show (crashN S.B S.W S.kept S.W.length).length + 0 ≤ n
          omega
        · exact h.len
  · unfold countS
    split
    · exact h.left
    · split
      · exact h.left
      · split
        · intro l _ hc; cases hc
        · rename_i l0 _ _ hle
          intro l e _
          cases e; omega
theorem writeS_okd {S : DS} {n : Nat} {m : Int} {c : List Int} (h : Okd S n) (hn : n ≤ 62) (hc : c.length = 64) : Okd (writeS S m c) (n + 1) := by
  have k := countS_okd h hn
  unfold writeS
  split
  · exact ⟨k.gB, k.gW, k.kB, Nat.le_succ_of_le k.len, k.left⟩
  · refine ⟨k.gB, fun b hb => ?_, k.kB, ?_, k.left⟩
    · rcases List.mem_append.mp hb with hb | hb
      · exact k.gW b hb
      · rw [List.mem_singleton.mp hb]; exact hc
    · show (countS S).B.length + ((countS S).W ++ [(m, c)]).length ≤ n + 1
      rw [List.length_append]
      have := k.len
      simp; omega
theorem syncS_okd {S : DS} {n : Nat} (h : Okd S n) (hn : n ≤ 62) : Okd (syncS S) (n + 1) := by
  have k := countS_okd h hn
  unfold syncS
  split
  · exact ⟨k.gB, k.gW, k.kB, Nat.le_succ_of_le k.len, k.left⟩
  · obtain ⟨h1, h2, h3⟩ := syncN_ok k.gB k.gW k.kB (countS S).W.length
    refine ⟨h1, (fun _ h => nomatch h), h2, ?_, k.left⟩
    show (syncN (countS S).B (countS S).W (countS S).W.length).length + 0 ≤ n + 1
    have := k.len; omega
def ones : List Int := List.replicate 64 1
def spLaw (K : PySem.W.Frag) : Sp := fun vs H Q _ => ∃ (a : Addr) (ns : List Int), vs = [.ref a] ∧ SqL K H a (ns.map V.int) ∧ ns.length ≤ 63 ∧ ∀ H', Q (.bl true) H'
section
variable {P : Program} {w : World} {K : PySem.W.Frag} {mg : Str → Option Value} {base : Heap}
theorem DiskAt.grow {C : Addr} {F H H2 : Hp} {p d wl : Addr} {S : DS} (D : DiskAt C F H p d wl S) (s : Same H H2) : DiskAt C (fz F H H2 []) H2 p d wl S := by
  obtain ⟨dx, ks, hp, hk⟩ := D.ob
  obtain ⟨kvs, hd, hB⟩ := D.dc
  obtain ⟨xs, hw, hW⟩ := D.wt
  have ge := fz_ge (H' := H2) (M := []) D.same
  exact ⟨fz_le (D.same.trans s), by rw [fz_old (by rw [hp]; simp)]; exact D.fp, by rw [fz_old (by rw [hd]; simp)]; exact D.fd, by rw [fz_old (by rw [hw]; simp)]; exact D.fw, ⟨dx, ks, s _ _ hp, ge _ _ hk⟩, ⟨kvs, s _ _ hd, hB.mono ge⟩, ⟨xs, s _ _ hw, hW.mono ge⟩⟩
theorem dp_rows {H H' : Hp} {q : Addr} {xs : List V} {R : Blk} (h : H' q = some (.lst xs)) (r : Rw H H' xs R) : Dp K H' (.ref q) (drs R) := by
  refine .lst (SqL.of h) ?_
  clear h
  induction r with
  | nil => exact .nil
  | @cons x b _ _ q _ ih =>
    obtain ⟨t, a, rfl, _, h1, _, h2⟩ := q
    exact .cons (.tup (SqT.of h1) (.cons (.int b.1) (.cons (dp_list h2) .nil))) ih
/-- rows whose contents are frozen -/
def Rf (F H : Hp) : List V → Blk → Prop := Paired fun (x : V) (r : Int × List Int) => ∃ t a, x = V.ref t ∧ H t = some (.tup [V.int r.1, V.ref a]) ∧ F a = some (.lst (r.2.map V.int))
theorem Rf.mono {F H H' : Hp} (s : Same H H') {xs : List V} {R : Blk} (h : Rf F H xs R) : Rf F H' xs R := Paired.mapP h fun _ _ ⟨t, a, e, h1, h2⟩ => ⟨t, a, e, s _ _ h1, h2⟩
theorem Rf.at {F H : Hp} {D : Addr} {acc ys : List V} (hD : H D = some (.lst acc)) {xs : List V} {R : Blk} (h : Rf F H xs R) : Rf F (upd H D (.lst ys)) xs R := Paired.mapP h fun _ _ ⟨t, a, e, h1, h2⟩ => ⟨t, a, e, by rw [upd_ne (ne_of h1 hD (by intro z; cases z))]; exact h1, h2⟩
theorem Rf.dp {F H : Hp} (s : Same F H) {xs : List V} {R : Blk} (h : Rf F H xs R) : DpAll K H xs (R.map dr) := by
  induction h with
  | nil => exact .nil
  | @cons x r _ _ q _ ih =>
    obtain ⟨t, a, rfl, h1, h2⟩ := q
    exact .cons (.tup (SqT.of h1) (.cons (.int r.1) (.cons (dp_list (s _ _ h2)) .nil))) ih
theorem ok_law {f : Addr} {fd : FuncData} (F : Fun K "law" "law" s_law f fd) (T : Txt K mg) : FnOk P w K mg base CX0 5 f fd ["script"] (spLaw K) := by
  refine F.ok sc_law (fun vs H Q E h => ?_) (fun cdv A outer s0 H vs Q E hr h => ?_)
  · obtain ⟨a, ns, rfl, _⟩ := h
    rfl
  · obtain ⟨a, ns, rfl, hS, hlen, k⟩ := h
    have hu := hu_of hr
    have sq : sizeLine > 200 := by decide
    refine ⟨_, (pss_cons (ps_set (i := 1) sc_law.nd rfl (Or.inr rfl) (pe_call (ok_law_state T) (hr.mono (by decide)) rfl T.mg_law_state T.k_law_state T.b_law_state .nil pass0 (pa_cons (pv 0) pa_nil)))
    (pss_cons (ps_set (i := 2) sc_law.nd rfl (Or.inl rfl) (pe_ifExp (pt_cmpR op_eq (pe_call (ok_law_take T) (hr.mono (by decide)) rfl T.mg_law_take T.k_law_take T.b_law_take .nil pass0 (pa_cons (pv 1) (pa_cons pe_int pa_nil))) pe_int (nomark _)) (pe_lst (pa_cons (pe_tup (pa_cons pe_int (pa_cons (pe_op op_rep (pe_lst (pa_cons pe_int pa_nil)) pe_int) pa_nil))) pa_nil)) (pe_lst pa_nil)))
    (pss_cons (ps_asg (pe_tup (pa_cons (pe_make T.M_Disk (ok_Disk_init T) (hr.mono (by decide)) rfl T.mg_Disk T.b_Disk_init .nil pass0 (pa_cons (pv 2) pa_nil)) (pa_cons (pe_callTy (call_dictP rfl) (by rfl) T.n_dict (by decide +kernel) (pa_cons (pe_lc rfl sc_law.nd (pi_listB K (pv 2)) (blkOk_by (own := [("number", 11), ("content", 13)]) (N := N_law) (sc := defScope s_law) (by decide +kernel)) (fun _ _ _ _ _ => (pg_tupB K (n := 2) rfl (pgs_cons (pg_name (i := 11) sc_law.nd rfl (Or.inl rfl)) (pgs_cons (pg_name (i := 13) sc_law.nd rfl (Or.inl rfl)) pgs_nil)))) (fun _ _ _ _ _ => pts_nil) (fun _ _ _ _ _ => (pe_tup (pa_cons (pv 11) (pa_cons (pe_callTy (call_list_ofB K) (by rfl) T.n_list (by decide +kernel) (pa_cons (pv 13) pa_nil)) pa_nil))))) pa_nil)) (pa_cons (pe_lst pa_nil) (pa_cons pe_non (pa_cons (pe_lst pa_nil) pa_nil)))))) (pg_tupB K (n := 5) rfl (pgs_cons (pg_name (i := 3) sc_law.nd rfl (Or.inl rfl)) (pgs_cons (pg_name (i := 4) sc_law.nd rfl (Or.inr rfl)) (pgs_cons (pg_name (i := 5) sc_law.nd rfl (Or.inl rfl)) (pgs_cons (pg_name (i := 6) sc_law.nd rfl (Or.inl rfl)) (pgs_cons (pg_name (i := 7) sc_law.nd rfl (Or.inl rfl)) pgs_nil)))))))
    (pss_cons (ps_set (i := 8) sc_law.nd rfl (Or.inl rfl) pe_bl)
    (pss_cons (ps_for PassesOwn.never rfl (pi_range1 rfl T.n_range (pa_cons (pe_op op_add pe_int (pe_call (ok_law_take T) (hr.mono (by decide)) rfl T.mg_law_take T.k_law_take T.b_law_take .nil pass0 (pa_cons (pv 1) (pa_cons pe_int pa_nil)))) pa_nil)) (pg_name (i := 9) sc_law.nd rfl (Or.inl rfl))
      (pss_cons (ps_par (i := 10) (j := 11) rfl sc_law.nd rfl rfl (by decide) rfl rfl (pa_cons (pe_call (ok_law_take T) (hr.mono (by decide)) rfl T.mg_law_take T.k_law_take T.b_law_take .nil pass0 (pa_cons (pv 1) (pa_cons pe_int pa_nil))) (pa_cons (pe_call (ok_law_take T) (hr.mono (by decide)) rfl T.mg_law_take T.k_law_take T.b_law_take .nil pass0 (pa_cons (pv 1) (pa_cons pe_int pa_nil))) pa_nil)) (by rfl))
      (pss_cons (ps_if (PW.pt (pw_and (pt_cmpR op_eq (pv 10) pe_int (nomark _)) (pw_and1 (pt_not (pt_val (pv 8))))))
        (pss_cons (ps_par (i := 6) (j := 7) rfl sc_law.nd rfl rfl (by decide) rfl rfl (pa_cons (pe_op op_add pe_int (pe_call (ok_law_take T) (hr.mono (by decide)) rfl T.mg_law_take T.k_law_take T.b_law_take .nil pass0 (pa_cons (pv 1) (pa_cons pe_int pa_nil)))) (pa_cons (pe_lc rfl sc_law.nd (pi_range1 rfl T.n_range (pa_cons (pe_call (ok_law_take T) (hr.mono (by decide)) rfl T.mg_law_take T.k_law_take T.b_law_take .nil pass0 (pa_cons (pv 1) (pa_cons pe_int pa_nil))) pa_nil)) (blkOk_by (own := [("k", 18)]) (N := N_law) (sc := defScope s_law) (by decide +kernel)) (fun _ _ _ _ _ => (pg_name (i := 18) sc_law.nd rfl (Or.inl rfl))) (fun _ _ _ _ _ => pts_nil) (fun _ _ _ _ _ => (pe_op op_sub (pe_call (ok_law_take T) (hr.mono (by decide)) rfl T.mg_law_take T.k_law_take T.b_law_take .nil pass0 (pa_cons (pv 1) (pa_cons pe_int pa_nil))) pe_int))) pa_nil)) (by rfl))
        (pss_one (ps_expr (pe_meth (pv 3) T.cl T.m_Disk_cut_in (ok_Disk_cut_in T) (hr.mono (by decide)) T.b_Disk_cut_in .nil pass0 (pa_cons (pv 6) (pa_cons (pv 7) pa_nil))))))
        (pss_one (ps_if (pt_cmpR op_eq (pv 10) pe_int (nomark _))
          (pss_cons (ps_setLc (i := 12) rfl sc_law.nd rfl rfl (sw_true rfl rfl rfl (by decide +kernel)) (pi_range1 rfl T.n_range (pa_cons (pe_call (ok_law_take T) (hr.mono (by decide)) rfl T.mg_law_take T.k_law_take T.b_law_take .nil pass0 (pa_cons (pv 1) (pa_cons pe_int pa_nil))) pa_nil)) (blkOk_by (own := [("k", 18)]) (N := N_law) (sc := defScope s_law) (by decide +kernel)) (fun _ _ _ _ _ => (pg_name (i := 18) sc_law.nd rfl (Or.inl rfl))) (fun _ _ _ _ _ => pts_nil) (fun _ _ _ _ _ => (pe_op op_sub (pe_call (ok_law_take T) (hr.mono (by decide)) rfl T.mg_law_take T.k_law_take T.b_law_take .nil pass0 (pa_cons (pv 1) (pa_cons pe_int pa_nil))) pe_int)))
          (pss_cons (ps_expr (pe_meth (pv 3) T.cl T.m_Disk_crash (ok_Disk_crash T) (hr.mono (by decide)) T.b_Disk_crash .nil pass0 (pa_cons (pv 12) pa_nil)))
          (pss_cons (ps_expr (pe_call (ok_law_crashed T) (hr.mono (by decide)) rfl T.mg_law_crashed T.k_law_crashed T.b_law_crashed .nil pass0 (pa_cons (pv 4) (pa_cons (pv 5) (pa_cons (pv 12) pa_nil)))))
          (pss_one (ps_set (i := 5) sc_law.nd rfl (Or.inl rfl) (pe_lst pa_nil))))))
          (pss_one (ps_if (pt_cmpR op_lt (pv 10) pe_int (nomark _))
            (pss_cons (ps_set (i := 13) sc_law.nd rfl (Or.inl rfl) (pe_op op_rep (pe_lst (pa_cons (pe_call (ok_law_take T) (hr.mono (by decide)) rfl T.mg_law_take T.k_law_take T.b_law_take .nil pass0 (pa_cons (pv 1) (pa_cons pe_int pa_nil))) pa_nil)) (pe_op op_add pe_int (pe_call (ok_law_take T) (hr.mono (by decide)) rfl T.mg_law_take T.k_law_take T.b_law_take .nil pass0 (pa_cons (pv 1) (pa_cons pe_int pa_nil))))))
            (pss_cons (ps_set (i := 13) sc_law.nd rfl (Or.inl rfl) (pe_op op_cat (pv 13) (pe_op op_rep (pe_lst (pa_cons (pe_call (ok_law_take T) (hr.mono (by decide)) rfl T.mg_law_take T.k_law_take T.b_law_take .nil pass0 (pa_cons (pv 1) (pa_cons pe_int pa_nil))) pa_nil)) (pe_op op_sub pe_int (pe_callB (call_len_seqB K) (by rfl) T.n_len (by decide +kernel) (pa_cons (pv 13) pa_nil))))))
            (pss_cons (ps_if (PW.pt (pw_and (pt_cmpR op_notN (pv 6) pe_non (nomark _)) (pw_and1 (pt_not (pt_val (pv 8))))))
              (pss_cons (ps_set (i := 6) sc_law.nd rfl (Or.inl rfl) (pe_op op_sub (pv 6) pe_int))
              (pss_one (ps_if (pt_cmpR op_eq (pv 6) pe_int (nomark _))
                (pss_cons (ps_expr (pe_call (ok_law_crashed T) (hr.mono (by decide)) rfl T.mg_law_crashed T.k_law_crashed T.b_law_crashed .nil pass0 (pa_cons (pv 4) (pa_cons (pv 5) (pa_cons (pv 7) pa_nil)))))
                (pss_one (ps_par (i := 5) (j := 8) rfl sc_law.nd rfl rfl (by decide) rfl rfl (pa_cons (pe_lst pa_nil) (pa_cons pe_bl pa_nil)) (by rfl))))
                pss_nil)))
              pss_nil)
            (pss_one (ps_if (pt_cmpR op_lt (pv 10) pe_int (nomark _))
              (pss_cons (ps_expr (pe_meth (pv 3) T.cl T.m_Disk_write (ok_Disk_write T) (hr.mono (by decide)) T.b_Disk_write .nil pass0 (pa_cons (pv 11) (pa_cons (pv 13) pa_nil))))
              (pss_cons (ps_if (pt_not (pt_val (pv 8)))
                (pss_one (ps_expr (pe_bm PySem.F.plainAttrs_list PySem.F.slot_list_append PySem.F.type_list_append mt_append (pv 5) (pa_cons (pe_tup (pa_cons (pv 11) (pa_cons (pe_callTy (call_list_ofB K) (by rfl) T.n_list (by decide +kernel) (pa_cons (pv 13) pa_nil)) pa_nil))) pa_nil))))
                pss_nil)
              (pss_one (ps_asg pe_int (pg_sub (pv 13) pe_int set_list)))))
              (pss_cons (ps_expr (pe_meth0 (pv 3) T.cl T.m_Disk_sync (ok_Disk_sync T) (hr.mono (by decide)) T.b_Disk_sync .nil pass0))
              (pss_one (ps_if (pt_not (pt_val (pv 8)))
                (pss_cons (ps_for PassesOwn.never rfl (pi_listB K (pv 5)) (pg_tupB K (n := 2) rfl (pgs_cons (pg_name (i := 14) sc_law.nd rfl (Or.inl rfl)) (pgs_cons (pg_name (i := 15) sc_law.nd rfl (Or.inl rfl)) pgs_nil)))
                  (pss_one (ps_dput hu (pv 4) (pv 14) (pv 15) rfl)))
                (pss_one (ps_set (i := 5) sc_law.nd rfl (Or.inl rfl) (pe_lst pa_nil))))
                pss_nil))))))))
            pss_nil)))))
      (pss_cons (ps_if (pt_cmpR op_ne (pe_fldB K (pv 3) rfl) (pv 8) (nomark _))
        (pss_one (ps_ret pe_bl))
        pss_nil)
      (pss_cons (ps_for PassesOwn.never rfl (pi_range1 rfl T.n_range (pa_cons pe_int pa_nil)) (pg_name (i := 11) sc_law.nd rfl (Or.inl rfl))
        (pss_cons (ps_set (i := 16) sc_law.nd rfl (Or.inl rfl) (pe_dget2 hu (pv 4) (pv 11) (pe_op op_rep (pe_lst (pa_cons pe_int pa_nil)) pe_int) ⟨rfl, rfl, rfl, rfl⟩))
        (pss_cons (ps_for PassesOwn.never rfl (pi_listB K (pv 5)) (pg_tupB K (n := 2) rfl (pgs_cons (pg_name (i := 14) sc_law.nd rfl (Or.inl rfl)) (pgs_cons (pg_name (i := 15) sc_law.nd rfl (Or.inl rfl)) pgs_nil)))
          (pss_one (ps_set (i := 16) sc_law.nd rfl (Or.inl rfl) (pe_ifExp (pt_cmpR op_eq (pv 14) (pv 11) (nomark _)) (pv 15) (pv 16)))))
        (pss_cons (ps_set (i := 17) sc_law.nd rfl (Or.inl rfl) (pe_meth (pv 3) T.cl T.m_Disk_read (ok_Disk_read T) (hr.mono (by decide)) T.b_Disk_read .nil pass0 (pa_cons (pv 11) pa_nil)))
        (pss_cons (ps_if (pt_cmpR (op_neDB K hr.units) (pv 17) (pv 16) (nomark _))
          (pss_one (ps_ret pe_bl))
          pss_nil)
        (pss_one (ps_asg pe_int (pg_sub (pv 17) pe_int set_list))))))))
      (pss_cons (ps_set (i := 17) sc_law.nd rfl (Or.inl rfl) (pe_meth0 (pv 3) T.cl T.m_Disk_synced (ok_Disk_synced T) (hr.mono (by decide)) T.b_Disk_synced .nil pass0))
      (pss_cons (ps_if (pt_cmpR (op_neDB K hr.units) (pv 17) (pe_lc rfl sc_law.nd (pi_listB K (pe_callB (call_sortedDI rfl) (by rfl) T.n_sorted (by decide +kernel) (pa_cons (pv 4) pa_nil))) (blkOk_by (own := [("number", 11)]) (N := N_law) (sc := defScope s_law) (by decide +kernel)) (fun _ _ _ _ _ => (pg_name (i := 11) sc_law.nd rfl (Or.inl rfl))) (fun _ _ _ _ _ => (pts_one (pt_cmpR (op_neDB K hr.units) (pe_dget hu (pv 4) (pv 11) (fun _ _ => rfl)) (pe_op op_rep (pe_lst (pa_cons pe_int pa_nil)) pe_int) (nomark _)))) (fun _ _ _ _ _ => (pe_tup (pa_cons (pv 11) (pa_cons (pe_dget hu (pv 4) (pv 11) (fun _ _ => rfl)) pa_nil))))) (nomark _))
        (pss_one (ps_ret pe_bl))
        pss_nil)
      (pss_one (ps_for PassesOwn.never rfl (pi_listB K (pv 17)) (pg_tupB K (n := 2) rfl (pgs_cons (pg_name (i := 11) sc_law.nd rfl (Or.inl rfl)) (pgs_cons (pg_name (i := 13) sc_law.nd rfl (Or.inl rfl)) pgs_nil)))
        (pss_one (ps_asg pe_int (pg_sub (pv 13) pe_int set_list))))))))))))
    (pss_one (ps_ret (pe_cmpR (op_eqDB K hr.units) (pe_meth0 (pe_make T.M_Disk (ok_Disk_init T) (hr.mono (by decide)) rfl T.mg_Disk T.b_Disk_init .nil pass0 (pa_cons (pe_meth0 (pv 3) T.cl T.m_Disk_synced (ok_Disk_synced T) (hr.mono (by decide)) T.b_Disk_synced .nil pass0) pa_nil)) T.cl T.m_Disk_synced (ok_Disk_synced T) (hr.mono (by decide)) T.b_Disk_synced .nil pass0) (pe_meth0 (pv 3) T.cl T.m_Disk_synced (ok_Disk_synced T) (hr.mono (by decide)) T.b_Disk_synced .nil pass0) (nomark _))))))))), ?_⟩
    refine ⟨_, rfl, a, ns, rfl, hS, hlen, fun s cl H1 ns0 nc0 st1 sm1 => ?_⟩
    dsimp only
    refine seq_by (fun σ H => ∃ (f1 : Addr) (xs : List V) (R : Blk), σ = [some (.ref a), some (.ref s), some (.ref f1), none, none, none, none, none, none, none, none, none, none, none, none, none, none, none, none] ∧ StAt H s cl ∧ H f1 = some (.lst xs) ∧ Rows H xs R ∧ (R = [] ∨ R = [(3, ones)])) ?_ (fun rest => ?_)
    rotate_left
    · -- first
      refine ⟨_, rfl, s, cl, 2, rfl, by decide, by decide, st1, fun r H2 r0 r1 st2 g2 n2 => ⟨rfl, _, rfl, ite2 (fun he => ?_) (fun he => ?_)⟩⟩
      · refine ⟨by decide, fun l hl => ⟨l, 64, _, rfl, rfl, upd_same, by decide, by decide, by decide, fun q hq => ?_⟩⟩
        refine ⟨(by show 2 ≤ sizeLine; decide), fun t ht => ⟨(by show 1 ≤ sizeLine; decide), fun u hu' => ?_⟩⟩
        refine rest _ _ ⟨u, _, [(3, ones)], rfl, ?_, upd_same, ?_, .inr rfl⟩
        · exact st2.mono fun a o e _ => un (un (un (un e hl) hq) ht) hu'
        · refine .cons ⟨t, q, rfl, un upd_same hu', ?_⟩ .nil
          refine un (un ?_ ht) hu'
          rw [upd_same]
          exact congrArg (fun l => some (HO.lst l)) (rep_flat 64 1)
      · refine ⟨by decide, fun u hu' => ?_⟩
        refine rest _ _ ⟨u, _, [], rfl, st2.mono fun a o e _ => un e hu', upd_same, .nil, .inl rfl⟩
    rintro σ H2 ⟨f1, xs, R, rfl, st2, hf1, hR, hRc⟩
    have hRl : R.length ≤ 1 := by rcases hRc with rfl | rfl <;> simp
    refine seq_by (fun σ H3 => ∃ (F : Hp) (p d wl b lw kl : Addr), Sg a s p b lw kl none false (σ.set 8 (some (.bl false))) ∧ σ.length = 19 ∧ LI T.C F H3 p d wl s cl b lw kl { B := R, W := [], left := none, kept := [], cut := false } { B := R, W := [], left := none, kept := [], cut := false }) ?_ (fun rest => ?_)
    rotate_left
    · -- disk, blocks, waiting, left, kept = Disk(first), dict(..), [], None, []
      refine ⟨_, rfl, fun p dx np ndx nex => ?_⟩
      have s2 : Same H2 (upd (upd H2 dx (.own p)) p (.ins T.C dx [])) := Same.un (sup ndx) (by rw [upd_ne nex.symm]; exact np)
      refine ⟨fun _ => none, p, dx, f1, xs, R, rfl, upd_same, s2 _ _ hf1, hR.mono s2, by omega, (fun _ _ e => nomatch e), rfl, fun F3 H3 d wl sF3 old3 D3 hd3 hw3 keep3 => ⟨rfl, ?_⟩⟩
      have k3 : Same H2 H3 := fun x o e => keep3 x o (s2 x o e) (ne_of_none e np)
      have hf3 := k3 _ _ hf1
      have hR3 := hR.mono k3
      refine ⟨_, rfl, f1, rfl, ⟨_, SqL.of hf3⟩, fun D0 hD0 => ?_⟩
      refine lc_list (K := K) (a := f1) (xs := xs) (fun i H4 => ∃ acc, H4 D0 = some (.lst acc) ∧ acc.length = i ∧ Same H3 H4 ∧ Rw H3 H4 acc (R.take i))
        ⟨[], upd_same, rfl, sup hD0, .nil⟩ (fun i H4 _ ⟨_, _, _, s4, _⟩ => SqL.of (s4 _ _ hf3)) ?_ ?_
      · rintro i x H4 hi ⟨acc, ha, hal, s4, hRw⟩
        obtain ⟨⟨n, c⟩, hb, t, q, rfl, ht, hq⟩ := Paired.at hR3 hi
        have hil : i < R.length := (List.getElem?_eq_some_iff.mp hb).1
        refine ⟨t, _, rfl, SqT.of (s4 _ _ ht), rfl, _, _, rfl, _, _, rfl, rfl, rfl, ?_⟩
        refine ⟨_, rfl, _, rfl, q, _, rfl, .inl (SqL.of (s4 _ _ hq)), fun l hl => ⟨(by show 2 ≤ sizeLine; decide), fun u hu' => ?_⟩⟩
        have s5 : Same H4 (upd (upd H4 l (.lst (c.map V.int))) u (.tup [.int n, .ref l])) := Same.un (sup hl) hu'
        have nl3 : H3 l = none := free_of s4 hl
        have nu3 : H3 u = none := free_of s4 (fr hu')
        refine ⟨acc, s5 _ _ ha, by omega, _, upd_same, by rw [List.length_append, hal]; rfl, Same.mu (s4.trans s5) hD0, ?_⟩
        rw [List.take_add_one, hb]
        refine Paired.app (Rw.at (s5 _ _ ha) (fun b hb' => ?_) (hRw.mono s5)) ⟨u, l, rfl, nu3, ?_, nl3, ?_⟩
        · -- no turn ahead of this one has a row: R has one row at most
          exfalso
          have : i = 0 := by omega
          subst this
          cases hb'
        · rw [upd_ne (ne_of_none ha (fr hu')).symm, upd_same]
        · rw [upd_ne (ne_of_none ha hl).symm, upd_ne (ne_of_none upd_same hu'), upd_same]
      · rintro H4 ⟨acc, ha, hal, s4, hRw⟩
        rw [Paired.len hR, List.take_length] at hRw
        have D4 := D3.grow s4
        have e3 : emptyS R = { B := R, W := [], left := none, kept := [], cut := false } := by
          rcases hRc with rfl | rfl <;> rfl
        rw [e3] at D4
        -- the law's dict
        have hps : ∃ (ps : List Addr) (kvs : List (Key × V)), acc = ps.map V.ref ∧ Paired (fun p kv => SqT K H4 p [kV kv.1, kv.2]) ps kvs ∧ Bk (fz F3 H3 H4 []) (mergeK [] kvs) R := by
          rcases hRc with rfl | rfl
          · cases hRw
            exact ⟨[], [], rfl, .nil, .nil⟩
          · cases hRw with
            | cons q t =>
              cases t
              obtain ⟨t, l, rfl, n1, h1, n2, h2⟩ := q
              refine ⟨[t], [(Sum.inl 3, .ref l)], rfl, .cons (SqT.of h1) .nil, ?_⟩
              refine .cons ⟨rfl, l, rfl, ?_⟩ .nil
              rw [fz_new n2 (by simp)]
              exact h2
        obtain ⟨ps, kvs, rfl, hpp, hBk⟩ := hps
        refine ⟨D0, ps, kvs, rfl, SqL.of ha, hpp, fun b hb => ?_⟩
        refine ⟨by decide, fun lw hlw => ⟨by decide, fun kl hkl => ⟨(by show 5 ≤ sizeLine; decide), fun t ht => ?_⟩⟩⟩
        refine ⟨t, _, rfl, SqT.of upd_same, rfl, _, _, rfl, _, _, rfl, _, _, rfl, _, _, rfl, _, _, rfl, rfl, ?_⟩
        have hlw4 : H4 lw = none := fr hlw
        have hkl4 : H4 kl = none := fr (fr hkl)
        have s5 : Same H4 (upd (upd (upd (upd H4 b (.dK (mergeK [] kvs))) lw (.lst [])) kl (.lst [])) t (.tup [.ref p, .ref b, .ref lw, .non, .ref kl])) := Same.un (Same.un (Same.un (sup hb) hlw) hkl) ht
        have D5 := D4.mono s5
        obtain ⟨dx5, ks5, hp5, _⟩ := D4.ob
        obtain ⟨kv5, hd5, hB5⟩ := D4.dc
        obtain ⟨xs5, hw5, _⟩ := D4.wt
        have k4 : Same H2 H4 := k3.trans s4
        obtain ⟨⟨x1, h1⟩, ⟨x2, h2⟩⟩ := st2.sh
        have hs4 := k4 _ _ h1
        have hc4 := k4 _ _ h2
        have fF : ∀ x, H4 x = none → fz F3 H3 H4 [] x = none := fun x hx => by
          cases e : fz F3 H3 H4 [] x with
          | none => rfl
          | some o => rw [D4.same x o e] at hx; cases hx
        have f2 : ∀ x o, H2 x = some o → fz F3 H3 H4 [] x = none := fun x o e => by
          have e' : (upd (upd H2 dx (.own p)) p (.ins T.C dx [])) x = some o := s2 x o e
          rw [fz_old (by rw [k3 x o e]; simp), old3 x (by rw [e']; simp)]
        refine rest _ _ ⟨upd (fz F3 H3 H4 []) kl (.lst []), p, d, wl, b, lw, kl, ⟨_, _, _, _, _, _, _, _, _, _, _, rfl⟩, rfl, ?_⟩
        have nlb : lw ≠ b := fr_ne hlw
        have nkb : kl ≠ b := fr_ne (fr hkl)
        have nkl : kl ≠ lw := fr_ne hkl
        have ap : Apart (fz F3 H3 H4 []) p d wl s cl b lw kl := ⟨fF _ hkl4, (ne_of_none hp5 hkl4).symm, (ne_of_none hd5 hkl4).symm, (ne_of_none hw5 hkl4).symm, (ne_of_none hs4 hkl4).symm, (ne_of_none hc4 hkl4).symm, nkb, nkl⟩
        have gt : ∀ x o, (upd (upd (upd H4 b (.dK (mergeK [] kvs))) lw (.lst [])) kl (.lst [])) x = some o → upd (upd (upd (upd H4 b (.dK (mergeK [] kvs))) lw (.lst [])) kl (.lst [])) t (.tup [.ref p, .ref b, .ref lw, .non, .ref kl]) x = some o := fun x o e => un e ht
        have hbt := gt b (.dK (mergeK [] kvs)) (by rw [upd_ne nkb.symm, upd_ne nlb.symm, upd_same])
        have hlt := gt lw (.lst []) (by rw [upd_ne nkl.symm, upd_same])
        have hkt := gt kl (.lst []) upd_same
        -- kept stands frozen last
        have sF : Same (fz F3 H3 H4 []) (upd (fz F3 H3 H4 []) kl (.lst [])) := sup ap.f
        obtain ⟨dx6, ks6, hp6, hk6⟩ := D5.ob
        obtain ⟨kv6, hd6, hB6⟩ := D5.dc
        obtain ⟨xs6, hw6, hW6⟩ := D5.wt
        have nbF : fz F3 H3 H4 [] b = none := fF b hb
        refine ⟨⟨fun x o e => ?_, by rw [upd_ne ap.p.symm]; exact D5.fp, by rw [upd_ne ap.d.symm]; exact D5.fd, by rw [upd_ne ap.w.symm]; exact D5.fw, ⟨dx6, ks6, hp6, sF _ _ hk6⟩, ⟨kv6, hd6, hB6.mono sF⟩, ⟨xs6, hw6, hW6.mono sF⟩⟩,
          st2.mono (fun x o e _ => s5 _ _ (k4 _ _ e)), by rw [upd_ne ap.s.symm]; exact f2 _ _ h1, by rw [upd_ne ap.c.symm]; exact f2 _ _ h2, by rw [upd_ne ap.b.symm]; exact nbF, by rw [upd_ne ap.l.symm]; exact fF _ hlw4,
          ⟨_, hbt, hBk.mono sF⟩, ⟨[], hlt, .nil⟩, upd_same, (ne_of_none hd5 hb).symm, (ne_of_none hw5 hlw4).symm, ne_of_none (s2 _ _ h1) hw3, ne_of_none (s2 _ _ h2) hw3, ne_of_none hs4 hlw4, ne_of_none hc4 hlw4⟩
        · by_cases e' : x = kl
          · rw [e', upd_same] at e; cases e; rw [e']; exact hkt
          · rw [upd_ne e'] at e; exact D5.same x o e
    rintro σ H3 ⟨F3, p, d0, wl0, b, lw0, kl0, hσ, hl19, I0⟩
    -- cut = False; the loop
    have ok0 : Okd { B := R, W := [], left := none, kept := [], cut := false } 1 := by
      refine ⟨?_, (fun _ h => nomatch h), ?_, ?_, (fun _ h => nomatch h)⟩
      · rcases hRc with rfl | rfl
        · exact fun _ h => nomatch h
        · intro b hb
          rw [List.mem_singleton.mp hb]; simp [ones]
      · rcases hRc with rfl | rfl
        · exact List.nodup_nil
        · exact (by decide : ([3] : List Int).Nodup)
      · show R.length + 0 ≤ 1; omega
    refine via_seq (.bl false) (H1 := H3) (fun Q hq => hq) ?_
    show tSeq (tFor _ _ _) _ _ (σ.set 8 (some (.bl false))) H3
    refine seq_by (fun σ H4 => ∃ (F : Hp) (d wl lw kl : Addr) (S : DS), Sg a s p b lw kl S.left S.cut σ ∧ LI T.C F H4 p d wl s cl b lw kl S S ∧ Okd S 61) ?_ (fun rest => ?_)
    rotate_left
    · obtain ⟨v2, v9, v10, v11, v12, v13, v14, v15, v16, v17, v18, hσ⟩ := hσ
      rw [hσ]
      refine ⟨_, rfl, s, cl, 50, rfl, by decide, by decide, I0.st, fun r H4 r0 r1 st4 g4 n4 => ⟨_, _, rfl, rfl, 10 + r, rfl, by omega, by omega, ?_⟩⟩
      refine for_range (lo := 0) (n := (10 + r).toNat) (fun i σ H5 => ∃ (F : Hp) (d wl lw kl : Addr) (S : DS), Sg a s p b lw kl S.left S.cut σ ∧ LI T.C F H5 p d wl s cl b lw kl S S ∧ Okd S (i + 1))
        ⟨F3, d0, wl0, lw0, kl0, _, ⟨_, _, _, _, _, _, _, _, _, _, _, rfl⟩, I0.take st4 g4, ok0⟩ ?_ ?_
      · rintro i σ H5 hi ⟨F5, d, wl, lw, kl, S, ⟨v2, v9, v10, v11, v12, v13, v14, v15, v16, v17, v18, rfl⟩, I5, ok5⟩
        have hi60 : i < 60 := by omega
        -- kind, number = ..
        refine ⟨_, rfl, s, cl, 8, rfl, by decide, by decide, I5.st, fun kd H6 k0 k1 st6 g6 n6 => ⟨_, rfl, s, cl, 5, rfl, by decide, by decide, st6, fun nu H7 m0 m1 st7 g7 n7 => ⟨_, _, rfl, ?_⟩⟩⟩
        have I7 := (I5.take st6 g6).take st7 g7
        dsimp only
        show tSeq (tIfS _ _ _) _ _ [some (V.ref a), some (V.ref s), v2, some (V.ref p), some (V.ref b), some (V.ref lw), some (optV S.left), some (V.ref kl), some (V.bl S.cut), some (V.int _), some (V.int kd), some (V.int nu), v12, v13, v14, v15, v16, v17, v18] H7
        refine seq_by (fun σ H8 => ∃ (F : Hp) (d wl lw kl : Addr) (S : DS), Sg a s p b lw kl S.left S.cut σ ∧ LI T.C F H8 p d wl s cl b lw kl S S ∧ Okd S (i + 2)) ?_ (fun rest2 => ?_)
        rotate_left
        · -- the operation
          refine via_if (decide (kd = 7) && !S.cut) (H1 := H7) (fun Q2 hq => ?_) (fun hb => ?_) (fun hb => ?_)
          · refine ⟨_, rfl, rfl, _, rfl, ?_⟩
            by_cases e : kd = 7
            · subst e
              refine iteT ⟨_, rfl, _, rfl, ?_⟩
              have : (decide ((7 : Int) = 7) && !S.cut) = !S.cut := by rw [decide_eq_true rfl]; rfl
              rw [this] at hq
              exact hq
            · have e1 : decide (V.int kd = V.int 7) = false := decide_eq_false (fun z => e (V.int.inj z))
              rw [e1]
              refine iteF ?_
              rw [decide_eq_false e] at hq
              exact hq
          · -- a cut is told
            have hcut : S.cut = false := by
              cases h : S.cut with
              | false => rfl
              | true => rw [h] at hb; simp at hb
            refine ⟨_, rfl, s, cl, 6, rfl, by decide, by decide, I7.st, fun l H8 l0 l1 st8 g8 n8 => ⟨_, _, rfl, rfl, _, rfl, s, cl, 5, rfl, by decide, by decide, st8, fun z H9 z0 z1 st9 g9 n9 => ⟨z, rfl, by omega, by omega, fun D0 hD0 => ?_⟩⟩⟩
            have I9 := (I7.take st8 g8).take st9 g9
            have A9 := I9.apart hD0
            refine lc_range (lo := 0) (n := z.toNat) (fun j H10 => ∃ zs : List Int, H10 D0 = some (.lst (zs.map V.int)) ∧ zs.length = j ∧ LI T.C F5 H10 p d wl s cl b lw kl S S)
              ⟨[], upd_same, rfl, I9.same (sup hD0)⟩ ?_ ?_
            · rintro j H10 hj ⟨zs, hz, hzl, I10⟩
              refine ⟨rfl, ?_⟩
              refine ⟨_, rfl, s, cl, 70, rfl, by decide, by decide, I10.st, fun y H11 y0 y1 st11 g11 n11 => ⟨_, _, rfl, rfl, ?_⟩⟩
              have h11 := g11 _ _ hz A9.s A9.c
              refine ⟨_, h11, by rw [List.length_map]; omega, zs ++ [y - 2], ?_, by rw [List.length_append, hzl]; rfl, (I10.take st11 g11).store A9⟩
              rw [upd_same, List.map_append]; rfl
            · rintro H10 ⟨zs, hz, hzl, I10⟩
              refine ⟨_, _, rfl, ?_⟩
              obtain ⟨dx, ks, hp, hk⟩ := I10.D.ob
              refine ⟨_, rfl, p, dx, _, rfl, hp, fl_no_cut_in _ _ _ _ _, _, rfl, _, rfl, F5, p, d, wl, D0, S, 1 + l, zs, rfl, I10.D, hz, fun F11 H11 M11 D11 => ?_⟩
              have I11 := I10.disk M11 D11
              obtain ⟨A11, hz11⟩ := A9.disk hz M11
              have I12 := (I11.freeze A11 hz11).cast (L' := { S with left := some (1 + l), kept := zs }) rfl rfl rfl
              have hc11 : ({ S with left := some (1 + l), kept := zs } : DS).cut = S.cut := rfl
              refine rest2 _ _ ⟨_, d, wl, lw, D0, { S with left := some (1 + l), kept := zs }, ⟨_, _, _, _, _, _, _, _, _, _, _, rfl⟩, I12, ok5.gB, ok5.gW, ok5.kB, Nat.le_succ_of_le ok5.len, fun l' e _ => ?_⟩
              cases e; omega
          · refine via_if (decide (kd = 6)) (H1 := H7) (fun Q2 hq => ?_) (fun h6 => ?_) (fun h6 => ?_)
            · refine ⟨_, rfl, rfl, _, rfl, ?_⟩
              have e1 : decide (V.int kd = V.int 6) = decide (kd = 6) := decide_eq_decide.mpr ⟨V.int.inj, congrArg V.int⟩
              rw [e1]; exact hq
            · -- a crash
              refine ⟨_, rfl, s, cl, 4, rfl, by decide, by decide, I7.st, fun z H9 z0 z1 st9 g9 n9 => ⟨z, rfl, by omega, by omega, fun D0 hD0 => ?_⟩⟩
              have I9 := I7.take st9 g9
              have A9 := I9.apart hD0
              refine lc_range (lo := 0) (n := z.toNat) (fun j H10 => ∃ zs : List Int, H10 D0 = some (.lst (zs.map V.int)) ∧ zs.length = j ∧ LI T.C F5 H10 p d wl s cl b lw kl S S)
                ⟨[], upd_same, rfl, I9.same (sup hD0)⟩ ?_ ?_
              · rintro j H10 hj ⟨zs, hz, hzl, I10⟩
                refine ⟨rfl, ?_⟩
                refine ⟨_, rfl, s, cl, 70, rfl, by decide, by decide, I10.st, fun y H11 y0 y1 st11 g11 n11 => ⟨_, _, rfl, rfl, ?_⟩⟩
                have h11 := g11 _ _ hz A9.s A9.c
                refine ⟨_, h11, by rw [List.length_map]; omega, zs ++ [y - 2], ?_, by rw [List.length_append, hzl]; rfl, (I10.take st11 g11).store A9⟩
                rw [upd_same, List.map_append]; rfl
              · rintro H10 ⟨zs, hz, hzl, I10⟩
                obtain ⟨dx, ks, hp, hk⟩ := I10.D.ob
                refine ⟨_, rfl, p, dx, _, rfl, hp, fl_no_crash _ _ _ _ _, _, rfl, F5, p, d, wl, D0, S, zs, rfl, I10.D, hz, A9.w, ok5.gB, ok5.gW, ok5.kB, (by have := ok5.len; omega), fun F11 H11 wl11 M11 D11 => ?_⟩
                have I11 := I10.disk M11 D11
                obtain ⟨A11, hz11⟩ := A9.disk hz M11
                obtain ⟨xl, hl11, hlW11⟩ := I11.ww
                refine ⟨_, rfl, _, rfl, _, rfl, F11, b, lw, D0, S.B, S.W, xl, zs, rfl, I11.dct, hl11, hlW11, hz11, ok5.gB, ok5.gW, ok5.kB, (by have := ok5.len; omega), fun F12 H12 D12 sF12 old12 keep12 => ?_⟩
                have I12 := I11.dict D12 sF12 old12 keep12
                refine ⟨by decide, fun l hl => ?_⟩
                have I13 := (I12.none hl).cast (L' := { S with B := crashB S.B S.W zs, W := [] }) rfl rfl rfl
                obtain ⟨c1, c2, c3⟩ := crashN_ok (kept := zs) ok5.gB ok5.gW ok5.kB S.W.length
                refine rest2 _ _ ⟨_, d, wl11, l, kl, { S with B := crashB S.B S.W zs, W := [] }, ⟨_, _, _, _, _, _, _, _, _, _, _, rfl⟩, I13, c1, (fun _ h => nomatch h), c2, ?_, ok5.left⟩
                show (crashN S.B S.W zs S.W.length).length + 0 ≤ i + 2
                have := ok5.len; omega
            · refine via_if (decide (kd < 6)) (H1 := H7) (fun Q2 hq => ?_) (fun h5 => ?_) (fun h5 => ?_)
              · exact ⟨_, rfl, _, _, rfl, rfl, _, rfl, hq⟩
              · -- a write or a sync
                refine ⟨_, rfl, s, cl, 256, rfl, by decide, by decide, I7.st, fun v H8 w0 w1 st8 g8 n8 => ⟨(by show 1 ≤ sizeLine; decide), fun l hl => ⟨_, rfl, s, cl, 63, rfl, by decide, by decide, (st8.mono fun x o e _ => un e hl), fun u H9 u0 u1 st9 g9 n9 => ⟨_, _, rfl, rfl, ?_⟩⟩⟩⟩
                have I8 := I7.take st8 g8
                have A8 := I8.apart hl
                have I9 := (I8.same (sup (u := .lst [V.int v]) hl)).take st9 g9
                have hl9 := g9 l _ upd_same A8.s A8.c
                refine ⟨l, 1 + u, _, rfl, rfl, hl9, by omega, by omega, ?_, fun q hq => ?_⟩
                · show 1 * (1 + u).toNat ≤ sizeLine
                  omega
                rw [rep_flat]
                have I10 := I9.same (sup (u := .lst ((List.replicate (1 + u).toNat v).map V.int)) hq)
                have A10 := I9.apart hq
                -- content + [..] * (64 - len(content))
                refine ⟨_, rfl, _, rfl, s, cl, 2, rfl, by decide, by decide, I10.st, fun y H11 y0 y1 st11 g11 n11 => ⟨(by show 1 ≤ sizeLine; decide), fun l2 hl2 => ?_⟩⟩
                have I11 := I10.take st11 g11
                have hq11 := g11 q _ upd_same A10.s A10.c
                have nql : q ≠ l2 := ne_of_none hq11 hl2
                refine ⟨_, rfl, q, _, rfl, .inl (SqL.of (un hq11 hl2)), _, _, rfl, rfl, ?_⟩
                rw [List.length_map, List.length_replicate]
                refine ⟨l2, 64 - (((1 + u).toNat : Nat) : Int), _, rfl, rfl, upd_same, by omega, by omega, ?_, fun m hm => ?_⟩
                · show 1 * (64 - (((1 + u).toNat : Nat) : Int)).toNat ≤ sizeLine
                  omega
                rw [rep_flat]
                refine ⟨q, m, _, _, rfl, rfl, un (un hq11 hl2) hm, upd_same, ?_, fun r hr => ?_⟩
                · rw [List.length_map, List.length_map, List.length_replicate, List.length_replicate]; omega
                rw [← List.map_append]
                generalize hcc : List.replicate (1 + u).toNat v ++ List.replicate (64 - (((1 + u).toNat : Nat) : Int)).toNat y = c
                have hc64 : c.length = 64 := by
                  rw [← hcc, List.length_append, List.length_replicate, List.length_replicate]; omega
                have s12 : Same H11 (upd (upd (upd H11 l2 (.lst [V.int y])) m (.lst ((List.replicate (64 - (((1 + u).toNat : Nat) : Int)).toNat y).map V.int))) r (.lst (c.map V.int))) := Same.un (Same.un (sup hl2) hm) hr
                have I12 := I11.same s12
                have A12 := I11.apart (fr (fr hr))
                have hr12 : (upd (upd (upd H11 l2 (.lst [V.int y])) m (.lst ((List.replicate (64 - (((1 + u).toNat : Nat) : Int)).toNat y).map V.int))) r (.lst (c.map V.int))) r = some (.lst (c.map V.int)) := upd_same
                generalize (upd (upd (upd H11 l2 (.lst [V.int y])) m (.lst ((List.replicate (64 - (((1 + u).toNat : Nat) : Int)).toNat y).map V.int))) r (.lst (c.map V.int))) = H12 at I12 hr12
                -- left: the law counts, too
                dsimp only [gName]
                show tSeq (tIfS _ _ _) _ _ [some (V.ref a), some (V.ref s), v2, some (V.ref p), some (V.ref b), some (V.ref lw), some (optV S.left), some (V.ref kl), some (V.bl S.cut), some (V.int _), some (V.int kd), some (V.int nu), v12, some (V.ref r), v14, v15, v16, v17, v18] H12
                refine seq_by (fun σ H13 => ∃ (F : Hp) (lw : Addr), σ = [some (V.ref a), some (V.ref s), v2, some (V.ref p), some (V.ref b), some (V.ref lw), some (optV (countS S).left), some (V.ref kl), some (V.bl (countS S).cut), some (V.int (0 + (i : Int))), some (V.int kd), some (V.int nu), v12, some (V.ref r), v14, v15, v16, v17, v18] ∧ LI T.C F H13 p d wl s cl b lw kl S (countS S) ∧ Apart F p d wl s cl b lw r ∧ H13 r = some (.lst (c.map V.int))) ?_ (fun rest3 => ?_)
                rotate_left
                · refine via_if (S.left.isSome && !S.cut) (H1 := H12) (fun Q2 hq => ?_) (fun hb2 => ?_) (fun hb2 => ?_)
                  · refine ⟨_, rfl, rfl, _, rfl, ?_⟩
                    cases hL : S.left with
                    | none =>
                      rw [hL] at hq
                      exact iteF hq
                    | some l0 =>
                      rw [hL] at hq
                      exact iteT ⟨_, rfl, _, rfl, hq⟩
                  · cases hL : S.left with
                    | none => rw [hL] at hb2; cases hb2
                    | some l0 =>
                      have hC : S.cut = false := by
                        rw [hL] at hb2
                        cases h : S.cut with
                        | false => rfl
                        | true => rw [h] at hb2; cases hb2
                      have hge := ok5.left l0 hL hC
                      refine ⟨_, rfl, _, _, rfl, rfl, ?_⟩
                      dsimp only [gName]
                      refine via_if (decide (l0 - 1 = 0)) (H1 := H12) (fun Q2 hq => ?_) (fun h0 => ?_) (fun h0 => ?_)
                      · refine ⟨_, rfl, rfl, _, rfl, ?_⟩
                        have e1 : decide (V.int (l0 - 1) = V.int 0) = decide (l0 - 1 = 0) := decide_eq_decide.mpr ⟨V.int.inj, congrArg V.int⟩
                        show Q2 (decide (V.int (l0 - 1) = V.int 0)) H12
                        rw [e1]; exact hq
                      · have h0' : l0 - 1 = 0 := of_decide_eq_true h0
                        have ec : countS S = { S with B := crashB S.B S.W S.kept, W := [], left := some (l0 - 1), cut := true } := by
                          unfold countS; rw [hL]; show (if S.cut = true then _ else _) = _; rw [hC, if_neg (by decide)]; exact if_pos (by omega)
                        obtain ⟨xl, hl12, hlW12⟩ := I12.ww
                        have hkl : H12 kl = some (.lst (S.kept.map V.int)) := I12.D.same _ _ I12.kk
                        refine ⟨_, rfl, _, rfl, _, rfl, F5, b, lw, kl, S.B, S.W, xl, S.kept, rfl, I12.dct, hl12, hlW12, hkl, ok5.gB, ok5.gW, ok5.kB, (by have := ok5.len; omega), fun F14 H14 D14 sF14 old14 keep14 => ?_⟩
                        have I14 := I12.dict D14 sF14 old14 keep14
                        have hr14 := keep14 _ _ hr12 A12.b
                        have A14 : Apart F14 p d wl s cl b lw r := ⟨by rw [old14 r (by rw [hr12]; simp)]; exact A12.f, A12.p, A12.d, A12.w, A12.s, A12.c, A12.b, A12.l⟩
                        refine ⟨by decide, fun l' hl' => ⟨_, _, rfl, ?_⟩⟩
                        have I15 := (I14.none hl').cast (L' := countS S) (by rw [ec]) (by rw [ec]) (by rw [ec])
                        refine rest3 _ _ ⟨F14, l', ?_, I15, ⟨A14.f, A14.p, A14.d, A14.w, A14.s, A14.c, A14.b, ne_of_none hr14 hl'⟩, un hr14 hl'⟩
                        rw [ec]; rfl
                      · have h0' : ¬ l0 - 1 = 0 := of_decide_eq_false h0
                        have ec : countS S = { S with left := some (l0 - 1) } := by
                          unfold countS; rw [hL]; show (if S.cut = true then _ else _) = _; rw [hC, if_neg (by decide)]; exact if_neg (by omega)
                        refine rest3 _ _ ⟨F5, lw, ?_, I12.cast (by rw [ec]) (by rw [ec]) (by rw [ec]), A12, hr12⟩
                        rw [ec]; rfl
                  · have ec : countS S = S := by
                      unfold countS
                      cases hL : S.left with
                      | none => rfl
                      | some l0 =>
                        rw [hL] at hb2
                        show (if S.cut = true then S else _) = S
                        refine if_pos ?_
                        cases h : S.cut with
                        | true => rfl
                        | false => rw [h] at hb2; cases hb2
                    refine rest3 _ _ ⟨F5, lw, ?_, I12.cast (by rw [ec]) (by rw [ec]) (by rw [ec]), A12, hr12⟩
                    rw [ec]
                rintro σ H13 ⟨F13, lw13, rfl, I13, A13, hr13⟩
                have okc := countS_ok (ok5.sok (by omega))
                refine via_if (decide (kd < 4)) (H1 := H13) (fun Q2 hq => ?_) (fun h4 => ?_) (fun h4 => ?_)
                · exact ⟨_, rfl, _, _, rfl, rfl, _, rfl, hq⟩
                · -- a write
                  obtain ⟨dx, ks, hp, hk⟩ := I13.D.ob
                  refine ⟨_, rfl, p, dx, _, rfl, hp, fl_no_write _ _ _ _ _, _, rfl, _, rfl, F13, p, d, wl, r, S, nu, c, rfl, I13.D, ok5.sok (by omega), hr13, A13.w, hc64, fun F14 H14 wl14 M14 D14 => ?_⟩
                  have I14 := I13.disk M14 D14
                  obtain ⟨A14, hr14⟩ := A13.disk hr13 M14
                  dsimp only
                  refine seq_by (fun σ H15 => ∃ (F : Hp), σ = [some (V.ref a), some (V.ref s), v2, some (V.ref p), some (V.ref b), some (V.ref lw13), some (optV (countS S).left), some (V.ref kl), some (V.bl (countS S).cut), some (V.int (0 + (i : Int))), some (V.int kd), some (V.int nu), v12, some (V.ref r), v14, v15, v16, v17, v18] ∧ LI T.C F H15 p d wl14 s cl b lw13 kl (writeS S nu c) (writeS S nu c) ∧ Apart F p d wl14 s cl b lw13 r ∧ H15 r = some (.lst (c.map V.int))) ?_ (fun rest4 => ?_)
                  rotate_left
                  · refine via_if (!(countS S).cut) (H1 := H14) (fun Q2 hq => ⟨_, rfl, _, rfl, hq⟩) (fun hnc => ?_) (fun hnc => ?_)
                    · have hC : (countS S).cut = false := by cases h : (countS S).cut with | false => rfl | true => rw [h] at hnc; cases hnc
                      have ew : writeS S nu c = { countS S with W := (countS S).W ++ [(nu, c)] } := by unfold writeS; rw [hC]; exact if_neg (by decide)
                      obtain ⟨xl, hl14, hlW14⟩ := I14.ww
                      have hxl : xl.length ≤ 62 := by rw [Paired.len hlW14]; have := okc.len; omega
                      refine ⟨_, rfl, .inl ⟨rfl, _, SqL.of hl14⟩, _, rfl, _, rfl, r, _, rfl, .inl (SqL.of hr14), fun q2 hq2 => ⟨(by show 2 ≤ sizeLine; decide), fun t2 ht2 => ?_⟩⟩
                      have s15 : Same H14 (upd (upd H14 q2 (.lst (c.map V.int))) t2 (.tup [.int nu, .ref q2])) := Same.un (sup hq2) ht2
                      refine ⟨lw13, xl, _, rfl, rfl, s15 _ _ hl14, Nat.lt_of_le_of_lt hxl (by decide), ?_⟩
                      obtain ⟨F15, I15, old15⟩ := I14.push (n := nu) hl14 hq2 ht2
                      refine rest4 _ _ ⟨F15, rfl, I15.cast (by rw [ew]) (by rw [ew]) (by rw [ew]), ⟨by rw [old15 r (by rw [hr14]; simp)]; exact A14.f, A14.p, A14.d, A14.w, A14.s, A14.c, A14.b, A14.l⟩, ?_⟩
                      rw [upd_ne A14.l]; exact s15 _ _ hr14
                    · have hC : (countS S).cut = true := by cases h : (countS S).cut with | true => rfl | false => rw [h] at hnc; cases hnc
                      have ew : writeS S nu c = countS S := by unfold writeS; exact if_pos hC
                      exact rest4 _ _ ⟨F14, rfl, I14.cast (by rw [ew]) (by rw [ew]) (by rw [ew]), A14, hr14⟩
                  rintro σ H15 ⟨F15, rfl, I15, A15, hr15⟩
                  have hix : ixN (c.map V.int).length 0 = some 0 := by
                    unfold ixN; rw [if_pos (by omega), if_pos (by rw [List.length_map]; omega)]; rfl
                  refine ⟨_, rfl, r, _, 0, 0, rfl, rfl, hr15, hix, ?_⟩
                  have I16 := I15.store (o := .lst ((c.map V.int).set 0 (.int 255))) A15
                  have el : (writeS S nu c).left = (countS S).left := by unfold writeS; split <;> rfl
                  have ecu : (writeS S nu c).cut = (countS S).cut := by unfold writeS; split <;> rfl
                  refine rest2 _ _ ⟨F15, d, wl14, lw13, kl, writeS S nu c, ⟨_, _, _, _, _, _, _, _, _, _, _, by rw [el, ecu]⟩, I16, ?_⟩
                  exact writeS_okd ok5 (by omega) hc64
                · -- a sync
                  obtain ⟨dx, ks, hp, hk⟩ := I13.D.ob
                  refine ⟨_, rfl, p, dx, _, rfl, hp, fl_no_sync _ _ _ _ _, F13, p, d, wl, S, rfl, I13.D, ok5.sok (by omega), fun F14 H14 wl14 M14 D14 => ?_⟩
                  have I14 := I13.disk M14 D14
                  have el : (syncS S).left = (countS S).left := by unfold syncS; split <;> rfl
                  have ecu : (syncS S).cut = (countS S).cut := by unfold syncS; split <;> rfl
                  have okS : Okd (syncS S) (i + 2) := syncS_okd ok5 (by omega)
                  dsimp only
                  refine via_if (!(countS S).cut) (H1 := H14) (fun Q2 hq => ⟨_, rfl, _, rfl, hq⟩) (fun hnc => ?_) (fun hnc => ?_)
                  · have hC : (countS S).cut = false := by cases h : (countS S).cut with | false => rfl | true => rw [h] at hnc; cases hnc
                    have ew : syncS S = { countS S with B := syncB (countS S).B (countS S).W, W := [] } := by unfold syncS; rw [hC]; exact if_neg (by decide)
                    obtain ⟨xl, hl14, hlW14⟩ := I14.ww
                    refine ⟨_, rfl, lw13, rfl, ⟨xl, SqL.of hl14⟩, for_list (K := K) (a := lw13) (xs := xl)
                      (fun j σ H15 => ∃ (F : Hp) (v14 v15 : Option V), σ = [some (V.ref a), some (V.ref s), v2, some (V.ref p), some (V.ref b), some (V.ref lw13), some (optV (countS S).left), some (V.ref kl), some (V.bl (countS S).cut), some (V.int (0 + (i : Int))), some (V.int kd), some (V.int nu), v12, some (V.ref r), v14, v15, v16, v17, v18] ∧
                        H15 lw13 = some (.lst xl) ∧ Wt F xl (countS S).W ∧ LI T.C F H15 p d wl14 s cl b lw13 kl (syncS S) { countS S with B := syncN (countS S).B (countS S).W j })
                      ⟨F14, _, _, rfl, hl14, hlW14, I14⟩ (fun j σ H15 _ ⟨_, _, _, _, h2, _⟩ => SqL.of h2) ?_ ?_⟩
                    · rintro j x σ H15 hj ⟨F15, x14, x15, rfl, hl15, hlW15, I15⟩
                      obtain ⟨⟨n', c'⟩, hb', t, v', rfl, ht, q', rfl, hq'⟩ := Paired.at hlW15 hj
                      refine ⟨t, _, rfl, SqT.of (I15.D.same _ _ ht), rfl, _, _, rfl, _, _, rfl, rfl, ?_⟩
                      obtain ⟨kvs, hb15, hB15⟩ := I15.bb
                      have hgB := syncN_ok okc.gB okc.gW okc.kB j
                      have hjl : j < (countS S).W.length := (List.getElem?_eq_some_iff.mp hb').1
                      have hlen2 : kvs.length < sizeLine := by
                        rw [putK_len hB15]
                        show (syncN (countS S).B (countS S).W j).length < sizeLine
                        have := hgB.2.2
                        have := okc.len
                        omega
                      obtain ⟨F16, D16, sF16, old16⟩ := dct_put (n := n') (v := .ref q') (c := c') I15.dct hb15 hB15 (Same.refl H15) ⟨q', rfl, fz_ge I15.D.same _ _ hq'⟩
                      refine ⟨_, rfl, _, rfl, _, rfl, b, _, rfl, DPut.k (k := Sum.inl n') hb15 hlen2, ?_⟩
                      have nlb : lw13 ≠ b := ne_of hl15 hb15 (by intro z; cases z)
                      refine ⟨F16, _, _, rfl, by rw [upd_ne nlb]; exact hl15, hlW15.mono sF16, ?_⟩
                      have e : syncN (countS S).B (countS S).W (j + 1) = putB (syncN (countS S).B (countS S).W j) n' c' := by
                        conv => lhs; unfold syncN
                        rw [hb']
                      exact (I15.dict D16 sF16 old16 (fun x o e h => by rw [upd_ne h]; exact e)).cast e rfl rfl
                    · rintro σ H15 ⟨F15, x14, x15, rfl, hl15, hlW15, I15⟩
                      refine ⟨by decide, fun l' hl' => ?_⟩
                      have I16 := (I15.none hl').cast (L' := syncS S) (by rw [ew]; unfold syncB; rw [Paired.len hlW15]) (by rw [ew]) (by rw [ew])
                      exact rest2 _ _ ⟨F15, d, wl14, l', kl, syncS S, ⟨_, _, _, _, _, _, _, _, _, _, _, by rw [el, ecu]; rfl⟩, I16, okS⟩
                  · have hC : (countS S).cut = true := by cases h : (countS S).cut with | true => rfl | false => rw [h] at hnc; cases hnc
                    have ew : syncS S = countS S := by unfold syncS; exact if_pos hC
                    exact rest2 _ _ ⟨F14, d, wl14, lw13, kl, syncS S, ⟨_, _, _, _, _, _, _, _, _, _, _, by rw [el, ecu]⟩, I14.cast (by rw [ew]) (by rw [ew]) (by rw [ew]), okS⟩
              · exact rest2 _ _ ⟨F5, d, wl, lw, kl, S, ⟨_, _, _, _, _, _, _, _, _, _, _, rfl⟩, I7, ok5.gB, ok5.gW, ok5.kB, Nat.le_succ_of_le ok5.len, ok5.left⟩
        rintro σ H8 ⟨F8, d8, wl8, lw8, kl8, S8, ⟨u2, u9, u10, u11, u12, u13, u14, u15, u16, u17, u18, rfl⟩, I8, ok8⟩
        -- the checks
        have sok8 := ok8.sok (by omega)
        obtain ⟨dx, ks, hp, hk⟩ := I8.D.ob
        refine ⟨_, rfl, p, T.C, dx, _, _, rfl, hp, T.cl, T.nc, fl_is_cut _ _ _ _ _, _, rfl, rfl, _, rfl, iteNS rfl ?_⟩
        dsimp only [tNext]
        refine seq_by (fun σ H9 => ∃ (v2 v9 v10 v11 v12 v13 v14 v15 v16 v17 v18 : Option V), σ = [some (.ref a), some (.ref s), v2, some (.ref p), some (.ref b), some (.ref lw8), some (optV S8.left), some (.ref kl8), some (.bl S8.cut), v9, v10, v11, v12, v13, v14, v15, v16, v17, v18] ∧ LI T.C F8 H9 p d8 wl8 s cl b lw8 kl8 S8 S8) ?_ (fun rest5 => ?_)
        rotate_left
        · -- for number in range(6)
          refine ⟨6, rfl, by decide, by decide, for_range (lo := 0) (n := 6) (fun j σ H9 => ∃ (v2 v9 v10 v11 v12 v13 v14 v15 v16 v17 v18 : Option V), σ = [some (.ref a), some (.ref s), v2, some (.ref p), some (.ref b), some (.ref lw8), some (optV S8.left), some (.ref kl8), some (.bl S8.cut), v9, v10, v11, v12, v13, v14, v15, v16, v17, v18] ∧ LI T.C F8 H9 p d8 wl8 s cl b lw8 kl8 S8 S8)
            ⟨_, _, _, _, _, _, _, _, _, _, _, rfl, I8⟩ ?_ (fun σ H9 z => rest5 σ H9 z)⟩
          rintro j σ H9 hj ⟨x2, x9, x10, x11, x12, x13, x14, x15, x16, x17, x18, rfl, I9⟩
          obtain ⟨kvs, hb9, hB9⟩ := I9.bb
          obtain ⟨xl, hl9, hlW9⟩ := I9.ww
          -- due = blocks.get(number, [0] * 64)
          refine ⟨_, rfl, b, rfl, .inl ⟨_, .inl hb9⟩, _, rfl, (by decide), fun l hl => ⟨l, 64, _, rfl, rfl, upd_same, by decide, by decide, by decide, fun z hz => ?_⟩⟩
          rw [zeros_flat]
          have s10 : Same H9 (upd (upd H9 l (.lst [.int 0])) z (.lst (zeros.map V.int))) := Same.un (sup hl) hz
          have I10 := I9.same s10
          have hgot : ∃ g, (valV kvs (Sum.inl (0 + (j : Int)) : Key)).getD (.ref z) = .ref g ∧ upd (upd H9 l (.lst [.int 0])) z (.lst (zeros.map V.int)) g = some (.lst ((wholeB S8.B (0 + (j : Int))).map V.int)) := by
            rcases Bk.val (n := 0 + (j : Int)) hB9 with ⟨e1, e2⟩ | ⟨v, c', e1, e2, a', rfl, ha'⟩
            · refine ⟨z, by rw [e2]; rfl, ?_⟩
              rw [upd_same]; unfold wholeB; rw [e1]; rfl
            · refine ⟨a', by rw [e2]; rfl, ?_⟩
              rw [s10 _ _ (I9.D.same _ _ ha')]; unfold wholeB; rw [e1]; rfl
          obtain ⟨g, eg, hg⟩ := hgot
          refine ⟨_, .inl ⟨kvs, Sum.inl (0 + (j : Int)), .inl (s10 _ _ hb9), rfl, rfl⟩, ?_⟩
          rw [eg]
          generalize (upd (upd H9 l (.lst [.int 0])) z (.lst (zeros.map V.int))) = H10 at I10 hg s10
          have hl10 := s10 _ _ hl9
          -- for one, row in waiting
          refine ⟨_, rfl, lw8, rfl, ⟨xl, SqL.of hl10⟩, for_list (K := K) (a := lw8) (xs := xl)
            (fun m σ H11 => H11 = H10 ∧ ∃ (g : Addr) (v14 v15 : Option V), σ = [some (.ref a), some (.ref s), x2, some (.ref p), some (.ref b), some (.ref lw8), some (optV S8.left), some (.ref kl8), some (.bl S8.cut), x9, x10, some (.int (0 + (j : Int))), x12, x13, v14, v15, some (.ref g), x17, x18] ∧ H10 g = some (.lst ((readN S8.B S8.W (0 + (j : Int)) m).map V.int)))
            ⟨rfl, g, _, _, rfl, hg⟩ (fun m σ H11 _ ⟨e, _⟩ => by rw [e]; exact SqL.of hl10) ?_ ?_⟩
          · rintro m x σ H11 hm ⟨rfl, g, v14, v15, rfl, hg⟩
            obtain ⟨⟨n', c'⟩, hb', t, v', rfl, ht, q', rfl, hq'⟩ := Paired.at hlW9 hm
            refine ⟨t, _, rfl, SqT.of (I10.D.same _ _ ht), rfl, _, _, rfl, _, _, rfl, rfl, ?_⟩
            have e : readN S8.B S8.W (0 + (j : Int)) (m + 1) = if n' = 0 + (j : Int) then c' else readN S8.B S8.W (0 + (j : Int)) m := by
              conv => lhs; unfold readN
              rw [hb']
            refine ⟨_, rfl, _, rfl, rfl, _, rfl, ite2 (fun he => ?_) (fun he => ?_)⟩
            · have he : n' = 0 + (j : Int) := by simpa using he
              refine ⟨_, rfl, rfl, q', _, _, rfl, ?_⟩
              rw [e, if_pos he]
              exact I10.D.same _ _ hq'
            · have he : ¬ n' = 0 + (j : Int) := by simpa using he
              refine ⟨_, rfl, rfl, g, _, _, rfl, ?_⟩
              rw [e, if_neg he]
              exact hg
          · rintro σ H11 ⟨rfl, g, v14, v15, rfl, hg⟩
            -- told = disk.read(number)
            obtain ⟨dx9, ks9, hp9, _⟩ := I10.D.ob
            refine ⟨_, rfl, p, dx9, _, rfl, hp9, fl_no_read _ _ _ _ _, _, rfl, F8, p, d8, wl8, S8, _, rfl, I10.D, fun q H12 s12 nq hq => ?_⟩
            have er : readN S8.B S8.W (0 + (j : Int)) xl.length = readB S8.B S8.W (0 + (j : Int)) := by unfold readB; rw [Paired.len hlW9]
            rw [er] at hg
            refine ⟨_, rfl, _, rfl, dl (readB S8.B S8.W (0 + (j : Int))), dl (readB S8.B S8.W (0 + (j : Int))), dp_list hq, dp_list (s12 _ _ hg), dl_shaped _, dl_shaped _, _, rfl, ?_⟩
            rw [eqv_dl]
            refine iteF ?_
            have hrl : (readB S8.B S8.W (0 + (j : Int))).length = 64 := readN_len ok8.gB ok8.gW _
            have hix : ixN ((readB S8.B S8.W (0 + (j : Int))).map V.int).length 0 = some 0 := by
              unfold ixN; rw [if_pos (by omega), if_pos (by rw [List.length_map]; omega)]; rfl
            refine ⟨_, rfl, q, _, 0, 0, rfl, rfl, hq, hix, ?_⟩
            exact ⟨_, _, _, _, _, _, _, _, _, _, _, rfl, (I10.same s12).store (I10.apart nq)⟩
        rintro σ H9 ⟨x2, x9, x10, x11, x12, x13, x14, x15, x16, x17, x18, rfl, I9⟩
        -- told = disk.synced()
        obtain ⟨dx9, ks9, hp9, _⟩ := I9.D.ob
        refine ⟨_, rfl, p, dx9, _, rfl, hp9, fl_no_synced _ _ _ _ _, F8, p, d8, wl8, S8, rfl, I9.D, sok8, fun ys q1 H10 xs1 hperm hpw s10 nq1 hq1 hRw1 => ?_⟩
        have I10 := I9.same s10
        obtain ⟨kvs, hb10, hB10⟩ := I10.bb
        have hlB : S8.B.length ≤ 62 := by have := sok8.len; omega
        -- the law's own rows
        refine ⟨_, rfl, _, rfl, b, kvs, S8.B.map (·.1), rfl, .inl hb10, Bk.keys hB10, by rw [List.length_map]; omega, fun ys2 q0 hperm2 hpw2 hq0 => ?_⟩
        have ey : ys2 = ys := sort_same (hperm2.trans hperm.symm) hpw2 hpw
        subst ey
        have hyl : ys2.length ≤ 62 := by rw [hperm.length_eq, List.length_map]; exact hlB
        have s0 : Same H10 (upd H10 q0 (.lst (ys2.map V.int))) := sup hq0
        refine ⟨q0, rfl, ⟨_, SqL.of upd_same⟩, fun D0 hD0 => ?_⟩
        have nD0 : H10 D0 = none := fr hD0
        refine lc_list (K := K) (a := q0) (xs := ys2.map V.int) (fun m H11 => ∃ acc, H11 D0 = some (.lst acc) ∧ acc.length ≤ m ∧ Same (upd H10 q0 (.lst (ys2.map V.int))) H11 ∧
            Rf F8 H11 acc (((ys2.take m).map fun n => (n, wholeB S8.B n)).filter fun r => nz r.2))
          ⟨[], upd_same, Nat.le_refl _, sup hD0, .nil⟩ (fun m H11 _ ⟨_, _, _, s2, _⟩ => SqL.of (s2 _ _ upd_same)) ?_ ?_
        · rintro m x H11 hm ⟨acc, ha, hal, s11, hR⟩
          rw [List.getElem?_map] at hm
          cases hy : ys2[m]? with
          | none => rw [hy] at hm; cases hm
          | some n =>
            rw [hy] at hm
            cases hm
            have hml : m < ys2.length := (List.getElem?_eq_some_iff.mp hy).1
            obtain ⟨v, hv, a', rfl, hc⟩ := Bk.there hB10 (hperm.mem_iff.mp (List.mem_of_getElem? hy))
            have s02 : Same H10 H11 := s0.trans s11
            have hb11 := s02 _ _ hb10
            have hc11 := s02 _ _ (I10.D.same _ _ hc)
            refine ⟨rfl, ?_⟩
            refine ⟨_, rfl, _, rfl, b, .ref a', rfl, .inl ⟨kvs, Sum.inl n, .inl hb11, rfl, hv.symm⟩, by decide, fun l hl => ⟨l, 64, _, rfl, rfl, upd_same, by decide, by decide, by decide, fun z hz => ?_⟩⟩
            rw [zeros_flat]
            have s12 : Same H11 (upd (upd H11 l (.lst [.int 0])) z (.lst (zeros.map V.int))) := Same.un (sup hl) hz
            refine ⟨dl (wholeB S8.B n), dl zeros, dp_list (s12 _ _ hc11), dp_list upd_same, dl_shaped _, dl_shaped _, _, rfl, ?_⟩
            have ef : ((ys2.take (m + 1)).map fun n => (n, wholeB S8.B n)).filter (fun r => nz r.2) = ((ys2.take m).map fun n => (n, wholeB S8.B n)).filter (fun r => nz r.2) ++ (if nz (wholeB S8.B n) = true then [(n, wholeB S8.B n)] else []) := by
              rw [List.take_add_one, hy, List.map_append, List.filter_append]
              congr 1
              show List.filter _ [(n, wholeB S8.B n)] = _
              by_cases e : nz (wholeB S8.B n) = true
              · rw [if_pos e]; simp [List.filter, e]
              · rw [if_neg e]; simp [List.filter, e]
            generalize (upd (upd H11 l (.lst [.int 0])) z (.lst (zeros.map V.int))) = H12 at s12
            have ha12 := s12 _ _ ha
            have hR12 := hR.mono s12
            cases e : nz (wholeB S8.B n) with
            | true =>
              have e' : (!PyData.eqv (dl (wholeB S8.B n)) (dl zeros)) = true := e
              rw [e']
              refine ⟨_, rfl, _, rfl, _, rfl, b, .ref a', rfl, .inl ⟨kvs, Sum.inl n, .inl (s12 _ _ hb11), rfl, hv.symm⟩, (by show 2 ≤ sizeLine; decide), fun t ht => ?_⟩
              refine ⟨acc, un ha12 ht, by omega, _, upd_same, by rw [List.length_append]; simp; omega, Same.mu ((s11.trans s12).trans (sup ht)) hD0, ?_⟩
              rw [ef, if_pos e]
              refine Paired.app (Rf.at (un ha12 ht) (hR12.mono (sup ht))) ⟨t, a', rfl, ?_, hc⟩
              · rw [upd_ne (ne_of_none ha12 ht).symm, upd_same]
            | false =>
              have e' : (!PyData.eqv (dl (wholeB S8.B n)) (dl zeros)) = false := e
              rw [e']
              refine ⟨acc, ha12, by omega, s11.trans s12, ?_⟩
              rw [ef, if_neg (by rw [e]; decide), List.append_nil]
              exact hR12
        · rintro H11 ⟨acc, ha, hal, s11, hR⟩
          have s02 : Same H10 H11 := s0.trans s11
          have I11 := I10.same s02
          rw [List.length_map, List.take_length] at hR
          have hR' : Rf F8 H11 acc (rowsB S8.B ys2) := hR
          have hRD := hR'.dp (K := K) I11.D.same
          refine ⟨drs (rowsB S8.B ys2), drs (rowsB S8.B ys2), dp_rows (s02 _ _ hq1) (hRw1.mono s02), .lst (SqL.of ha) hRD, drs_shaped _, drs_shaped _, _, rfl, ?_⟩
          rw [eqv_rows]
          refine iteF ?_
          -- for number, content in told: content[5] = 99
          have hxl : xs1.length ≤ 62 := by
            have h1 := Paired.len hRw1
            have h2 := rowsB_len S8.B ys2
            omega
          have hq11 := s02 _ _ hq1
          have hall : ∀ x ∈ xs1, ∃ (t : Addr) (n : Int) (a : Addr) (l : List V), x = .ref t ∧ H11 t = some (.tup [.int n, .ref a]) ∧ H11 a = some (.lst l) ∧ l.length = 64 ∧ H9 a = none ∧ a ≠ q1 := by
            intro x hx
            obtain ⟨m, hm⟩ := List.getElem?_of_mem hx
            obtain ⟨⟨n, c⟩, hb', t, a', rfl, n1, h1, n2, h2⟩ := Paired.at hRw1 hm
            have hc64 : c.length = 64 := rowsB_good ok8.gB _ (List.mem_of_getElem? hb')
            refine ⟨t, n, a', _, rfl, s02 _ _ h1, s02 _ _ h2, by rw [List.length_map]; exact hc64, n2, ne_of h2 hq1 (fun z => ?_)⟩
            have := congrArg (fun o => match o with | HO.lst l => l.length | _ => 0) z
            simp only [List.length_map] at this
            omega
          refine ⟨_, rfl, q1, rfl, ⟨xs1, SqL.of hq11⟩, for_list (K := K) (a := q1) (xs := xs1)
            (fun m σ H12 => (∃ (v2 v9 v10 v11 v12 v13 v14 v15 v16 v17 v18 : Option V), σ = [some (.ref a), some (.ref s), v2, some (.ref p), some (.ref b), some (.ref lw8), some (optV S8.left), some (.ref kl8), some (.bl S8.cut), v9, v10, v11, v12, v13, v14, v15, v16, v17, v18]) ∧ LI T.C F8 H12 p d8 wl8 s cl b lw8 kl8 S8 S8 ∧ H12 q1 = some (.lst xs1) ∧
              ∀ x ∈ xs1, ∃ (t : Addr) (n : Int) (a : Addr) (l : List V), x = .ref t ∧ H12 t = some (.tup [.int n, .ref a]) ∧ H12 a = some (.lst l) ∧ l.length = 64 ∧ H9 a = none ∧ a ≠ q1)
            ⟨⟨_, _, _, _, _, _, _, _, _, _, _, rfl⟩, I11, hq11, hall⟩ (fun m σ H12 _ ⟨_, _, h2, _⟩ => SqL.of h2) ?_ ?_⟩
          · rintro m x σ H12 hm ⟨⟨z2, z9, z10, z11, z12, z13, z14, z15, z16, z17, z18, rfl⟩, I12, hq12, hal12⟩
            obtain ⟨t, n, a', l, rfl, ht, ha', hl64, na', nq'⟩ := hal12 x (List.mem_of_getElem? hm)
            refine ⟨t, _, rfl, SqT.of ht, rfl, _, _, rfl, _, _, rfl, rfl, ?_⟩
            have hix : ixN l.length 5 = some 5 := by
              unfold ixN; rw [if_pos (by omega), if_pos (by omega)]; rfl
            refine ⟨_, rfl, a', _, 5, 5, rfl, rfl, ha', hix, ?_⟩
            refine ⟨⟨_, _, _, _, _, _, _, _, _, _, _, rfl⟩, I12.store (I9.apart na'), by rw [upd_ne nq'.symm]; exact hq12, fun x hx => ?_⟩
            obtain ⟨t2, n2, a2, l2, e1, h1, h2, h3, h4, h5⟩ := hal12 x hx
            have ht2 : t2 ≠ a' := ne_of h1 ha' (by intro z; cases z)
            by_cases e : a2 = a'
            · refine ⟨t2, n2, a2, l.set 5 (.int 99), e1, by rw [upd_ne ht2]; exact h1, by rw [e, upd_same], by rw [List.length_set]; exact hl64, h4, h5⟩
            · exact ⟨t2, n2, a2, l2, e1, by rw [upd_ne ht2]; exact h1, by rw [upd_ne e]; exact h2, h3, h4, h5⟩
          · rintro σ H12 ⟨⟨z2, z9, z10, z11, z12, z13, z14, z15, z16, z17, z18, rfl⟩, I12, hq12, hal12⟩
            exact ⟨F8, d8, wl8, lw8, kl8, S8, ⟨_, _, _, _, _, _, _, _, _, _, _, rfl⟩, I12, ok8⟩
      · rintro σ H5 ⟨F, d, wl, lw, kl, S, hσ, I, ok⟩
        exact rest _ _ ⟨F, d, wl, lw, kl, S, hσ, I, ok.gB, ok.gW, ok.kB, by have := ok.len; omega, ok.left⟩
    rintro σ H4 ⟨F4, d, wl, lw, kl, S, ⟨v2', v9', v10', v11', v12', v13', v14', v15', v16', v17', v18', rfl⟩, I4, ok4⟩
    -- return Disk(disk.synced()).synced() == disk.synced()
    have sok4 := ok4.sok (by decide)
    obtain ⟨dx, ks, hp, hk⟩ := I4.D.ob
    refine ⟨_, rfl, p, dx, _, rfl, hp, fl_no_synced _ _ _ _ _, F4, p, d, wl, S, rfl, I4.D, sok4, fun ys q1 H5 xs1 hperm hpw s5 nq1 hq1 hRw1 => ?_⟩
    refine fun p2 dx2 np2 ndx2 nex2 => ?_
    have R1k := rowsB_keys hperm ok4.kB
    have R1l : (rowsB S.B ys).length ≤ 61 := by
      have h1 := rowsB_len S.B ys
      have h2 := hperm.length_eq
      rw [List.length_map] at h2
      have := ok4.len
      omega
    have s6 : Same H5 (upd (upd H5 dx2 (.own p2)) p2 (.ins T.C dx2 [])) := Same.un (sup ndx2) (by rw [upd_ne nex2.symm]; exact np2)
    have rows1 : Rows H5 xs1 (rowsB S.B ys) := Paired.mapP hRw1 fun _ _ ⟨t, a, e, _, h1, _, h2⟩ => ⟨t, a, e, h1, h2⟩
    refine ⟨fun _ => none, p2, dx2, q1, xs1, rowsB S.B ys, rfl, upd_same, s6 _ _ hq1, rows1.mono s6, by omega, (fun _ _ e => nomatch e), rfl, fun F6 H6 d6 wl6 _ _ D6 _ _ keep6 => ⟨rfl, ?_⟩⟩
    have e6 : emptyS (rowsB S.B ys) = { B := rowsB S.B ys, W := [], left := none, kept := [], cut := false } := by
      unfold emptyS; rw [mkN_all R1k]
    rw [e6] at D6
    have k6 : Same H5 H6 := fun x o e => keep6 x o (s6 x o e) (ne_of_none e np2)
    obtain ⟨dx6, ks6, hp6, _⟩ := D6.ob
    refine ⟨p2, dx6, _, rfl, hp6, fl_no_synced _ _ _ _ _, F6, p2, d6, wl6, _, rfl, D6, ⟨rowsB_good ok4.gB, (fun _ h => nomatch h), R1k, by show (rowsB S.B ys).length + 0 ≤ 62; omega⟩, fun ys2 q2 H7 xs2 hperm2 hpw2 s7 nq2 hq2 hRw2 => ?_⟩
    have k7 : Same H4 H7 := (s5.trans k6).trans s7
    refine ⟨_, rfl, p, dx, _, rfl, k7 _ _ hp, fl_no_synced _ _ _ _ _, F4, p, d, wl, S, rfl, I4.D.mono k7, sok4, fun ys3 q3 H8 xs3 hperm3 hpw3 s8 nq3 hq3 hRw3 => ?_⟩
    have e3 : ys3 = ys := sort_same (hperm3.trans hperm.symm) hpw3 hpw
    rw [e3] at hRw3
    have e2 : rowsB (rowsB S.B ys) ys2 = rowsB S.B ys := rowsB_again hperm ok4.kB hpw hperm2 hpw2
    have hRw2' : Rw H6 H7 xs2 (rowsB (rowsB S.B ys) ys2) := hRw2
    rw [e2] at hRw2'
    refine ⟨drs (rowsB S.B ys), drs (rowsB S.B ys), dp_rows (s8 _ _ hq2) (hRw2'.mono s8), dp_rows hq3 hRw3, drs_shaped _, drs_shaped _, ?_⟩
    rw [eqv_rows]
    exact k _
end
end D67

set_option maxRecDepth 100000
set_option maxHeartbeats 4000000
namespace D67
open PySem L2 Kit
theorem all_mk {l : PySem.W.OpenLaw} {w : World} {K : PySem.W.Frag} {h : Heap} {mg : Str → Option Value} {fa C_Disk f_Disk_init f_Disk_whole f_Disk_read f_Disk_cut_in f_Disk_counts f_Disk_write f_Disk_sync f_Disk_crash f_Disk_synced f_law_state f_law_take f_law_crashed f_law : Addr} (X : K.In h) (G : h.Ns mainGlobals mg) (hfa : mg "law" = some (.ref fa))
    {od_Disk_init an_Disk_init od_Disk_whole an_Disk_whole od_Disk_read an_Disk_read od_Disk_cut_in an_Disk_cut_in od_Disk_counts an_Disk_counts od_Disk_write an_Disk_write od_Disk_sync an_Disk_sync od_Disk_crash an_Disk_crash od_Disk_synced an_Disk_synced od_law_state an_law_state od_law_take an_law_take od_law_crashed an_law_crashed od_law an_law : Option Addr} {sl_Disk_init sl_Disk_whole sl_Disk_read sl_Disk_cut_in sl_Disk_counts sl_Disk_write sl_Disk_sync sl_Disk_crash sl_Disk_synced sl_law_state sl_law_take sl_law_crashed sl_law : Array (Option Value)} {oc_Disk_init kV_Disk_init dc_Disk_init pm_Disk_init cd_Disk_init ct_Disk_init oc_Disk_whole kV_Disk_whole dc_Disk_whole pm_Disk_whole cd_Disk_whole ct_Disk_whole oc_Disk_read kV_Disk_read dc_Disk_read pm_Disk_read cd_Disk_read ct_Disk_read oc_Disk_cut_in kV_Disk_cut_in dc_Disk_cut_in pm_Disk_cut_in cd_Disk_cut_in ct_Disk_cut_in oc_Disk_counts kV_Disk_counts dc_Disk_counts pm_Disk_counts cd_Disk_counts ct_Disk_counts oc_Disk_write kV_Disk_write dc_Disk_write pm_Disk_write cd_Disk_write ct_Disk_write oc_Disk_sync kV_Disk_sync dc_Disk_sync pm_Disk_sync cd_Disk_sync ct_Disk_sync oc_Disk_crash kV_Disk_crash dc_Disk_crash pm_Disk_crash cd_Disk_crash ct_Disk_crash oc_Disk_synced kV_Disk_synced dc_Disk_synced pm_Disk_synced cd_Disk_synced ct_Disk_synced oc_law_state kV_law_state dc_law_state pm_law_state cd_law_state ct_law_state oc_law_take kV_law_take dc_law_take pm_law_take cd_law_take ct_law_take oc_law_crashed kV_law_crashed dc_law_crashed pm_law_crashed cd_law_crashed ct_law_crashed oc_law kV_law dc_law pm_law cd_law ct_law : Value} {t_BLOCK : Tok}
    (aC_Disk : PySem.W.nsIn K mainGlobals "Disk" = some (some (.ref C_Disk)))
    (a_Disk_init : PySem.W.findIn K (.ref C_Disk) "__init__" = some (some (.ref f_Disk_init)))
    (i_Disk_init : PySem.W.isFn K (.ref f_Disk_init) = true)
    (l_Disk_init : K.lookup f_Disk_init = some ⟨oc_Disk_init, od_Disk_init, .func (PySem.W.fnOf "__init__" "Disk.__init__" (defArgs s_Disk_init) (defBody s_Disk_init) (defScope s_Disk_init) .none kV_Disk_init dc_Disk_init pm_Disk_init an_Disk_init cd_Disk_init ct_Disk_init), sl_Disk_init⟩)
    (c_Disk_init : PySem.W.codeIn K cd_Disk_init "Disk.__init__" = true)
    (k_Disk_init : PySem.W.keepIn K (.ref f_Disk_init) = true)
    (a_Disk_whole : PySem.W.findIn K (.ref C_Disk) "whole" = some (some (.ref f_Disk_whole)))
    (i_Disk_whole : PySem.W.isFn K (.ref f_Disk_whole) = true)
    (l_Disk_whole : K.lookup f_Disk_whole = some ⟨oc_Disk_whole, od_Disk_whole, .func (PySem.W.fnOf "whole" "Disk.whole" (defArgs s_Disk_whole) (defBody s_Disk_whole) (defScope s_Disk_whole) .none kV_Disk_whole dc_Disk_whole pm_Disk_whole an_Disk_whole cd_Disk_whole ct_Disk_whole), sl_Disk_whole⟩)
    (c_Disk_whole : PySem.W.codeIn K cd_Disk_whole "Disk.whole" = true)
    (k_Disk_whole : PySem.W.keepIn K (.ref f_Disk_whole) = true)
    (a_Disk_read : PySem.W.findIn K (.ref C_Disk) "read" = some (some (.ref f_Disk_read)))
    (i_Disk_read : PySem.W.isFn K (.ref f_Disk_read) = true)
    (l_Disk_read : K.lookup f_Disk_read = some ⟨oc_Disk_read, od_Disk_read, .func (PySem.W.fnOf "read" "Disk.read" (defArgs s_Disk_read) (defBody s_Disk_read) (defScope s_Disk_read) .none kV_Disk_read dc_Disk_read pm_Disk_read an_Disk_read cd_Disk_read ct_Disk_read), sl_Disk_read⟩)
    (c_Disk_read : PySem.W.codeIn K cd_Disk_read "Disk.read" = true)
    (k_Disk_read : PySem.W.keepIn K (.ref f_Disk_read) = true)
    (a_Disk_cut_in : PySem.W.findIn K (.ref C_Disk) "cut_in" = some (some (.ref f_Disk_cut_in)))
    (i_Disk_cut_in : PySem.W.isFn K (.ref f_Disk_cut_in) = true)
    (l_Disk_cut_in : K.lookup f_Disk_cut_in = some ⟨oc_Disk_cut_in, od_Disk_cut_in, .func (PySem.W.fnOf "cut_in" "Disk.cut_in" (defArgs s_Disk_cut_in) (defBody s_Disk_cut_in) (defScope s_Disk_cut_in) .none kV_Disk_cut_in dc_Disk_cut_in pm_Disk_cut_in an_Disk_cut_in cd_Disk_cut_in ct_Disk_cut_in), sl_Disk_cut_in⟩)
    (c_Disk_cut_in : PySem.W.codeIn K cd_Disk_cut_in "Disk.cut_in" = true)
    (k_Disk_cut_in : PySem.W.keepIn K (.ref f_Disk_cut_in) = true)
    (a_Disk_counts : PySem.W.findIn K (.ref C_Disk) "counts" = some (some (.ref f_Disk_counts)))
    (i_Disk_counts : PySem.W.isFn K (.ref f_Disk_counts) = true)
    (l_Disk_counts : K.lookup f_Disk_counts = some ⟨oc_Disk_counts, od_Disk_counts, .func (PySem.W.fnOf "counts" "Disk.counts" (defArgs s_Disk_counts) (defBody s_Disk_counts) (defScope s_Disk_counts) .none kV_Disk_counts dc_Disk_counts pm_Disk_counts an_Disk_counts cd_Disk_counts ct_Disk_counts), sl_Disk_counts⟩)
    (c_Disk_counts : PySem.W.codeIn K cd_Disk_counts "Disk.counts" = true)
    (k_Disk_counts : PySem.W.keepIn K (.ref f_Disk_counts) = true)
    (a_Disk_write : PySem.W.findIn K (.ref C_Disk) "write" = some (some (.ref f_Disk_write)))
    (i_Disk_write : PySem.W.isFn K (.ref f_Disk_write) = true)
    (l_Disk_write : K.lookup f_Disk_write = some ⟨oc_Disk_write, od_Disk_write, .func (PySem.W.fnOf "write" "Disk.write" (defArgs s_Disk_write) (defBody s_Disk_write) (defScope s_Disk_write) .none kV_Disk_write dc_Disk_write pm_Disk_write an_Disk_write cd_Disk_write ct_Disk_write), sl_Disk_write⟩)
    (c_Disk_write : PySem.W.codeIn K cd_Disk_write "Disk.write" = true)
    (k_Disk_write : PySem.W.keepIn K (.ref f_Disk_write) = true)
    (a_Disk_sync : PySem.W.findIn K (.ref C_Disk) "sync" = some (some (.ref f_Disk_sync)))
    (i_Disk_sync : PySem.W.isFn K (.ref f_Disk_sync) = true)
    (l_Disk_sync : K.lookup f_Disk_sync = some ⟨oc_Disk_sync, od_Disk_sync, .func (PySem.W.fnOf "sync" "Disk.sync" (defArgs s_Disk_sync) (defBody s_Disk_sync) (defScope s_Disk_sync) .none kV_Disk_sync dc_Disk_sync pm_Disk_sync an_Disk_sync cd_Disk_sync ct_Disk_sync), sl_Disk_sync⟩)
    (c_Disk_sync : PySem.W.codeIn K cd_Disk_sync "Disk.sync" = true)
    (k_Disk_sync : PySem.W.keepIn K (.ref f_Disk_sync) = true)
    (a_Disk_crash : PySem.W.findIn K (.ref C_Disk) "crash" = some (some (.ref f_Disk_crash)))
    (i_Disk_crash : PySem.W.isFn K (.ref f_Disk_crash) = true)
    (l_Disk_crash : K.lookup f_Disk_crash = some ⟨oc_Disk_crash, od_Disk_crash, .func (PySem.W.fnOf "crash" "Disk.crash" (defArgs s_Disk_crash) (defBody s_Disk_crash) (defScope s_Disk_crash) .none kV_Disk_crash dc_Disk_crash pm_Disk_crash an_Disk_crash cd_Disk_crash ct_Disk_crash), sl_Disk_crash⟩)
    (c_Disk_crash : PySem.W.codeIn K cd_Disk_crash "Disk.crash" = true)
    (k_Disk_crash : PySem.W.keepIn K (.ref f_Disk_crash) = true)
    (a_Disk_synced : PySem.W.findIn K (.ref C_Disk) "synced" = some (some (.ref f_Disk_synced)))
    (i_Disk_synced : PySem.W.isFn K (.ref f_Disk_synced) = true)
    (l_Disk_synced : K.lookup f_Disk_synced = some ⟨oc_Disk_synced, od_Disk_synced, .func (PySem.W.fnOf "synced" "Disk.synced" (defArgs s_Disk_synced) (defBody s_Disk_synced) (defScope s_Disk_synced) .none kV_Disk_synced dc_Disk_synced pm_Disk_synced an_Disk_synced cd_Disk_synced ct_Disk_synced), sl_Disk_synced⟩)
    (c_Disk_synced : PySem.W.codeIn K cd_Disk_synced "Disk.synced" = true)
    (k_Disk_synced : PySem.W.keepIn K (.ref f_Disk_synced) = true)
    (a_law_state : PySem.W.nsIn K mainGlobals "_law_state" = some (some (.ref f_law_state)))
    (l_law_state : K.lookup f_law_state = some ⟨oc_law_state, od_law_state, .func (PySem.W.fnOf "_law_state" "_law_state" (defArgs s_law_state) (defBody s_law_state) (defScope s_law_state) .none kV_law_state dc_law_state pm_law_state an_law_state cd_law_state ct_law_state), sl_law_state⟩)
    (c_law_state : PySem.W.codeIn K cd_law_state "_law_state" = true)
    (k_law_state : PySem.W.keepIn K (.ref f_law_state) = true)
    (a_law_take : PySem.W.nsIn K mainGlobals "_law_take" = some (some (.ref f_law_take)))
    (l_law_take : K.lookup f_law_take = some ⟨oc_law_take, od_law_take, .func (PySem.W.fnOf "_law_take" "_law_take" (defArgs s_law_take) (defBody s_law_take) (defScope s_law_take) .none kV_law_take dc_law_take pm_law_take an_law_take cd_law_take ct_law_take), sl_law_take⟩)
    (c_law_take : PySem.W.codeIn K cd_law_take "_law_take" = true)
    (k_law_take : PySem.W.keepIn K (.ref f_law_take) = true)
    (a_law_crashed : PySem.W.nsIn K mainGlobals "_law_crashed" = some (some (.ref f_law_crashed)))
    (l_law_crashed : K.lookup f_law_crashed = some ⟨oc_law_crashed, od_law_crashed, .func (PySem.W.fnOf "_law_crashed" "_law_crashed" (defArgs s_law_crashed) (defBody s_law_crashed) (defScope s_law_crashed) .none kV_law_crashed dc_law_crashed pm_law_crashed an_law_crashed cd_law_crashed ct_law_crashed), sl_law_crashed⟩)
    (c_law_crashed : PySem.W.codeIn K cd_law_crashed "_law_crashed" = true)
    (k_law_crashed : PySem.W.keepIn K (.ref f_law_crashed) = true)
    (a_law : PySem.W.nsIn K mainGlobals "law" = some (some (.ref f_law)))
    (l_law : K.lookup f_law = some ⟨oc_law, od_law, .func (PySem.W.fnOf "law" "law" (defArgs s_law) (defBody s_law) (defScope s_law) .none kV_law dc_law pm_law an_law cd_law ct_law), sl_law⟩)
    (c_law : PySem.W.codeIn K cd_law "law" = true)
    (k_law : PySem.W.keepIn K (.ref f_law) = true)
    (pg_Disk : PySem.W.plainGet K C_Disk Str.empty = true)
    (hd_Disk : PySem.W.hasDictIn K C_Disk = true)
    (po_Disk : PySem.W.plainOver K C_Disk = true)
    (sa_Disk : PySem.W.findIn K (.ref C_Disk) "__setattr__" = some (some (.builtin "object.__setattr__")))
    (mk_Disk : PySem.W.makesIn K C_Disk = true)
    (kc_Disk : PySem.W.keepIn K (.ref C_Disk) = true)
    (n_Disk_blocks : PySem.W.findIn K (.ref C_Disk) "blocks" = some none)
    (n_Disk_waiting : PySem.W.findIn K (.ref C_Disk) "waiting" = some none)
    (n_Disk_left : PySem.W.findIn K (.ref C_Disk) "left" = some none)
    (n_Disk_kept : PySem.W.findIn K (.ref C_Disk) "kept" = some none)
    (n_Disk_is_cut : PySem.W.findIn K (.ref C_Disk) "is_cut" = some none)
    (g_BLOCK : PySem.W.nsIn K mainGlobals "BLOCK" = some (some (.int 64 t_BLOCK)))
    (z_list : PySem.W.nsIn K mainGlobals "list" = some none)
    (z_len : PySem.W.nsIn K mainGlobals "len" = some none)
    (z_min : PySem.W.nsIn K mainGlobals "min" = some none)
    (z_max : PySem.W.nsIn K mainGlobals "max" = some none)
    (z_abs : PySem.W.nsIn K mainGlobals "abs" = some none)
    (z_int : PySem.W.nsIn K mainGlobals "int" = some none)
    (z_dict : PySem.W.nsIn K mainGlobals "dict" = some none)
    (z_range : PySem.W.nsIn K mainGlobals "range" = some none)
    (z_sorted : PySem.W.nsIn K mainGlobals "sorted" = some none)
    (z_enumerate : PySem.W.nsIn K mainGlobals "enumerate" = some none) :
    ∃ fd : FuncData, (∀ (s : Shared) (v : Value), BindsTo s fd ⟨[v], []⟩ [("script", v)]) ∧ ∀ base : Heap, K.In base → base.Ns mainGlobals mg → FnOk l.prog w K mg base CX0 5 fa fd ["script"] (spLaw K) := by
  have e := hfa.symm.trans (PySem.W.mg_of X G a_law)
  cases e
  have F_Disk_init := fun_mk (st := s_Disk_init) l_Disk_init c_Disk_init k_Disk_init
  have F_Disk_whole := fun_mk (st := s_Disk_whole) l_Disk_whole c_Disk_whole k_Disk_whole
  have F_Disk_read := fun_mk (st := s_Disk_read) l_Disk_read c_Disk_read k_Disk_read
  have F_Disk_cut_in := fun_mk (st := s_Disk_cut_in) l_Disk_cut_in c_Disk_cut_in k_Disk_cut_in
  have F_Disk_counts := fun_mk (st := s_Disk_counts) l_Disk_counts c_Disk_counts k_Disk_counts
  have F_Disk_write := fun_mk (st := s_Disk_write) l_Disk_write c_Disk_write k_Disk_write
  have F_Disk_sync := fun_mk (st := s_Disk_sync) l_Disk_sync c_Disk_sync k_Disk_sync
  have F_Disk_crash := fun_mk (st := s_Disk_crash) l_Disk_crash c_Disk_crash k_Disk_crash
  have F_Disk_synced := fun_mk (st := s_Disk_synced) l_Disk_synced c_Disk_synced k_Disk_synced
  have F_law_state := fun_mk (st := s_law_state) l_law_state c_law_state k_law_state
  have F_law_take := fun_mk (st := s_law_take) l_law_take c_law_take k_law_take
  have F_law_crashed := fun_mk (st := s_law_crashed) l_law_crashed c_law_crashed k_law_crashed
  have F_law := fun_mk (st := s_law) l_law c_law k_law
  have b_Disk_init := F_Disk_init.binds (ps := ["self", "blocks"]) fun _ _ _ _ _ _ us hl => match us, hl with | [_, _], _ => rfl
  have b_Disk_whole := F_Disk_whole.binds (ps := ["self", "number"]) fun _ _ _ _ _ _ us hl => match us, hl with | [_, _], _ => rfl
  have b_Disk_read := F_Disk_read.binds (ps := ["self", "number"]) fun _ _ _ _ _ _ us hl => match us, hl with | [_, _], _ => rfl
  have b_Disk_cut_in := F_Disk_cut_in.binds (ps := ["self", "many", "kept"]) fun _ _ _ _ _ _ us hl => match us, hl with | [_, _, _], _ => rfl
  have b_Disk_counts := F_Disk_counts.binds (ps := ["self"]) fun _ _ _ _ _ _ us hl => match us, hl with | [_], _ => rfl
  have b_Disk_write := F_Disk_write.binds (ps := ["self", "number", "content"]) fun _ _ _ _ _ _ us hl => match us, hl with | [_, _, _], _ => rfl
  have b_Disk_sync := F_Disk_sync.binds (ps := ["self"]) fun _ _ _ _ _ _ us hl => match us, hl with | [_], _ => rfl
  have b_Disk_crash := F_Disk_crash.binds (ps := ["self", "kept"]) fun _ _ _ _ _ _ us hl => match us, hl with | [_, _], _ => rfl
  have b_Disk_synced := F_Disk_synced.binds (ps := ["self"]) fun _ _ _ _ _ _ us hl => match us, hl with | [_], _ => rfl
  have b_law_state := F_law_state.binds (ps := ["script"]) fun _ _ _ _ _ _ us hl => match us, hl with | [_], _ => rfl
  have b_law_take := F_law_take.binds (ps := ["state", "most"]) fun _ _ _ _ _ _ us hl => match us, hl with | [_, _], _ => rfl
  have b_law_crashed := F_law_crashed.binds (ps := ["blocks", "waiting", "kept"]) fun _ _ _ _ _ _ us hl => match us, hl with | [_, _, _], _ => rfl
  let T : Txt K mg := {
    C := C_Disk,
    cl := ⟨pg_Disk, hd_Disk, po_Disk, sa_Disk⟩,
    mg_Disk := PySem.W.mg_of X G aC_Disk,
    nb := n_Disk_blocks,
    nw := n_Disk_waiting,
    nl := n_Disk_left,
    nk := n_Disk_kept,
    nc := n_Disk_is_cut,
    t_BLOCK := t_BLOCK,
    mg_BLOCK := PySem.W.mg_of X G g_BLOCK,
    n_list := PySem.W.mg_none_of X G z_list,
    n_len := PySem.W.mg_none_of X G z_len,
    n_min := PySem.W.mg_none_of X G z_min,
    n_max := PySem.W.mg_none_of X G z_max,
    n_abs := PySem.W.mg_none_of X G z_abs,
    n_int := PySem.W.mg_none_of X G z_int,
    n_dict := PySem.W.mg_none_of X G z_dict,
    n_range := PySem.W.mg_none_of X G z_range,
    n_sorted := PySem.W.mg_none_of X G z_sorted,
    n_enumerate := PySem.W.mg_none_of X G z_enumerate,
    f_Disk_init := f_Disk_init,
    fd_Disk_init := _,
    F_Disk_init := F_Disk_init,
    b_Disk_init := b_Disk_init,
    M_Disk := ⟨mk_Disk, a_Disk_init, i_Disk_init, kc_Disk⟩,
    f_Disk_whole := f_Disk_whole,
    fd_Disk_whole := _,
    F_Disk_whole := F_Disk_whole,
    b_Disk_whole := b_Disk_whole,
    m_Disk_whole := ⟨a_Disk_whole, i_Disk_whole, k_Disk_whole⟩,
    f_Disk_read := f_Disk_read,
    fd_Disk_read := _,
    F_Disk_read := F_Disk_read,
    b_Disk_read := b_Disk_read,
    m_Disk_read := ⟨a_Disk_read, i_Disk_read, k_Disk_read⟩,
    f_Disk_cut_in := f_Disk_cut_in,
    fd_Disk_cut_in := _,
    F_Disk_cut_in := F_Disk_cut_in,
    b_Disk_cut_in := b_Disk_cut_in,
    m_Disk_cut_in := ⟨a_Disk_cut_in, i_Disk_cut_in, k_Disk_cut_in⟩,
    f_Disk_counts := f_Disk_counts,
    fd_Disk_counts := _,
    F_Disk_counts := F_Disk_counts,
    b_Disk_counts := b_Disk_counts,
    m_Disk_counts := ⟨a_Disk_counts, i_Disk_counts, k_Disk_counts⟩,
    f_Disk_write := f_Disk_write,
    fd_Disk_write := _,
    F_Disk_write := F_Disk_write,
    b_Disk_write := b_Disk_write,
    m_Disk_write := ⟨a_Disk_write, i_Disk_write, k_Disk_write⟩,
    f_Disk_sync := f_Disk_sync,
    fd_Disk_sync := _,
    F_Disk_sync := F_Disk_sync,
    b_Disk_sync := b_Disk_sync,
    m_Disk_sync := ⟨a_Disk_sync, i_Disk_sync, k_Disk_sync⟩,
    f_Disk_crash := f_Disk_crash,
    fd_Disk_crash := _,
    F_Disk_crash := F_Disk_crash,
    b_Disk_crash := b_Disk_crash,
    m_Disk_crash := ⟨a_Disk_crash, i_Disk_crash, k_Disk_crash⟩,
    f_Disk_synced := f_Disk_synced,
    fd_Disk_synced := _,
    F_Disk_synced := F_Disk_synced,
    b_Disk_synced := b_Disk_synced,
    m_Disk_synced := ⟨a_Disk_synced, i_Disk_synced, k_Disk_synced⟩,
    f_law_state := f_law_state,
    fd_law_state := _,
    F_law_state := F_law_state,
    b_law_state := b_law_state,
    mg_law_state := PySem.W.mg_of X G a_law_state,
    k_law_state := k_law_state,
    f_law_take := f_law_take,
    fd_law_take := _,
    F_law_take := F_law_take,
    b_law_take := b_law_take,
    mg_law_take := PySem.W.mg_of X G a_law_take,
    k_law_take := k_law_take,
    f_law_crashed := f_law_crashed,
    fd_law_crashed := _,
    F_law_crashed := F_law_crashed,
    b_law_crashed := b_law_crashed,
    mg_law_crashed := PySem.W.mg_of X G a_law_crashed,
    k_law_crashed := k_law_crashed }
  exact ⟨_, fun s v => .of_eq rfl, fun base _ _ => ok_law F_law T⟩
theorem walk {l : PySem.W.OpenLaw} {q : Program} {loose : List Str} {XP : (Str → Option Value) → Heap → Prop} {YP : World → Heap → Prop} {d : DefRec} {K : Params → PySem.W.Frag} (hn : l.most = some 63) (hdf : d.params.defaults = [])
    (hY : ∀ (w : World) (h : Heap), YP w h → (K w.params).In h)
    (F : ∀ (w : World) (mg : Str → Option Value) (fa : Addr) (h : Heap), (K w.params).In h → h.Ns mainGlobals mg → mg d.name = some (.ref fa) →
      ∃ fd : FuncData, (∀ (s : Shared) (u : Value), BindsTo s fd ⟨[u], []⟩ [("script", u)]) ∧ ∀ base : Heap, (K w.params).In base → base.Ns mainGlobals mg → FnOk l.prog w (K w.params) mg base CX0 5 fa fd ["script"] (spLaw (K w.params))) :
    PySem.W.WalkO q loose XP YP l.row.toRowW d [] (fun f vs => PySem.call f vs) :=
  L2.walk_of (n := 63) (k := 5) (x := "script") (CX := fun _ => CX0) (sp := fun w => spLaw (K w.params)) hn (by decide) hdf ⟨rfl, by decide, by decide⟩ hY F (fun _ _ a ns hl _ hS => ⟨a, ns, rfl, hS, hl, fun _ => rfl⟩) fun _ _ _ _ _ z => z
end D67
open PySem PySem.W PyProof.Rows
set_option maxRecDepth 100000 in
set_option maxHeartbeats 0 in
theorem PySem.Challenge.cw_recordroads_k67_disks_that_are_cut_holds : PySem.Challenge.rw_recordroads_k67_disks_that_are_cut.Holds := by
  w_on; o_law; k_head; (case hw => w_witness2)
  k_fill
  refine D67.walk (l := PySem.Challenge.rw_recordroads_k67_disks_that_are_cut) rfl rfl (fun w h Y => PySem.W.kIn_of Y) ?F
  case F =>
    intro w mg fa h KX G hmg
    refine' D67.all_mk KX G hmg ?aC_Disk ?a_Disk_init ?i_Disk_init ?l_Disk_init ?c_Disk_init ?k_Disk_init ?a_Disk_whole ?i_Disk_whole ?l_Disk_whole ?c_Disk_whole ?k_Disk_whole ?a_Disk_read ?i_Disk_read ?l_Disk_read ?c_Disk_read ?k_Disk_read ?a_Disk_cut_in ?i_Disk_cut_in ?l_Disk_cut_in ?c_Disk_cut_in ?k_Disk_cut_in ?a_Disk_counts ?i_Disk_counts ?l_Disk_counts ?c_Disk_counts ?k_Disk_counts ?a_Disk_write ?i_Disk_write ?l_Disk_write ?c_Disk_write ?k_Disk_write ?a_Disk_sync ?i_Disk_sync ?l_Disk_sync ?c_Disk_sync ?k_Disk_sync ?a_Disk_crash ?i_Disk_crash ?l_Disk_crash ?c_Disk_crash ?k_Disk_crash ?a_Disk_synced ?i_Disk_synced ?l_Disk_synced ?c_Disk_synced ?k_Disk_synced ?a_law_state ?l_law_state ?c_law_state ?k_law_state ?a_law_take ?l_law_take ?c_law_take ?k_law_take ?a_law_crashed ?l_law_crashed ?c_law_crashed ?k_law_crashed ?a_law ?l_law ?c_law ?k_law ?pg_Disk ?hd_Disk ?po_Disk ?sa_Disk ?mk_Disk ?kc_Disk ?n_Disk_blocks ?n_Disk_waiting ?n_Disk_left ?n_Disk_kept ?n_Disk_is_cut ?g_BLOCK ?z_list ?z_len ?z_min ?z_max ?z_abs ?z_int ?z_dict ?z_range ?z_sorted ?z_enumerate
    (case aC_Disk => k_is)
    (case a_Disk_init => k_is)
    (case i_Disk_init => k_is)
    (case l_Disk_init => k_is)
    (case c_Disk_init => k_is)
    (case k_Disk_init => k_is)
    (case a_Disk_whole => k_is)
    (case i_Disk_whole => k_is)
    (case l_Disk_whole => k_is)
    (case c_Disk_whole => k_is)
    (case k_Disk_whole => k_is)
    (case a_Disk_read => k_is)
    (case i_Disk_read => k_is)
    (case l_Disk_read => k_is)
    (case c_Disk_read => k_is)
    (case k_Disk_read => k_is)
    (case a_Disk_cut_in => k_is)
    (case i_Disk_cut_in => k_is)
    (case l_Disk_cut_in => k_is)
    (case c_Disk_cut_in => k_is)
    (case k_Disk_cut_in => k_is)
    (case a_Disk_counts => k_is)
    (case i_Disk_counts => k_is)
    (case l_Disk_counts => k_is)
    (case c_Disk_counts => k_is)
    (case k_Disk_counts => k_is)
    (case a_Disk_write => k_is)
    (case i_Disk_write => k_is)
    (case l_Disk_write => k_is)
    (case c_Disk_write => k_is)
    (case k_Disk_write => k_is)
    (case a_Disk_sync => k_is)
    (case i_Disk_sync => k_is)
    (case l_Disk_sync => k_is)
    (case c_Disk_sync => k_is)
    (case k_Disk_sync => k_is)
    (case a_Disk_crash => k_is)
    (case i_Disk_crash => k_is)
    (case l_Disk_crash => k_is)
    (case c_Disk_crash => k_is)
    (case k_Disk_crash => k_is)
    (case a_Disk_synced => k_is)
    (case i_Disk_synced => k_is)
    (case l_Disk_synced => k_is)
    (case c_Disk_synced => k_is)
    (case k_Disk_synced => k_is)
    (case a_law_state => k_is)
    (case l_law_state => k_is)
    (case c_law_state => k_is)
    (case k_law_state => k_is)
    (case a_law_take => k_is)
    (case l_law_take => k_is)
    (case c_law_take => k_is)
    (case k_law_take => k_is)
    (case a_law_crashed => k_is)
    (case l_law_crashed => k_is)
    (case c_law_crashed => k_is)
    (case k_law_crashed => k_is)
    (case a_law => k_is)
    (case l_law => k_is)
    (case c_law => k_is)
    (case k_law => k_is)
    (case pg_Disk => k_is)
    (case hd_Disk => k_is)
    (case po_Disk => k_is)
    (case sa_Disk => k_is)
    (case mk_Disk => k_is)
    (case kc_Disk => k_is)
    (case n_Disk_blocks => k_is)
    (case n_Disk_waiting => k_is)
    (case n_Disk_left => k_is)
    (case n_Disk_kept => k_is)
    (case n_Disk_is_cut => k_is)
    (case g_BLOCK => k_is)
    (case z_list => k_is)
    (case z_len => k_is)
    (case z_min => k_is)
    (case z_max => k_is)
    (case z_abs => k_is)
    (case z_int => k_is)
    (case z_dict => k_is)
    (case z_range => k_is)
    (case z_sorted => k_is)
    (case z_enumerate => k_is)
#print axioms PySem.Challenge.cw_recordroads_k67_disks_that_are_cut_holds

