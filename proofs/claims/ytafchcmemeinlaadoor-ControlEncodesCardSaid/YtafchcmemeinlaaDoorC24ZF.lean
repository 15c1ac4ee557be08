/-
  Chapter 24: Bend.Of, the changes that append to a packet's list.
-/
import Derived.Test.YtafchcmemeinlaaDoorC24ZE
set_option linter.unusedSimpArgs false
set_option linter.unusedVariables false
set_option linter.unusedSectionVars false
namespace Go.Proofs.YtafchcmemeinlaaDoor
open Go.RowKit
set_option maxRecDepth 1000000

def zRcM (m : Nat) : List Rc := List.replicate m (0, 0, 0, 0, 0, 0, 0)
def mixM (p q : List Ctl) (x : List AV) : List AV := cellsCM p ++ (x ++ cellsCM q)
def rsM (c : Ctl) (v : AV) : List AV := setRange (ctC c) 8 [v]
def loM (c : Ctl) (v : AV) : List AV := setRange (ctC c) 9 [v]
def tiM (c : Ctl) (v : AV) : List AV := setRange (ctC c) 12 [v]
theorem len_mix (p q : List Ctl) (x : List AV) (h : x.length = 13) : (mixM p q x).length = 13 * lenM p q := by
 rw [mixM, List.length_append, List.length_append, cellsC_len, cellsC_len, h, lenM]; omega
theorem ld_mix (p q : List Ctl) (x : List AV) (h : x.length = 13) (k : Nat) (hk : k < 13) : (List.take 1 (List.drop (13 * p.length + k) (mixM p q x))).getD 0 AV.undef = x.getD k AV.undef := by
 rw [mixM, ← cellsC_len, ← List.drop_drop, List.drop_left, List.getD_eq_getElem?_getD, List.getD_eq_getElem?_getD, List.getElem?_take_of_lt (by omega), List.getElem?_drop, Nat.add_zero, List.getElem?_append_left (by omega)]
theorem st_mix (p q : List Ctl) (x : List AV) (h : x.length = 13) (k : Nat) (v : AV) (hk : k < 13) : setRange (mixM p q x) (13 * p.length + k) [v] = mixM p q (setRange x k [v]) := by
 simp only [mixM, setRange, List.length_singleton]
 rw [← cellsC_len, List.take_append, List.take_of_length_le (by omega), Nat.add_sub_cancel_left, List.take_append_of_le_length (by omega)]
 rw [show (cellsCM p).length + k + 1 = (cellsCM p).length + (k + 1) by omega, ← List.drop_drop, List.drop_left, List.drop_append_of_le_length (by omega)]
 simp only [List.append_assoc]
theorem norL_add (i : Nat) : ∀ (a b : List AV), norL i (a ++ b) = (norL i a && norL i b)
 | [], b => by simp [norL]
 | x :: a, b => by rw [List.cons_append, norL, norL, norL_add i a b, Bool.and_assoc]
theorem oldL_addn (n : Nat) : ∀ (a b : List AV), oldL n (a ++ b) = (oldL n a && oldL n b)
 | [], b => by simp [oldL]
 | x :: a, b => by rw [List.cons_append, oldL, oldL, oldL_addn n a b, Bool.and_assoc]
theorem nor_mix (i : Nat) (p q : List Ctl) (x : List AV) : norL i (mixM p q x) = norL i x := by
 rw [mixM, norL_add, norL_add, norL_old _ (fl_C p).1, norL_old _ (fl_C q).1, Bool.true_and, Bool.and_true]
theorem old_mix (n : Nat) (p q : List Ctl) (x : List AV) : oldL n (mixM p q x) = oldL n x := by
 rw [mixM, oldL_addn, oldL_addn, oldL_mono (Nat.zero_le n) _ (fl_C p).1, oldL_mono (Nat.zero_le n) _ (fl_C q).1, Bool.true_and, Bool.and_true]
def frzOK (p q : List Ctl) (c' : Ctl) (H : List Blk) : Prop := ∃ lf x, H[2]? = some ⟨.grow, lf, mixM p q x⟩ ∧ x.map (frzV 0 H 8) = ctC c'
theorem eqTb {x y : Int} (h : x = y) : AV.bool (x == y) = AV.bool true := by rw [h, beq_self_eq_true]
theorem plain_R2 (l : List Rc) : ∀ x ∈ cellsRM l, plainB x = true := by
 intro x hx
 simp only [cellsRM, List.mem_flatMap, rcCM, List.mem_cons, List.not_mem_nil, or_false] at hx
 obtain ⟨r, _, h⟩ := hx
 rcases h with rfl | rfl | rfl | rfl | rfl | rfl | rfl <;> rfl
theorem own_rs (c : Ctl) (id : Nat) (l : List Rc) (H : List Blk) {n k : Nat} (hH : H[id]? = some ⟨.grow, true, cellsRM l⟩) (hn : n = 7 * l.length) (hk : k = l.length) : (setRange (ctC c) 8 [.sl id n 0 k 7]).map (frzV 0 H 8) = ctC { c with rs := l } := by
 subst hn hk
 have hz : frzV 0 H 8 (.sl id (7 * l.length) 0 l.length 7) = .lst 0 (cellsRM l) l.length 7 := frz_sl (b := ⟨.grow, true, cellsRM l⟩) hH (cellsR_len l) (by omega) (by simp) (by rw [List.drop_zero, List.take_of_length_le (by rw [cellsR_len]; omega)]) (plain_R2 l)
 show [_, _, _, _, _, _, _, _, frzV 0 H 8 (.sl id (7 * l.length) 0 l.length 7), _, _, _, _] = _
 rw [hz]; rfl
theorem own_lo (c : Ctl) (id : Nat) (l : List Int) (H : List Blk) {n k : Nat} (hH : H[id]? = some ⟨.grow, true, cellsI l⟩) (hn : n = l.length) (hk : k = l.length) : (setRange (ctC c) 9 [.sl id n 0 k 1]).map (frzV 0 H 8) = ctC { c with lo := l } := by
 subst hn hk
 have hz : frzV 0 H 8 (.sl id l.length 0 l.length 1) = .lst 0 (cellsI l) l.length 1 := frz_sl (b := ⟨.grow, true, cellsI l⟩) hH (cellsI_len l) (by omega) (by simp) (by rw [List.drop_zero, List.take_of_length_le (by rw [cellsI_len]; omega)]) (plain_cellsI l)
 show [_, _, _, _, _, _, _, _, _, frzV 0 H 8 (.sl id l.length 0 l.length 1), _, _, _] = _
 rw [hz]; rfl
theorem own_ti (c : Ctl) (id : Nat) (l : List Int) (H : List Blk) {n k : Nat} (hH : H[id]? = some ⟨.grow, true, cellsI l⟩) (hn : n = l.length) (hk : k = l.length) : (setRange (ctC c) 12 [.sl id n 0 k 1]).map (frzV 0 H 8) = ctC { c with ti := l } := by
 subst hn hk
 have hz : frzV 0 H 8 (.sl id l.length 0 l.length 1) = .lst 0 (cellsI l) l.length 1 := frz_sl (b := ⟨.grow, true, cellsI l⟩) hH (cellsI_len l) (by omega) (by simp) (by rw [List.drop_zero, List.take_of_length_le (by rw [cellsI_len]; omega)]) (plain_cellsI l)
 show [_, _, _, _, _, _, _, _, _, _, _, _, frzV 0 H 8 (.sl id l.length 0 l.length 1)] = _
 rw [hz]; rfl
theorem mix_of (p q : List Ctl) (c : Ctl) : cellsCM (p ++ c :: q) = mixM p q (ctC c) := at_pq p q c
theorem facZ (p q : List Ctl) (c d : Ctl) (X : AV → List AV) (hX : ∀ v, (X v).length = 13) (hl : p.length + q.length ≤ 1000) (hok : okC c) :
  (cellsRM c.rs).length = 7 * c.rs.length ∧ (cellsI c.lo).length = c.lo.length ∧ (cellsI c.ti).length = c.ti.length
  ∧ (oldL 0 (cellsRM c.rs) = true ∧ noYL (cellsRM c.rs) = true ∧ oneL (cellsRM c.rs) = true) ∧ (oldL 0 (cellsI c.lo) = true ∧ noYL (cellsI c.lo) = true ∧ oneL (cellsI c.lo) = true) ∧ (oldL 0 (cellsI c.ti) = true ∧ noYL (cellsI c.ti) = true ∧ oneL (cellsI c.ti) = true)
  ∧ (lenM p q * 152).ble 1099511627776 = true ∧ Nat.blt 0 (lenM p q) = true ∧ (lenM p q).ble 1099511627776 = true ∧ p.length.blt (lenM p q) = true
  ∧ (((13 * p.length + 8).blt (13 * lenM p q) = true ∧ (13 * p.length + 9).blt (13 * lenM p q) = true ∧ (13 * p.length + 12).blt (13 * lenM p q) = true)
  ∧ (13 * p.length + 8 + 1).ble (13 * lenM p q) = true ∧ (13 * p.length + 9 + 1).ble (13 * lenM p q) = true ∧ (13 * p.length + 12 + 1).ble (13 * lenM p q) = true)
  ∧ ((c.rs.length * 56).ble 1099511627776 = true ∧ c.rs.length.ble 1099511627776 = true ∧ (c.lo.length * 8).ble 1099511627776 = true ∧ c.lo.length.ble 1099511627776 = true ∧ (c.ti.length * 8).ble 1099511627776 = true ∧ c.ti.length.ble 1099511627776 = true)
  ∧ (∀ m : Nat, m.ble m = true)
  ∧ (List.take (7 * c.rs.length) (cellsRM c.rs) = cellsRM c.rs ∧ List.take c.lo.length (cellsI c.lo) = cellsI c.lo ∧ List.take c.ti.length (cellsI c.ti) = cellsI c.ti)
  ∧ ((∀ v, (mixM p q (X v)).length = 13 * lenM p q) ∧ (mixM p q (ctC d)).length = 13 * lenM p q ∧ oldL 0 (mixM p q (ctC d)) = true ∧ oneL (mixM p q (ctC d)) = true)
  ∧ ((∀ v, (List.take 1 (List.drop (13 * p.length + 8) (mixM p q (X v)))).getD 0 AV.undef = (X v).getD 8 AV.undef) ∧ (∀ v, (List.take 1 (List.drop (13 * p.length + 9) (mixM p q (X v)))).getD 0 AV.undef = (X v).getD 9 AV.undef) ∧ (∀ v, (List.take 1 (List.drop (13 * p.length + 12) (mixM p q (X v)))).getD 0 AV.undef = (X v).getD 12 AV.undef))
  ∧ ((List.take 1 (List.drop (13 * p.length + 8) (mixM p q (ctC d)))).getD 0 AV.undef = (ctC d).getD 8 AV.undef ∧ (List.take 1 (List.drop (13 * p.length + 9) (mixM p q (ctC d)))).getD 0 AV.undef = (ctC d).getD 9 AV.undef ∧ (List.take 1 (List.drop (13 * p.length + 12) (mixM p q (ctC d)))).getD 0 AV.undef = (ctC d).getD 12 AV.undef)
  ∧ ((∀ v u, setRange (mixM p q (X v)) (13 * p.length + 8) [u] = mixM p q (setRange (X v) 8 [u])) ∧ (∀ v u, setRange (mixM p q (X v)) (13 * p.length + 9) [u] = mixM p q (setRange (X v) 9 [u])) ∧ (∀ v u, setRange (mixM p q (X v)) (13 * p.length + 12) [u] = mixM p q (setRange (X v) 12 [u])))
  ∧ (∀ u, setRange (mixM p q (ctC d)) (13 * p.length + 8) [u] = mixM p q (setRange (ctC d) 8 [u])) ∧ (∀ u, setRange (mixM p q (ctC d)) (13 * p.length + 9) [u] = mixM p q (setRange (ctC d) 9 [u])) ∧ (∀ u, setRange (mixM p q (ctC d)) (13 * p.length + 12) [u] = mixM p q (setRange (ctC d) 12 [u])) := by
 have f := fl_C (p ++ d :: q)
 rw [mix_of] at f
 have hlr := cellsR_len c.rs
 have hli := cellsI_len c.lo
 have hlt := cellsI_len c.ti
 obtain ⟨k1, k2, k3⟩ := hok
 have hN : lenM p q = p.length + q.length + 1 := by unfold lenM; omega
 have lx : ∀ k, k < 13 → (13 * p.length + k).blt (13 * lenM p q) = true := fun k hk => bltT (by omega)
 have ly : ∀ k, k < 13 → (13 * p.length + k + 1).ble (13 * lenM p q) = true := fun k hk => bleT (by omega)
 exact ⟨hlr, hli, hlt, fl_R _, fl_I _, fl_I _, bleT (by omega), bltT (by omega), bleT (by omega), bltT (by omega), ⟨⟨lx 8 (by omega), lx 9 (by omega), lx 12 (by omega)⟩, ly 8 (by omega), ly 9 (by omega), ly 12 (by omega)⟩,
  ⟨bleT (by omega), bleT (by omega), bleT (by omega), bleT (by omega), bleT (by omega), bleT (by omega)⟩, fun m => bleT (Nat.le_refl m), ⟨List.take_of_length_le (by omega), List.take_of_length_le (by omega), List.take_of_length_le (by omega)⟩,
  ⟨fun v => len_mix p q _ (hX v), len_mix p q _ rfl, f.1, f.2.2⟩, ⟨fun v => ld_mix p q _ (hX v) 8 (by omega), fun v => ld_mix p q _ (hX v) 9 (by omega), fun v => ld_mix p q _ (hX v) 12 (by omega)⟩,
  ⟨ld_mix p q _ rfl 8 (by omega), ld_mix p q _ rfl 9 (by omega), ld_mix p q _ rfl 12 (by omega)⟩, ⟨fun v u => st_mix p q _ (hX v) 8 u (by omega), fun v u => st_mix p q _ (hX v) 9 u (by omega), fun v u => st_mix p q _ (hX v) 12 u (by omega)⟩,
  fun u => st_mix p q _ rfl 8 u (by omega), fun u => st_mix p q _ rfl 9 u (by omega), fun u => st_mix p q _ rfl 12 u (by omega)⟩

def inv_30m (k : Nat) (ds : List Blk) (what at' n : Int) (p q : List Ctl) (x : List AV) : LInv where
 α := Nat
 pre i := Lf (i = 0)
 st i := ⟨mkT [(2, .ptr 0 3 0), (5, .sl 2 (13 * lenM p q) 0 (lenM p q) 13), (6, .ptr 2 (13 * lenM p q) (13 * p.length))], [⟨.exact, true, boxM what at' n⟩, deadB, ⟨.grow, false, mixM p q x⟩] ++ ds⟩
 mu _ := 0
def inv_30x (what at' n : Int) (p q : List Ctl) (c : Ctl) : List LInv := [
 { α := Nat, pre := fun m => Lf (m ≤ 7), st := fun m => ⟨mkT [(5, .sl 2 (13 * lenM p q) 0 (lenM p q) 13), (6, .ptr 2 (13 * lenM p q) (13 * p.length))], [⟨.exact, true, boxM what at' n⟩, deadB, ⟨.grow, false, mixM p q (rsM c (.sl 4 (7 * (c.rs.length + m)) 0 (c.rs.length + m) 7))⟩, deadB, ⟨.grow, true, cellsRM (c.rs ++ zRcM m)⟩, deadB, deadB, deadB, deadB]⟩, mu := fun m => 7 - m }]
noncomputable def env_30_rsn (hv : Nat → Option Pa) (hb : Nat → Option Bool) (what at' n : Int) (p q : List Ctl) (c : Ctl) : Env := { e24 sm0 (fun i => bif Nat.beq i 1000122911 then some (fun _ => [[inv_30m 0 [deadB, ⟨.grow, true, cellsRM c.rs⟩] what at' n p q (rsM c (.sl 4 (7 * c.rs.length) 0 c.rs.length 7))]]) else bif Nat.beq i 1000122920 then some (fun _ => [[inv_30m 0 [deadB, ⟨.grow, true, cellsRM c.rs⟩, deadB, deadB] what at' n p q (rsM c (.sl 4 (7 * c.rs.length) 0 c.rs.length 7))]]) else bif Nat.beq i 1000122929 then some (fun _ => [[inv_30m 0 [deadB, ⟨.grow, true, cellsRM c.rs⟩, deadB, deadB, deadB, deadB] what at' n p q (rsM c (.sl 4 (7 * c.rs.length) 0 c.rs.length 7))]]) else bif Nat.beq i 30003 then some (fun _ => [inv_30x what at' n p q c]) else none) hv hb with hz := fun k => [122917, 122926, 123041].any (Nat.beq k) }
noncomputable def goal_30_rsn (hv : Nat → Option Pa) (hb : Nat → Option Bool) (what at' n : Int) (t : Nat) (p q : List Ctl) (c : Ctl) (Q : Out → List Blk → Gh → Prop) : Prop :=
 callx (env_30_rsn hv hb what at' n p q c) (wpx (env_30_rsn hv hb what at' n p q c) 1000) 30 [.agg (boxM what at' n), .lst t (cellsCM (p ++ c :: q)) (lenM p q) 13] [] {} Q
abbrev zZF35 : Prop := ([] : List AV) = []
abbrev zZF3 : Prop := zZF35
abbrev zZF60 (p q : List Ctl) : AV := .sl 2 (13 * lenM p q) 0 (lenM p q) 13
abbrev zZF86 : Prop := eqqQ (AV.ptr 0 3 0)
abbrev zZF58 (p q : List Ctl) : AV := .ptr 2 (13 * lenM p q) (13 * p.length)
abbrev zZF20 (p q : List Ctl) : Prop := eqqQ (zZF60 p q) ∧ zZF86 ∧ eqqQ (zZF58 p q) ∧ True
def vc_30_rsn_1 (p : List Ctl) (q : List Ctl) : Prop :=
zZF3 ∧ zZF3 ∧ zZF20 p q
def vc_30_rsn_2 (p : List Ctl) (q : List Ctl) (c : Ctl) : Prop :=
zZF3 ∧ eqqQ (cellsRM c.9) ∧ vc_30_rsn_1 p q
def vc_30_rsn_3 (p : List Ctl) (q : List Ctl) (c : Ctl) : Prop :=
zZF3 ∧ eqqQ (cellsRM c.9) ∧ zZF3 ∧ zZF3 ∧ vc_30_rsn_1 p q
def vc_30_rsn_4 (p : List Ctl) (q : List Ctl) : Prop :=
zZF3 ∧ zZF3 ∧ zZF3 ∧ zZF3 ∧ eqqQ (zZF60 p q) ∧ eqqQ (zZF58 p q) ∧ True
abbrev zZF15 (p : List Ctl) (c : Ctl) (q : List Ctl) : List AV := cellsCM (p ++ c :: q)
abbrev zZF49 (p : List Ctl) (c : Ctl) (q : List Ctl) : Nat := (zZF15 p c q).length
abbrev zZF85 (p q : List Ctl) : Bool := Nat.ble (lenM p q * 152) 1099511627776
abbrev zZF62 (p : List Ctl) (c : Ctl) (q : List Ctl) : Bool := Nat.beq (zZF49 p c q) (lenM p q * 13) && oneL (zZF15 p c q) && true && zZF85 p q
abbrev zZF38 (p q : List Ctl) : Bool := Nat.ble (0 + lenM p q) 1099511627776 && Nat.ble ((0 + lenM p q) * 152) 1099511627776
abbrev zZF92 (p : List Ctl) (c : Ctl) (q : List Ctl) : List AV := [] ++ zZF15 p c q
abbrev zZF4 (p : List Ctl) (c : Ctl) (q : List Ctl) : Bool := Nat.beq (zZF92 p c q).length (0 + zZF49 p c q)
abbrev zZF59 (p q : List Ctl) : Int := ((0 + lenM p q : Nat) : Int)
abbrev zZF46 (what at' n : Int) : Blk := Blk.mk BK.exact true (boxM what at' n)
abbrev zZF10 : Blk := Blk.mk BK.exact true []
abbrev zZF88 (p : List Ctl) (c : Ctl) (q : List Ctl) : Bool := oldL 0 ([] ++ zZF15 p c q)
abbrev zZF70 (Q : Out → List Blk → Gh → Prop) (p : List Ctl) (c : Ctl) (q : List Ctl) (what at' n : Int) : Prop := Q (.ret (.sl 2 (0 + zZF49 p c q) 0 (0 + lenM p q) 13)) [zZF46 what at' n, zZF10, Blk.mk BK.grow (zZF88 p c q) (zZF92 p c q)] {}
abbrev zZF57 (n_1 n_2 : Int) (p : List Ctl) : Prop := AV.int .i64 (n_1.tmod n_2) = AV.int .i64 (p.length : Int)
abbrev zZF21 (p : List Ctl) : Nat := (p.length : Int).toNat
abbrev zZF79 (p q : List Ctl) : Bool := Nat.blt (zZF21 p) (0 + lenM p q)
abbrev zZF14 (p : List Ctl) : Nat := 0 + (p.length : Int).toNat * 13
abbrev zZF94 (c : Ctl) : AV := .lst 0 (cellsRM c.9) c.9.length 7
abbrev zZF68 (p : List Ctl) (c : Ctl) (q : List Ctl) : Prop := (((zZF92 p c q).drop (zZF14 p + 8)).take 1).getD 0 AV.undef = zZF94 c
abbrev zZF31 (c : Ctl) : Bool := Nat.beq (cellsRM c.9).length (c.9.length * 7) && oneL (cellsRM c.9) && true && Nat.ble (c.9.length * 56) 1099511627776
abbrev zZF44 (c : Ctl) : Bool := Nat.ble (0 + c.9.length) 1099511627776 && Nat.ble ((0 + c.9.length) * 56) 1099511627776
abbrev zZF47 (p : List Ctl) (c : Ctl) (q : List Ctl) : Bool := zZF4 p c q && Nat.ble (zZF14 p + 8 + 1) (0 + (zZF15 p c q).length) && true && true && true
abbrev zZF13 : Prop := True ∧ (0 : Nat) = (0 : Nat)
abbrev zZF9 (what at' n : Int) : Prop := eqqQ [AV.int .u8 what, .int .u8 at', .int .i64 n]
abbrev zZF7 (p q : List Ctl) (c : Ctl) : List AV := mixM p q (rsM c (.sl 4 (7 * c.9.length) 0 c.9.length 7))
abbrev zZF36 (p : List Ctl) (c : Ctl) (q : List Ctl) : Prop := AV.sl 2 (0 + (zZF15 p c q).length) 0 (0 + lenM p q) 13 = zZF60 p q ∧ zZF86 ∧ AV.ptr 2 (0 + (zZF15 p c q).length) (zZF14 p) = zZF58 p q ∧ True
abbrev zZF6 (p q : List Ctl) (c : Ctl) : Bool := Nat.beq (mixM p q (rsM c (.sl 4 (7 * c.9.length) 0 c.9.length 7))).length (13 * lenM p q)
abbrev zZF37 (p : List Ctl) : Nat := 13 * p.length + 9
abbrev zZF65 (p q : List Ctl) : Bool := Nat.blt (zZF37 p) (13 * lenM p q)
abbrev zZF77 (c : Ctl) : AV := .lst 0 (cellsI c.10) c.10.length 1
abbrev zZF29 (c : Ctl) : Bool := Nat.beq (cellsI c.10).length (c.10.length * 1) && oneL (cellsI c.10) && true && Nat.ble (c.10.length * 8) 1099511627776
abbrev zZF80 (c : Ctl) : Bool := Nat.beq c.10.length 0
abbrev zZF34 (p q : List Ctl) : Bool := Nat.ble (13 * p.length + 9 + 1) (13 * lenM p q)
abbrev zZF42 (c : Ctl) : Bool := Nat.ble (0 + c.10.length) 1099511627776 && Nat.ble ((0 + c.10.length) * 8) 1099511627776
abbrev zZF22 (c : Ctl) : Bool := Nat.beq ([] ++ cellsI c.10).length (0 + (cellsI c.10).length) && Nat.ble (0 + (0 + c.10.length) * 1) (0 + (cellsI c.10).length) && true && oldL 0 ([] ++ cellsI c.10) && noYL ([] ++ cellsI c.10) && true
abbrev zZF52 (c : Ctl) : AV := .lst 0 ((([] ++ cellsI c.10).drop 0).take ((0 + c.10.length) * 1)) (0 + c.10.length) 1
abbrev zZF32 (p : List Ctl) : Nat := 13 * p.length + 12
abbrev zZF64 (p q : List Ctl) : Bool := Nat.blt (zZF32 p) (13 * lenM p q)
abbrev zZF78 (c : Ctl) : AV := .lst 0 (cellsI c.13) c.13.length 1
abbrev zZF30 (c : Ctl) : Bool := Nat.beq (cellsI c.13).length (c.13.length * 1) && oneL (cellsI c.13) && true && Nat.ble (c.13.length * 8) 1099511627776
abbrev zZF81 (c : Ctl) : Bool := Nat.beq c.13.length 0
abbrev zZF50 (p q : List Ctl) : Bool := Nat.ble (zZF32 p + 1) (13 * lenM p q)
abbrev zZF43 (c : Ctl) : Bool := Nat.ble (0 + c.13.length) 1099511627776 && Nat.ble ((0 + c.13.length) * 8) 1099511627776
abbrev zZF23 (c : Ctl) : Bool := Nat.beq ([] ++ cellsI c.13).length (0 + (cellsI c.13).length) && Nat.ble (0 + (0 + c.13.length) * 1) (0 + (cellsI c.13).length) && true && oldL 0 ([] ++ cellsI c.13) && noYL ([] ++ cellsI c.13) && true
abbrev zZF53 (c : Ctl) : AV := .lst 0 ((([] ++ cellsI c.13).drop 0).take ((0 + c.13.length) * 1)) (0 + c.13.length) 1
abbrev zZF73 (n_6 : Int) : Prop := AV.bool (n_6 == 0) = AV.bool false
abbrev zZF74 (n_6 : Int) : Prop := AV.bool (n_6 == 1) = AV.bool false
abbrev zZF75 (n_6 : Int) : Prop := AV.bool (n_6 == 2) = AV.bool false
abbrev zZF76 (n_6 : Int) : Prop := AV.bool (n_6 == 3) = AV.bool false
abbrev zZF41 (p : List Ctl) : Nat := 13 * p.length + 8
abbrev zZF66 (p q : List Ctl) : Bool := Nat.blt (zZF41 p) (13 * lenM p q)
abbrev zZF71 (p q : List Ctl) : Bool := Nat.ble (zZF41 p + 1) (13 * lenM p q)
abbrev zZF48 (p q : List Ctl) : Out := .ret (.sl 2 (13 * lenM p q) 0 (lenM p q) 13)
abbrev zZF63 (n : Int) : List AV := [.int .i64 0, .int .i64 0, .int .i64 n, .int .i64 0, .int .i64 0, .int .i64 0, .int .i64 0]
abbrev zZF90 (n_6 : Int) : Prop := AV.bool (n_6 == 5) = AV.bool false
abbrev zZF16 (p q : List Ctl) (c : Ctl) (x_7 : Nat) : List AV := mixM p q (rsM c (.sl 4 (7 * (c.9.length + x_7)) 0 (c.9.length + x_7) 7))
abbrev zZF55 (p q : List Ctl) (c : Ctl) (x_7 : Nat) : Bool := Nat.beq (zZF16 p q c x_7).length (13 * lenM p q)
abbrev zZF56 : List AV := [.int .i64 0, .int .i64 0, .int .i64 0, .int .i64 0, .int .i64 0, .int .i64 0, .int .i64 0]
theorem vc_30_rsn (what : Int) (at' : Int) (n : Int) (t : Nat) (p : List Ctl) (q : List Ctl) (c : Ctl) (Q : Out → List Blk → Gh → Prop) : goal_30_rsn (lookV [(122891, .int .i64), (122897, .int .i64), (122899, .int .i64), (122900, .lit (.int
 .i64 (p.length : Int))), (122907, .lit (.lst 0 (cellsRM c.rs) c.rs.length 7)), (122916, .lit (.lst 0 (cellsI c.lo) c.lo.length 1)), (122925, .lit (.lst 0 (cellsI c.ti) c.ti.length 1)), (122931, .int .u8), (122938, .lit (.bool false)),
 (122945, .lit (.bool false)), (122952, .lit (.bool false)), (122959, .lit (.bool false)), (122971, .lit (.sl 4 (7 * c.rs.length) 0 c.rs.length 7)), (122980, .lit (.bool false)), (122993, .lit (.bool false)), (123006, .lit (.bool false)),
 (123013, .lit (.bool false)), (123017, .lit (.bool false)), (123028, .lit (.bool true)), (123032, .ex (fun n ↦ .sl 4 (7 * n) 0 n 7)), (123033, .int .i64), (123039, .ex (fun n ↦ .sl 4 (7 * n) 0 n 7))]) (lookB [(122889, false), (122908,
 false), (1122892288, true)]) what at' n t p q c Q = (ckQ (zZF62 p c q) (ckQ (Nat.blt 0 (lenM p q)) (ckQ (zZF38 p q) (ckQ (zZF4 p c q) (exI .i64 (zZF59 p q) (fun n_0 => bif n_0 == 0 then zZF70 Q p c q what at' n else exW .i64 at' (fun n_1
 => ckQ (zZF4 p c q) (exI .i64 (zZF59 p q) (fun n_2 => ckQ (n_2 != 0 && true) (zZF57 n_1 n_2 p ∧ ckQ (zZF79 p q && zZF4 p c q && true) (ckQ (zZF4 p c q) (ckQ (zZF4 p c q) (ckQ (zZF4 p c q && Nat.blt (zZF14 p + 8) (0 + zZF49 p c q)) (zZF68 p
 c q ∧ ckQ (zZF31 c) (ckQ (Nat.blt 0 c.9.length) (ckQ (zZF44 c) (ckQ (zZF4 p c q) (ckQ (zZF4 p c q) (ckQ (zZF47 p c q) (zZF13 ∧ ∃ x_3 : Nat, Lf (x_3 = 0) ∧ zZF9 what at' n ∧ zZF3 ∧ ckQ ((zZF88 p c q && false) == false) (setRange (zZF92 p c
 q) (zZF14 p + 8) [.sl 4 (0 + (cellsRM c.9).length) 0 (0 + c.9.length) 7] = zZF7 p q c ∧ zZF3 ∧ ckQ (oldL 0 ([] ++ cellsRM c.9) == true) ([] ++ cellsRM c.9 = cellsRM c.9 ∧ zZF36 p c q))))))))))) ∧ ∀ x_3 : Nat, Lf (x_3 = 0) → ckQ (zZF6 p q
 c) (ckQ (zZF6 p q c) (ckQ (zZF6 p q c && zZF65 p q) ((((zZF7 p q c).drop (zZF37 p)).take 1).getD 0 AV.undef = zZF77 c ∧ ckQ (zZF29 c) (bif zZF80 c then ckQ (zZF80 c) (ckQ (zZF6 p q c) (ckQ (zZF6 p q c) (ckQ (zZF6 p q c && zZF34 p q && true
 && true && true) (zZF13 ∧ ∃ x_4 : Nat, Lf (x_4 = 0) ∧ zZF9 what at' n ∧ zZF3 ∧ setRange (zZF7 p q c) (zZF37 p) [.lst 0 [] 0 1] = zZF7 p q c ∧ vc_30_rsn_2 p q c)))) else ckQ (Nat.blt 0 c.10.length) (ckQ (zZF42 c) (ckQ (zZF22 c && (norL 6
 (zZF7 p q c) && true)) (ckQ (zZF6 p q c) (ckQ (zZF6 p q c) (ckQ (zZF6 p q c && zZF34 p q && true && true && true) (zZF13 ∧ ∃ x_4 : Nat, Lf (x_4 = 0) ∧ zZF9 what at' n ∧ zZF3 ∧ setRange (zZF7 p q c) (zZF37 p) [zZF52 c] = zZF7 p q c ∧
 vc_30_rsn_2 p q c)))))))))) ∧ ∀ x_4 : Nat, Lf (x_4 = 0) → ckQ (zZF6 p q c) (ckQ (zZF6 p q c) (ckQ (zZF6 p q c && zZF64 p q) ((((zZF7 p q c).drop (zZF32 p)).take 1).getD 0 AV.undef = zZF78 c ∧ ckQ (zZF30 c) (bif zZF81 c then ckQ (zZF81 c)
 (ckQ (zZF6 p q c) (ckQ (zZF6 p q c) (ckQ (zZF6 p q c && zZF50 p q && true && true && true) (zZF13 ∧ ∃ x_5 : Nat, Lf (x_5 = 0) ∧ zZF9 what at' n ∧ zZF3 ∧ setRange (zZF7 p q c) (zZF32 p) [.lst 0 [] 0 1] = zZF7 p q c ∧ vc_30_rsn_3 p q c))))
 else ckQ (Nat.blt 0 c.13.length) (ckQ (zZF43 c) (ckQ (zZF23 c && (norL 8 (zZF7 p q c) && true)) (ckQ (zZF6 p q c) (ckQ (zZF6 p q c) (ckQ (zZF6 p q c && zZF50 p q && true && true && true) (zZF13 ∧ ∃ x_5 : Nat, Lf (x_5 = 0) ∧ zZF9 what at' n
 ∧ zZF3 ∧ setRange (zZF7 p q c) (zZF32 p) [zZF53 c] = zZF7 p q c ∧ vc_30_rsn_3 p q c)))))))))) ∧ ∀ x_5 : Nat, Lf (x_5 = 0) → exI .u8 (what.tmod 12) (fun n_6 => zZF73 n_6 ∧ zZF74 n_6 ∧ zZF75 n_6 ∧ zZF76 n_6 ∧ bif n_6 == 4 then ckQ (zZF6 p q
 c) (ckQ (zZF6 p q c) (ckQ (zZF6 p q c && zZF66 p q) ((((zZF7 p q c).drop (zZF41 p)).take 1).getD 0 AV.undef = AV.sl 4 (7 * c.9.length) 0 c.9.length 7 ∧ ckQ (Nat.beq (cellsRM c.9).length (7 * c.9.length) && true && Nat.beq (0 + c.9.length *
 7) (7 * c.9.length) && Nat.ble (c.9.length + 1) 1099511627776 && Nat.ble ((c.9.length + 1) * 56) 1099511627776) (ckQ (zZF6 p q c) (ckQ (zZF6 p q c) (ckQ (zZF6 p q c && zZF71 p q && true && true && true) (Q (zZF48 p q) [zZF46 what at' n,
 zZF10, Blk.mk BK.grow false (setRange (zZF7 p q c) (zZF41 p) [.sl 4 (7 * c.9.length + 7) 0 (c.9.length + 1) 7]), zZF10, Blk.mk BK.grow true (cellsRM c.9 ++ [AV.int .i64 0, .int .i64 0, .int .i64 n, .int .i64 0, .int .i64 0, .int .i64 0,
 .int .i64 0]), zZF10, zZF10, zZF10, zZF10, Blk.mk BK.exact true (zZF63 n)] {}))))))) else zZF90 n_6 ∧ AV.bool (n_6 == 6) = AV.bool false ∧ AV.bool (n_6 == 7) = AV.bool false ∧ AV.bool (n_6 == 8) = AV.bool false ∧ AV.bool (n_6 == 9) =
 AV.bool false ∧ AV.bool (n_6 == 10) = AV.bool true ∧ (∃ x_7 : Nat, Lf (x_7 ≤ 7) ∧ zZF9 what at' n ∧ zZF3 ∧ zZF7 p q c = zZF16 p q c x_7 ∧ zZF3 ∧ cellsRM c.9 = cellsRM (c.9 ++ zRcM x_7) ∧ vc_30_rsn_4 p q) ∧ ∀ x_7 : Nat, Lf (x_7 ≤ 7) → ckQ
 (zZF55 p q c x_7) (ckQ (zZF55 p q c x_7) (ckQ (zZF55 p q c x_7 && zZF66 p q) (∃ n_8 : Nat, (((zZF16 p q c x_7).drop (zZF41 p)).take 1).getD 0 AV.undef = AV.sl 4 (7 * n_8) 0 n_8 7 ∧ ckQ (Nat.beq (cellsRM (c.9 ++ zRcM x_7)).length (7 * n_8))
 (exI .i64 (n_8 : Int) (fun n_9 => bif decide (n_9 < 7) then ckQ (zZF55 p q c x_7) (ckQ (zZF55 p q c x_7) (ckQ (zZF55 p q c x_7 && zZF66 p q) (∃ n_10 : Nat, (((zZF16 p q c x_7).drop (zZF41 p)).take 1).getD 0 AV.undef = AV.sl 4 (7 * n_10) 0
 n_10 7 ∧ ckQ (Nat.beq (cellsRM (c.9 ++ zRcM x_7)).length (7 * n_10) && true && Nat.beq (0 + n_10 * 7) (7 * n_10) && Nat.ble (n_10 + 1) 1099511627776 && Nat.ble ((n_10 + 1) * 56) 1099511627776) (ckQ (zZF55 p q c x_7) (ckQ (zZF55 p q c x_7)
 (ckQ (zZF55 p q c x_7 && zZF71 p q && true && true && true) ((oldL 9 (setRange (zZF16 p q c x_7) (zZF41 p) [.sl 4 (7 * n_10 + 7) 0 (n_10 + 1) 7]) && true) = true ∧ zZF13 ∧ ∃ y_11 : Nat, Lf (y_11 ≤ 7) ∧ 7 - y_11 < 7 - x_7 ∧ zZF9 what at' n
 ∧ zZF3 ∧ setRange (zZF16 p q c x_7) (zZF41 p) [.sl 4 (7 * n_10 + 7) 0 (n_10 + 1) 7] = zZF16 p q c y_11 ∧ zZF3 ∧ cellsRM (c.9 ++ zRcM x_7) ++ zZF56 = cellsRM (c.9 ++ zRcM y_11) ∧ vc_30_rsn_4 p q))))))) else Q (zZF48 p q) [zZF46 what at' n,
 zZF10, Blk.mk BK.grow false (zZF16 p q c x_7), zZF10, Blk.mk BK.grow true (cellsRM (c.9 ++ zRcM x_7)), zZF10, zZF10, zZF10, zZF10] {}))))))))))))))))) := by kernel_rfl

theorem bend_rsn (what at' n : Int) (t : Nat) (p q : List Ctl) (c : Ctl) (hw : what.tmod 12 = 4 ∨ what.tmod 12 = 10) (hne : c.rs.length ≠ 0) (ha : 0 ≤ at' ∧ at' ≤ 255) (hp : at'.tmod ((lenM p q : Nat) : Int) = (p.length : Int)) (hl : p.length + q.length ≤ 1000) (hok : okC c) (Q : Out → List Blk → Gh → Prop)
  (hq : ∀ c' H, okB c c' → frzOK p q c' H → Q (.ret (.sl 2 (13 * lenM p q) 0 (lenM p q) 13)) H {}) : ∃ hv hb, goal_30_rsn hv hb what at' n t p q c Q := by
 obtain ⟨hv, hb', e⟩ : ∃ hv hb, goal_30_rsn hv hb what at' n t p q c Q = _ := ⟨_, _, vc_30_rsn what at' n t p q c Q⟩
 refine ⟨hv, hb', e.mpr ?_⟩
 delta vc_30_rsn_2 vc_30_rsn_1 vc_30_rsn_3 vc_30_rsn_4 zZF15 zZF49 zZF85 zZF62 zZF38 zZF92 zZF4 zZF59 zZF46 zZF10 zZF88 zZF70 zZF57 zZF21 zZF79 zZF14 zZF94 zZF68 zZF31 zZF44 zZF47 zZF13 zZF9 zZF35 zZF3 zZF7 zZF60 zZF86 zZF58 zZF36 zZF6 zZF37 zZF65 zZF77 zZF29 zZF80 zZF34 zZF42 zZF22 zZF52 zZF32 zZF64 zZF78 zZF30 zZF81 zZF50 zZF43 zZF23 zZF53 zZF73 zZF74 zZF75 zZF76 zZF41 zZF66 zZF71 zZF48 zZF63 zZF90 zZF16 zZF55 zZF56 zZF20
 clear e
 have hN : lenM p q = p.length + q.length + 1 := by unfold lenM; omega
 have F := facZ p q c (c) (rsM c) (fun _ => rfl) hl hok
 obtain ⟨k1, k2, k3⟩ := hok
 have hr : c.rs.length ≠ 0 → Nat.blt 0 c.rs.length = true := fun h => bltT (by omega)
 simp only [vc_30_rsn_1, vc_30_rsn_2, vc_30_rsn_3, vc_30_rsn_4, F, mix_of, List.nil_append, Nat.zero_add, Int.toNat_natCast, Nat.mul_comm _ 13, Nat.mul_comm _ 7, Nat.mul_one, List.drop_zero, Bool.true_or, Bool.and_true, Bool.true_and, Nat.beq_refl, cond_true, beq_self_eq_true, and_true, true_and, nor_mix, old_mix]
 refine ⟨_, rfl, splitE (fun h => absurd h (by omega)) (fun _ => wrapI (by omega) (by omega) ⟨_, rfl, splitNE (fun _ => ⟨by rw [hp], ?_⟩) (fun h => absurd h (by omega))⟩)⟩
 refine ⟨⟨rfl, ckI (hr hne) (by first | exact ⟨0, ⟨rfl⟩⟩ | exact ⟨0, ⟨rfl⟩, rfl⟩ | exact ckI rfl ⟨0, ⟨rfl⟩⟩ | exact ckI rfl ⟨0, ⟨rfl⟩, rfl⟩)⟩, ?_⟩
 rintro _ ⟨rfl⟩
 refine ⟨⟨rfl, spl (fun h => ⟨0, ⟨rfl⟩, by have h1 := List.eq_nil_of_length_eq_zero h; simp only [rsM, loM, tiM, ctC, h1]; rfl⟩) (by first | exact ⟨0, ⟨rfl⟩⟩ | exact ⟨0, ⟨rfl⟩, rfl⟩ | exact ckI rfl ⟨0, ⟨rfl⟩⟩ | exact ckI rfl ⟨0, ⟨rfl⟩, rfl⟩)⟩, ?_⟩
 rintro _ ⟨rfl⟩
 refine ⟨⟨rfl, spl (fun h => ⟨0, ⟨rfl⟩, by have h1 := List.eq_nil_of_length_eq_zero h; simp only [rsM, loM, tiM, ctC, h1]; rfl⟩) (by first | exact ⟨0, ⟨rfl⟩⟩ | exact ⟨0, ⟨rfl⟩, rfl⟩ | exact ckI rfl ⟨0, ⟨rfl⟩⟩ | exact ckI rfl ⟨0, ⟨rfl⟩, rfl⟩)⟩, ?_⟩
 rintro _ ⟨rfl⟩
 refine ⟨_, rfl, eqFb (by omega), eqFb (by omega), eqFb (by omega), eqFb (by omega), splitE (fun h4 => ⟨rfl, ckI (by simp; omega) (hq { c with rs := (c.rs ++ [(0, 0, n, 0, 0, 0, 0)]) } _ (by unfold okB; simp; try omega) ⟨_, _, rfl, own_rs c 4 (c.rs ++ [(0, 0, n, 0, 0, 0, 0)]) _ (by simp [cellsRM, rcCM]) (by simp [Nat.mul_add]; try omega) (by simp)⟩)⟩) (fun h4 => ⟨eqFb (by omega), eqFb (by omega), eqFb (by omega), eqFb (by omega), eqFb (by omega), eqTb (by omega), ?_⟩)⟩
 refine ⟨⟨0, ⟨by omega⟩, by simp, by simp [zRcM]⟩, ?_⟩
 rintro m ⟨hm⟩
 have hlm : (cellsRM (c.rs ++ zRcM m)).length = 7 * (c.rs.length + m) := by rw [cellsR_len]; simp [zRcM]
 refine ⟨c.rs.length + m, rfl, ckI (by rw [hlm]; simp) ⟨_, rfl, splitD (fun hlt => ?_) (fun hge => ?_)⟩⟩
 ·refine ⟨c.rs.length + m, rfl, ckI (by rw [hlm]; simp; omega) ⟨rfl, m + 1, ⟨by omega⟩, by omega, rfl, ?_⟩⟩
  simp [zRcM, List.replicate_succ', cellsRM, rcCM]
 ·exact hq { c with rs := c.rs ++ zRcM m } _ (by unfold okB; simp [zRcM]; omega) ⟨_, _, rfl, own_rs c 4 (c.rs ++ zRcM m) _ rfl (by simp [zRcM]) (by simp [zRcM])⟩

def inv_30y (what at' n : Int) (p q : List Ctl) (c : Ctl) : List LInv := [
 { α := Nat, pre := fun m => Lf (m = 0), st := fun m => ⟨mkT [(5, .sl 2 (13 * lenM p q) 0 (lenM p q) 13), (6, .ptr 2 (13 * lenM p q) (13 * p.length))], [⟨.exact, true, boxM what at' n⟩, deadB, ⟨.grow, false, mixM p q (rsM c (.sl 3 0 0 0 7))⟩, deadB, deadB, deadB, deadB, deadB]⟩, mu := fun m => 8 },
 { α := Nat, pre := fun m => Lf (1 ≤ m ∧ m ≤ 7), st := fun m => ⟨mkT [(5, .sl 2 (13 * lenM p q) 0 (lenM p q) 13), (6, .ptr 2 (13 * lenM p q) (13 * p.length))], [⟨.exact, true, boxM what at' n⟩, deadB, ⟨.grow, false, mixM p q (rsM c (.sl 8 (7 * m) 0 m 7))⟩, deadB, deadB, deadB, deadB, deadB, ⟨.grow, true, cellsRM (zRcM m)⟩]⟩, mu := fun m => 7 - m }]
noncomputable def env_30_rse (hv : Nat → Option Pa) (hb : Nat → Option Bool) (what at' n : Int) (p q : List Ctl) (c : Ctl) : Env := { e24 sm0 (fun i => bif Nat.beq i 1000122911 then some (fun _ => [[inv_30m 0 [deadB] what at' n p q (rsM c (.sl 3 0 0 0 7))]]) else bif Nat.beq i 1000122920 then some (fun _ => [[inv_30m 0 [deadB, deadB, deadB] what at' n p q (rsM c (.sl 3 0 0 0 7))]]) else bif Nat.beq i 1000122929 then some (fun _ => [[inv_30m 0 [deadB, deadB, deadB, deadB, deadB] what at' n p q (rsM c (.sl 3 0 0 0 7))]]) else bif Nat.beq i 30003 then some (fun _ => [inv_30y what at' n p q c]) else none) hv hb with hz := fun k => [122917, 122926, 123041].any (Nat.beq k) }
noncomputable def goal_30_rse (hv : Nat → Option Pa) (hb : Nat → Option Bool) (what at' n : Int) (t : Nat) (p q : List Ctl) (c : Ctl) (Q : Out → List Blk → Gh → Prop) : Prop :=
 callx (env_30_rse hv hb what at' n p q c) (wpx (env_30_rse hv hb what at' n p q c) 1000) 30 [.agg (boxM what at' n), .lst t (cellsCM (p ++ { c with rs := [] } :: q)) (lenM p q) 13] [] {} Q
def vc_30_rse_1 (p : List Ctl) (q : List Ctl) : Prop :=
zZF3 ∧ zZF3 ∧ zZF3 ∧ zZF20 p q
def vc_30_rse_2 (p : List Ctl) (q : List Ctl) : Prop :=
zZF3 ∧ zZF3 ∧ vc_30_rse_1 p q
def vc_30_rse_3 (p : List Ctl) (q : List Ctl) : Prop :=
eqqQ (zZF60 p q) ∧ eqqQ (zZF58 p q) ∧ True
abbrev zZF5 (p : List Ctl) (c : Ctl) (q : List Ctl) : List AV := cellsCM (p ++ Ctl.mk c.1 c.2 c.3 c.4 c.5 c.6 c.7 c.8 [] c.10 c.11 c.12 c.13 :: q)
abbrev zZF39 (p : List Ctl) (c : Ctl) (q : List Ctl) : Bool := Nat.beq ([] ++ zZF5 p c q).length (0 + (zZF5 p c q).length)
abbrev zZF25 (p q : List Ctl) (c : Ctl) : List AV := mixM p q (rsM c (.sl 3 0 0 0 7))
abbrev zZF8 (p q : List Ctl) (c : Ctl) : Bool := Nat.beq (zZF25 p q c).length (13 * lenM p q)
abbrev zZF67 (p q : List Ctl) (c : Ctl) : AV := (((zZF25 p q c).drop (zZF41 p)).take 1).getD 0 AV.undef
abbrev zZF87 (x_7 : Nat) : Prop := Lf (1 ≤ x_7 ∧ x_7 ≤ 7)
abbrev zZF19 (p q : List Ctl) (c : Ctl) (x_7 : Nat) : List AV := mixM p q (rsM c (.sl 8 (7 * x_7) 0 x_7 7))
abbrev zZF93 : Prop := zZF3 ∧ zZF3 ∧ zZF3 ∧ zZF3 ∧ zZF3 ∧ False
abbrev zZF18 (p q : List Ctl) (c : Ctl) (x_7 : Nat) : Bool := Nat.beq (mixM p q (rsM c (.sl 8 (7 * x_7) 0 x_7 7))).length (13 * lenM p q)
abbrev zZF82 (p q : List Ctl) (c : Ctl) (x_7 : Nat) : AV := (((zZF19 p q c x_7).drop (zZF41 p)).take 1).getD 0 AV.undef
abbrev zZF91 : Prop := zZF35 ∧ zZF35 ∧ zZF35 ∧ zZF35 ∧ zZF35 ∧ False
abbrev zZF1 (n_8 : Int) (p q : List Ctl) (c : Ctl) (x_7 : Nat) (what at' n : Int) (Q : Out → List Blk → Gh → Prop) : Prop := bif decide (n_8 < 7) then ckQ (zZF18 p q c x_7) (ckQ (zZF18 p q c x_7) (ckQ (zZF18 p q c x_7 && zZF66 p q) (zZF82 p q c x_7 = AV.sl 3 0 0 0 7 ∧ ckQ (zZF18 p q c x_7) (ckQ (zZF18 p q c x_7) (ckQ (zZF18 p q c x_7 && zZF71 p q && true && true && true) (zZF13 ∧ ((∃ y_9 : Nat, Lf (y_9 = 0) ∧ 8 < 7 - x_7 ∧ zZF9 what at' n ∧ zZF35 ∧ setRange (zZF19 p q c x_7) (zZF41 p) [.sl 9 7 0 1 7] = zZF25 p q c ∧ zZF91) ∨ ∃ y_9 : Nat, zZF87 y_9 ∧ 7 - y_9 < 7 - x_7 ∧ zZF9 what at' n ∧ zZF35 ∧ setRange (zZF19 p q c x_7) (zZF41 p) [.sl 9 7 0 1 7] = zZF19 p q c y_9 ∧ zZF35 ∧ zZF35 ∧ zZF35 ∧ zZF35 ∧ zZF35 ∧ cellsRM (zRcM x_7) = cellsRM (zRcM y_9) ∧ False)))) ∨ ∃ n_9 : Nat, zZF82 p q c x_7 = AV.sl 8 (7 * n_9) 0 n_9 7 ∧ ckQ (Nat.beq (cellsRM (zRcM x_7)).length (7 * n_9) && true && Nat.beq (0 + n_9 * 7) (7 * n_9) && Nat.ble (n_9 + 1) 1099511627776 && Nat.ble ((n_9 + 1) * 56) 1099511627776) (ckQ (zZF18 p q c x_7) (ckQ (zZF18 p q c x_7) (ckQ (zZF18 p q c x_7 && zZF71 p q && true && true && true) (zZF13 ∧ ((∃ y_10 : Nat, Lf (y_10 = 0) ∧ 8 < 7 - x_7 ∧ zZF9 what at' n ∧ zZF35 ∧ setRange (zZF19 p q c x_7) (zZF41 p) [.sl 8 (7 * n_9 + 7) 0 (n_9 + 1) 7] = zZF25 p q c ∧ zZF91) ∨ ∃ y_10 : Nat, zZF87 y_10 ∧ 7 - y_10 < 7 - x_7 ∧ zZF9 what at' n ∧ zZF35 ∧ setRange (zZF19 p q c x_7) (zZF41 p) [.sl 8 (7 * n_9 + 7) 0 (n_9 + 1) 7] = zZF19 p q c y_10 ∧ zZF35 ∧ zZF35 ∧ zZF35 ∧ zZF35 ∧ zZF35 ∧ cellsRM (zRcM x_7) ++ zZF56 = cellsRM (zRcM y_10) ∧ vc_30_rse_3 p q)))))))) else Q (zZF48 p q) [zZF46 what at' n, zZF10, Blk.mk BK.grow false (zZF19 p q c x_7), zZF10, zZF10, zZF10, zZF10, zZF10, Blk.mk BK.grow true (cellsRM (zRcM x_7))] {}
theorem vc_30_rse (what : Int) (at' : Int) (n : Int) (t : Nat) (p : List Ctl) (q : List Ctl) (c : Ctl) (Q : Out → List Blk → Gh → Prop) : goal_30_rse (lookV [(122891, .int .i64), (122897, .int .i64), (122899, .int .i64), (122900, .lit (.int
 .i64 (p.length : Int))), (122907, .lit (.lst 0 [] 0 7)), (122916, .lit (.lst 0 (cellsI c.lo) c.lo.length 1)), (122925, .lit (.lst 0 (cellsI c.ti) c.ti.length 1)), (122931, .int .u8), (122938, .lit (.bool false)), (122945, .lit (.bool
 false)), (122952, .lit (.bool false)), (122959, .lit (.bool false)), (122971, .lit (.sl 3 0 0 0 7)), (122980, .lit (.bool false)), (122993, .lit (.bool false)), (123006, .lit (.bool false)), (123013, .lit (.bool false)), (123017, .lit
 (.bool false)), (123028, .lit (.bool true)), (123032, .or (.lit (.sl 3 0 0 0 7)) (.ex (fun n ↦ .sl 8 (7 * n) 0 n 7))), (123039, .or (.lit (.sl 3 0 0 0 7)) (.ex (fun n ↦ .sl 8 (7 * n) 0 n 7))), (123033, .int .i64)]) (lookB [(122889, false),
 (122908, true), (1122892288, false)]) what at' n t p q c Q = (ckQ (Nat.beq (zZF5 p c q).length (lenM p q * 13) && oneL (zZF5 p c q) && true && zZF85 p q) (ckQ (Nat.blt 0 (lenM p q)) (ckQ (zZF38 p q) (ckQ (zZF39 p c q) (exI .i64 (zZF59 p q)
 (fun n_0 => bif n_0 == 0 then Q (.ret (.sl 2 (0 + (zZF5 p c q).length) 0 (0 + lenM p q) 13)) [zZF46 what at' n, zZF10, Blk.mk BK.grow (oldL 0 ([] ++ zZF5 p c q)) ([] ++ zZF5 p c q)] {} else exW .i64 at' (fun n_1 => ckQ (zZF39 p c q) (exI
 .i64 (zZF59 p q) (fun n_2 => ckQ (n_2 != 0 && true) (zZF57 n_1 n_2 p ∧ ckQ (zZF79 p q && zZF39 p c q && true) (ckQ (zZF39 p c q) (ckQ (zZF39 p c q) (ckQ (zZF39 p c q && Nat.blt (zZF14 p + 8) (0 + (zZF5 p c q).length)) (((([] ++ zZF5 p c
 q).drop (zZF14 p + 8)).take 1).getD 0 AV.undef = AV.lst 0 [] 0 7 ∧ ckQ (zZF39 p c q) (ckQ (zZF39 p c q) (ckQ (zZF39 p c q && Nat.ble (zZF14 p + 8 + 1) (0 + (zZF5 p c q).length) && true && true && true) (zZF13 ∧ ∃ x_3 : Nat, Lf (x_3 = 0) ∧
 zZF9 what at' n ∧ zZF3 ∧ ckQ ((oldL 0 ([] ++ zZF5 p c q) && false) == false) (setRange ([] ++ zZF5 p c q) (zZF14 p + 8) [.sl 3 0 0 0 7] = zZF25 p q c ∧ zZF3 ∧ AV.sl 2 (0 + (zZF5 p c q).length) 0 (0 + lenM p q) 13 = zZF60 p q ∧ zZF86 ∧
 AV.ptr 2 (0 + (zZF5 p c q).length) (zZF14 p) = zZF58 p q ∧ True))))))) ∧ ∀ x_3 : Nat, Lf (x_3 = 0) → ckQ (zZF8 p q c) (ckQ (zZF8 p q c) (ckQ (zZF8 p q c && zZF65 p q) ((((zZF25 p q c).drop (zZF37 p)).take 1).getD 0 AV.undef = zZF77 c ∧ ckQ
 (zZF29 c) (bif zZF80 c then ckQ (zZF80 c) (ckQ (zZF8 p q c) (ckQ (zZF8 p q c) (ckQ (zZF8 p q c && zZF34 p q && true && true && true) (zZF13 ∧ ∃ x_4 : Nat, Lf (x_4 = 0) ∧ zZF9 what at' n ∧ zZF3 ∧ setRange (zZF25 p q c) (zZF37 p) [.lst 0 []
 0 1] = zZF25 p q c ∧ vc_30_rse_1 p q)))) else ckQ (Nat.blt 0 c.10.length) (ckQ (zZF42 c) (ckQ (zZF22 c && (norL 5 (zZF25 p q c) && true)) (ckQ (zZF8 p q c) (ckQ (zZF8 p q c) (ckQ (zZF8 p q c && zZF34 p q && true && true && true) (zZF13 ∧ ∃
 x_4 : Nat, Lf (x_4 = 0) ∧ zZF9 what at' n ∧ zZF3 ∧ setRange (zZF25 p q c) (zZF37 p) [zZF52 c] = zZF25 p q c ∧ vc_30_rse_1 p q)))))))))) ∧ ∀ x_4 : Nat, Lf (x_4 = 0) → ckQ (zZF8 p q c) (ckQ (zZF8 p q c) (ckQ (zZF8 p q c && zZF64 p q)
 ((((zZF25 p q c).drop (zZF32 p)).take 1).getD 0 AV.undef = zZF78 c ∧ ckQ (zZF30 c) (bif zZF81 c then ckQ (zZF81 c) (ckQ (zZF8 p q c) (ckQ (zZF8 p q c) (ckQ (zZF8 p q c && zZF50 p q && true && true && true) (zZF13 ∧ ∃ x_5 : Nat, Lf (x_5 =
 0) ∧ zZF9 what at' n ∧ zZF3 ∧ setRange (zZF25 p q c) (zZF32 p) [.lst 0 [] 0 1] = zZF25 p q c ∧ vc_30_rse_2 p q)))) else ckQ (Nat.blt 0 c.13.length) (ckQ (zZF43 c) (ckQ (zZF23 c && (norL 7 (zZF25 p q c) && true)) (ckQ (zZF8 p q c) (ckQ
 (zZF8 p q c) (ckQ (zZF8 p q c && zZF50 p q && true && true && true) (zZF13 ∧ ∃ x_5 : Nat, Lf (x_5 = 0) ∧ zZF9 what at' n ∧ zZF3 ∧ setRange (zZF25 p q c) (zZF32 p) [zZF53 c] = zZF25 p q c ∧ vc_30_rse_2 p q)))))))))) ∧ ∀ x_5 : Nat, Lf (x_5 =
 0) → exI .u8 (what.tmod 12) (fun n_6 => zZF73 n_6 ∧ zZF74 n_6 ∧ zZF75 n_6 ∧ zZF76 n_6 ∧ bif n_6 == 4 then ckQ (zZF8 p q c) (ckQ (zZF8 p q c) (ckQ (zZF8 p q c && zZF66 p q) (zZF67 p q c = AV.sl 3 0 0 0 7 ∧ ckQ (zZF8 p q c) (ckQ (zZF8 p q c)
 (ckQ (zZF8 p q c && zZF71 p q && true && true && true) (Q (zZF48 p q) [zZF46 what at' n, zZF10, Blk.mk BK.grow false (setRange (zZF25 p q c) (zZF41 p) [.sl 9 7 0 1 7]), zZF10, zZF10, zZF10, zZF10, zZF10, Blk.mk BK.exact true (zZF63 n),
 Blk.mk BK.grow true (zZF63 n)] {})))))) else zZF90 n_6 ∧ AV.bool (n_6 == 6) = AV.bool false ∧ AV.bool (n_6 == 7) = AV.bool false ∧ AV.bool (n_6 == 8) = AV.bool false ∧ AV.bool (n_6 == 9) = AV.bool false ∧ AV.bool (n_6 == 10) = AV.bool true
 ∧ ((∃ x_7 : Nat, Lf (x_7 = 0) ∧ zZF9 what at' n ∧ zZF3 ∧ eqqQ (zZF25 p q c) ∧ zZF3 ∧ zZF3 ∧ zZF3 ∧ zZF3 ∧ zZF3 ∧ vc_30_rse_3 p q) ∨ ∃ x_7 : Nat, zZF87 x_7 ∧ zZF9 what at' n ∧ zZF3 ∧ zZF25 p q c = zZF19 p q c x_7 ∧ zZF93) ∧ (∀ x_7 : Nat, Lf
 (x_7 = 0) → ckQ (zZF8 p q c) (ckQ (zZF8 p q c) (ckQ (zZF8 p q c && zZF66 p q) (zZF67 p q c = AV.sl 3 0 0 0 7 ∧ exI .i64 0 (fun n_8 => bif decide (n_8 < 7) then ckQ (zZF8 p q c) (ckQ (zZF8 p q c) (ckQ (zZF8 p q c && zZF66 p q) (zZF67 p q c
 = AV.sl 3 0 0 0 7 ∧ ckQ (zZF8 p q c) (ckQ (zZF8 p q c) (ckQ (zZF8 p q c && zZF71 p q && true && true && true) (zZF13 ∧ ((∃ y_9 : Nat, Lf (y_9 = 0) ∧ (8 : Nat) < (8 : Nat) ∧ zZF9 what at' n ∧ zZF3 ∧ setRange (zZF25 p q c) (zZF41 p) [.sl 8 7
 0 1 7] = zZF25 p q c ∧ zZF93) ∨ ∃ y_9 : Nat, zZF87 y_9 ∧ 7 - y_9 < 8 ∧ zZF9 what at' n ∧ zZF3 ∧ setRange (zZF25 p q c) (zZF41 p) [.sl 8 7 0 1 7] = zZF19 p q c y_9 ∧ zZF3 ∧ zZF3 ∧ zZF3 ∧ zZF3 ∧ zZF3 ∧ zZF56 = cellsRM (zRcM y_9) ∧
 vc_30_rse_3 p q)))) ∨ ∃ n_9 : Nat, zZF67 p q c = AV.sl 8 (7 * n_9) 0 n_9 7 ∧ False))) else Q (zZF48 p q) [zZF46 what at' n, zZF10, Blk.mk BK.grow false (zZF25 p q c), zZF10, zZF10, zZF10, zZF10, zZF10] {}) ∨ ∃ n_8 : Nat, zZF67 p q c =
 AV.sl 8 (7 * n_8) 0 n_8 7 ∧ False)))) ∧ ∀ x_7 : Nat, zZF87 x_7 → ckQ (zZF18 p q c x_7) (ckQ (zZF18 p q c x_7) (ckQ (zZF18 p q c x_7 && zZF66 p q) (zZF82 p q c x_7 = AV.sl 3 0 0 0 7 ∧ exI .i64 0 (fun n_8 => zZF1 n_8 p q c x_7 what at' n Q)
 ∨ ∃ n_8 : Nat, zZF82 p q c x_7 = AV.sl 8 (7 * n_8) 0 n_8 7 ∧ ckQ (Nat.beq (cellsRM (zRcM x_7)).length (7 * n_8)) (exI .i64 (n_8 : Int) (fun n_9 => zZF1 n_9 p q c x_7 what at' n Q))))))))))))))))) := by kernel_rfl

theorem bend_rse (what at' n : Int) (t : Nat) (p q : List Ctl) (c : Ctl) (hw : what.tmod 12 = 4 ∨ what.tmod 12 = 10) (ha : 0 ≤ at' ∧ at' ≤ 255) (hp : at'.tmod ((lenM p q : Nat) : Int) = (p.length : Int)) (hl : p.length + q.length ≤ 1000) (hok : okC c) (Q : Out → List Blk → Gh → Prop)
  (hq : ∀ c' H, okB c c' → frzOK p q c' H → Q (.ret (.sl 2 (13 * lenM p q) 0 (lenM p q) 13)) H {}) : ∃ hv hb, goal_30_rse hv hb what at' n t p q c Q := by
 obtain ⟨hv, hb', e⟩ : ∃ hv hb, goal_30_rse hv hb what at' n t p q c Q = _ := ⟨_, _, vc_30_rse what at' n t p q c Q⟩
 refine ⟨hv, hb', e.mpr ?_⟩
 delta vc_30_rse_1 vc_30_rse_2 vc_30_rse_3 zZF5 zZF85 zZF38 zZF39 zZF59 zZF46 zZF10 zZF57 zZF21 zZF79 zZF14 zZF13 zZF9 zZF35 zZF3 zZF25 zZF60 zZF86 zZF58 zZF8 zZF37 zZF65 zZF77 zZF29 zZF80 zZF34 zZF42 zZF22 zZF52 zZF32 zZF64 zZF78 zZF30 zZF81 zZF50 zZF43 zZF23 zZF53 zZF73 zZF74 zZF75 zZF76 zZF41 zZF66 zZF67 zZF71 zZF48 zZF63 zZF90 zZF87 zZF19 zZF93 zZF56 zZF18 zZF82 zZF91 zZF1 zZF20
 clear e
 have hN : lenM p q = p.length + q.length + 1 := by unfold lenM; omega
 have F := facZ p q c ({ c with rs := [] }) (rsM c) (fun _ => rfl) hl hok
 obtain ⟨k1, k2, k3⟩ := hok
 have hr : c.rs.length ≠ 0 → Nat.blt 0 c.rs.length = true := fun h => bltT (by omega)
 simp only [vc_30_rse_1, vc_30_rse_2, vc_30_rse_3, F, mix_of, List.nil_append, Nat.zero_add, Int.toNat_natCast, Nat.mul_comm _ 13, Nat.mul_comm _ 7, Nat.mul_one, List.drop_zero, Bool.true_or, Bool.and_true, Bool.true_and, Nat.beq_refl, cond_true, beq_self_eq_true, and_true, true_and, nor_mix, old_mix]
 refine ⟨_, rfl, splitE (fun h => absurd h (by omega)) (fun _ => wrapI (by omega) (by omega) ⟨_, rfl, splitNE (fun _ => ⟨by rw [hp], ?_⟩) (fun h => absurd h (by omega))⟩)⟩
 refine ⟨⟨rfl, by first | exact ⟨0, ⟨rfl⟩⟩ | exact ⟨0, ⟨rfl⟩, rfl⟩ | exact ckI rfl ⟨0, ⟨rfl⟩⟩ | exact ckI rfl ⟨0, ⟨rfl⟩, rfl⟩⟩, ?_⟩
 rintro _ ⟨rfl⟩
 refine ⟨⟨rfl, spl (fun h => ⟨0, ⟨rfl⟩, by have h1 := List.eq_nil_of_length_eq_zero h; simp only [rsM, loM, tiM, ctC, h1]; rfl⟩) (by first | exact ⟨0, ⟨rfl⟩⟩ | exact ⟨0, ⟨rfl⟩, rfl⟩ | exact ckI rfl ⟨0, ⟨rfl⟩⟩ | exact ckI rfl ⟨0, ⟨rfl⟩, rfl⟩)⟩, ?_⟩
 rintro _ ⟨rfl⟩
 refine ⟨⟨rfl, spl (fun h => ⟨0, ⟨rfl⟩, by have h1 := List.eq_nil_of_length_eq_zero h; simp only [rsM, loM, tiM, ctC, h1]; rfl⟩) (by first | exact ⟨0, ⟨rfl⟩⟩ | exact ⟨0, ⟨rfl⟩, rfl⟩ | exact ckI rfl ⟨0, ⟨rfl⟩⟩ | exact ckI rfl ⟨0, ⟨rfl⟩, rfl⟩)⟩, ?_⟩
 rintro _ ⟨rfl⟩
 refine ⟨_, rfl, eqFb (by omega), eqFb (by omega), eqFb (by omega), eqFb (by omega), splitE (fun h4 => ⟨rfl, hq { c with rs := [(0, 0, n, 0, 0, 0, 0)] } _ (by unfold okB; simp; try omega) ⟨_, _, rfl, own_rs c 9 [(0, 0, n, 0, 0, 0, 0)] _ rfl (by simp [Nat.mul_add]; try omega) (by simp)⟩⟩) (fun h4 => ⟨eqFb (by omega), eqFb (by omega), eqFb (by omega), eqFb (by omega), eqFb (by omega), eqTb (by omega), ?_⟩)⟩
 refine ⟨.inl ⟨0, ⟨rfl⟩⟩, ?_, ?_⟩
 ·rintro _ ⟨rfl⟩
  exact .inl ⟨rfl, _, rfl, splitD (fun _ => .inl ⟨rfl, .inr ⟨1, ⟨by omega, by omega⟩, by omega, rfl, rfl⟩⟩) (fun h => absurd (by omega) h)⟩
 ·rintro m ⟨hm⟩
  have hlm : (cellsRM (zRcM m)).length = 7 * m := by rw [cellsR_len]; simp [zRcM]
  refine .inr ⟨m, rfl, ckI (by rw [hlm]; simp) ⟨_, rfl, splitD (fun hlt => ?_) (fun hge => ?_)⟩⟩
  ·refine .inr ⟨m, rfl, ckI (by rw [hlm]; simp; omega) (.inr ⟨m + 1, ⟨by omega, by omega⟩, by omega, rfl, ?_⟩)⟩
   simp [zRcM, List.replicate_succ', cellsRM, rcCM]
  ·exact hq { c with rs := zRcM m } _ (by unfold okB; simp [zRcM]; omega) ⟨_, _, rfl, own_rs c 8 (zRcM m) _ rfl (by simp [zRcM]) (by simp [zRcM])⟩

noncomputable def env_30_lon (hv : Nat → Option Pa) (hb : Nat → Option Bool) (what at' n : Int) (p q : List Ctl) (c : Ctl) : Env := { e24 sm0 (fun i => bif Nat.beq i 1000122911 then some (fun _ => [[inv_30a [deadB, deadB] what at' n p q c]]) else bif Nat.beq i 1000122920 then some (fun _ => [[inv_30m 0 [deadB, deadB, deadB, ⟨.grow, true, cellsI c.lo⟩] what at' n p q (loM c (.sl 6 (c.lo.length) 0 c.lo.length 1))]]) else bif Nat.beq i 1000122929 then some (fun _ => [[inv_30m 0 [deadB, deadB, deadB, ⟨.grow, true, cellsI c.lo⟩, deadB, deadB] what at' n p q (loM c (.sl 6 (c.lo.length) 0 c.lo.length 1))]]) else none) hv hb with hz := fun k => [122908, 122926].any (Nat.beq k) }
noncomputable def goal_30_lon (hv : Nat → Option Pa) (hb : Nat → Option Bool) (what at' n : Int) (t : Nat) (p q : List Ctl) (c : Ctl) (Q : Out → List Blk → Gh → Prop) : Prop :=
 callx (env_30_lon hv hb what at' n p q c) (wpx (env_30_lon hv hb what at' n p q c) 1000) 30 [.agg (boxM what at' n), .lst t (cellsCM (p ++ c :: q)) (lenM p q) 13] [] {} Q
def vc_30_lon_1 (p : List Ctl) (q : List Ctl) (c : Ctl) : Prop :=
zZF3 ∧ zZF3 ∧ zZF36 p c q
def vc_30_lon_2 (p : List Ctl) (q : List Ctl) : Prop :=
zZF20 p q
def vc_30_lon_3 (p : List Ctl) (q : List Ctl) (c : Ctl) : Prop :=
zZF3 ∧ zZF3 ∧ zZF3 ∧ eqqQ (cellsI c.10) ∧ zZF3 ∧ zZF3 ∧ vc_30_lon_2 p q
abbrev zZF83 (c : Ctl) : Bool := Nat.beq c.9.length 0
abbrev zZF24 (c : Ctl) : Bool := Nat.beq ([] ++ cellsRM c.9).length (0 + (cellsRM c.9).length) && Nat.ble (0 + (0 + c.9.length) * 7) (0 + (cellsRM c.9).length) && true && oldL 0 ([] ++ cellsRM c.9) && noYL ([] ++ cellsRM c.9) && true
abbrev zZF54 (c : Ctl) : AV := .lst 0 ((([] ++ cellsRM c.9).drop 0).take ((0 + c.9.length) * 7)) (0 + c.9.length) 7
abbrev zZF28 (p : List Ctl) (c : Ctl) (q : List Ctl) : Bool := Nat.beq (zZF15 p c q).length (13 * lenM p q)
abbrev zZF12 (p q : List Ctl) (c : Ctl) : List AV := mixM p q (loM c (.sl 6 c.10.length 0 c.10.length 1))
abbrev zZF11 (p q : List Ctl) (c : Ctl) : Bool := Nat.beq (mixM p q (loM c (.sl 6 c.10.length 0 c.10.length 1))).length (13 * lenM p q)
abbrev zZF89 (n_6 : Int) : Prop := AV.bool (n_6 == 4) = AV.bool false
abbrev zZF84 (n : Int) : Blk := Blk.mk BK.exact true [.int .i64 n]
theorem vc_30_lon (what : Int) (at' : Int) (n : Int) (t : Nat) (p : List Ctl) (q : List Ctl) (c : Ctl) (Q : Out → List Blk → Gh → Prop) : goal_30_lon (lookV [(122891, .int .i64), (122897, .int .i64), (122899, .int .i64), (122900, .lit (.int
 .i64 (p.length : Int))), (122907, .lit (.lst 0 (cellsRM c.rs) c.rs.length 7)), (122916, .lit (.lst 0 (cellsI c.lo) c.lo.length 1)), (122925, .lit (.lst 0 (cellsI c.ti) c.ti.length 1)), (122931, .int .u8), (122938, .lit (.bool false)),
 (122945, .lit (.bool false)), (122952, .lit (.bool false)), (122959, .lit (.bool false)), (122966, .lit (.bool false)), (122980, .lit (.bool true)), (122985, .lit (.sl 6 (c.lo.length) 0 c.lo.length 1))]) (lookB [(122889, false), (122917,
 false)]) what at' n t p q c Q = (ckQ (zZF62 p c q) (ckQ (Nat.blt 0 (lenM p q)) (ckQ (zZF38 p q) (ckQ (zZF4 p c q) (exI .i64 (zZF59 p q) (fun n_0 => bif n_0 == 0 then zZF70 Q p c q what at' n else exW .i64 at' (fun n_1 => ckQ (zZF4 p c q)
 (exI .i64 (zZF59 p q) (fun n_2 => ckQ (n_2 != 0 && true) (zZF57 n_1 n_2 p ∧ ckQ (zZF79 p q && zZF4 p c q && true) (ckQ (zZF4 p c q) (ckQ (zZF4 p c q) (ckQ (zZF4 p c q && Nat.blt (zZF14 p + 8) (0 + zZF49 p c q)) (zZF68 p c q ∧ ckQ (zZF31 c)
 (bif zZF83 c then ckQ (zZF83 c) (ckQ (zZF4 p c q) (ckQ (zZF4 p c q) (ckQ (zZF47 p c q) (zZF13 ∧ ∃ x_3 : Nat, Lf (x_3 = 0) ∧ zZF9 what at' n ∧ zZF3 ∧ ckQ ((zZF88 p c q && true) == true) (setRange (zZF92 p c q) (zZF14 p + 8) [.lst 0 [] 0 7]
 = zZF15 p c q ∧ vc_30_lon_1 p q c))))) else ckQ (Nat.blt 0 c.9.length) (ckQ (zZF44 c) (ckQ (zZF24 c && ((zZF88 p c q || norL 4 (zZF92 p c q)) && true)) (ckQ (zZF4 p c q) (ckQ (zZF4 p c q) (ckQ (zZF47 p c q) (zZF13 ∧ ∃ x_3 : Nat, Lf (x_3 =
 0) ∧ zZF9 what at' n ∧ zZF3 ∧ ckQ ((zZF88 p c q && true) == true) (setRange (zZF92 p c q) (zZF14 p + 8) [zZF54 c] = zZF15 p c q ∧ vc_30_lon_1 p q c))))))))))) ∧ ∀ x_3 : Nat, Lf (x_3 = 0) → ckQ (zZF28 p c q) (ckQ (zZF28 p c q) (ckQ (zZF28 p
 c q && zZF65 p q) ((((zZF15 p c q).drop (zZF37 p)).take 1).getD 0 AV.undef = zZF77 c ∧ ckQ (zZF29 c) (ckQ (Nat.blt 0 c.10.length) (ckQ (zZF42 c) (ckQ (zZF28 p c q) (ckQ (zZF28 p c q) (ckQ (zZF28 p c q && zZF34 p q && true && true && true)
 (zZF13 ∧ ∃ x_4 : Nat, Lf (x_4 = 0) ∧ zZF9 what at' n ∧ zZF3 ∧ setRange (zZF15 p c q) (zZF37 p) [.sl 6 (0 + (cellsI c.10).length) 0 (0 + c.10.length) 1] = zZF12 p q c ∧ zZF3 ∧ zZF3 ∧ zZF3 ∧ ckQ (oldL 0 ([] ++ cellsI c.10) == true) ([] ++
 cellsI c.10 = cellsI c.10 ∧ vc_30_lon_2 p q)))))))))) ∧ ∀ x_4 : Nat, Lf (x_4 = 0) → ckQ (zZF11 p q c) (ckQ (zZF11 p q c) (ckQ (zZF11 p q c && zZF64 p q) ((((zZF12 p q c).drop (zZF32 p)).take 1).getD 0 AV.undef = zZF78 c ∧ ckQ (zZF30 c)
 (bif zZF81 c then ckQ (zZF81 c) (ckQ (zZF11 p q c) (ckQ (zZF11 p q c) (ckQ (zZF11 p q c && zZF50 p q && true && true && true) (zZF13 ∧ ∃ x_5 : Nat, Lf (x_5 = 0) ∧ zZF9 what at' n ∧ zZF3 ∧ setRange (zZF12 p q c) (zZF32 p) [.lst 0 [] 0 1] =
 zZF12 p q c ∧ vc_30_lon_3 p q c)))) else ckQ (Nat.blt 0 c.13.length) (ckQ (zZF43 c) (ckQ (zZF23 c && (norL 8 (zZF12 p q c) && true)) (ckQ (zZF11 p q c) (ckQ (zZF11 p q c) (ckQ (zZF11 p q c && zZF50 p q && true && true && true) (zZF13 ∧ ∃
 x_5 : Nat, Lf (x_5 = 0) ∧ zZF9 what at' n ∧ zZF3 ∧ setRange (zZF12 p q c) (zZF32 p) [zZF53 c] = zZF12 p q c ∧ vc_30_lon_3 p q c)))))))))) ∧ ∀ x_5 : Nat, Lf (x_5 = 0) → exI .u8 (what.tmod 12) (fun n_6 => zZF73 n_6 ∧ zZF74 n_6 ∧ zZF75 n_6 ∧
 zZF76 n_6 ∧ zZF89 n_6 ∧ AV.bool (n_6 == 5) = AV.bool true ∧ ckQ (zZF11 p q c) (ckQ (zZF11 p q c) (ckQ (zZF11 p q c && zZF65 p q) ((((zZF12 p q c).drop (zZF37 p)).take 1).getD 0 AV.undef = AV.sl 6 c.10.length 0 c.10.length 1 ∧ ckQ (Nat.beq
 (cellsI c.10).length c.10.length && true && Nat.beq (0 + c.10.length * 1) c.10.length && Nat.ble (c.10.length + 1) 1099511627776 && Nat.ble ((c.10.length + 1) * 8) 1099511627776) (ckQ (zZF11 p q c) (ckQ (zZF11 p q c) (ckQ (zZF11 p q c &&
 zZF34 p q && true && true && true) (Q (zZF48 p q) [zZF46 what at' n, zZF10, Blk.mk BK.grow false (setRange (zZF12 p q c) (zZF37 p) [.sl 6 (c.10.length + 1) 0 (c.10.length + 1) 1]), zZF10, zZF10, zZF10, Blk.mk BK.grow true (cellsI c.10 ++
 [AV.int .i64 n]), zZF10, zZF10, zZF84 n] {}))))))))))))))))))) := by kernel_rfl

theorem bend_lon (what at' n : Int) (t : Nat) (p q : List Ctl) (c : Ctl) (hw : what.tmod 12 = 5) (hne : c.lo.length ≠ 0) (ha : 0 ≤ at' ∧ at' ≤ 255) (hp : at'.tmod ((lenM p q : Nat) : Int) = (p.length : Int)) (hl : p.length + q.length ≤ 1000) (hok : okC c) (Q : Out → List Blk → Gh → Prop)
  (hq : ∀ c' H, okB c c' → frzOK p q c' H → Q (.ret (.sl 2 (13 * lenM p q) 0 (lenM p q) 13)) H {}) : ∃ hv hb, goal_30_lon hv hb what at' n t p q c Q := by
 obtain ⟨hv, hb', e⟩ : ∃ hv hb, goal_30_lon hv hb what at' n t p q c Q = _ := ⟨_, _, vc_30_lon what at' n t p q c Q⟩
 refine ⟨hv, hb', e.mpr ?_⟩
 delta vc_30_lon_1 vc_30_lon_2 vc_30_lon_3 zZF15 zZF49 zZF85 zZF62 zZF38 zZF92 zZF4 zZF59 zZF46 zZF10 zZF88 zZF70 zZF57 zZF21 zZF79 zZF14 zZF94 zZF68 zZF31 zZF83 zZF47 zZF13 zZF9 zZF35 zZF3 zZF44 zZF24 zZF54 zZF28 zZF37 zZF65 zZF77 zZF29 zZF42 zZF34 zZF12 zZF11 zZF32 zZF64 zZF78 zZF30 zZF81 zZF50 zZF43 zZF23 zZF53 zZF73 zZF74 zZF75 zZF76 zZF89 zZF48 zZF84 zZF60 zZF86 zZF58 zZF36 zZF20
 clear e
 have hN : lenM p q = p.length + q.length + 1 := by unfold lenM; omega
 have F := facZ p q c (c) (loM c) (fun _ => rfl) hl hok
 obtain ⟨k1, k2, k3⟩ := hok
 have hr : c.lo.length ≠ 0 → Nat.blt 0 c.lo.length = true := fun h => bltT (by omega)
 simp only [vc_30_lon_1, vc_30_lon_2, vc_30_lon_3, F, mix_of, List.nil_append, Nat.zero_add, Int.toNat_natCast, Nat.mul_comm _ 13, Nat.mul_comm _ 7, Nat.mul_one, List.drop_zero, Bool.true_or, Bool.and_true, Bool.true_and, Nat.beq_refl, cond_true, beq_self_eq_true, and_true, true_and, nor_mix, old_mix]
 refine ⟨_, rfl, splitE (fun h => absurd h (by omega)) (fun _ => wrapI (by omega) (by omega) ⟨_, rfl, splitNE (fun _ => ⟨by rw [hp], ?_⟩) (fun h => absurd h (by omega))⟩)⟩
 refine ⟨⟨rfl, spl (fun h => ⟨0, ⟨rfl⟩, by have h1 := List.eq_nil_of_length_eq_zero h; simp only [rsM, loM, tiM, ctC, h1]; rfl⟩) (by first | exact ⟨0, ⟨rfl⟩⟩ | exact ⟨0, ⟨rfl⟩, rfl⟩ | exact ckI rfl ⟨0, ⟨rfl⟩⟩ | exact ckI rfl ⟨0, ⟨rfl⟩, rfl⟩)⟩, ?_⟩
 rintro _ ⟨rfl⟩
 refine ⟨⟨rfl, ckI (hr hne) (by first | exact ⟨0, ⟨rfl⟩⟩ | exact ⟨0, ⟨rfl⟩, rfl⟩ | exact ckI rfl ⟨0, ⟨rfl⟩⟩ | exact ckI rfl ⟨0, ⟨rfl⟩, rfl⟩)⟩, ?_⟩
 rintro _ ⟨rfl⟩
 refine ⟨⟨rfl, spl (fun h => ⟨0, ⟨rfl⟩, by have h1 := List.eq_nil_of_length_eq_zero h; simp only [rsM, loM, tiM, ctC, h1]; rfl⟩) (by first | exact ⟨0, ⟨rfl⟩⟩ | exact ⟨0, ⟨rfl⟩, rfl⟩ | exact ckI rfl ⟨0, ⟨rfl⟩⟩ | exact ckI rfl ⟨0, ⟨rfl⟩, rfl⟩)⟩, ?_⟩
 rintro _ ⟨rfl⟩
 exact ⟨_, rfl, eqFb (by omega), eqFb (by omega), eqFb (by omega), eqFb (by omega), eqFb (by omega), eqTb hw, rfl, ckI (by simp; omega) (hq { c with lo := (c.lo ++ [n]) } _ (by unfold okB; simp; try omega) ⟨_, _, rfl, own_lo c 6 (c.lo ++ [n]) _ (by simp [cellsI]) (by simp) (by simp)⟩)⟩

noncomputable def env_30_loe (hv : Nat → Option Pa) (hb : Nat → Option Bool) (what at' n : Int) (p q : List Ctl) (c : Ctl) : Env := { e24 sm0 (fun i => bif Nat.beq i 1000122911 then some (fun _ => [[inv_30a [deadB, deadB] what at' n p q { c with lo := [] }]]) else bif Nat.beq i 1000122920 then some (fun _ => [[inv_30m 0 [deadB, deadB, deadB] what at' n p q (loM c (.sl 5 0 0 0 1))]]) else bif Nat.beq i 1000122929 then some (fun _ => [[inv_30m 0 [deadB, deadB, deadB, deadB, deadB] what at' n p q (loM c (.sl 5 0 0 0 1))]]) else none) hv hb with hz := fun k => [122908, 122926].any (Nat.beq k) }
noncomputable def goal_30_loe (hv : Nat → Option Pa) (hb : Nat → Option Bool) (what at' n : Int) (t : Nat) (p q : List Ctl) (c : Ctl) (Q : Out → List Blk → Gh → Prop) : Prop :=
 callx (env_30_loe hv hb what at' n p q c) (wpx (env_30_loe hv hb what at' n p q c) 1000) 30 [.agg (boxM what at' n), .lst t (cellsCM (p ++ { c with lo := [] } :: q)) (lenM p q) 13] [] {} Q
abbrev zZF2 (p : List Ctl) (c : Ctl) (q : List Ctl) : List AV := cellsCM (p ++ Ctl.mk c.1 c.2 c.3 c.4 c.5 c.6 c.7 c.8 c.9 [] c.11 c.12 c.13 :: q)
def vc_30_loe_1 (p : List Ctl) (q : List Ctl) (c : Ctl) : Prop :=
zZF3 ∧ zZF3 ∧ AV.sl 2 (0 + (zZF2 p c q).length) 0 (0 + lenM p q) 13 = zZF60 p q ∧ zZF86 ∧ AV.ptr 2 (0 + (zZF2 p c q).length) (zZF14 p) = zZF58 p q ∧ True
def vc_30_loe_2 (p : List Ctl) (q : List Ctl) : Prop :=
zZF3 ∧ zZF3 ∧ zZF3 ∧ zZF20 p q
def vc_30_loe_3 (p : List Ctl) (q : List Ctl) : Prop :=
zZF3 ∧ zZF3 ∧ vc_30_loe_2 p q
abbrev zZF27 (p : List Ctl) (c : Ctl) (q : List Ctl) : Bool := Nat.beq ([] ++ zZF2 p c q).length (0 + (zZF2 p c q).length)
abbrev zZF72 (p : List Ctl) (c : Ctl) (q : List Ctl) : Bool := Nat.beq (zZF2 p c q).length (13 * lenM p q)
abbrev zZF61 (p q : List Ctl) (c : Ctl) : List AV := mixM p q (loM c (.sl 5 0 0 0 1))
abbrev zZF17 (p q : List Ctl) (c : Ctl) : Bool := Nat.beq (zZF61 p q c).length (13 * lenM p q)
theorem vc_30_loe (what : Int) (at' : Int) (n : Int) (t : Nat) (p : List Ctl) (q : List Ctl) (c : Ctl) (Q : Out → List Blk → Gh → Prop) : goal_30_loe (lookV [(122891, .int .i64), (122897, .int .i64), (122899, .int .i64), (122900, .lit (.int
 .i64 (p.length : Int))), (122907, .lit (.lst 0 (cellsRM c.rs) c.rs.length 7)), (122916, .lit (.lst 0 [] 0 1)), (122925, .lit (.lst 0 (cellsI c.ti) c.ti.length 1)), (122931, .int .u8), (122938, .lit (.bool false)), (122945, .lit (.bool
 false)), (122952, .lit (.bool false)), (122959, .lit (.bool false)), (122966, .lit (.bool false)), (122980, .lit (.bool true)), (122985, .lit (.sl 5 0 0 0 1))]) (lookB [(122889, false), (122917, true)]) what at' n t p q c Q = (ckQ (Nat.beq
 (zZF2 p c q).length (lenM p q * 13) && oneL (zZF2 p c q) && true && zZF85 p q) (ckQ (Nat.blt 0 (lenM p q)) (ckQ (zZF38 p q) (ckQ (zZF27 p c q) (exI .i64 (zZF59 p q) (fun n_0 => bif n_0 == 0 then Q (.ret (.sl 2 (0 + (zZF2 p c q).length) 0
 (0 + lenM p q) 13)) [zZF46 what at' n, zZF10, Blk.mk BK.grow (oldL 0 ([] ++ zZF2 p c q)) ([] ++ zZF2 p c q)] {} else exW .i64 at' (fun n_1 => ckQ (zZF27 p c q) (exI .i64 (zZF59 p q) (fun n_2 => ckQ (n_2 != 0 && true) (zZF57 n_1 n_2 p ∧ ckQ
 (zZF79 p q && zZF27 p c q && true) (ckQ (zZF27 p c q) (ckQ (zZF27 p c q) (ckQ (zZF27 p c q && Nat.blt (zZF14 p + 8) (0 + (zZF2 p c q).length)) (((([] ++ zZF2 p c q).drop (zZF14 p + 8)).take 1).getD 0 AV.undef = zZF94 c ∧ ckQ (zZF31 c) (bif
 zZF83 c then ckQ (zZF83 c) (ckQ (zZF27 p c q) (ckQ (zZF27 p c q) (ckQ (zZF27 p c q && Nat.ble (zZF14 p + 8 + 1) (0 + (zZF2 p c q).length) && true && true && true) (zZF13 ∧ ∃ x_3 : Nat, Lf (x_3 = 0) ∧ zZF9 what at' n ∧ zZF3 ∧ ckQ ((oldL 0
 ([] ++ zZF2 p c q) && true) == true) (setRange ([] ++ zZF2 p c q) (zZF14 p + 8) [.lst 0 [] 0 7] = zZF2 p c q ∧ vc_30_loe_1 p q c))))) else ckQ (Nat.blt 0 c.9.length) (ckQ (zZF44 c) (ckQ (zZF24 c && ((oldL 0 ([] ++ zZF2 p c q) || norL 4 ([]
 ++ zZF2 p c q)) && true)) (ckQ (zZF27 p c q) (ckQ (zZF27 p c q) (ckQ (zZF27 p c q && Nat.ble (zZF14 p + 8 + 1) (0 + (zZF2 p c q).length) && true && true && true) (zZF13 ∧ ∃ x_3 : Nat, Lf (x_3 = 0) ∧ zZF9 what at' n ∧ zZF3 ∧ ckQ ((oldL 0
 ([] ++ zZF2 p c q) && true) == true) (setRange ([] ++ zZF2 p c q) (zZF14 p + 8) [zZF54 c] = zZF2 p c q ∧ vc_30_loe_1 p q c))))))))))) ∧ ∀ x_3 : Nat, Lf (x_3 = 0) → ckQ (zZF72 p c q) (ckQ (zZF72 p c q) (ckQ (zZF72 p c q && zZF65 p q)
 ((((zZF2 p c q).drop (zZF37 p)).take 1).getD 0 AV.undef = AV.lst 0 [] 0 1 ∧ ckQ (zZF72 p c q) (ckQ (zZF72 p c q) (ckQ (zZF72 p c q && zZF34 p q && true && true && true) (zZF13 ∧ ∃ x_4 : Nat, Lf (x_4 = 0) ∧ zZF9 what at' n ∧ zZF3 ∧ setRange
 (zZF2 p c q) (zZF37 p) [.sl 5 0 0 0 1] = zZF61 p q c ∧ vc_30_loe_2 p q)))))) ∧ ∀ x_4 : Nat, Lf (x_4 = 0) → ckQ (zZF17 p q c) (ckQ (zZF17 p q c) (ckQ (zZF17 p q c && zZF64 p q) ((((zZF61 p q c).drop (zZF32 p)).take 1).getD 0 AV.undef =
 zZF78 c ∧ ckQ (zZF30 c) (bif zZF81 c then ckQ (zZF81 c) (ckQ (zZF17 p q c) (ckQ (zZF17 p q c) (ckQ (zZF17 p q c && zZF50 p q && true && true && true) (zZF13 ∧ ∃ x_5 : Nat, Lf (x_5 = 0) ∧ zZF9 what at' n ∧ zZF3 ∧ setRange (zZF61 p q c)
 (zZF32 p) [.lst 0 [] 0 1] = zZF61 p q c ∧ vc_30_loe_3 p q)))) else ckQ (Nat.blt 0 c.13.length) (ckQ (zZF43 c) (ckQ (zZF23 c && (norL 7 (zZF61 p q c) && true)) (ckQ (zZF17 p q c) (ckQ (zZF17 p q c) (ckQ (zZF17 p q c && zZF50 p q && true &&
 true && true) (zZF13 ∧ ∃ x_5 : Nat, Lf (x_5 = 0) ∧ zZF9 what at' n ∧ zZF3 ∧ setRange (zZF61 p q c) (zZF32 p) [zZF53 c] = zZF61 p q c ∧ vc_30_loe_3 p q)))))))))) ∧ ∀ x_5 : Nat, Lf (x_5 = 0) → exI .u8 (what.tmod 12) (fun n_6 => zZF73 n_6 ∧
 zZF74 n_6 ∧ zZF75 n_6 ∧ zZF76 n_6 ∧ zZF89 n_6 ∧ AV.bool (n_6 == 5) = AV.bool true ∧ ckQ (zZF17 p q c) (ckQ (zZF17 p q c) (ckQ (zZF17 p q c && zZF65 p q) ((((zZF61 p q c).drop (zZF37 p)).take 1).getD 0 AV.undef = AV.sl 5 0 0 0 1 ∧ ckQ
 (zZF17 p q c) (ckQ (zZF17 p q c) (ckQ (zZF17 p q c && zZF34 p q && true && true && true) (Q (zZF48 p q) [zZF46 what at' n, zZF10, Blk.mk BK.grow false (setRange (zZF61 p q c) (zZF37 p) [.sl 9 1 0 1 1]), zZF10, zZF10, zZF10, zZF10, zZF10,
 zZF84 n, Blk.mk BK.grow true [.int .i64 n]] {})))))))))))))))))) := by kernel_rfl

theorem bend_loe (what at' n : Int) (t : Nat) (p q : List Ctl) (c : Ctl) (hw : what.tmod 12 = 5) (ha : 0 ≤ at' ∧ at' ≤ 255) (hp : at'.tmod ((lenM p q : Nat) : Int) = (p.length : Int)) (hl : p.length + q.length ≤ 1000) (hok : okC c) (Q : Out → List Blk → Gh → Prop)
  (hq : ∀ c' H, okB c c' → frzOK p q c' H → Q (.ret (.sl 2 (13 * lenM p q) 0 (lenM p q) 13)) H {}) : ∃ hv hb, goal_30_loe hv hb what at' n t p q c Q := by
 obtain ⟨hv, hb', e⟩ : ∃ hv hb, goal_30_loe hv hb what at' n t p q c Q = _ := ⟨_, _, vc_30_loe what at' n t p q c Q⟩
 refine ⟨hv, hb', e.mpr ?_⟩
 delta vc_30_loe_1 vc_30_loe_2 vc_30_loe_3 zZF2 zZF85 zZF38 zZF27 zZF59 zZF46 zZF10 zZF57 zZF21 zZF79 zZF14 zZF94 zZF31 zZF83 zZF13 zZF9 zZF35 zZF3 zZF44 zZF24 zZF54 zZF72 zZF37 zZF65 zZF34 zZF61 zZF17 zZF32 zZF64 zZF78 zZF30 zZF81 zZF50 zZF43 zZF23 zZF53 zZF73 zZF74 zZF75 zZF76 zZF89 zZF48 zZF84 zZF60 zZF86 zZF58 zZF20
 clear e
 have hN : lenM p q = p.length + q.length + 1 := by unfold lenM; omega
 have F := facZ p q c ({ c with lo := [] }) (loM c) (fun _ => rfl) hl hok
 obtain ⟨k1, k2, k3⟩ := hok
 have hr : c.lo.length ≠ 0 → Nat.blt 0 c.lo.length = true := fun h => bltT (by omega)
 simp only [vc_30_loe_1, vc_30_loe_2, vc_30_loe_3, F, mix_of, List.nil_append, Nat.zero_add, Int.toNat_natCast, Nat.mul_comm _ 13, Nat.mul_comm _ 7, Nat.mul_one, List.drop_zero, Bool.true_or, Bool.and_true, Bool.true_and, Nat.beq_refl, cond_true, beq_self_eq_true, and_true, true_and, nor_mix, old_mix]
 refine ⟨_, rfl, splitE (fun h => absurd h (by omega)) (fun _ => wrapI (by omega) (by omega) ⟨_, rfl, splitNE (fun _ => ⟨by rw [hp], ?_⟩) (fun h => absurd h (by omega))⟩)⟩
 refine ⟨⟨rfl, spl (fun h => ⟨0, ⟨rfl⟩, by have h1 := List.eq_nil_of_length_eq_zero h; simp only [rsM, loM, tiM, ctC, h1]; rfl⟩) (by first | exact ⟨0, ⟨rfl⟩⟩ | exact ⟨0, ⟨rfl⟩, rfl⟩ | exact ckI rfl ⟨0, ⟨rfl⟩⟩ | exact ckI rfl ⟨0, ⟨rfl⟩, rfl⟩)⟩, ?_⟩
 rintro _ ⟨rfl⟩
 refine ⟨⟨rfl, by first | exact ⟨0, ⟨rfl⟩⟩ | exact ⟨0, ⟨rfl⟩, rfl⟩ | exact ckI rfl ⟨0, ⟨rfl⟩⟩ | exact ckI rfl ⟨0, ⟨rfl⟩, rfl⟩⟩, ?_⟩
 rintro _ ⟨rfl⟩
 refine ⟨⟨rfl, spl (fun h => ⟨0, ⟨rfl⟩, by have h1 := List.eq_nil_of_length_eq_zero h; simp only [rsM, loM, tiM, ctC, h1]; rfl⟩) (by first | exact ⟨0, ⟨rfl⟩⟩ | exact ⟨0, ⟨rfl⟩, rfl⟩ | exact ckI rfl ⟨0, ⟨rfl⟩⟩ | exact ckI rfl ⟨0, ⟨rfl⟩, rfl⟩)⟩, ?_⟩
 rintro _ ⟨rfl⟩
 exact ⟨_, rfl, eqFb (by omega), eqFb (by omega), eqFb (by omega), eqFb (by omega), eqFb (by omega), eqTb hw, rfl, hq { c with lo := [n] } _ (by unfold okB; simp; try omega) ⟨_, _, rfl, own_lo c 9 [n] _ rfl (by simp) (by simp)⟩⟩

noncomputable def env_30_tin (hv : Nat → Option Pa) (hb : Nat → Option Bool) (what at' n : Int) (p q : List Ctl) (c : Ctl) : Env := { e24 sm0 (fun i => bif Nat.beq i 1000122911 then some (fun _ => [[inv_30a [deadB, deadB] what at' n p q c]]) else bif Nat.beq i 1000122920 then some (fun _ => [[inv_30a [deadB, deadB, deadB, deadB] what at' n p q c]]) else bif Nat.beq i 1000122929 then some (fun _ => [[inv_30m 0 [deadB, deadB, deadB, deadB, deadB, ⟨.grow, true, cellsI c.ti⟩] what at' n p q (tiM c (.sl 8 (c.ti.length) 0 c.ti.length 1))]]) else none) hv hb with hz := fun k => [122908, 122917].any (Nat.beq k) }
noncomputable def goal_30_tin (hv : Nat → Option Pa) (hb : Nat → Option Bool) (what at' n : Int) (t : Nat) (p q : List Ctl) (c : Ctl) (Q : Out → List Blk → Gh → Prop) : Prop :=
 callx (env_30_tin hv hb what at' n p q c) (wpx (env_30_tin hv hb what at' n p q c) 1000) 30 [.agg (boxM what at' n), .lst t (cellsCM (p ++ c :: q)) (lenM p q) 13] [] {} Q
def vc_30_tin_1 (p : List Ctl) (q : List Ctl) (c : Ctl) : Prop :=
zZF3 ∧ zZF3 ∧ zZF36 p c q
def vc_30_tin_2 (p : List Ctl) (q : List Ctl) : Prop :=
zZF20 p q
def vc_30_tin_3 (p : List Ctl) (q : List Ctl) : Prop :=
zZF3 ∧ zZF3 ∧ zZF3 ∧ zZF3 ∧ vc_30_tin_2 p q
abbrev zZF45 (p q : List Ctl) (c : Ctl) : List AV := mixM p q (tiM c (.sl 8 c.13.length 0 c.13.length 1))
abbrev zZF40 (p q : List Ctl) (c : Ctl) : Bool := Nat.beq (mixM p q (tiM c (.sl 8 c.13.length 0 c.13.length 1))).length (13 * lenM p q)
theorem vc_30_tin (what : Int) (at' : Int) (n : Int) (t : Nat) (p : List Ctl) (q : List Ctl) (c : Ctl) (Q : Out → List Blk → Gh → Prop) : goal_30_tin (lookV [(122891, .int .i64), (122897, .int .i64), (122899, .int .i64), (122900, .lit (.int
 .i64 (p.length : Int))), (122907, .lit (.lst 0 (cellsRM c.rs) c.rs.length 7)), (122916, .lit (.lst 0 (cellsI c.lo) c.lo.length 1)), (122925, .lit (.lst 0 (cellsI c.ti) c.ti.length 1)), (122931, .int .u8), (122938, .lit (.bool false)),
 (122945, .lit (.bool false)), (122952, .lit (.bool false)), (122959, .lit (.bool false)), (122966, .lit (.bool false)), (122980, .lit (.bool false)), (122993, .lit (.bool true)), (122998, .lit (.sl 8 (c.ti.length) 0 c.ti.length 1))])
 (lookB [(122889, false), (122926, false)]) what at' n t p q c Q = (ckQ (zZF62 p c q) (ckQ (Nat.blt 0 (lenM p q)) (ckQ (zZF38 p q) (ckQ (zZF4 p c q) (exI .i64 (zZF59 p q) (fun n_0 => bif n_0 == 0 then zZF70 Q p c q what at' n else exW .i64
 at' (fun n_1 => ckQ (zZF4 p c q) (exI .i64 (zZF59 p q) (fun n_2 => ckQ (n_2 != 0 && true) (zZF57 n_1 n_2 p ∧ ckQ (zZF79 p q && zZF4 p c q && true) (ckQ (zZF4 p c q) (ckQ (zZF4 p c q) (ckQ (zZF4 p c q && Nat.blt (zZF14 p + 8) (0 + zZF49 p c
 q)) (zZF68 p c q ∧ ckQ (zZF31 c) (bif zZF83 c then ckQ (zZF83 c) (ckQ (zZF4 p c q) (ckQ (zZF4 p c q) (ckQ (zZF47 p c q) (zZF13 ∧ ∃ x_3 : Nat, Lf (x_3 = 0) ∧ zZF9 what at' n ∧ zZF3 ∧ ckQ ((zZF88 p c q && true) == true) (setRange (zZF92 p c
 q) (zZF14 p + 8) [.lst 0 [] 0 7] = zZF15 p c q ∧ vc_30_tin_1 p q c))))) else ckQ (Nat.blt 0 c.9.length) (ckQ (zZF44 c) (ckQ (zZF24 c && ((zZF88 p c q || norL 4 (zZF92 p c q)) && true)) (ckQ (zZF4 p c q) (ckQ (zZF4 p c q) (ckQ (zZF47 p c q)
 (zZF13 ∧ ∃ x_3 : Nat, Lf (x_3 = 0) ∧ zZF9 what at' n ∧ zZF3 ∧ ckQ ((zZF88 p c q && true) == true) (setRange (zZF92 p c q) (zZF14 p + 8) [zZF54 c] = zZF15 p c q ∧ vc_30_tin_1 p q c))))))))))) ∧ ∀ x_3 : Nat, Lf (x_3 = 0) → ckQ (zZF28 p c q)
 (ckQ (zZF28 p c q) (ckQ (zZF28 p c q && zZF65 p q) ((((zZF15 p c q).drop (zZF37 p)).take 1).getD 0 AV.undef = zZF77 c ∧ ckQ (zZF29 c) (bif zZF80 c then ckQ (zZF80 c) (ckQ (zZF28 p c q) (ckQ (zZF28 p c q) (ckQ (zZF28 p c q && zZF34 p q &&
 true && true && true) (zZF13 ∧ ∃ x_4 : Nat, Lf (x_4 = 0) ∧ zZF9 what at' n ∧ zZF3 ∧ setRange (zZF15 p c q) (zZF37 p) [.lst 0 [] 0 1] = zZF15 p c q ∧ vc_30_tin_3 p q)))) else ckQ (Nat.blt 0 c.10.length) (ckQ (zZF42 c) (ckQ (zZF22 c && true)
 (ckQ (zZF28 p c q) (ckQ (zZF28 p c q) (ckQ (zZF28 p c q && zZF34 p q && true && true && true) (zZF13 ∧ ∃ x_4 : Nat, Lf (x_4 = 0) ∧ zZF9 what at' n ∧ zZF3 ∧ setRange (zZF15 p c q) (zZF37 p) [zZF52 c] = zZF15 p c q ∧ vc_30_tin_3 p
 q)))))))))) ∧ ∀ x_4 : Nat, Lf (x_4 = 0) → ckQ (zZF28 p c q) (ckQ (zZF28 p c q) (ckQ (zZF28 p c q && zZF64 p q) ((((zZF15 p c q).drop (zZF32 p)).take 1).getD 0 AV.undef = zZF78 c ∧ ckQ (zZF30 c) (ckQ (Nat.blt 0 c.13.length) (ckQ (zZF43 c)
 (ckQ (zZF28 p c q) (ckQ (zZF28 p c q) (ckQ (zZF28 p c q && zZF50 p q && true && true && true) (zZF13 ∧ ∃ x_5 : Nat, Lf (x_5 = 0) ∧ zZF9 what at' n ∧ zZF3 ∧ setRange (zZF15 p c q) (zZF32 p) [.sl 8 (0 + (cellsI c.13).length) 0 (0 +
 c.13.length) 1] = zZF45 p q c ∧ zZF3 ∧ zZF3 ∧ zZF3 ∧ zZF3 ∧ zZF3 ∧ ckQ (oldL 0 ([] ++ cellsI c.13) == true) ([] ++ cellsI c.13 = cellsI c.13 ∧ vc_30_tin_2 p q)))))))))) ∧ ∀ x_5 : Nat, Lf (x_5 = 0) → exI .u8 (what.tmod 12) (fun n_6 => zZF73
 n_6 ∧ zZF74 n_6 ∧ zZF75 n_6 ∧ zZF76 n_6 ∧ zZF89 n_6 ∧ zZF90 n_6 ∧ AV.bool (n_6 == 6) = AV.bool true ∧ ckQ (zZF40 p q c) (ckQ (zZF40 p q c) (ckQ (zZF40 p q c && zZF64 p q) ((((zZF45 p q c).drop (zZF32 p)).take 1).getD 0 AV.undef = AV.sl 8
 c.13.length 0 c.13.length 1 ∧ ckQ (Nat.beq (cellsI c.13).length c.13.length && true && Nat.beq (0 + c.13.length * 1) c.13.length && Nat.ble (c.13.length + 1) 1099511627776 && Nat.ble ((c.13.length + 1) * 8) 1099511627776) (ckQ (zZF40 p q
 c) (ckQ (zZF40 p q c) (ckQ (zZF40 p q c && zZF50 p q && true && true && true) (Q (zZF48 p q) [zZF46 what at' n, zZF10, Blk.mk BK.grow false (setRange (zZF45 p q c) (zZF32 p) [.sl 8 (c.13.length + 1) 0 (c.13.length + 1) 1]), zZF10, zZF10,
 zZF10, zZF10, zZF10, Blk.mk BK.grow true (cellsI c.13 ++ [AV.int .i64 n]), zZF84 n] {}))))))))))))))))))) := by kernel_rfl

theorem bend_tin (what at' n : Int) (t : Nat) (p q : List Ctl) (c : Ctl) (hw : what.tmod 12 = 6) (hne : c.ti.length ≠ 0) (ha : 0 ≤ at' ∧ at' ≤ 255) (hp : at'.tmod ((lenM p q : Nat) : Int) = (p.length : Int)) (hl : p.length + q.length ≤ 1000) (hok : okC c) (Q : Out → List Blk → Gh → Prop)
  (hq : ∀ c' H, okB c c' → frzOK p q c' H → Q (.ret (.sl 2 (13 * lenM p q) 0 (lenM p q) 13)) H {}) : ∃ hv hb, goal_30_tin hv hb what at' n t p q c Q := by
 obtain ⟨hv, hb', e⟩ : ∃ hv hb, goal_30_tin hv hb what at' n t p q c Q = _ := ⟨_, _, vc_30_tin what at' n t p q c Q⟩
 refine ⟨hv, hb', e.mpr ?_⟩
 delta vc_30_tin_1 vc_30_tin_3 vc_30_tin_2 zZF15 zZF49 zZF85 zZF62 zZF38 zZF92 zZF4 zZF59 zZF46 zZF10 zZF88 zZF70 zZF57 zZF21 zZF79 zZF14 zZF94 zZF68 zZF31 zZF83 zZF47 zZF13 zZF9 zZF35 zZF3 zZF44 zZF24 zZF54 zZF28 zZF37 zZF65 zZF77 zZF29 zZF80 zZF34 zZF42 zZF22 zZF52 zZF32 zZF64 zZF78 zZF30 zZF43 zZF50 zZF45 zZF73 zZF74 zZF75 zZF76 zZF89 zZF90 zZF40 zZF48 zZF84 zZF60 zZF86 zZF58 zZF36 zZF20
 clear e
 have hN : lenM p q = p.length + q.length + 1 := by unfold lenM; omega
 have F := facZ p q c (c) (tiM c) (fun _ => rfl) hl hok
 obtain ⟨k1, k2, k3⟩ := hok
 have hr : c.ti.length ≠ 0 → Nat.blt 0 c.ti.length = true := fun h => bltT (by omega)
 simp only [vc_30_tin_1, vc_30_tin_2, vc_30_tin_3, F, mix_of, List.nil_append, Nat.zero_add, Int.toNat_natCast, Nat.mul_comm _ 13, Nat.mul_comm _ 7, Nat.mul_one, List.drop_zero, Bool.true_or, Bool.and_true, Bool.true_and, Nat.beq_refl, cond_true, beq_self_eq_true, and_true, true_and, nor_mix, old_mix]
 refine ⟨_, rfl, splitE (fun h => absurd h (by omega)) (fun _ => wrapI (by omega) (by omega) ⟨_, rfl, splitNE (fun _ => ⟨by rw [hp], ?_⟩) (fun h => absurd h (by omega))⟩)⟩
 refine ⟨⟨rfl, spl (fun h => ⟨0, ⟨rfl⟩, by have h1 := List.eq_nil_of_length_eq_zero h; simp only [rsM, loM, tiM, ctC, h1]; rfl⟩) (by first | exact ⟨0, ⟨rfl⟩⟩ | exact ⟨0, ⟨rfl⟩, rfl⟩ | exact ckI rfl ⟨0, ⟨rfl⟩⟩ | exact ckI rfl ⟨0, ⟨rfl⟩, rfl⟩)⟩, ?_⟩
 rintro _ ⟨rfl⟩
 refine ⟨⟨rfl, spl (fun h => ⟨0, ⟨rfl⟩, by have h1 := List.eq_nil_of_length_eq_zero h; simp only [rsM, loM, tiM, ctC, h1]; rfl⟩) (by first | exact ⟨0, ⟨rfl⟩⟩ | exact ⟨0, ⟨rfl⟩, rfl⟩ | exact ckI rfl ⟨0, ⟨rfl⟩⟩ | exact ckI rfl ⟨0, ⟨rfl⟩, rfl⟩)⟩, ?_⟩
 rintro _ ⟨rfl⟩
 refine ⟨⟨rfl, ckI (hr hne) (by first | exact ⟨0, ⟨rfl⟩⟩ | exact ⟨0, ⟨rfl⟩, rfl⟩ | exact ckI rfl ⟨0, ⟨rfl⟩⟩ | exact ckI rfl ⟨0, ⟨rfl⟩, rfl⟩)⟩, ?_⟩
 rintro _ ⟨rfl⟩
 exact ⟨_, rfl, eqFb (by omega), eqFb (by omega), eqFb (by omega), eqFb (by omega), eqFb (by omega), eqFb (by omega), eqTb hw, rfl, ckI (by simp; omega) (hq { c with ti := (c.ti ++ [n]) } _ (by unfold okB; simp; try omega) ⟨_, _, rfl, own_ti c 8 (c.ti ++ [n]) _ (by simp [cellsI]) (by simp) (by simp)⟩)⟩

noncomputable def env_30_tie (hv : Nat → Option Pa) (hb : Nat → Option Bool) (what at' n : Int) (p q : List Ctl) (c : Ctl) : Env := { e24 sm0 (fun i => bif Nat.beq i 1000122911 then some (fun _ => [[inv_30a [deadB, deadB] what at' n p q { c with ti := [] }]]) else bif Nat.beq i 1000122920 then some (fun _ => [[inv_30a [deadB, deadB, deadB, deadB] what at' n p q { c with ti := [] }]]) else bif Nat.beq i 1000122929 then some (fun _ => [[inv_30m 0 [deadB, deadB, deadB, deadB, deadB] what at' n p q (tiM c (.sl 7 0 0 0 1))]]) else none) hv hb with hz := fun k => [122908, 122917].any (Nat.beq k) }
noncomputable def goal_30_tie (hv : Nat → Option Pa) (hb : Nat → Option Bool) (what at' n : Int) (t : Nat) (p q : List Ctl) (c : Ctl) (Q : Out → List Blk → Gh → Prop) : Prop :=
 callx (env_30_tie hv hb what at' n p q c) (wpx (env_30_tie hv hb what at' n p q c) 1000) 30 [.agg (boxM what at' n), .lst t (cellsCM (p ++ { c with ti := [] } :: q)) (lenM p q) 13] [] {} Q
abbrev zZF0 (p : List Ctl) (c : Ctl) (q : List Ctl) : List AV := cellsCM (p ++ Ctl.mk c.1 c.2 c.3 c.4 c.5 c.6 c.7 c.8 c.9 c.10 c.11 c.12 [] :: q)
def vc_30_tie_1 (p : List Ctl) (q : List Ctl) (c : Ctl) : Prop :=
zZF3 ∧ zZF3 ∧ AV.sl 2 (0 + (zZF0 p c q).length) 0 (0 + lenM p q) 13 = zZF60 p q ∧ zZF86 ∧ AV.ptr 2 (0 + (zZF0 p c q).length) (zZF14 p) = zZF58 p q ∧ True
def vc_30_tie_2 (p : List Ctl) (q : List Ctl) : Prop :=
zZF3 ∧ zZF3 ∧ zZF3 ∧ zZF3 ∧ zZF20 p q
abbrev zZF26 (p : List Ctl) (c : Ctl) (q : List Ctl) : Bool := Nat.beq ([] ++ zZF0 p c q).length (0 + (zZF0 p c q).length)
abbrev zZF33 (p : List Ctl) (c : Ctl) (q : List Ctl) : Bool := Nat.beq (zZF0 p c q).length (13 * lenM p q)
abbrev zZF69 (p q : List Ctl) (c : Ctl) : List AV := mixM p q (tiM c (.sl 7 0 0 0 1))
abbrev zZF51 (p q : List Ctl) (c : Ctl) : Bool := Nat.beq (mixM p q (tiM c (.sl 7 0 0 0 1))).length (13 * lenM p q)
theorem vc_30_tie (what : Int) (at' : Int) (n : Int) (t : Nat) (p : List Ctl) (q : List Ctl) (c : Ctl) (Q : Out → List Blk → Gh → Prop) : goal_30_tie (lookV [(122891, .int .i64), (122897, .int .i64), (122899, .int .i64), (122900, .lit (.int
 .i64 (p.length : Int))), (122907, .lit (.lst 0 (cellsRM c.rs) c.rs.length 7)), (122916, .lit (.lst 0 (cellsI c.lo) c.lo.length 1)), (122925, .lit (.lst 0 [] 0 1)), (122931, .int .u8), (122938, .lit (.bool false)), (122945, .lit (.bool
 false)), (122952, .lit (.bool false)), (122959, .lit (.bool false)), (122966, .lit (.bool false)), (122980, .lit (.bool false)), (122993, .lit (.bool true)), (122998, .lit (.sl 7 0 0 0 1))]) (lookB [(122889, false), (122926, true)]) what
 at' n t p q c Q = (ckQ (Nat.beq (zZF0 p c q).length (lenM p q * 13) && oneL (zZF0 p c q) && true && zZF85 p q) (ckQ (Nat.blt 0 (lenM p q)) (ckQ (zZF38 p q) (ckQ (zZF26 p c q) (exI .i64 (zZF59 p q) (fun n_0 => bif n_0 == 0 then Q (.ret (.sl
 2 (0 + (zZF0 p c q).length) 0 (0 + lenM p q) 13)) [zZF46 what at' n, zZF10, Blk.mk BK.grow (oldL 0 ([] ++ zZF0 p c q)) ([] ++ zZF0 p c q)] {} else exW .i64 at' (fun n_1 => ckQ (zZF26 p c q) (exI .i64 (zZF59 p q) (fun n_2 => ckQ (n_2 != 0
 && true) (zZF57 n_1 n_2 p ∧ ckQ (zZF79 p q && zZF26 p c q && true) (ckQ (zZF26 p c q) (ckQ (zZF26 p c q) (ckQ (zZF26 p c q && Nat.blt (zZF14 p + 8) (0 + (zZF0 p c q).length)) (((([] ++ zZF0 p c q).drop (zZF14 p + 8)).take 1).getD 0
 AV.undef = zZF94 c ∧ ckQ (zZF31 c) (bif zZF83 c then ckQ (zZF83 c) (ckQ (zZF26 p c q) (ckQ (zZF26 p c q) (ckQ (zZF26 p c q && Nat.ble (zZF14 p + 8 + 1) (0 + (zZF0 p c q).length) && true && true && true) (zZF13 ∧ ∃ x_3 : Nat, Lf (x_3 = 0) ∧
 zZF9 what at' n ∧ zZF3 ∧ ckQ ((oldL 0 ([] ++ zZF0 p c q) && true) == true) (setRange ([] ++ zZF0 p c q) (zZF14 p + 8) [.lst 0 [] 0 7] = zZF0 p c q ∧ vc_30_tie_1 p q c))))) else ckQ (Nat.blt 0 c.9.length) (ckQ (zZF44 c) (ckQ (zZF24 c &&
 ((oldL 0 ([] ++ zZF0 p c q) || norL 4 ([] ++ zZF0 p c q)) && true)) (ckQ (zZF26 p c q) (ckQ (zZF26 p c q) (ckQ (zZF26 p c q && Nat.ble (zZF14 p + 8 + 1) (0 + (zZF0 p c q).length) && true && true && true) (zZF13 ∧ ∃ x_3 : Nat, Lf (x_3 = 0)
 ∧ zZF9 what at' n ∧ zZF3 ∧ ckQ ((oldL 0 ([] ++ zZF0 p c q) && true) == true) (setRange ([] ++ zZF0 p c q) (zZF14 p + 8) [zZF54 c] = zZF0 p c q ∧ vc_30_tie_1 p q c))))))))))) ∧ ∀ x_3 : Nat, Lf (x_3 = 0) → ckQ (zZF33 p c q) (ckQ (zZF33 p c
 q) (ckQ (zZF33 p c q && zZF65 p q) ((((zZF0 p c q).drop (zZF37 p)).take 1).getD 0 AV.undef = zZF77 c ∧ ckQ (zZF29 c) (bif zZF80 c then ckQ (zZF80 c) (ckQ (zZF33 p c q) (ckQ (zZF33 p c q) (ckQ (zZF33 p c q && zZF34 p q && true && true &&
 true) (zZF13 ∧ ∃ x_4 : Nat, Lf (x_4 = 0) ∧ zZF9 what at' n ∧ zZF3 ∧ setRange (zZF0 p c q) (zZF37 p) [.lst 0 [] 0 1] = zZF0 p c q ∧ vc_30_tie_2 p q)))) else ckQ (Nat.blt 0 c.10.length) (ckQ (zZF42 c) (ckQ (zZF22 c && true) (ckQ (zZF33 p c
 q) (ckQ (zZF33 p c q) (ckQ (zZF33 p c q && zZF34 p q && true && true && true) (zZF13 ∧ ∃ x_4 : Nat, Lf (x_4 = 0) ∧ zZF9 what at' n ∧ zZF3 ∧ setRange (zZF0 p c q) (zZF37 p) [zZF52 c] = zZF0 p c q ∧ vc_30_tie_2 p q)))))))))) ∧ ∀ x_4 : Nat,
 Lf (x_4 = 0) → ckQ (zZF33 p c q) (ckQ (zZF33 p c q) (ckQ (zZF33 p c q && zZF64 p q) ((((zZF0 p c q).drop (zZF32 p)).take 1).getD 0 AV.undef = AV.lst 0 [] 0 1 ∧ ckQ (zZF33 p c q) (ckQ (zZF33 p c q) (ckQ (zZF33 p c q && zZF50 p q && true &&
 true && true) (zZF13 ∧ ∃ x_5 : Nat, Lf (x_5 = 0) ∧ zZF9 what at' n ∧ zZF3 ∧ setRange (zZF0 p c q) (zZF32 p) [.sl 7 0 0 0 1] = zZF69 p q c ∧ zZF3 ∧ vc_30_tie_2 p q)))))) ∧ ∀ x_5 : Nat, Lf (x_5 = 0) → exI .u8 (what.tmod 12) (fun n_6 => zZF73
 n_6 ∧ zZF74 n_6 ∧ zZF75 n_6 ∧ zZF76 n_6 ∧ zZF89 n_6 ∧ zZF90 n_6 ∧ AV.bool (n_6 == 6) = AV.bool true ∧ ckQ (zZF51 p q c) (ckQ (zZF51 p q c) (ckQ (zZF51 p q c && zZF64 p q) ((((zZF69 p q c).drop (zZF32 p)).take 1).getD 0 AV.undef = AV.sl 7 0
 0 0 1 ∧ ckQ (zZF51 p q c) (ckQ (zZF51 p q c) (ckQ (zZF51 p q c && zZF50 p q && true && true && true) (Q (zZF48 p q) [zZF46 what at' n, zZF10, Blk.mk BK.grow false (setRange (zZF69 p q c) (zZF32 p) [.sl 9 1 0 1 1]), zZF10, zZF10, zZF10,
 zZF10, zZF10, zZF84 n, Blk.mk BK.grow true [.int .i64 n]] {})))))))))))))))))) := by kernel_rfl

theorem bend_tie (what at' n : Int) (t : Nat) (p q : List Ctl) (c : Ctl) (hw : what.tmod 12 = 6) (ha : 0 ≤ at' ∧ at' ≤ 255) (hp : at'.tmod ((lenM p q : Nat) : Int) = (p.length : Int)) (hl : p.length + q.length ≤ 1000) (hok : okC c) (Q : Out → List Blk → Gh → Prop)
  (hq : ∀ c' H, okB c c' → frzOK p q c' H → Q (.ret (.sl 2 (13 * lenM p q) 0 (lenM p q) 13)) H {}) : ∃ hv hb, goal_30_tie hv hb what at' n t p q c Q := by
 obtain ⟨hv, hb', e⟩ : ∃ hv hb, goal_30_tie hv hb what at' n t p q c Q = _ := ⟨_, _, vc_30_tie what at' n t p q c Q⟩
 refine ⟨hv, hb', e.mpr ?_⟩
 delta vc_30_tie_1 vc_30_tie_2 zZF0 zZF85 zZF38 zZF26 zZF59 zZF46 zZF10 zZF57 zZF21 zZF79 zZF14 zZF94 zZF31 zZF83 zZF13 zZF9 zZF35 zZF3 zZF44 zZF24 zZF54 zZF33 zZF37 zZF65 zZF77 zZF29 zZF80 zZF34 zZF42 zZF22 zZF52 zZF32 zZF64 zZF50 zZF69 zZF73 zZF74 zZF75 zZF76 zZF89 zZF90 zZF51 zZF48 zZF84 zZF60 zZF86 zZF58 zZF20
 clear e
 have hN : lenM p q = p.length + q.length + 1 := by unfold lenM; omega
 have F := facZ p q c ({ c with ti := [] }) (tiM c) (fun _ => rfl) hl hok
 obtain ⟨k1, k2, k3⟩ := hok
 have hr : c.ti.length ≠ 0 → Nat.blt 0 c.ti.length = true := fun h => bltT (by omega)
 simp only [vc_30_tie_1, vc_30_tie_2, F, mix_of, List.nil_append, Nat.zero_add, Int.toNat_natCast, Nat.mul_comm _ 13, Nat.mul_comm _ 7, Nat.mul_one, List.drop_zero, Bool.true_or, Bool.and_true, Bool.true_and, Nat.beq_refl, cond_true, beq_self_eq_true, and_true, true_and, nor_mix, old_mix]
 refine ⟨_, rfl, splitE (fun h => absurd h (by omega)) (fun _ => wrapI (by omega) (by omega) ⟨_, rfl, splitNE (fun _ => ⟨by rw [hp], ?_⟩) (fun h => absurd h (by omega))⟩)⟩
 refine ⟨⟨rfl, spl (fun h => ⟨0, ⟨rfl⟩, by have h1 := List.eq_nil_of_length_eq_zero h; simp only [rsM, loM, tiM, ctC, h1]; rfl⟩) (by first | exact ⟨0, ⟨rfl⟩⟩ | exact ⟨0, ⟨rfl⟩, rfl⟩ | exact ckI rfl ⟨0, ⟨rfl⟩⟩ | exact ckI rfl ⟨0, ⟨rfl⟩, rfl⟩)⟩, ?_⟩
 rintro _ ⟨rfl⟩
 refine ⟨⟨rfl, spl (fun h => ⟨0, ⟨rfl⟩, by have h1 := List.eq_nil_of_length_eq_zero h; simp only [rsM, loM, tiM, ctC, h1]; rfl⟩) (by first | exact ⟨0, ⟨rfl⟩⟩ | exact ⟨0, ⟨rfl⟩, rfl⟩ | exact ckI rfl ⟨0, ⟨rfl⟩⟩ | exact ckI rfl ⟨0, ⟨rfl⟩, rfl⟩)⟩, ?_⟩
 rintro _ ⟨rfl⟩
 refine ⟨⟨rfl, by first | exact ⟨0, ⟨rfl⟩⟩ | exact ⟨0, ⟨rfl⟩, rfl⟩ | exact ckI rfl ⟨0, ⟨rfl⟩⟩ | exact ckI rfl ⟨0, ⟨rfl⟩, rfl⟩⟩, ?_⟩
 rintro _ ⟨rfl⟩
 exact ⟨_, rfl, eqFb (by omega), eqFb (by omega), eqFb (by omega), eqFb (by omega), eqFb (by omega), eqFb (by omega), eqTb hw, rfl, hq { c with ti := [n] } _ (by unfold okB; simp; try omega) ⟨_, _, rfl, own_ti c 9 [n] _ rfl (by simp) (by simp)⟩⟩

end Go.Proofs.YtafchcmemeinlaaDoor
