/-
  Contract of octets.Unhex.
-/
import Derived.Test.YtlfbaakndklncaaUh1
import Derived.Test.YtlfbaakndklncaaHexP
namespace Go.Proofs.Ytlfbaakndklncaa
open Go.RowKit

theorem idx_hexA (j : Nat) (h : j < 16) (w : World) : (Instr.index 87 (.agg hexA) (.int .i64 (j : Int))).run Try.prog w = .ok (.int .u8 ((hexD j).toNat : Int)) w := by
  have hj : j = 0 ∨ j = 1 ∨ j = 2 ∨ j = 3 ∨ j = 4 ∨ j = 5 ∨ j = 6 ∨ j = 7 ∨ j = 8 ∨ j = 9 ∨ j = 10 ∨ j = 11 ∨ j = 12 ∨ j = 13 ∨ j = 14 ∨ j = 15 := by omega
  clear h
  rcases hj with rfl | rfl | rfl | rfl | rfl | rfl | rfl | rfl | rfl | rfl | rfl | rfl | rfl | rfl | rfl | rfl
  all_goals (show Sem.run _ _ _ = _; kernel_rfl)

/-- the search for a digit -/
theorem or_hex (a b : Nat) (ha : a < 16) (hb : b < 16) : bits .or .u8 (16 * (a : Int)) (b : Int) = 16 * (a : Int) + (b : Int) := by
  rw [bits_join .u8 8 (by decide) wraps_u8 4 _ _ (by omega) (by omega) (by omega) (by omega) (by omega) (by omega)]
theorem cells_set {L L' : List UInt8} {q a d : Nat} (ha : a < 16) (hd : d < 16) (h : L' = L.set q (UInt8.ofNat (16 * a + d))) : cellsOf L' = (cellsOf L).set q (.int .u8 (16 * (a : Int) + (d : Int))) := by
  rw [h]
  simp only [cellsOf, List.map_set, UInt8.toNat_ofNat']
  congr 2
  omega

theorem vslice {ao : Option Addr} {a b c : Nat} (h : a = b) : Value.slice ao a c = .slice ao b c := by rw [h]
theorem all_snoc {l l' : List UInt8} {c : UInt8} (h : l' = l ++ [c]) (h1 : l.all isHex = true) (h2 : isHex c = true) : l'.all isHex = true := by
  rw [h, List.all_append, h1]; simp [h2]
theorem unhex_even {l l' L : List UInt8} {c x : UInt8} {k : Nat} (h : l' = l ++ [c]) (hk : k % 2 = 0) (hl : l.length = k) (hx : c = x) (hd : digN x < 16) (hL : L = pack (l.map digN)) :
    cellsOf (pack (l'.map digN)) = cellsOf L ++ [.int .u8 ((digN x : Int) * 16)] := by
  subst h hx hL
  have e := pack_even (l.map digN) (digN c) (by rw [List.length_map]; omega)
  rw [List.map_append, List.map_cons, List.map_nil, e, cellsOf_append]
  congr 1
  simp only [cellsOf, List.map_cons, List.map_nil, UInt8.toNat_ofNat']
  congr 2
  omega
theorem unhex_odd {l l' L : List UInt8} {c x : UInt8} {k : Nat} (h : l' = l ++ [c]) (hk : k % 2 = 1) (hl : l.length = k) (hx : c = x) (hL : L = pack (l.map digN)) (ha : l.all isHex = true) :
    ∃ a, a < 16 ∧ L[k / 2]? = some (UInt8.ofNat (16 * a)) ∧ pack (l'.map digN) = L.set (k / 2) (UInt8.ofNat (16 * a + digN x)) := by
  subst h hx hL
  obtain ⟨a, h1, h2, h3⟩ := pack_odd (l.map digN) (digN c) (by rw [List.length_map]; omega)
  simp only [List.length_map, hl] at h1 h2 h3
  refine ⟨a, ?_, h2, by rw [List.map_append]; exact h3⟩
  rw [List.getElem?_map] at h1
  obtain ⟨y, hy, rfl⟩ := Option.map_eq_some_iff.1 h1
  exact digN_lt y (List.all_eq_true.1 ha y (List.mem_of_getElem? hy))
theorem unhex_bad {s : ByteArray} {k : Nat} (hlt : k < s.size) {x : UInt8} (hx : s[k]'hlt = x) (hh : ¬ isHex x = true) : unhexR s.data.toList = ([], 5) := by
  have : s.data.toList.all isHex = false := by
    rw [List.all_eq_false]
    exact ⟨s[k], by rw [Array.mem_toList_iff]; exact Array.getElem_mem _, by rw [hx]; exact hh⟩
  simp [unhexR, this]
theorem unhex_good {s : ByteArray} {k : Nat} {L : List UInt8} (hk : k = s.size) (hp : k % 2 = 0) (ha : (s.data.toList.take k).all isHex = true) (hL : L = pack ((s.data.toList.take k).map digN)) : unhexR s.data.toList = (L, 0) := by
  have e : s.data.toList.take k = s.data.toList := by rw [hk, ← szL, List.take_length]
  rw [e] at ha hL
  have e2 : (s.data.toList.length % 2 == 0) = true := by rw [szL, ← hk]; simpa using hp
  simp only [unhexR, ha, e2, Bool.and_self, if_true, hL]
theorem unhex_len {s : ByteArray} {k : Nat} (hk : k = s.size) (hp : ¬ k % 2 = 0) : unhexR s.data.toList = ([], 5) := by
  have e2 : (s.data.toList.length % 2 == 0) = false := by rw [szL, ← hk]; simpa using hp
  simp only [unhexR, e2, Bool.and_false, Bool.false_eq_true, if_false]

set_option maxRecDepth 100000 in
set_option maxHeartbeats 2000000 in
theorem unhex_any (s : ByteArray) (w : World) (hs : s.size ≤ 1000000000000) :
    Calls Try.prog 29 #[.string s] w fun e w' => e = .returned (.tuple #[.string ⟨(unhexR s.data.toList).1.toArray⟩, .int .i64 (unhexR s.data.toList).2]) ∧ Below w.heap.size w w' := by
  have C := hid (fun w => digits_any w)
  go_enter Try.func29, Try.ntmps29
  go_wp2_with fail
  go_step3
  go_wp2_with fail
  go_step3
  go_wp2_with fail
  go_loopw [4, 5, 12] (fun v e i wr => ∃ (k : Nat) (ao : Option Addr) (cap : Nat), k ≤ s.size ∧ e = .int .i64 0 ∧ i = .int .i64 k ∧ v = .slice ao ((k + 1) / 2) cap ∧ (s.data.toList.take k).all isHex = true ∧ Sl wr w.heap.size 5 1 ao ((k + 1) / 2) cap (cellsOf (pack ((s.data.toList.take k).map digN))) ∧ Below w.heap.size w wr) (fun _ _ i _ => s.size - (intOf i).toNat)
  case atStart => exact ⟨0, none, 0, Nat.zero_le _, rfl, rfl, rfl, rfl, Sl.nil _ _ _ _, Below.refl _ _⟩
  case round =>
    obtain ⟨k, ao, cap, hk, rfl, rfl, rfl, hall, hsk, hbk⟩ := hrel
    have hbz := hbk.size
    obtain ⟨L, hL⟩ : ∃ L, L = pack ((s.data.toList.take k).map digN) := ⟨_, rfl⟩
    rw [← hL] at hsk
    have HL := hid hL
    have hLl : L.length = (k + 1) / 2 := by rw [hL, pack_len, List.length_map, List.length_take, szL]; omega
    have HLL := hid hLl
    clear hL hLl
    by_cases hlt : k < s.size
    · have hkl : k < s.data.toList.length := by rw [szL]; exact hlt
      have HT : Hid (s.data.toList.take (k + 1) = s.data.toList.take k ++ [s[k]]) := by rw [← List.take_append_getElem hkl]; exact rfl
      obtain ⟨x, hx⟩ : ∃ x : UInt8, s[k]'hlt = x := ⟨_, rfl⟩
      have hx' : (s[k]'hlt).toNat = x.toNat := by rw [hx]
      have HX := hid hx
      have HALL := hid hall
      have b5 : (k : Int) < (s.size : Int) := by omega
      have b6 : (0 : Int) ≤ (k : Int) := by omega
      clear hx hall
      have KI := fun (j : Nat) (h : j < 16) (w : World) => idx_hexA j h w
      have HKI := hid KI
      clear KI
      go_wp2_with (go_at_call 54; refine (C.out _).mono ?_; rintro e w1 ⟨rfl, hb⟩; have hzb := hb.size)
      obtain ⟨wo, hwo⟩ : ∃ wo : World, wo = w1 := ⟨_, rfl⟩
      go_loop [7, 16] (fun v i => ∃ j : Nat, j ≤ 16 ∧ i = .int .i64 j ∧ v = .int .i64 (scan x j)) (fun _ i => 16 - (intOf i).toNat)
      case atStart => exact ⟨0, by omega, rfl, by rw [scan_zero]⟩
      case round =>
        obtain ⟨j, hj, rfl, rfl⟩ := hrel
        by_cases hj16 : j < 16
        · have hidx := fun w => HKI.out j hj16 w
          by_cases hm : hexD j = x
          · have t1 : (((hexD j).toNat : Int) == (x.toNat : Int)) = true := by rw [hm]; simp
            have HM := hid (scan_hit x j hj16 hm)
            clear hm
            go_wp2
            go_round
            case rel => exact ⟨j + 1, by omega, by go_num, by rw [HM.out]⟩
            case measure => simp [intOf]; omega
          · have t1 : (((hexD j).toNat : Int) == (x.toNat : Int)) = false := by
              simp only [beq_eq_false_iff_ne, ne_eq]; intro h; exact hm (UInt8.toNat_inj.1 (by omega))
            have HM := hid (scan_miss x j hj16 hm)
            clear hm
            go_wp2
            go_round
            case rel => exact ⟨j + 1, by omega, by go_num, by rw [HM.out]⟩
            case measure => simp [intOf]; omega
        · have hj' : j = 16 := by omega
          subst hj'
          by_cases hhex : isHex x = true
          · have hv : scan x 16 = (digN x : Int) := by rw [scan_all, if_pos hhex]
            have hd16 := digN_lt x hhex
            rw [hv]
            have hv0 : decide ((digN x : Int) < 0) = false := by simp
            have HHEX := hid hhex
            clear hhex hv
            by_cases hpar : k % 2 = 0
            · have hp : ((k : Int) % 2 == 0) = true := by simp; omega
              have HPAR := hid hpar
              clear hpar
              go_wp2_with (first | (at_builtin; refine wpList_append _ rfl (.tmp 43) (.tmp 47) 25 rfl w.heap.size 5 (.int .u8 0) 1 1 Try.infoU8 Try.underlying25 rfl (by omega) _ _ _ _ rfl ((hsk.below hb).alloc _) _ 1 1 [.int .u8 ((digN x : Int) * 16)] rfl rfl ?hrd ?had ?h1 (by omega) (by unfold maxLen; omega) ?hbase ?_))
              case hrd => exact Rd.new w1 [_] _ _
              case h1 => simp [Value.oneCell']
              case hbase => have := hb.size; simp; omega
              intro ao' cap' w3 hsl' hgr _
              have HS := hid hsl'
              have hb3 : Below w.heap.size w w3 := by (repeat' (first | exact Below.refl _ _ | apply b_drew | apply b_drewN | apply b_set | apply b_setRow | apply b_alloc | (refine b_call (by assumption) ?_ ?_) | (refine b_grown (by assumption) ?_ ?_ ?_) | (exact Sl.blk (by assumption)) | omega | (simp; done) | (simp; omega)))
              clear hsl' hgr
              go_wp2
              go_roundw
              case rel => exact ⟨k + 1, ao', cap', by omega, rfl, by go_num, vslice (by have := HPAR.out; omega), all_snoc HT.out HALL.out (by rw [HX.out]; exact HHEX.out), by rw [unhex_even HT.out HPAR.out (by rw [List.length_take, szL]; omega) HX.out hd16 HL.out, show (k + 1 + 1) / 2 = (k + 1) / 2 + 1 by have := HPAR.out; omega]; exact HS.out, hb3⟩
              case measure => simp [intOf]; omega
            · have hp : ((k : Int) % 2 == 0) = false := by simp; omega
              have HPAR := hid hpar
              obtain ⟨a, ha1, ha2, ha3⟩ := unhex_odd (x := x) (k := k) HT.out (by omega) (by rw [List.length_take, szL]; omega) HX.out HL.out HALL.out
              obtain ⟨q, hq1, hq2⟩ : ∃ q : Nat, (k : Int) / 2 = (q : Int) ∧ q = k / 2 := ⟨k / 2, by omega, rfl⟩
              rw [← hq2] at ha2 ha3
              have hsk1 := hsk.below hb
              have hql : q < L.length := by rw [HLL.out]; omega
              obtain ⟨g, off, he, hgl, hcell⟩ := hsk1.rd.byte hql
              cases he
              have hfz := hsk1.frozen q (by have := hsk1.2.1; have := HLL.out; omega)
              have hLq : L[q]'hql = UInt8.ofNat (16 * a) := by rw [List.getElem?_eq_getElem hql] at ha2; exact Option.some.inj ha2
              have hLq2 : ((L[q]'hql).toNat : Int) = ((16 * a : Nat) : Int) := by rw [hLq, UInt8.toNat_ofNat']; omega
              rw [hLq2] at hcell
              have hor := or_hex a (digN x) ha1 hd16
              have hst := hsk1.store q (.int .u8 (16 * (a : Int) + (digN x : Int)))
              have HST := hid hst
              have HA3 := hid ha3
              have b7 : (q : Int) < (((k + 1) / 2 : Nat) : Int) := by omega
              have b8 : (digN x : Int) % 256 = (digN x : Int) := by omega
              have hbg : w.heap.size ≤ g := (hsk.lt _ rfl).1
              clear hpar hLq hLq2 hst ha2 ha3 hql hq2
              go_wp2
              go_roundw
              case rel => exact ⟨k + 1, _, cap, by omega, rfl, by go_num, vslice (by have := HPAR.out; omega), all_snoc HT.out HALL.out (by rw [HX.out]; exact HHEX.out), by rw [cells_set ha1 hd16 HA3.out, show (k + 1 + 1) / 2 = (k + 1) / 2 by have := HPAR.out; omega]; exact HST.out, by (repeat' (first | exact Below.refl _ _ | apply b_drew | apply b_drewN | apply b_set | apply b_setRow | apply b_alloc | (refine b_call (by assumption) ?_ ?_) | (refine b_grown (by assumption) ?_ ?_ ?_) | (exact Sl.blk (by assumption)) | omega | (simp; done) | (simp; omega)))⟩
              case measure => simp [intOf]; omega
          · have hv : scan x 16 = -1 := by rw [scan_all, if_neg hhex]
            rw [hv]
            have HHEX := hid hhex
            clear hhex hv
            go_wp2
            go_ret2
            exact ⟨ret2 (vstr (by rw [unhex_bad hlt HX.out HHEX.out])) (vint (by rw [unhex_bad hlt HX.out HHEX.out])), by (repeat' (first | exact Below.refl _ _ | apply b_drew | apply b_drewN | apply b_set | apply b_setRow | apply b_alloc | (refine b_call (by assumption) ?_ ?_) | (refine b_grown (by assumption) ?_ ?_ ?_) | (exact Sl.blk (by assumption)) | omega | (simp; done) | (simp; omega)))⟩
    · have hks : k = s.size := by omega
      have HK := hid hks
      clear hks
      by_cases hpar : k % 2 = 0
      · have hp : ((s.size : Int) % 2 != 0) = false := by have := HK.out; simp; omega
        have HPAR := hid hpar
        have HALL := hid hall
        clear hpar hall
        go_wp2_with (first | (refine wpList_string _ rfl (.tmp 58) _ _ _ rfl Try.underlying25 Try.underlying5 Try.underlying9 _ _ _ rfl L (by rw [HLL.out]) hsk.rd ?_))
        rw [Exit.noGoto_ret]
        go_ret2
        exact ⟨ret2 (vstr (by rw [unhex_good HK.out HPAR.out HALL.out HL.out])) (vint (by rw [unhex_good HK.out HPAR.out HALL.out HL.out])), by (repeat' (first | exact Below.refl _ _ | apply b_drew | apply b_drewN | apply b_set | apply b_setRow | apply b_alloc | (refine b_call (by assumption) ?_ ?_) | (refine b_grown (by assumption) ?_ ?_ ?_) | (exact Sl.blk (by assumption)) | omega | (simp; done) | (simp; omega)))⟩
      · have hp : ((s.size : Int) % 2 != 0) = true := by have := HK.out; simp; omega
        have HPAR := hid hpar
        have HALL := hid hall
        clear hpar hall
        go_wp2
        rw [Exit.noGoto_ret]
        go_ret2
        exact ⟨ret2 (vstr (by rw [unhex_len HK.out HPAR.out])) (vint (by rw [unhex_len HK.out HPAR.out])), by (repeat' (first | exact Below.refl _ _ | apply b_drew | apply b_drewN | apply b_set | apply b_setRow | apply b_alloc | (refine b_call (by assumption) ?_ ?_) | (refine b_grown (by assumption) ?_ ?_ ?_) | (exact Sl.blk (by assumption)) | omega | (simp; done) | (simp; omega)))⟩
end Go.Proofs.Ytlfbaakndklncaa
