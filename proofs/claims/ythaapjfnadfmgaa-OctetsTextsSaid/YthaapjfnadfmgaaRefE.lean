/-
  Contract of the reference's Unhex.
-/
import Derived.Test.YthaapjfnadfmgaaRefD
namespace Go.Proofs.Ythaapjfnadfmgaa
open Go.RowKit

def unhexB (l : List UInt8) : Bool := l.all isHex && l.length % 2 == 0

theorem pack_two : ∀ (l : List Nat) (a b : Nat), l.length % 2 = 0 → pack (l ++ [a, b]) = pack l ++ [UInt8.ofNat (16 * a + b)]
  | [], _, _, _ => rfl
  | [_], _, _, h => by simp at h
  | _ :: _ :: r, a, b, h => by
    have := pack_two r a b (by simp only [List.length_cons] at h; omega)
    simp only [List.cons_append, pack, this]

theorem take_two (l : List UInt8) (j : Nat) (h : j + 1 < l.length) : l.take (j + 1 + 1) = l.take j ++ [l[j]'(by omega), l[j + 1]'h] := by
  rw [← List.take_append_getElem h, ← List.take_append_getElem (show j < l.length by omega), List.append_assoc]
  rfl

theorem cells_two {l l' L : List UInt8} {x y : UInt8} (h : l' = l ++ [x, y]) (hl : l.length % 2 = 0) (hx : digN x < 16) (hy : digN y < 16) (hL : L = pack (l.map digN)) :
    cellsOf (pack (l'.map digN)) = cellsOf L ++ [.int .u8 (16 * (digN x : Int) + (digN y : Int))] := by
  subst h hL
  rw [List.map_append, List.map_cons, List.map_cons, List.map_nil, pack_two _ _ _ (by rw [List.length_map]; exact hl), cellsOf_append]
  congr 1
  simp only [cellsOf, List.map_cons, List.map_nil, UInt8.toNat_ofNat']
  congr 2
  omega

theorem all_two {l l' : List UInt8} {x y : UInt8} (h : l' = l ++ [x, y]) (h1 : l.all isHex = true) (hx : isHex x = true) (hy : isHex y = true) : l'.all isHex = true := by
  rw [h, List.all_append, h1]; simp [hx, hy]

theorem unhexB_bad {s : ByteArray} {k : Nat} (hlt : k < s.size) {x : UInt8} (hx : s[k]'hlt = x) (hh : ¬ isHex x = true) : unhexB s.data.toList = false := by
  have : s.data.toList.all isHex = false := by
    rw [List.all_eq_false]
    exact ⟨s[k], by rw [Array.mem_toList_iff]; exact Array.getElem_mem _, by rw [hx]; exact hh⟩
  simp [unhexB, this]

set_option maxRecDepth 100000 in
set_option maxHeartbeats 2000000 in
theorem runhex_any (s : ByteArray) (w : World) (hs : s.size ≤ 1000000000000) :
    Calls Try.prog 19 #[.string s] w fun e w' => e = .returned (.tuple #[.string ⟨(unhexR s.data.toList).1.toArray⟩, .bool (unhexB s.data.toList)]) ∧ Below w.heap.size w w' := by
  by_cases hpar : s.size % 2 = 0
  · have hp : ((s.size : Int) % 2 != 0) = false := by simp; omega
    have HP := hid hpar
    clear hpar
    go_enter Try.func19, Try.ntmps19
    go_wp2_with fail
    go_loopw [4, 5] (fun v i wr => ∃ (j : Nat) (ao : Option Addr) (cap : Nat), 2 * j ≤ s.size ∧ i = .int .i64 (2 * (j : Int)) ∧ v = .slice ao j cap ∧ (s.data.toList.take (2 * j)).all isHex = true ∧ Sl wr w.heap.size 5 1 ao j cap (cellsOf (pack ((s.data.toList.take (2 * j)).map digN))) ∧ Below w.heap.size w wr) (fun _ i _ => s.size - (intOf i).toNat)
    case atStart => exact ⟨0, none, 0, Nat.zero_le _, rfl, rfl, rfl, Sl.nil _ _ _ _, Below.refl _ _⟩
    case round =>
      obtain ⟨j, ao, cap, hj, rfl, rfl, hall, hsk, hbk⟩ := hrel
      have hbz := hbk.size
      obtain ⟨L, hL⟩ : ∃ L, L = pack ((s.data.toList.take (2 * j)).map digN) := ⟨_, rfl⟩
      rw [← hL] at hsk
      have HL := hid hL
      have hLl : L.length = j := by rw [hL, pack_len, List.length_map, List.length_take, szL]; omega
      have HLL := hid hLl
      have HALL := hid hall
      clear hL hLl hall
      by_cases hlt : 2 * j < s.size
      · have hlt1 : 2 * j + 1 < s.size := by have := HP.out; omega
        obtain ⟨x, hx⟩ : ∃ x : UInt8, s[2 * j]'hlt = x := ⟨_, rfl⟩
        obtain ⟨y, hy⟩ : ∃ y : UInt8, s[2 * j + 1]'hlt1 = y := ⟨_, rfl⟩
        have HT : Hid (s.data.toList.take (2 * (j + 1)) = s.data.toList.take (2 * j) ++ [x, y]) := by
          have := take_two s.data.toList (2 * j) (by rw [szL]; exact hlt1)
          rw [show 2 * (j + 1) = 2 * j + 1 + 1 by omega]
          subst hx hy
          exact this
        have hx' : (s[2 * j]'hlt).toNat = x.toNat := by rw [hx]
        have hy' : (s[2 * j + 1]'hlt1).toNat = y.toNat := by rw [hy]
        have HX := hid hx
        have HY := hid hy
        have b1 : 2 * (j : Int) < (s.size : Int) := by omega
        have b2 : (0 : Int) ≤ 2 * (j : Int) := by omega
        have b3 : 2 * (j : Int) + 1 < (s.size : Int) := by omega
        have b4 : (0 : Int) ≤ 2 * (j : Int) + 1 := by omega
        have n1 : (2 * (j : Int)).toNat = 2 * j := by omega
        have n2 : (2 * (j : Int) + 1).toNat = 2 * j + 1 := by omega
        have q1 : IntKind.i64.wrap (2 * (j : Int) + 1) = 2 * (j : Int) + 1 := IntWalk.i64_in _ (by omega)
        clear hx hy
        go_wp2_with fail
        go_region_held3 (fun _ => True) (trivial) (first | (go_at_call 44; refine (rdigit_any _ _).mono ?_; rintro e w2 ⟨rfl, rfl⟩))
        all_goals
          clear n1 n2 q1 hx' hy'
          by_cases hhx : isHex x = true
          · by_cases hhy : isHex y = true
            · have dx : digV x = (digN x : Int) := by simp [digV, hhx]
              have dy : digV y = (digN y : Int) := by simp [digV, hhy]
              have lx := digN_lt x hhx
              have ly := digN_lt y hhy
              have t1 : decide ((digN x : Int) < 0) = false := by simp
              have t2 : decide ((digN y : Int) < 0) = false := by simp
              have HHX := hid hhx
              have HHY := hid hhy
              clear hhx hhy
              go_wp2_with (first | (at_builtin; refine wpList_append _ rfl (.tmp 33) (.tmp 39) 35 rfl w.heap.size 5 (.int .u8 0) 1 1 Try.infoU8 Try.underlying35 rfl (by omega) _ _ _ _ rfl (hsk.drew.alloc _) _ 1 1 [.int .u8 (16 * (digN x : Int) + (digN y : Int))] rfl rfl (by exact Rd.new _ [_] _ _) (by intro h; cases h) (by simp [Value.oneCell']) (by omega) (by unfold maxLen; omega) (by simp; omega) ?_))
              intro ao' cap' w3 hsl' hgr _
              have HS := hid hsl'
              have hb3 : Below w.heap.size w w3 := by (repeat' (first | exact Below.refl _ _ | apply b_drew | apply b_drewN | apply b_set | apply b_setRow | apply b_alloc | (refine b_call (by assumption) ?_ ?_) | (refine b_grown (by assumption) ?_ ?_ ?_) | (exact Sl.blk (by assumption)) | omega | (simp; done) | (simp; omega)))
              clear hsl' hgr
              go_wp2
              go_roundw
              case rel => exact ⟨j + 1, ao', cap', by omega, by go_num, rfl, all_two HT.out HALL.out HHX.out HHY.out, by rw [cells_two HT.out (by rw [List.length_take, szL]; omega) lx ly HL.out]; exact HS.out, hb3⟩
              case measure => simp [intOf]; omega
            · have dy : digV y = -1 := by simp [digV, hhy]
              have e := unhex_bad hlt1 HY.out hhy
              have e2 := unhexB_bad hlt1 HY.out hhy
              have E := hid e
              have E2 := hid e2
              clear e e2 hhy
              by_cases t0 : digV x < 0
              · have t1 : decide (digV x < 0) = true := by simpa using t0
                clear t0
                go_wp2
                go_ret2
                exact ⟨ret2 (vstr (by rw [E.out])) (vbool (by rw [E2.out])), by (repeat' (first | exact Below.refl _ _ | apply b_drew | apply b_drewN | apply b_set | apply b_setRow | apply b_alloc | (refine b_call (by assumption) ?_ ?_) | (refine b_grown (by assumption) ?_ ?_ ?_) | (exact Sl.blk (by assumption)) | omega | (simp; done) | (simp; omega)))⟩
              · have t1 : decide (digV x < 0) = false := by simpa using t0
                clear t0
                go_wp2
                go_ret2
                exact ⟨ret2 (vstr (by rw [E.out])) (vbool (by rw [E2.out])), by (repeat' (first | exact Below.refl _ _ | apply b_drew | apply b_drewN | apply b_set | apply b_setRow | apply b_alloc | (refine b_call (by assumption) ?_ ?_) | (refine b_grown (by assumption) ?_ ?_ ?_) | (exact Sl.blk (by assumption)) | omega | (simp; done) | (simp; omega)))⟩
          · have dx : digV x = -1 := by simp [digV, hhx]
            have e := unhex_bad hlt HX.out hhx
            have e2 := unhexB_bad hlt HX.out hhx
            have E := hid e
            have E2 := hid e2
            clear e e2 hhx
            go_wp2
            go_ret2
            exact ⟨ret2 (vstr (by rw [E.out])) (vbool (by rw [E2.out])), by (repeat' (first | exact Below.refl _ _ | apply b_drew | apply b_drewN | apply b_set | apply b_setRow | apply b_alloc | (refine b_call (by assumption) ?_ ?_) | (refine b_grown (by assumption) ?_ ?_ ?_) | (exact Sl.blk (by assumption)) | omega | (simp; done) | (simp; omega)))⟩
      · have hjs : 2 * j = s.size := by omega
        have HK := hid hjs
        clear hjs
        go_wp2_with (first | (refine wpList_string _ rfl (.tmp 41) _ _ _ rfl Try.underlying35 Try.underlying5 Try.underlying9 _ _ _ rfl L HLL.out hsk.rd ?_))
        go_ret2
        have e := unhex_good HK.out (by omega) HALL.out HL.out
        have e2 : unhexB s.data.toList = true := by
          have ha := HALL.out
          rw [HK.out, ← szL, List.take_length] at ha
          simp only [unhexB, ha, szL, Bool.true_and, beq_iff_eq]
          exact HP.out
        exact ⟨ret2 (vstr (by rw [e])) (vbool e2.symm), by (repeat' (first | exact Below.refl _ _ | apply b_drew | apply b_drewN | apply b_set | apply b_setRow | apply b_alloc | (refine b_call (by assumption) ?_ ?_) | (refine b_grown (by assumption) ?_ ?_ ?_) | (exact Sl.blk (by assumption)) | omega | (simp; done) | (simp; omega)))⟩
  · have hp : ((s.size : Int) % 2 != 0) = true := by simp; omega
    have e := unhex_len (s := s) rfl hpar
    have e2 : unhexB s.data.toList = false := by
      have : (s.data.toList.length % 2 == 0) = false := by rw [szL]; simpa using hpar
      simp only [unhexB, this, Bool.and_false]
    rw [e, e2]
    clear hpar e e2
    go_enter Try.func19, Try.ntmps19
    go_wp2
    go_ret2
    exact ⟨rfl, Below.refl _ _⟩

end Go.Proofs.Ythaapjfnadfmgaa
