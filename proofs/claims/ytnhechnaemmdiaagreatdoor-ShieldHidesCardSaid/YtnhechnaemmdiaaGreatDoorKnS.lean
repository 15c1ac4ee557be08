/-
  Chapter 25: strings.Join; contracts that compute; the chapter's examples hold.
-/
import Derived.Test.YtnhechnaemmdiaaGreatDoorKnL
import Derived.Test.YtnhechnaemmdiaaGreatDoorKnM
import Derived.Test.YtnhechnaemmdiaaGreatDoorEnJ
set_option linter.unusedSimpArgs false
set_option linter.unusedVariables false
set_option linter.unusedSectionVars false
namespace Go.Proofs.YtnhechnaemmdiaaGreatDoor
open Go.RowKit
set_option maxRecDepth 1000000

def aNb:aUw
 | [.lst _ ss n 1,.str sep],H=>(match aOc ss with
  | some l=>bif Nat.beq n l.length then aR1 l sep H else none
  | none=>none)
 | [.sl id tot off len 1,.str sep],H=>(match H[id]? with
  | some b=>bif Nat.beq b.cs.length tot&&Nat.ble (off+len*1) tot&&b.k !=.ro then (match aOc ((b.cs.drop off).take (len*1)) with
   | some l=>bif Nat.beq len l.length then aR1 l sep H else none
   | none=>none) else none
  | none=>none)
 | _,_=>none
theorem vV {l:List (List UInt8)} {sep:List UInt8} {H H':List Blk} {o:Out} {n:Nat} (h:(bif Nat.beq n l.length then aR1 l sep H else none)=some (o,H')):n=l.length∧l.length≤1000∧(iI l sep).length≤1000000∧o=.ret (.str (iI l sep))∧H=H':=by
 cases h1:Nat.beq n l.length<;>rw[h1] at h
 ·cases h
 ·unfold aR1 at h
  rw[cond_true] at h
  cases h2:Nat.ble l.length 1000&&Nat.ble (iI l sep).length 1000000<;>rw[h2] at h
  ·cases h
  ·simp only[Bool.and_eq_true,Nat.ble_eq] at h2
   cases h
   exact ⟨Nat.eq_of_beq_eq_true h1,h2.1,h2.2,rfl,rfl⟩
theorem aG8 (H:List Blk) (d:Nat):∀l,(dX l).map (fun x=>dG 1 H (d+1) x)=dX l
 | []=>rfl
 | s::l=>by rw[dX,List.map_cons,aG8 H d l];rfl
theorem aUo:aG Tryz.prog gl0 129 (toP aNb):=qQ qR fun args H o H' K ho hk=>by
 unfold aNb at ho
 split at ho
 ·rename_i tg ss n sep
  split at ho
  ·rename_i l hl
   obtain ⟨rfl,h1,h2,rfl,rfl⟩:=vV ho
   show ∃l':List (List UInt8),_
   refine ⟨l,⟨zK _ _ hl,rfl,h1,h2⟩, ?_⟩
   rintro x ⟨rfl⟩
   exact hk
  ·cases ho
 ·rename_i id tot off len sep
  split at ho
  ·rename_i b hb
   cases hc:(Nat.beq b.cs.length tot&&Nat.ble (off+len*1) tot&&b.k !=.ro)<;>rw[hc] at ho
   ·cases ho
   ·rw[cond_true] at ho
    split at ho
    ·rename_i l hl
     obtain ⟨rfl,h1,h2,rfl,rfl⟩:=vV ho
     show (match H[id]? with
      | some b=>bif Nat.beq b.cs.length tot&&Nat.ble (off+l.length*1) tot&&b.k !=.ro then aLu [.lst 1 (((b.cs.drop off).take (l.length*1)).map fun x=>dG 1 H 8 x) l.length 1,.str sep] H K else False
      | none=>False)
     rw[hb]
     dsimp only
     rw[hc,cond_true,zK _ _ hl,aG8]
     refine ⟨l,⟨rfl,rfl,h1,h2⟩, ?_⟩
     rintro x ⟨rfl⟩
     exact hk
    ·cases ho
  ·cases ho
 ·cases ho
def aMp:aUw
 | [.str a,.str b,.str c,.str d],H=>(match lM a b c d with
  | (t,e)=>some (.ret (.tup [.str t,.int .i64 e]),H))
 | _,_=>none
def aK8:aUw
 | [.str a,.str b,.str c,.str d],H=>(match oH a b c d with
  | (t,e)=>some (.ret (.tup [.str t,.int .i64 e]),H))
 | _,_=>none
def zU:aUw
 | [.str s,.int .i64 c],H=>bif decide (0≤c)&&Nat.ble c.toNat 9223372036854775807&&Nat.ble (s.length*c.toNat) 140737488355328 then some (.ret (.str (bJ3 s c.toNat)),H) else none
 | _,_=>none
theorem aJw:aG Tryz.prog gl0 48 (toP zU):=qQ aKs fun args H o H' K ho hk=>by
 unfold zU at ho
 split at ho
 ·rename_i s c
  show (bif decide (0≤c)&&Nat.ble c.toNat 9223372036854775807&&Nat.ble (s.length*c.toNat) 140737488355328 then K (.ret (.str (bJ3 s c.toNat))) H else False)
  cases hb:decide (0≤c)&&Nat.ble c.toNat 9223372036854775807&&Nat.ble (s.length*c.toNat) 140737488355328<;>rw[hb] at ho
  ·cases ho
  ·cases ho;exact hk
 ·cases ho
theorem aRl:aG Tryz.prog gl0 66 (toP aMp):=qQ aMh fun args H o H' K ho hk=>by
 unfold aMp at ho
 split at ho
 ·intro t e he
  rw[he.h] at ho
  cases ho;exact hk
 ·cases ho
theorem aSi:aG Tryz.prog gl0 82 (toP aK8):=qQ aNk fun args H o H' K ho hk=>by
 unfold aK8 at ho
 split at ho
 ·intro t e he
  rw[he.h] at ho
  cases ho;exact hk
 ·cases ho
noncomputable def qW:QE := { fn:=fun f=>bAb Tryz.prog f,sm:=aM5 [(48,zU),(66,aMp),(82,aK8),(129,aNb)],gl:=gl0 }
theorem aR3:EnvFor Tryz.prog (bDl qW):=⟨mH,mQ,cZ,aHi _ (by simp only[List.mem_cons,List.not_mem_nil,or_false,forall_eq_or_imp,forall_eq];exact ⟨aJw,aRl,aSi,aUo⟩)⟩
theorem aOd:kC qW (wpQ qW 1000000) 20 [] [] {} bFq=true:=by kernel_rfl
theorem aT1:aG Tryz.prog gl0 20 aMz:=aD8 (q:=qW) (enters_of (by kernel_rfl)) aQ aR3 aOd
end Go.Proofs.YtnhechnaemmdiaaGreatDoor
