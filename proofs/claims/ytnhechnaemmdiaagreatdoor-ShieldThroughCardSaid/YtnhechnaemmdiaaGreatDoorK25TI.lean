/-
  Chapter 25: the region in which a packet and its box are put into the lists.
-/
import Derived.Test.YtnhechnaemmdiaaGreatDoorK25TH
set_option linter.unusedSimpArgs false
set_option linter.unusedVariables false
set_option linter.unusedSectionVars false
namespace Go.Proofs.YtnhechnaemmdiaaGreatDoor
open Go.RowKit
set_option maxRecDepth 1000000

noncomputable def opsT:Array Oper:=(vZ Tryz.prog 6).1.headD #[]
noncomputable def opT (i:Nat):Oper:=(opsT[i]?).getD default
theorem aZv:(vZ Tryz.prog 6).1=[opsT]:=by kernel_rfl
theorem ntT:(vZ Tryz.prog 6).2=177:=by kernel_rfl
theorem aFc:opsT.size=24:=by kernel_rfl
theorem aG0 {i:Nat} (h:i<24):opsT[i]? = some (opT i):=by
 rw[opT,bSc (by rw[aFc];exact h),bS0]
def dT (i:Nat):Nat:=bif Nat.blt i 22 then 108+i else i-12
noncomputable def afT (i:Nat):List Nat:=((opT i).after.toList.filter fun e=>Region.binds .any e).map (·.on)
noncomputable def okT (i:Nat):Bool:=(opT i).dst==some (dT i)&&(opT i).guard.isNone&&((opT i).after.toList.all fun e=>Nat.blt e.on i)
theorem aXd:(List.range 24).all okT=true:=by kernel_rfl
theorem aYi:(List.range 24).map afT=[[],[],[],[0,1,2],[],[4],[],[],[6,7],[5,8],[3,9,9],[],[],[],[11,12,13],[],[15],[],[],[17,18],[16,19,10],[14,20,20],[10,21,0,1,2,3,4,5,6,7,8,9,10],[21,22,0,1,2,3,4,5,6,7,8,9,10,11,12,13,14,15,16,17,18,19,20,21,22]]:=by kernel_rfl
def zT:List AV:=[.bool false,.int .i64 0,.int .i64 0,.int .i64 0,.int .i64 0,.nils,.nils,.int .i64 0,.str []]
def aoT:Nat→AOp
 | 0 | 6=>.mv (.t 10) | 1 | 2 | 7 | 12 | 13 | 18=>.mv (.t 20) | 4=>.ld true 9 (.t 14) | 5=>.bsl zT 9 1 [(0,9,.t 112)] | 8=>.slL 9 (.t 114) (some (.t 115)) none
 | 11 | 17 => .mv (.t 11) | 15 => .mv (.t 16) | 16 => .bsl [.str []] 1 1 [(0, 1, .t 123)] | 19 => .slL 1 (.t 125) (some (.t 126)) none | 22 => .mv (.t 118) | 23 => .mv (.t 129) | _ => .bad "op"
theorem bEw:[0,1,2,4,5,6,7,8,11,12,13,15,16,17,18,19,22,23].map (fun i=>cOp Tryz.prog (opT i).op)=[0,1,2,4,5,6,7,8,11,12,13,15,16,17,18,19,22,23].map aoT:=by kernel_rfl
theorem co3:(opT 3).op=.slice 81 (.tmp 108) none (some (.tmp 109)) (some (.tmp 110)):=by kernel_rfl
theorem bM3:(opT 14).op=.slice 82 (.tmp 119) none (some (.tmp 120)) (some (.tmp 121)):=by kernel_rfl
theorem co9:(opT 9).op=.call { callee:=.builtin .append,args := #[.tmp 113,.tmp 116],argTypes := #[81,81] }:=by kernel_rfl
theorem bM1:(opT 10).op=.call { callee:=.builtin .append,args := #[.tmp 111,.tmp 117],argTypes := #[81,81] }:=by kernel_rfl
theorem bMy:(opT 20).op=.call { callee:=.builtin .append,args := #[.tmp 124,.tmp 127],argTypes := #[82,82] }:=by kernel_rfl
theorem bNn:(opT 21).op=.call { callee:=.builtin .append,args := #[.tmp 122,.tmp 128],argTypes := #[82,82] }:=by kernel_rfl
theorem bN0:Tryz.prog.underlying 81=some (.slice 63)∧bJ Tryz.prog 63=true∧(fU Tryz.prog 63).length=9∧szT Tryz.prog 63=9∧Tryz.prog.bytesOf 63=112:=⟨by kernel_rfl,by kernel_rfl,by kernel_rfl,by kernel_rfl,by kernel_rfl⟩
theorem bN5:Tryz.prog.underlying 82=some (.slice 9)∧bJ Tryz.prog 9=true∧(fU Tryz.prog 9).length=1∧szT Tryz.prog 9=1∧Tryz.prog.bytesOf 9=16:=⟨by kernel_rfl,by kernel_rfl,by kernel_rfl,by kernel_rfl,by kernel_rfl⟩

def evT (us:List Nat) (tv:Nat→AV):AO→AV
 | .t n=>bif us.contains n then tv n else .undef
 | .c v=>v
theorem aOs {m:M} {us:List Nat} {tv:Nat→AV} {a:Act} (hu:∀t∈us,VR m (tv t) (a.tmps.getD t undef)) (x:Operand):VR m (evT us tv (cO x)) (a.eval x):=by
 cases x with
 | tmp t=>
  simp only[cO,evT]
  cases h:us.contains t with
  | true=>exact hu t (by simpa using h)
  | false=>simp[VR]
 | const v=>exact aB6 m 4 v
 | global g=>simp[cO,evT,Act.eval,VR]
 | func f=>simp[cO,evT,Act.eval,VR]
def avT (X Y C:List AV) (bx:List UInt8) (n k:Nat):Nat→AV
 | 0 | 6=>.lst 0 X n 9
 | 1 | 2 | 7 | 12 | 13 | 18=>.int .i64 (k:Int)
 | 3=>.lst 0 (X.take (k*9)) k 9
 | 4=>.agg C
 | 5=>.lst 0 C 1 9
 | 8=>.lst 0 ((X.drop (k*9)).take ((n-k)*9)) (n-k) 9
 | 9=>.lst 0 (C++(X.drop (k*9)).take ((n-k)*9)) (1+(n-k)) 9
 | 10 | 22=>.lst 0 (X.take (k*9)++(C++(X.drop (k*9)).take ((n-k)*9))) (k+(1+(n-k))) 9
 | 11 | 17=>.lst 0 Y n 1
 | 14=>.lst 0 (Y.take (k*1)) k 1
 | 15=>.str bx
 | 16=>.lst 0 [.str bx] 1 1
 | 19=>.lst 0 ((Y.drop (k*1)).take ((n-k)*1)) (n-k) 1
 | 20=>.lst 0 ([.str bx]++(Y.drop (k*1)).take ((n-k)*1)) (1+(n-k)) 1
 | 21 | 23=>.lst 0 (Y.take (k*1)++([.str bx]++(Y.drop (k*1)).take ((n-k)*1))) (k+(1+(n-k))) 1
 | _=>.undef
def bDf:Nat→Bool
 | 3 | 5 | 14 | 16=>true
 | _=>false
def tvT (X Y C:List AV) (bx:List UInt8) (n k:Nat) (p:AV) (t:Nat):AV:=match t with
 | 10=>.lst 0 X n 9 | 11=>.lst 0 Y n 1 | 20=>.int .i64 (k:Int) | 14=>p | 16=>.str bx
 | t=>avT X Y C bx n k (t-108)
def usT:Nat→List Nat
 | 0 | 6=>[10] | 1 | 2 | 7 | 12 | 13 | 18=>[20] | 3=>[108,109,110] | 4=>[14] | 5=>[112] | 8=>[114,115] | 9=>[113,116] | 10=>[111,117] | 11 | 17=>[11] | 14=>[119,120,121] | 15=>[16] | 16=>[123] | 19=>[125,126] | 20=>[124,127] | 21=>[122,128] | 22=>[118] | 23=>[129] | _=>[]
def bM2 (t:Nat):Option Nat:=bif Nat.blt t 108 then none else some (t-108)
noncomputable def bNu (i:Nat):Bool:=(usT i).all fun t=>match bM2 t with
 | some j=>(afT i).contains j&&Nat.blt j 22
 | none=>(!(Nat.beq t 10)||(afT 22).contains i)&&(!(Nat.beq t 11)||(afT 23).contains i)
theorem aSp:(List.range 24).all bNu=true:=by kernel_rfl

def aC3 (z:Nat) (X:List AV) (k:Nat) (C:List AV):List AV:=X.take (k*z)++(C++X.drop (k*z))
def bMh:AV→Bool
 | .undef=>true
 | _=>false
def bIn (X Y C:List AV) (n n':Nat) (k:Int):Prop:=(0≤k∧k≤n∧n≤1000∧X.length=n*9∧Y.length=n∧n'=n∧C.length=9)∧aL 0 (X++C)=true∧bG (X++C)=true∧aL 0 Y=true∧bG Y=true
def gT (s:S) (Q:Ex→S→Prop):Prop:=match nlV 9 (s.tm.get 10),nlV 1 (s.tm.get 11),s.tm.get 20,s.tm.get 14,s.tm.get 16 with
 | .lst 0 X n 9,.lst 0 Y n' 1,.int .i64 k,.ptr id tot 0,.str bx=>bif cur s.hp id tot&&Nat.ble 9 tot&&((List.range 22).all fun i=>bMh (s.tm.get (108+i))) then
   Lf (bIn X Y (aQ s.hp id 0 9) n n' k)∧Q .nrm ⟨T.put 12 (T.put 12 s.tm 10 (.lst 0 (aC3 9 X k.toNat (aQ s.hp id 0 9)) (n+1) 9)) 11 (.lst 0 (aC3 1 Y k.toNat [.str bx]) (n+1) 1),s.hp⟩ else False
 | _,_,_,_,_=>False
end Go.Proofs.YtnhechnaemmdiaaGreatDoor
