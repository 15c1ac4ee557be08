/-
  Chapter 24: models of reading; goals of read.
-/
import Derived.Test.YtafchcmemeinlaaDoorC24XM
set_option linter.unusedSimpArgs false
set_option linter.unusedVariables false
set_option linter.unusedSectionVars false
namespace Go.Proofs.YtafchcmemeinlaaDoor
open Go.RowKit
set_option maxRecDepth 1000000

abbrev dZ (l:List AV):Prop:=bB 0 l=true∧bQ l=true
theorem cK {n:Nat} {k:BK} {lf:Bool} {l:List AV} (h:dZ l) (hk:k≠.ro):bB n l=true∧bQ l=true∧(lf=true→bB 0 l=true)∧k≠.ro:=⟨dU (Nat.zero_le n) l h.1,h.2,fun _=>h.1,hk⟩
theorem gK {z cs:List AV} (h0:dZ z) (h1:dZ cs):okH [⟨.exact,true,z⟩,⟨.exact,true,cs⟩]:=by
 intro x hx
 simp only[List.mem_cons,List.not_mem_nil,or_false] at hx
 rcases hx with rfl | rfl
 ·exact cK h0 (by simp)
 ·exact cK h1 (by simp)
theorem aZ3 {z cs d:List AV} (h0:dZ z) (h1:dZ cs) (h2:dZ d):okH [⟨.exact,true,z⟩,⟨.exact,true,cs⟩,⟨.grow,true,d⟩]:=by
 intro x hx
 simp only[List.mem_cons,List.not_mem_nil,or_false] at hx
 rcases hx with rfl | rfl | rfl
 ·exact cK h0 (by simp)
 ·exact cK h1 (by simp)
 ·exact cK h2 (by simp)
theorem bLc {z cs d:List AV} (h0:dZ z) (h1:bB 3 cs=true∧bQ cs=true) (h2:dZ d):okH [⟨.exact,true,z⟩,⟨.exact,false,cs⟩,⟨.grow,true,d⟩]:=by
 intro x hx
 simp only[List.mem_cons,List.not_mem_nil,or_false] at hx
 rcases hx with rfl | rfl | rfl
 ·exact cK h0 (by simp)
 ·exact ⟨h1.1,h1.2,fun h=>by simp at h,by simp⟩
 ·exact cK h2 (by simp)
theorem bI3 {z cs d e:List AV} (h0:dZ z) (h1:bB 4 cs=true∧bQ cs=true) (h2:dZ d) (h3:dZ e):okH [⟨.exact,true,z⟩,⟨.exact,false,cs⟩,⟨.grow,true,d⟩,⟨.grow,true,e⟩]:=by
 intro x hx
 simp only[List.mem_cons,List.not_mem_nil,or_false] at hx
 rcases hx with rfl | rfl | rfl | rfl
 ·exact cK h0 (by simp)
 ·exact ⟨h1.1,h1.2,fun h=>by simp at h,by simp⟩
 ·exact cK h2 (by simp)
 ·exact cK h3 (by simp)
theorem aW6 {z cs d e g:List AV} (h0:dZ z) (h1:bB 5 cs=true∧bQ cs=true) (h2:dZ d) (h3:dZ e) (h4:dZ g):okH [⟨.exact,true,z⟩,⟨.exact,false,cs⟩,⟨.exact,true,d⟩,⟨.exact,true,e⟩,⟨.grow,true,g⟩]:=by
 intro x hx
 simp only[List.mem_cons,List.not_mem_nil,or_false] at hx
 rcases hx with rfl | rfl | rfl | rfl | rfl
 ·exact cK h0 (by simp)
 ·exact ⟨h1.1,h1.2,fun h=>by simp at h,by simp⟩
 ·exact cK h2 (by simp)
 ·exact cK h3 (by simp)
 ·exact cK h4 (by simp)
theorem lD {z cs d:List AV} (h0:dZ z) (h1:dZ cs) (h2:dZ d):okH [⟨.exact,true,z⟩,⟨.exact,true,cs⟩,⟨.exact,true,d⟩]:=by
 intro x hx
 simp only[List.mem_cons,List.not_mem_nil,or_false] at hx
 rcases hx with rfl | rfl | rfl
 ·exact cK h0 (by simp)
 ·exact cK h1 (by simp)
 ·exact cK h2 (by simp)
theorem lF {z cs d e g j:List AV} (h0:dZ z) (h1:bB 6 cs=true∧bQ cs=true) (h2:dZ d) (h3:dZ e) (h4:dZ g) (h5:dZ j):okH [⟨.exact,true,z⟩,⟨.exact,false,cs⟩,⟨.exact,true,d⟩,⟨.exact,true,e⟩,⟨.grow,true,g⟩,⟨.exact,true,j⟩]:=by
 intro x hx
 simp only[List.mem_cons,List.not_mem_nil,or_false] at hx
 rcases hx with rfl | rfl | rfl | rfl | rfl | rfl
 ·exact cK h0 (by simp)
 ·exact ⟨h1.1,h1.2,fun h=>by simp at h,by simp⟩
 ·exact cK h2 (by simp)
 ·exact cK h3 (by simp)
 ·exact cK h4 (by simp)
 ·exact cK h5 (by simp)
def gB (l:List UInt8) (b:Bool):Rc×List UInt8×Bool:=
 match tkM 4 l b with
 | (x1,l1,b1)=>match tkM 1 l1 b1 with
  | (x2,l2,b2)=>match tkM 3 l2 b2 with
   | (x3,l3,b3)=>match tkM 4 l3 b3 with
    | (x4,l4,b4)=>match tkM 4 l4 b4 with
     | (x5,l5,b5)=>match tkM 4 l5 b5 with
      | (x6,l6,b6)=>match tkM 4 l6 b6 with
       | (x7,l7,b7)=>((x1,x2,if 8388608≤x3 then x3-16777216 else x3,x4,x5,x6,x7),l7,b7)
def eU:Nat→List UInt8→Bool→List Rc×List UInt8×Bool
 | 0,l,b=>([],l,b)
 | n+1,l,b=>((gB l b).1::(eU n (gB l b).2.1 (gB l b).2.2).1,(eU n (gB l b).2.1 (gB l b).2.2).2)
def bMt:SM:=gH [(58,bAe)]
theorem aGa:∀f g,bMt f=some g→aO Tryd.prog glC f g:=bW _ (by simp only[List.mem_cons,List.not_mem_nil,or_false,forall_eq];exact bEf)
abbrev X59:=Nat×List Rc×List UInt8×Bool×List AV×List AV
def aTf (c:Nat) (l0:List UInt8) (b0:Bool) (i:Nat) (acc:List Rc) (l:List UInt8) (b:Bool):Prop:=acc.length=i∧eU c l0 b0=(acc++(eU (c-i) l b).1,(eU (c-i) l b).2)
def bK6 (s:S):List (List LInv):=match s.tm.get 5,s.hp with
 | .int _ c,[⟨_,_,z⟩,⟨_,_,[c0,c1,c2,c3,c4,c5,c6,c7,_,c9,c10,c11,c12,.str l0,.bool b0]⟩]=>[[
  { α:=Nat,pre:=fun i=>Lf (i=0),st:=fun i=>⟨mkT [(0,.ptr 1 15 0),(5,.int .i64 c),(6,.int .i64 (i:Nat))],s.hp⟩,mu:=fun i=>c.toNat+1 },
  { α:=X59,pre:=fun x=>Lf (1≤x.1∧x.1≤c.toNat∧aTf c.toNat l0 b0 x.1 x.2.1 x.2.2.1 x.2.2.2.1∧dZ x.2.2.2.2.1∧dZ x.2.2.2.2.2),st:=fun x=>⟨mkT [(0,.ptr 1 15 0),(5,.int .i64 c),(6,.int .i64 (x.1:Nat))],[⟨.exact,true,z⟩,⟨.exact,false,[c0,c1,c2,c3,c4,c5,c6,c7,.sl 4 (7*x.2.1.length) 0 x.2.1.length 7,c9,c10,c11,c12,.str x.2.2.1,.bool x.2.2.2.1]⟩,⟨.exact,true,x.2.2.2.2.1⟩,⟨.exact,true,x.2.2.2.2.2⟩,⟨.grow,true,aF x.2.1⟩]⟩,mu:=fun x=>c.toNat-x.1 }]]
 | _,_=>[]
noncomputable def aOl (hv:Nat→Option Pa) (hb:Nat→Option Bool):Env:=e24 bMt (fun i=>bif Nat.beq i 59000 then some bK6 else none) hv hb
noncomputable def aNe (hv:Nat→Option Pa) (hb:Nat→Option Bool) (k c:Int) (s:List UInt8) (Q:Out→List Blk→Gh→Prop):Prop:=
 bH (aOl hv hb) (wpx (aOl hv hb) 1000) 38 [.int .i64 k,.int .i64 c,.str s] [] {} Q
noncomputable def vC (hv:Nat→Option Pa) (hb:Nat→Option Bool) (c:Nat) (s:List UInt8) (Q:Out→List Blk→Gh→Prop):Prop:=aNe hv hb 203 (c:Int) s Q
abbrev aAb:Prop:=(0:Int)≤(4:Int)
abbrev zT:Prop:=(4:Int)≤(4:Int)
abbrev aDw:Blk:=Blk.mk BK.exact true [.int .i64 0,.int .i64 0,.int .i64 0,.int .i64 0,.int .i64 0,.int .i64 0,.int .i64 0,.int .i64 0,.nils,.nils,.int .i64 0,.int .i64 0,.nils]
abbrev aY2 (s:List UInt8):Prop:=Lf (aAb∧zT∧okH [aDw,Blk.mk BK.exact true [.int .i64 0,.int .i64 0,.int .i64 0,.int .i64 0,.int .i64 0,.int .i64 0,.int .i64 0,.int .i64 0,.nils,.nils,.int .i64 0,.int .i64 0,.nils,.str s,.bool false]])
abbrev aFs (s:List UInt8) (n_0:Int) (l'_1:List UInt8) (b'_2:Bool):Prop:=Lf (tkM (Int.toNat 4) s false=Prod.mk n_0 (Prod.mk l'_1 b'_2))
abbrev bL3 (n_0:Int):AV:=.agg [.int .i64 3,.int .i64 n_0,.int .i64 0,.int .i64 0,.int .i64 0,.int .i64 0,.int .i64 0,.int .i64 0,.nils,.nils,.int .i64 0,.int .i64 0,.nils]
abbrev uJ (l'_1:List UInt8):Bool:=bK [.str l'_1] [.str l'_1]&&true
theorem bHg (c:Nat) (s:List UInt8) (Q:Out→List Blk→Gh→Prop):vC (bG []) (bF []) c s Q=(aY2 s∧∀n_0:Int,∀l'_1:List UInt8,∀b'_2:Bool,aFs s n_0 l'_1 b'_2→bif b'_2 then Q (.ret (.tup [bL3 n_0,.bool false])) [] {} else bif eqB l'_1 [] then ckQ (uJ l'_1) (Q (.ret (.tup [bL3 n_0,.bool true])) [] {}) else ckQ (uJ l'_1) (Q (.ret (.tup [bL3 n_0,.bool false])) [] {})):=by kernel_rfl

noncomputable def uP (hv:Nat→Option Pa) (hb:Nat→Option Bool) (c:Nat) (s:List UInt8) (Q:Out→List Blk→Gh→Prop):Prop:=aNe hv hb 206 (c:Int) s Q
abbrev xO (l'_1:List UInt8) (b'_2:Bool) (n_3:Int) (l'_4:List UInt8) (b'_5:Bool):Prop:=Lf (tkM (Int.toNat 4) l'_1 b'_2=Prod.mk n_3 (Prod.mk l'_4 b'_5))
abbrev bL7 (n_0 n_3:Int):AV:=.agg [.int .i64 5,.int .i64 n_0,.int .i64 n_3,.int .i64 0,.int .i64 0,.int .i64 0,.int .i64 0,.int .i64 0,.nils,.nils,.int .i64 0,.int .i64 0,.nils]
theorem bGv (c:Nat) (s:List UInt8) (Q:Out→List Blk→Gh→Prop):uP (bG []) (bF []) c s Q=(aY2 s∧∀n_0:Int,∀l'_1:List UInt8,∀b'_2:Bool,aFs s n_0 l'_1 b'_2→Lf (aAb∧zT∧okH [aDw,Blk.mk BK.exact true [.int .i64 0,.int .i64 n_0,.int .i64 0,.int .i64 0,.int .i64 0,.int .i64 0,.int .i64 0,.int .i64 0,.nils,.nils,.int .i64 0,.int .i64 0,.nils,.str l'_1,.bool b'_2]])∧∀n_3:Int,∀l'_4:List UInt8,∀b'_5:Bool,xO l'_1 b'_2 n_3 l'_4 b'_5→bif b'_5 then Q (.ret (.tup [bL7 n_0 n_3,.bool false])) [] {} else bif eqB l'_4 [] then ckQ (uJ l'_4) (Q (.ret (.tup [bL7 n_0 n_3,.bool true])) [] {}) else ckQ (uJ l'_4) (Q (.ret (.tup [bL7 n_0 n_3,.bool false])) [] {})):=by kernel_rfl

noncomputable def vB (hv:Nat→Option Pa) (hb:Nat→Option Bool) (c:Nat) (s:List UInt8) (Q:Out→List Blk→Gh→Prop):Prop:=aNe hv hb 201 (c:Int) s Q
def aBo:Prop:=(
((((AV.int .i64 (0:Int))::((AV.int .i64 (0:Int))::((AV.int .i64 (0:Int))::((AV.int .i64 (0:Int))::((AV.int .i64 (0:Int))::((AV.int .i64 (0:Int))::((AV.int .i64 (0:Int))::((AV.int .i64 (0:Int))::(AV.nils::(AV.nils::((AV.int .i64 (0:Int))::((AV.int .i64 (0:Int))::(AV.nils::[])))))))))))))=((AV.int .i64 (0:Int))::((AV.int .i64 (0:Int))::((AV.int .i64 (0:Int))::((AV.int .i64 (0:Int))::((AV.int .i64 (0:Int))::((AV.int .i64 (0:Int))::((AV.int .i64 (0:Int))::((AV.int .i64 (0:Int))::(AV.nils::(AV.nils::((AV.int .i64 (0:Int))::((AV.int .i64 (0:Int))::(AV.nils::[])))))))))))))) ∧
 False))
def aUi (c:Nat):Prop:=(
(∃y_0:Nat,((Lf (y_0=(0:Nat))) ∧
 ((((Int.toNat (Nat.cast c:Int))+(1:Nat))<((Int.toNat (Nat.cast c:Int))+(1:Nat))) ∧
 aBo))))
abbrev aA1 (n_0:Int) (x_3:Nat×List Rc×List UInt8×Bool×List AV×List AV) (l'_11:List UInt8) (b'_12:Bool) (n_4:Int) (n_7:Int) (n_13:Int) (c:Nat) (l'_1:List UInt8) (b'_2:Bool):Prop:=
Lf ((0:Int)≤(4:Int)∧(4:Int)≤(4:Int)∧okH [Blk.mk BK.exact true [.int .i64 0,.int .i64 0,.int .i64 0,.int .i64 0,.int .i64 0,.int .i64 0,.int .i64 0,.int .i64 0,.nils,.nils,.int .i64 0,.int .i64 0,.nils],Blk.mk
 BK.exact false [.int .i64 2,.int .i64 n_0,.int .i64 0,.int .i64 0,.int .i64 0,.int .i64 0,.int .i64 0,.int .i64 0,.sl 4 (7*x_3.2.1.length) 0 x_3.2.1.length 7,.nils,.int .i64 0,.int .i64 0,.nils,.str l'_11,.bool b'_12],
 Blk.mk BK.exact true x_3.2.2.2.2.1,Blk.mk BK.exact true x_3.2.2.2.2.2,Blk.mk BK.grow true (aF x_3.2.1),Blk.mk BK.exact true [.int .i64 n_4,.int .i64 n_7,.int .i64 n_13,.int .i64 0,.int .i64 0,.int .i64 0,.int .i64 0]])∧∀
 n_14:Int,∀l'_15:List UInt8,∀b'_16:Bool,Lf (tkM (Int.toNat 4) l'_11 b'_12=Prod.mk n_14 (Prod.mk l'_15 b'_16))→Lf ((0:Int)≤(4:Int)∧(4:Int)≤(4:Int)∧okH [Blk.mk BK.exact true [.int .i64 0,.int .i64 0,.int .i64
 0,.int .i64 0,.int .i64 0,.int .i64 0,.int .i64 0,.int .i64 0,.nils,.nils,.int .i64 0,.int .i64 0,.nils],Blk.mk BK.exact false [.int .i64 2,.int .i64 n_0,.int .i64 0,.int .i64 0,.int .i64 0,.int .i64 0,.int .i64 0,.int
 .i64 0,.sl 4 (7*x_3.2.1.length) 0 x_3.2.1.length 7,.nils,.int .i64 0,.int .i64 0,.nils,.str l'_15,.bool b'_16],Blk.mk BK.exact true x_3.2.2.2.2.1,Blk.mk BK.exact true x_3.2.2.2.2.2,Blk.mk BK.grow true (aF x_3.2.1),Blk.mk
 BK.exact true [.int .i64 n_4,.int .i64 n_7,.int .i64 n_13,.int .i64 0,.int .i64 0,.int .i64 0,.int .i64 0]])∧∀n_17:Int,∀l'_18:List UInt8,∀b'_19:Bool,Lf (tkM (Int.toNat 4) l'_15 b'_16=Prod.mk n_17 (Prod.mk l'_18
 b'_19))→Lf ((0:Int)≤(4:Int)∧(4:Int)≤(4:Int)∧okH [Blk.mk BK.exact true [.int .i64 0,.int .i64 0,.int .i64 0,.int .i64 0,.int .i64 0,.int .i64 0,.int .i64 0,.int .i64 0,.nils,.nils,.int .i64 0,.int .i64 0,
 .nils],Blk.mk BK.exact false [.int .i64 2,.int .i64 n_0,.int .i64 0,.int .i64 0,.int .i64 0,.int .i64 0,.int .i64 0,.int .i64 0,.sl 4 (7*x_3.2.1.length) 0 x_3.2.1.length 7,.nils,.int .i64 0,.int .i64 0,.nils,.str l'_18,
 .bool b'_19],Blk.mk BK.exact true x_3.2.2.2.2.1,Blk.mk BK.exact true x_3.2.2.2.2.2,Blk.mk BK.grow true (aF x_3.2.1),Blk.mk BK.exact true [.int .i64 n_4,.int .i64 n_7,.int .i64 n_13,.int .i64 0,.int .i64 0,.int .i64 0,.int
 .i64 0]])∧∀n_20:Int,∀l'_21:List UInt8,∀b'_22:Bool,Lf (tkM (Int.toNat 4) l'_18 b'_19=Prod.mk n_20 (Prod.mk l'_21 b'_22))→Lf ((0:Int)≤(4:Int)∧(4:Int)≤(4:Int)∧okH [Blk.mk BK.exact true [.int .i64 0,.int .i64
 0,.int .i64 0,.int .i64 0,.int .i64 0,.int .i64 0,.int .i64 0,.int .i64 0,.nils,.nils,.int .i64 0,.int .i64 0,.nils],Blk.mk BK.exact false [.int .i64 2,.int .i64 n_0,.int .i64 0,.int .i64 0,.int .i64 0,.int .i64 0,.int
 .i64 0,.int .i64 0,.sl 4 (7*x_3.2.1.length) 0 x_3.2.1.length 7,.nils,.int .i64 0,.int .i64 0,.nils,.str l'_21,.bool b'_22],Blk.mk BK.exact true x_3.2.2.2.2.1,Blk.mk BK.exact true x_3.2.2.2.2.2,Blk.mk BK.grow true (aF
 x_3.2.1),Blk.mk BK.exact true [.int .i64 n_4,.int .i64 n_7,.int .i64 n_13,.int .i64 0,.int .i64 0,.int .i64 0,.int .i64 0]])∧∀n_23:Int,∀l'_24:List UInt8,∀b'_25:Bool,Lf (tkM (Int.toNat 4) l'_21 b'_22=Prod.mk n_23
 (Prod.mk l'_24 b'_25))→ckQ (Nat.beq (aF x_3.2.1).length (7*x_3.2.1.length)&&true&&Nat.beq (0+x_3.2.1.length*7) (7*x_3.2.1.length)&&Nat.ble (x_3.2.1.length+1) 1099511627776&&Nat.ble ((x_3.2.1.length+1)*56)
 1099511627776) (exW .i64 ((x_3.1:Int)+1) fun n_26=>(True∧(0:Nat)=(0:Nat))∧((∃y_27:Nat,Lf (y_27=0)∧(c:Int).toNat+1<(c:Int).toNat-x_3.1∧aBo)∨∃y_27:Nat×List Rc×List UInt8×Bool×List AV ×
 List AV,Lf (1≤y_27.1∧y_27.1≤(c:Int).toNat∧aTf (c:Int).toNat l'_1 b'_2 y_27.1 y_27.2.1 y_27.2.2.1 y_27.2.2.2.1∧dZ y_27.2.2.2.2.1∧dZ y_27.2.2.2.2.2)∧(c:Int).toNat-y_27.1<(c:Int).toNat-x_3.1∧aK [AV.int
 .i64 0,.int .i64 0,.int .i64 0,.int .i64 0,.int .i64 0,.int .i64 0,.int .i64 0,.int .i64 0,.nils,.nils,.int .i64 0,.int .i64 0,.nils]∧[AV.int .i64 2,.int .i64 n_0,.int .i64 0,.int .i64 0,.int .i64 0,.int .i64 0,.int
 .i64 0,.int .i64 0,.sl 4 (7*x_3.2.1.length+7) 0 (x_3.2.1.length+1) 7,.nils,.int .i64 0,.int .i64 0,.nils,.str l'_24,.bool b'_25]=[AV.int .i64 2,.int .i64 n_0,.int .i64 0,.int .i64 0,.int .i64 0,.int .i64 0,.int .i64
 0,.int .i64 0,.sl 4 (7*y_27.2.1.length) 0 y_27.2.1.length 7,.nils,.int .i64 0,.int .i64 0,.nils,.str y_27.2.2.1,.bool y_27.2.2.2.1]∧x_3.2.2.2.2.1=y_27.2.2.2.2.1∧x_3.2.2.2.2.2=y_27.2.2.2.2.2∧aF x_3.2.1++[AV.int
 .i64 n_4,.int .i64 n_7,.int .i64 n_13,.int .i64 n_14,.int .i64 n_17,.int .i64 n_20,.int .i64 n_23]=aF y_27.2.1∧aK (AV.ptr 1 15 0)∧aK (AV.int .i64 (c:Int))∧AV.int .i64 n_26=AV.int .i64 (y_27.1:Int)∧True))
abbrev aAo (n_0:Int) (l'_11:List UInt8) (b'_12:Bool) (n_4:Int) (n_7:Int) (n_13:Int) (x_3:Nat) (c:Nat) (l'_1:List UInt8) (b'_2:Bool):Prop:=
Lf ((0:Int)≤(4:Int)∧(4:Int)≤(4:Int)∧okH [Blk.mk BK.exact true [.int .i64 0,.int .i64 0,.int .i64 0,.int .i64 0,.int .i64 0,.int .i64 0,.int .i64 0,.int .i64 0,.nils,.nils,.int .i64 0,.int .i64 0,.nils],Blk.mk
 BK.exact true [.int .i64 2,.int .i64 n_0,.int .i64 0,.int .i64 0,.int .i64 0,.int .i64 0,.int .i64 0,.int .i64 0,.nils,.nils,.int .i64 0,.int .i64 0,.nils,.str l'_11,.bool b'_12],Blk.mk BK.exact true [.int .i64 n_4,.int
 .i64 n_7,.int .i64 n_13,.int .i64 0,.int .i64 0,.int .i64 0,.int .i64 0]])∧∀n_14:Int,∀l'_15:List UInt8,∀b'_16:Bool,Lf (tkM (Int.toNat 4) l'_11 b'_12=Prod.mk n_14 (Prod.mk l'_15 b'_16))→Lf ((0:Int)≤(4:Int)∧(4
 : Int)≤(4:Int)∧okH [Blk.mk BK.exact true [.int .i64 0,.int .i64 0,.int .i64 0,.int .i64 0,.int .i64 0,.int .i64 0,.int .i64 0,.int .i64 0,.nils,.nils,.int .i64 0,.int .i64 0,.nils],Blk.mk BK.exact true [.int .i64 2,.int
 .i64 n_0,.int .i64 0,.int .i64 0,.int .i64 0,.int .i64 0,.int .i64 0,.int .i64 0,.nils,.nils,.int .i64 0,.int .i64 0,.nils,.str l'_15,.bool b'_16],Blk.mk BK.exact true [.int .i64 n_4,.int .i64 n_7,.int .i64 n_13,.int .i64
 0,.int .i64 0,.int .i64 0,.int .i64 0]])∧∀n_17:Int,∀l'_18:List UInt8,∀b'_19:Bool,Lf (tkM (Int.toNat 4) l'_15 b'_16=Prod.mk n_17 (Prod.mk l'_18 b'_19))→Lf ((0:Int)≤(4:Int)∧(4:Int)≤(4:Int)∧okH [Blk.mk
 BK.exact true [.int .i64 0,.int .i64 0,.int .i64 0,.int .i64 0,.int .i64 0,.int .i64 0,.int .i64 0,.int .i64 0,.nils,.nils,.int .i64 0,.int .i64 0,.nils],Blk.mk BK.exact true [.int .i64 2,.int .i64 n_0,.int .i64 0,.int .i64
 0,.int .i64 0,.int .i64 0,.int .i64 0,.int .i64 0,.nils,.nils,.int .i64 0,.int .i64 0,.nils,.str l'_18,.bool b'_19],Blk.mk BK.exact true [.int .i64 n_4,.int .i64 n_7,.int .i64 n_13,.int .i64 0,.int .i64 0,.int .i64 0,.int
 .i64 0]])∧∀n_20:Int,∀l'_21:List UInt8,∀b'_22:Bool,Lf (tkM (Int.toNat 4) l'_18 b'_19=Prod.mk n_20 (Prod.mk l'_21 b'_22))→Lf ((0:Int)≤(4:Int)∧(4:Int)≤(4:Int)∧okH [Blk.mk BK.exact true [.int .i64 0,.int .i64
 0,.int .i64 0,.int .i64 0,.int .i64 0,.int .i64 0,.int .i64 0,.int .i64 0,.nils,.nils,.int .i64 0,.int .i64 0,.nils],Blk.mk BK.exact true [.int .i64 2,.int .i64 n_0,.int .i64 0,.int .i64 0,.int .i64 0,.int .i64 0,.int
 .i64 0,.int .i64 0,.nils,.nils,.int .i64 0,.int .i64 0,.nils,.str l'_21,.bool b'_22],Blk.mk BK.exact true [.int .i64 n_4,.int .i64 n_7,.int .i64 n_13,.int .i64 0,.int .i64 0,.int .i64 0,.int .i64 0]])∧∀n_23:Int,∀l'_24
 : List UInt8,∀b'_25:Bool,Lf (tkM (Int.toNat 4) l'_21 b'_22=Prod.mk n_23 (Prod.mk l'_24 b'_25))→exW .i64 ((x_3:Int)+1) fun n_26=>(True∧(0:Nat)=(0:Nat))∧(aUi c∨∃y_27:Nat×List Rc×List UInt8×Bool×List
 AV×List AV,Lf (1≤y_27.1∧y_27.1≤(c:Int).toNat∧aTf (c:Int).toNat l'_1 b'_2 y_27.1 y_27.2.1 y_27.2.2.1 y_27.2.2.2.1∧dZ y_27.2.2.2.2.1∧dZ y_27.2.2.2.2.2)∧(c:Int).toNat-y_27.1<(c:Int).toNat+1∧aK [AV.int
 .i64 0,.int .i64 0,.int .i64 0,.int .i64 0,.int .i64 0,.int .i64 0,.int .i64 0,.int .i64 0,.nils,.nils,.int .i64 0,.int .i64 0,.nils]∧[AV.int .i64 2,.int .i64 n_0,.int .i64 0,.int .i64 0,.int .i64 0,.int .i64 0,.int
 .i64 0,.int .i64 0,.sl 4 7 0 1 7,.nils,.int .i64 0,.int .i64 0,.nils,.str l'_24,.bool b'_25]=[AV.int .i64 2,.int .i64 n_0,.int .i64 0,.int .i64 0,.int .i64 0,.int .i64 0,.int .i64 0,.int .i64 0,.sl 4 (7*y_27.2.1.length)
 0 y_27.2.1.length 7,.nils,.int .i64 0,.int .i64 0,.nils,.str y_27.2.2.1,.bool y_27.2.2.2.1]∧[AV.int .i64 n_4,.int .i64 n_7,.int .i64 n_13,.int .i64 n_14,.int .i64 n_17,.int .i64 n_20,.int .i64 n_23]=y_27.2.2.2.2.1∧[AV.int
 .i64 n_4,.int .i64 n_7,.int .i64 n_13,.int .i64 n_14,.int .i64 n_17,.int .i64 n_20,.int .i64 n_23]=y_27.2.2.2.2.2∧[AV.int .i64 n_4,.int .i64 n_7,.int .i64 n_13,.int .i64 n_14,.int .i64 n_17,.int .i64 n_20,.int .i64 n_23] =
 aF y_27.2.1∧aK (AV.ptr 1 15 0)∧aK (AV.int .i64 (c:Int))∧AV.int .i64 n_26=AV.int .i64 (y_27.1:Int)∧True)
abbrev aAg (Q:Out→List Blk→Gh→Prop) (n_0:Int) (x_3:Nat×List Rc×List UInt8×Bool×List AV×List AV):Prop:=
Q (.ret (.tup [.agg [.int .i64 2,.int .i64 n_0,.int .i64 0,.int .i64 0,.int .i64 0,.int .i64 0,.int .i64 0,.int .i64 0,.sl 4 (7*x_3.2.1.length) 0 x_3.2.1.length 7,.nils,.int .i64 0,.int .i64 0,.nils],.bool false])) [Blk.mk
 BK.exact false [.int .i64 2,.int .i64 n_0,.int .i64 0,.int .i64 0,.int .i64 0,.int .i64 0,.int .i64 0,.int .i64 0,.sl 4 (7*x_3.2.1.length) 0 x_3.2.1.length 7,.nils,.int .i64 0,.int .i64 0,.nils],Blk.mk BK.exact false [.int
 .i64 2,.int .i64 n_0,.int .i64 0,.int .i64 0,.int .i64 0,.int .i64 0,.int .i64 0,.int .i64 0,.sl 4 (7*x_3.2.1.length) 0 x_3.2.1.length 7,.nils,.int .i64 0,.int .i64 0,.nils,.str x_3.2.2.1,.bool x_3.2.2.2.1],Blk.mk BK.exact
 true x_3.2.2.2.2.1,Blk.mk BK.exact true x_3.2.2.2.2.2,Blk.mk BK.grow true (aF x_3.2.1)] {}
abbrev aVd:Prop:=aK [AV.int .i64 0,.int .i64 0,.int .i64 0,.int .i64 0,.int .i64 0,.int .i64 0,.int .i64 0,.int .i64 0,.nils,.nils,.int .i64 0,.int .i64 0,.nils]
abbrev aTi (c x_3:Nat):Prop:=aK (AV.ptr 1 15 0)∧aK (AV.int .i64 (c:Int))∧AV.int .i64 0=AV.int .i64 (x_3:Int)∧True
abbrev bGc (x_3:Nat×List Rc×List UInt8×Bool×List AV×List AV) (c:Nat) (l'_1:List UInt8) (b'_2:Bool):Prop:=Lf (1≤x_3.1∧x_3.1≤(c:Int).toNat∧aTf (c:Int).toNat l'_1 b'_2 x_3.1 x_3.2.1 x_3.2.2.1 x_3.2.2.2.1∧dZ x_3.2.2.2.2.1∧dZ x_3.2.2.2.2.2)
abbrev bMh (n_0:Int) (l'_1:List UInt8) (b'_2:Bool):Blk:=Blk.mk BK.exact true [.int .i64 2,.int .i64 n_0,.int .i64 0,.int .i64 0,.int .i64 0,.int .i64 0,.int .i64 0,.int .i64 0,.nils,.nils,.int .i64 0,.int .i64 0,.nils,.str l'_1,.bool b'_2]
abbrev aL0:Prop:=(0:Int)≤(1:Int)
abbrev aM0:Prop:=(1:Int)≤(4:Int)
abbrev aMq:Prop:=(0:Int)≤(3:Int)
abbrev aLc:Prop:=(3:Int)≤(4:Int)
abbrev bGd (n_4 n_7:Int):Blk:=Blk.mk BK.exact true [.int .i64 n_4,.int .i64 n_7,.int .i64 0,.int .i64 0,.int .i64 0,.int .i64 0,.int .i64 0]
abbrev bMf (n_0:Int):AV:=.agg [.int .i64 2,.int .i64 n_0,.int .i64 0,.int .i64 0,.int .i64 0,.int .i64 0,.int .i64 0,.int .i64 0,.nils,.nils,.int .i64 0,.int .i64 0,.nils]
abbrev aTe (x_3:Nat×List Rc×List UInt8×Bool×List AV×List AV):AV:=.sl 4 (7*x_3.2.1.length) 0 x_3.2.1.length 7
abbrev bE1 (n_0:Int) (x_3:Nat×List Rc×List UInt8×Bool×List AV×List AV):Blk:=Blk.mk BK.exact false [.int .i64 2,.int .i64 n_0,.int .i64 0,.int .i64 0,.int .i64 0,.int .i64 0,.int .i64 0,.int .i64 0,aTe x_3,.nils,.int .i64 0,.int .i64 0,.nils,.str x_3.2.2.1,.bool x_3.2.2.2.1]
abbrev zU (x_3:Nat×List Rc×List UInt8×Bool×List AV×List AV):Blk:=Blk.mk BK.exact true x_3.2.2.2.2.1
abbrev zK (x_3:Nat×List Rc×List UInt8×Bool×List AV×List AV):Blk:=Blk.mk BK.exact true x_3.2.2.2.2.2
abbrev zF (x_3:Nat×List Rc×List UInt8×Bool×List AV×List AV):Blk:=Blk.mk BK.grow true (aF x_3.2.1)
abbrev bCi (n_0:Int) (x_3:Nat×List Rc×List UInt8×Bool×List AV×List AV) (l'_5:List UInt8) (b'_6:Bool):Blk:=Blk.mk BK.exact false [.int .i64 2,.int .i64 n_0,.int .i64 0,.int .i64 0,.int .i64 0,.int .i64 0,.int .i64 0,.int .i64 0,aTe x_3,.nils,.int .i64 0,.int .i64 0,.nils,.str l'_5,.bool b'_6]
abbrev aLo (x_3:Nat×List Rc×List UInt8×Bool×List AV×List AV):Bool:=bK [.str x_3.2.2.1] [.str x_3.2.2.1]&&true
abbrev bDz (n_0:Int) (x_3:Nat×List Rc×List UInt8×Bool×List AV×List AV):List AV:=[.int .i64 2,.int .i64 n_0,.int .i64 0,.int .i64 0,.int .i64 0,.int .i64 0,.int .i64 0,.int .i64 0,aTe x_3,.nils,.int .i64 0,.int .i64 0,.nils]
theorem bJs (c:Nat) (s:List UInt8) (Q:Out→List Blk→Gh→Prop):vB (bG [(241685,.int .i64),(241711,.int .i64)]) (bF []) c s Q=(aY2 s∧∀n_0:Int,∀l'_1:List UInt8,∀b'_2:Bool,aFs s n_0 l'_1 b'_2 →
 ((∃x_3:Nat,Lf (x_3=0)∧aVd∧aK [AV.int .i64 2,.int .i64 n_0,.int .i64 0,.int .i64 0,.int .i64 0,.int .i64 0,.int .i64 0,.int .i64 0,.nils,.nils,.int .i64 0,.int .i64 0,.nils,.str l'_1,.bool b'_2]∧aTi c x_3) ∨
 ∃x_3:Nat×List Rc×List UInt8×Bool×List AV×List AV,bGc x_3 c l'_1 b'_2∧aBo)∧(∀x_3:Nat,Lf (x_3=0)→bif decide ((x_3:Int)<(c:Int)) then Lf (aAb∧zT∧okH [aDw,bMh n_0 l'_1 b'_2])∧∀n_4:Int,∀
 l'_5:List UInt8,∀b'_6:Bool,xO l'_1 b'_2 n_4 l'_5 b'_6→Lf (aL0∧aM0∧okH [aDw,bMh n_0 l'_5 b'_6])∧∀n_7:Int,∀l'_8:List UInt8,∀b'_9:Bool,Lf (tkM (Int.toNat 1) l'_5 b'_6=Prod.mk n_7 (Prod.mk l'_8 b'_9)) →
 Lf (aMq∧aLc∧okH [aDw,bMh n_0 l'_8 b'_9,bGd n_4 n_7])∧∀n_10:Int,∀l'_11:List UInt8,∀b'_12:Bool,Lf (tkM (Int.toNat 3) l'_8 b'_9=Prod.mk n_10 (Prod.mk l'_11 b'_12))→bif decide (n_10≥8388608) then exW .i64 (n_10
 - 16777216) (fun n_13=>aAo n_0 l'_11 b'_12 n_4 n_7 n_13 x_3 c l'_1 b'_2) else aAo n_0 l'_11 b'_12 n_4 n_7 n_10 x_3 c l'_1 b'_2 else bif b'_2 then Q (.ret (.tup [bMf n_0,.bool false])) [] {} else bif eqB l'_1 [] then ckQ
 (uJ l'_1) (Q (.ret (.tup [bMf n_0,.bool true])) [] {}) else ckQ (uJ l'_1) (Q (.ret (.tup [bMf n_0,.bool false])) [] {}))∧∀x_3:Nat×List Rc×List UInt8×Bool×List AV×List AV,bGc x_3 c l'_1 b'_2→bif decide ((x_3.1 :
 Int)<(c:Int)) then Lf (aAb∧zT∧okH [aDw,bE1 n_0 x_3,zU x_3,zK x_3,zF x_3])∧∀n_4:Int,∀l'_5:List UInt8,∀b'_6:Bool,Lf (tkM (Int.toNat 4) x_3.2.2.1 x_3.2.2.2.1=Prod.mk n_4 (Prod.mk l'_5 b'_6))→Lf
 (aL0∧aM0∧okH [aDw,bCi n_0 x_3 l'_5 b'_6,zU x_3,zK x_3,zF x_3])∧∀n_7:Int,∀l'_8:List UInt8,∀b'_9:Bool,Lf (tkM (Int.toNat 1) l'_5 b'_6=Prod.mk n_7 (Prod.mk l'_8 b'_9))→Lf (aMq∧aLc∧okH [aDw,
 bCi n_0 x_3 l'_8 b'_9,zU x_3,zK x_3,zF x_3,bGd n_4 n_7])∧∀n_10:Int,∀l'_11:List UInt8,∀b'_12:Bool,Lf (tkM (Int.toNat 3) l'_8 b'_9=Prod.mk n_10 (Prod.mk l'_11 b'_12))→bif decide (n_10≥8388608) then exW
 .i64 (n_10-16777216) (fun n_13=>aA1 n_0 x_3 l'_11 b'_12 n_4 n_7 n_13 c l'_1 b'_2) else aA1 n_0 x_3 l'_11 b'_12 n_4 n_7 n_10 c l'_1 b'_2 else bif x_3.2.2.2.1 then aAg Q n_0 x_3 else bif eqB x_3.2.2.1 [] then ckQ
 (aLo x_3) (Q (.ret (.tup [.agg (bDz n_0 x_3),.bool true])) [Blk.mk BK.exact false (bDz n_0 x_3),bE1 n_0 x_3,zU x_3,zK x_3,zF x_3] {}) else ckQ (aLo x_3) (aAg Q n_0 x_3)):=by kernel_rfl

noncomputable def vF (hv:Nat→Option Pa) (hb:Nat→Option Bool) (c:Nat) (s:List UInt8) (Q:Out→List Blk→Gh→Prop):Prop:=aNe hv hb 200 (c:Int) s Q
def aBm:Prop:=(
((((AV.int .i64 (0:Int))::((AV.int .i64 (0:Int))::((AV.int .i64 (0:Int))::((AV.int .i64 (0:Int))::((AV.int .i64 (0:Int))::((AV.int .i64 (0:Int))::((AV.int .i64 (0:Int))::((AV.int .i64 (0:Int))::(AV.nils::(AV.nils::((AV.int .i64 (0:Int))::((AV.int .i64 (0:Int))::(AV.nils::[])))))))))))))=((AV.int .i64 (0:Int))::((AV.int .i64 (0:Int))::((AV.int .i64 (0:Int))::((AV.int .i64 (0:Int))::((AV.int .i64 (0:Int))::((AV.int .i64 (0:Int))::((AV.int .i64 (0:Int))::((AV.int .i64 (0:Int))::(AV.nils::(AV.nils::((AV.int .i64 (0:Int))::((AV.int .i64 (0:Int))::(AV.nils::[])))))))))))))) ∧
 False))
def aU4 (c:Nat):Prop:=(
(∃y_0:Nat,((Lf (y_0=(0:Nat))) ∧
 ((((Int.toNat (Nat.cast c:Int))+(1:Nat))<((Int.toNat (Nat.cast c:Int))+(1:Nat))) ∧
 aBm))))
abbrev aA9 (n_0:Int) (n_3:Int) (n_6:Int) (n_9:Int) (n_12:Int) (n_15:Int) (x_18:Nat×List Rc×List UInt8×Bool×List AV×List AV) (l'_26:List UInt8) (b'_27:Bool) (n_19:Int) (n_22:Int) (n_28:Int) (c:Nat) (l'_16:List UInt8) (b'_17:Bool):Prop:=
Lf ((0:Int)≤(4:Int)∧(4:Int)≤(4:Int)∧okH [Blk.mk BK.exact true [.int .i64 0,.int .i64 0,.int .i64 0,.int .i64 0,.int .i64 0,.int .i64 0,.int .i64 0,.int .i64 0,.nils,.nils,.int .i64 0,.int .i64 0,.nils],Blk.mk
 BK.exact false [.int .i64 1,.int .i64 n_0,.int .i64 0,.int .i64 n_3,.int .i64 n_6,.int .i64 n_9,.int .i64 n_12,.int .i64 n_15,.sl 4 (7*x_18.2.1.length) 0 x_18.2.1.length 7,.nils,.int .i64 0,.int .i64 0,.nils,.str l'_26,
 .bool b'_27],Blk.mk BK.exact true x_18.2.2.2.2.1,Blk.mk BK.exact true x_18.2.2.2.2.2,Blk.mk BK.grow true (aF x_18.2.1),Blk.mk BK.exact true [.int .i64 n_19,.int .i64 n_22,.int .i64 n_28,.int .i64 0,.int .i64 0,.int .i64 0,
 .int .i64 0]])∧∀n_29:Int,∀l'_30:List UInt8,∀b'_31:Bool,Lf (tkM (Int.toNat 4) l'_26 b'_27=Prod.mk n_29 (Prod.mk l'_30 b'_31))→Lf ((0:Int)≤(4:Int)∧(4:Int)≤(4:Int)∧okH [Blk.mk BK.exact true [.int .i64 0,.int
 .i64 0,.int .i64 0,.int .i64 0,.int .i64 0,.int .i64 0,.int .i64 0,.int .i64 0,.nils,.nils,.int .i64 0,.int .i64 0,.nils],Blk.mk BK.exact false [.int .i64 1,.int .i64 n_0,.int .i64 0,.int .i64 n_3,.int .i64 n_6,.int .i64
 n_9,.int .i64 n_12,.int .i64 n_15,.sl 4 (7*x_18.2.1.length) 0 x_18.2.1.length 7,.nils,.int .i64 0,.int .i64 0,.nils,.str l'_30,.bool b'_31],Blk.mk BK.exact true x_18.2.2.2.2.1,Blk.mk BK.exact true x_18.2.2.2.2.2,Blk.mk
 BK.grow true (aF x_18.2.1),Blk.mk BK.exact true [.int .i64 n_19,.int .i64 n_22,.int .i64 n_28,.int .i64 0,.int .i64 0,.int .i64 0,.int .i64 0]])∧∀n_32:Int,∀l'_33:List UInt8,∀b'_34:Bool,Lf (tkM (Int.toNat 4) l'_30
 b'_31=Prod.mk n_32 (Prod.mk l'_33 b'_34))→Lf ((0:Int)≤(4:Int)∧(4:Int)≤(4:Int)∧okH [Blk.mk BK.exact true [.int .i64 0,.int .i64 0,.int .i64 0,.int .i64 0,.int .i64 0,.int .i64 0,.int .i64 0,.int .i64 0,.nils,
 .nils,.int .i64 0,.int .i64 0,.nils],Blk.mk BK.exact false [.int .i64 1,.int .i64 n_0,.int .i64 0,.int .i64 n_3,.int .i64 n_6,.int .i64 n_9,.int .i64 n_12,.int .i64 n_15,.sl 4 (7*x_18.2.1.length) 0 x_18.2.1.length 7,.nils,
 .int .i64 0,.int .i64 0,.nils,.str l'_33,.bool b'_34],Blk.mk BK.exact true x_18.2.2.2.2.1,Blk.mk BK.exact true x_18.2.2.2.2.2,Blk.mk BK.grow true (aF x_18.2.1),Blk.mk BK.exact true [.int .i64 n_19,.int .i64 n_22,.int .i64
 n_28,.int .i64 0,.int .i64 0,.int .i64 0,.int .i64 0]])∧∀n_35:Int,∀l'_36:List UInt8,∀b'_37:Bool,Lf (tkM (Int.toNat 4) l'_33 b'_34=Prod.mk n_35 (Prod.mk l'_36 b'_37))→Lf ((0:Int)≤(4:Int)∧(4:Int)≤(4:Int) ∧
 okH [Blk.mk BK.exact true [.int .i64 0,.int .i64 0,.int .i64 0,.int .i64 0,.int .i64 0,.int .i64 0,.int .i64 0,.int .i64 0,.nils,.nils,.int .i64 0,.int .i64 0,.nils],Blk.mk BK.exact false [.int .i64 1,.int .i64 n_0,.int .i64
 0,.int .i64 n_3,.int .i64 n_6,.int .i64 n_9,.int .i64 n_12,.int .i64 n_15,.sl 4 (7*x_18.2.1.length) 0 x_18.2.1.length 7,.nils,.int .i64 0,.int .i64 0,.nils,.str l'_36,.bool b'_37],Blk.mk BK.exact true x_18.2.2.2.2.1,Blk.mk
 BK.exact true x_18.2.2.2.2.2,Blk.mk BK.grow true (aF x_18.2.1),Blk.mk BK.exact true [.int .i64 n_19,.int .i64 n_22,.int .i64 n_28,.int .i64 0,.int .i64 0,.int .i64 0,.int .i64 0]])∧∀n_38:Int,∀l'_39:List UInt8,∀b'_40
 : Bool,Lf (tkM (Int.toNat 4) l'_36 b'_37=Prod.mk n_38 (Prod.mk l'_39 b'_40))→ckQ (Nat.beq (aF x_18.2.1).length (7*x_18.2.1.length)&&true&&Nat.beq (0+x_18.2.1.length*7) (7*x_18.2.1.length)&&Nat.ble (x_18.2.1.length +
 1) 1099511627776&&Nat.ble ((x_18.2.1.length+1)*56) 1099511627776) (exW .i64 ((x_18.1:Int)+1) fun n_41=>(True∧(0:Nat)=(0:Nat))∧((∃y_42:Nat,Lf (y_42=0)∧(c:Int).toNat+1<(c:Int).toNat-x_18.1∧aBm)
 ∨ ∃y_42:Nat×List Rc×List UInt8×Bool×List AV×List AV,Lf (1≤y_42.1∧y_42.1≤(c:Int).toNat∧aTf (c:Int).toNat l'_16 b'_17 y_42.1 y_42.2.1 y_42.2.2.1 y_42.2.2.2.1∧dZ y_42.2.2.2.2.1∧dZ y_42.2.2.2.2.2)∧(c :
 Int).toNat-y_42.1<(c:Int).toNat-x_18.1∧aK [AV.int .i64 0,.int .i64 0,.int .i64 0,.int .i64 0,.int .i64 0,.int .i64 0,.int .i64 0,.int .i64 0,.nils,.nils,.int .i64 0,.int .i64 0,.nils]∧[AV.int .i64 1,.int .i64
 n_0,.int .i64 0,.int .i64 n_3,.int .i64 n_6,.int .i64 n_9,.int .i64 n_12,.int .i64 n_15,.sl 4 (7*x_18.2.1.length+7) 0 (x_18.2.1.length+1) 7,.nils,.int .i64 0,.int .i64 0,.nils,.str l'_39,.bool b'_40]=[AV.int .i64 1,
 .int .i64 n_0,.int .i64 0,.int .i64 n_3,.int .i64 n_6,.int .i64 n_9,.int .i64 n_12,.int .i64 n_15,.sl 4 (7*y_42.2.1.length) 0 y_42.2.1.length 7,.nils,.int .i64 0,.int .i64 0,.nils,.str y_42.2.2.1,.bool y_42.2.2.2.1] ∧
 x_18.2.2.2.2.1=y_42.2.2.2.2.1∧x_18.2.2.2.2.2=y_42.2.2.2.2.2∧aF x_18.2.1++[AV.int .i64 n_19,.int .i64 n_22,.int .i64 n_28,.int .i64 n_29,.int .i64 n_32,.int .i64 n_35,.int .i64 n_38]=aF y_42.2.1∧aK (AV.ptr 1
 15 0)∧aK (AV.int .i64 (c:Int))∧AV.int .i64 n_41=AV.int .i64 (y_42.1:Int)∧True))
abbrev aAh (n_0:Int) (n_3:Int) (n_6:Int) (n_9:Int) (n_12:Int) (n_15:Int) (l'_26:List UInt8) (b'_27:Bool) (n_19:Int) (n_22:Int) (n_28:Int) (x_18:Nat) (c:Nat) (l'_16:List UInt8) (b'_17:Bool):Prop:=
Lf ((0:Int)≤(4:Int)∧(4:Int)≤(4:Int)∧okH [Blk.mk BK.exact true [.int .i64 0,.int .i64 0,.int .i64 0,.int .i64 0,.int .i64 0,.int .i64 0,.int .i64 0,.int .i64 0,.nils,.nils,.int .i64 0,.int .i64 0,.nils],Blk.mk
 BK.exact true [.int .i64 1,.int .i64 n_0,.int .i64 0,.int .i64 n_3,.int .i64 n_6,.int .i64 n_9,.int .i64 n_12,.int .i64 n_15,.nils,.nils,.int .i64 0,.int .i64 0,.nils,.str l'_26,.bool b'_27],Blk.mk BK.exact true [.int .i64
 n_19,.int .i64 n_22,.int .i64 n_28,.int .i64 0,.int .i64 0,.int .i64 0,.int .i64 0]])∧∀n_29:Int,∀l'_30:List UInt8,∀b'_31:Bool,Lf (tkM (Int.toNat 4) l'_26 b'_27=Prod.mk n_29 (Prod.mk l'_30 b'_31))→Lf ((0:Int)≤(4
 : Int)∧(4:Int)≤(4:Int)∧okH [Blk.mk BK.exact true [.int .i64 0,.int .i64 0,.int .i64 0,.int .i64 0,.int .i64 0,.int .i64 0,.int .i64 0,.int .i64 0,.nils,.nils,.int .i64 0,.int .i64 0,.nils],Blk.mk BK.exact true [.int
 .i64 1,.int .i64 n_0,.int .i64 0,.int .i64 n_3,.int .i64 n_6,.int .i64 n_9,.int .i64 n_12,.int .i64 n_15,.nils,.nils,.int .i64 0,.int .i64 0,.nils,.str l'_30,.bool b'_31],Blk.mk BK.exact true [.int .i64 n_19,.int .i64 n_22,
 .int .i64 n_28,.int .i64 0,.int .i64 0,.int .i64 0,.int .i64 0]])∧∀n_32:Int,∀l'_33:List UInt8,∀b'_34:Bool,Lf (tkM (Int.toNat 4) l'_30 b'_31=Prod.mk n_32 (Prod.mk l'_33 b'_34))→Lf ((0:Int)≤(4:Int)∧(4:Int) ≤
 (4:Int)∧okH [Blk.mk BK.exact true [.int .i64 0,.int .i64 0,.int .i64 0,.int .i64 0,.int .i64 0,.int .i64 0,.int .i64 0,.int .i64 0,.nils,.nils,.int .i64 0,.int .i64 0,.nils],Blk.mk BK.exact true [.int .i64 1,.int .i64
 n_0,.int .i64 0,.int .i64 n_3,.int .i64 n_6,.int .i64 n_9,.int .i64 n_12,.int .i64 n_15,.nils,.nils,.int .i64 0,.int .i64 0,.nils,.str l'_33,.bool b'_34],Blk.mk BK.exact true [.int .i64 n_19,.int .i64 n_22,.int .i64 n_28,
 .int .i64 0,.int .i64 0,.int .i64 0,.int .i64 0]])∧∀n_35:Int,∀l'_36:List UInt8,∀b'_37:Bool,Lf (tkM (Int.toNat 4) l'_33 b'_34=Prod.mk n_35 (Prod.mk l'_36 b'_37))→Lf ((0:Int)≤(4:Int)∧(4:Int)≤(4:Int)∧okH
 [Blk.mk BK.exact true [.int .i64 0,.int .i64 0,.int .i64 0,.int .i64 0,.int .i64 0,.int .i64 0,.int .i64 0,.int .i64 0,.nils,.nils,.int .i64 0,.int .i64 0,.nils],Blk.mk BK.exact true [.int .i64 1,.int .i64 n_0,.int .i64 0,
 .int .i64 n_3,.int .i64 n_6,.int .i64 n_9,.int .i64 n_12,.int .i64 n_15,.nils,.nils,.int .i64 0,.int .i64 0,.nils,.str l'_36,.bool b'_37],Blk.mk BK.exact true [.int .i64 n_19,.int .i64 n_22,.int .i64 n_28,.int .i64 0,.int
 .i64 0,.int .i64 0,.int .i64 0]])∧∀n_38:Int,∀l'_39:List UInt8,∀b'_40:Bool,Lf (tkM (Int.toNat 4) l'_36 b'_37=Prod.mk n_38 (Prod.mk l'_39 b'_40))→exW .i64 ((x_18:Int)+1) fun n_41=>(True∧(0:Nat)=(0:Nat)) ∧
 (aU4 c∨∃y_42:Nat×List Rc×List UInt8×Bool×List AV×List AV,Lf (1≤y_42.1∧y_42.1≤(c:Int).toNat∧aTf (c:Int).toNat l'_16 b'_17 y_42.1 y_42.2.1 y_42.2.2.1 y_42.2.2.2.1∧dZ y_42.2.2.2.2.1∧dZ
 y_42.2.2.2.2.2)∧(c:Int).toNat-y_42.1<(c:Int).toNat+1∧aK [AV.int .i64 0,.int .i64 0,.int .i64 0,.int .i64 0,.int .i64 0,.int .i64 0,.int .i64 0,.int .i64 0,.nils,.nils,.int .i64 0,.int .i64 0,.nils]∧[AV.int
 .i64 1,.int .i64 n_0,.int .i64 0,.int .i64 n_3,.int .i64 n_6,.int .i64 n_9,.int .i64 n_12,.int .i64 n_15,.sl 4 7 0 1 7,.nils,.int .i64 0,.int .i64 0,.nils,.str l'_39,.bool b'_40]=[AV.int .i64 1,.int .i64 n_0,.int .i64 0,
 .int .i64 n_3,.int .i64 n_6,.int .i64 n_9,.int .i64 n_12,.int .i64 n_15,.sl 4 (7*y_42.2.1.length) 0 y_42.2.1.length 7,.nils,.int .i64 0,.int .i64 0,.nils,.str y_42.2.2.1,.bool y_42.2.2.2.1]∧[AV.int .i64 n_19,.int .i64 n_22,
 .int .i64 n_28,.int .i64 n_29,.int .i64 n_32,.int .i64 n_35,.int .i64 n_38]=y_42.2.2.2.2.1∧[AV.int .i64 n_19,.int .i64 n_22,.int .i64 n_28,.int .i64 n_29,.int .i64 n_32,.int .i64 n_35,.int .i64 n_38]=y_42.2.2.2.2.2 ∧
 [AV.int .i64 n_19,.int .i64 n_22,.int .i64 n_28,.int .i64 n_29,.int .i64 n_32,.int .i64 n_35,.int .i64 n_38]=aF y_42.2.1∧aK (AV.ptr 1 15 0)∧aK (AV.int .i64 (c:Int))∧AV.int .i64 n_41=AV.int .i64 (y_42.1:Int) ∧
 True)
abbrev jW (n_0:Int) (l'_1:List UInt8) (b'_2:Bool):Prop:=
Lf ((0:Int)≤(4:Int)∧(4:Int)≤(4:Int)∧okH [Blk.mk BK.exact true [.int .i64 0,.int .i64 0,.int .i64 0,.int .i64 0,.int .i64 0,.int .i64 0,.int .i64 0,.int .i64 0,.nils,.nils,.int .i64 0,.int .i64 0,.nils],Blk.mk
 BK.exact true [.int .i64 1,.int .i64 n_0,.int .i64 0,.int .i64 0,.int .i64 0,.int .i64 0,.int .i64 0,.int .i64 0,.nils,.nils,.int .i64 0,.int .i64 0,.nils,.str l'_1,.bool b'_2]])
abbrev aAv (Q:Out→List Blk→Gh→Prop) (n_0:Int) (n_3:Int) (n_6:Int) (n_9:Int) (n_12:Int) (n_15:Int) (x_18:Nat×List Rc×List UInt8×Bool×List AV×List AV):Prop:=
Q (.ret (.tup [.agg [.int .i64 1,.int .i64 n_0,.int .i64 0,.int .i64 n_3,.int .i64 n_6,.int .i64 n_9,.int .i64 n_12,.int .i64 n_15,.sl 4 (7*x_18.2.1.length) 0 x_18.2.1.length 7,.nils,.int .i64 0,.int .i64 0,.nils],.bool
 false])) [Blk.mk BK.exact false [.int .i64 1,.int .i64 n_0,.int .i64 0,.int .i64 n_3,.int .i64 n_6,.int .i64 n_9,.int .i64 n_12,.int .i64 n_15,.sl 4 (7*x_18.2.1.length) 0 x_18.2.1.length 7,.nils,.int .i64 0,.int .i64 0,
 .nils],Blk.mk BK.exact false [.int .i64 1,.int .i64 n_0,.int .i64 0,.int .i64 n_3,.int .i64 n_6,.int .i64 n_9,.int .i64 n_12,.int .i64 n_15,.sl 4 (7*x_18.2.1.length) 0 x_18.2.1.length 7,.nils,.int .i64 0,.int .i64 0,.nils,
 .str x_18.2.2.1,.bool x_18.2.2.2.1],Blk.mk BK.exact true x_18.2.2.2.2.1,Blk.mk BK.exact true x_18.2.2.2.2.2,Blk.mk BK.grow true (aF x_18.2.1)] {}
abbrev bL5 (n_0 n_3 n_6 n_9 n_12 n_15:Int) (l'_16:List UInt8) (b'_17:Bool):Blk:=Blk.mk BK.exact true [.int .i64 1,.int .i64 n_0,.int .i64 0,.int .i64 n_3,.int .i64 n_6,.int .i64 n_9,.int .i64 n_12,.int .i64 n_15,.nils,.nils,.int .i64 0,.int .i64 0,.nils,.str l'_16,.bool b'_17]
abbrev aWd (n_0 n_3 n_6 n_9 n_12 n_15:Int):AV:=.agg [.int .i64 1,.int .i64 n_0,.int .i64 0,.int .i64 n_3,.int .i64 n_6,.int .i64 n_9,.int .i64 n_12,.int .i64 n_15,.nils,.nils,.int .i64 0,.int .i64 0,.nils]
abbrev bAg (n_0 n_3 n_6 n_9 n_12 n_15:Int) (x_18:Nat×List Rc×List UInt8×Bool×List AV×List AV):Blk:=Blk.mk BK.exact false [.int .i64 1,.int .i64 n_0,.int .i64 0,.int .i64 n_3,.int .i64 n_6,.int .i64 n_9,.int .i64 n_12,.int .i64 n_15,aTe x_18,.nils,.int .i64 0,.int .i64 0,.nils,.str x_18.2.2.1,.bool x_18.2.2.2.1]
theorem bIe (c:Nat) (s:List UInt8) (Q:Out→List Blk→Gh→Prop):vF (bG [(241685,.int .i64),(241711,.int .i64)]) (bF []) c s Q=(aY2 s∧∀n_0:Int,∀l'_1:List UInt8,∀b'_2:Bool,aFs s n_0 l'_1 b'_2 →
 jW n_0 l'_1 b'_2∧∀n_3:Int,∀l'_4:List UInt8,∀b'_5:Bool,xO l'_1 b'_2 n_3 l'_4 b'_5→jW n_0 l'_4 b'_5∧∀n_6:Int,∀l'_7:List UInt8,∀b'_8:Bool,xO l'_4 b'_5 n_6 l'_7 b'_8→jW n_0 l'_7
 b'_8∧∀n_9:Int,∀l'_10:List UInt8,∀b'_11:Bool,xO l'_7 b'_8 n_9 l'_10 b'_11→jW n_0 l'_10 b'_11∧∀n_12:Int,∀l'_13:List UInt8,∀b'_14:Bool,xO l'_10 b'_11 n_12 l'_13 b'_14→jW n_0 l'_13 b'_14 ∧
 ∀n_15:Int,∀l'_16:List UInt8,∀b'_17:Bool,xO l'_13 b'_14 n_15 l'_16 b'_17→((∃x_18:Nat,Lf (x_18=0)∧aVd∧aK [AV.int .i64 1,.int .i64 n_0,.int .i64 0,.int .i64 n_3,.int .i64 n_6,.int .i64 n_9,.int .i64 n_12,
 .int .i64 n_15,.nils,.nils,.int .i64 0,.int .i64 0,.nils,.str l'_16,.bool b'_17]∧aTi c x_18)∨∃x_18:Nat×List Rc×List UInt8×Bool×List AV×List AV,bGc x_18 c l'_16 b'_17∧aBm)∧(∀x_18:Nat,Lf (x_18=0) →
 bif decide ((x_18:Int)<(c:Int)) then Lf (aAb∧zT∧okH [aDw,bL5 n_0 n_3 n_6 n_9 n_12 n_15 l'_16 b'_17])∧∀n_19:Int,∀l'_20:List UInt8,∀b'_21:Bool,xO l'_16 b'_17 n_19 l'_20 b'_21→Lf (aL0∧aM0∧okH
 [aDw,bL5 n_0 n_3 n_6 n_9 n_12 n_15 l'_20 b'_21])∧∀n_22:Int,∀l'_23:List UInt8,∀b'_24:Bool,Lf (tkM (Int.toNat 1) l'_20 b'_21=Prod.mk n_22 (Prod.mk l'_23 b'_24))→Lf (aMq∧aLc∧okH [aDw,bL5 n_0 n_3 n_6 n_9 n_12
 n_15 l'_23 b'_24,bGd n_19 n_22])∧∀n_25:Int,∀l'_26:List UInt8,∀b'_27:Bool,Lf (tkM (Int.toNat 3) l'_23 b'_24=Prod.mk n_25 (Prod.mk l'_26 b'_27))→bif decide (n_25≥8388608) then exW .i64 (n_25-16777216) (fun n_28=>
 aAh n_0 n_3 n_6 n_9 n_12 n_15 l'_26 b'_27 n_19 n_22 n_28 x_18 c l'_16 b'_17) else aAh n_0 n_3 n_6 n_9 n_12 n_15 l'_26 b'_27 n_19 n_22 n_25 x_18 c l'_16 b'_17 else bif b'_17 then Q (.ret (.tup [aWd n_0 n_3 n_6 n_9 n_12 n_15,
 .bool false])) [] {} else bif eqB l'_16 [] then ckQ (uJ l'_16) (Q (.ret (.tup [aWd n_0 n_3 n_6 n_9 n_12 n_15,.bool true])) [] {}) else ckQ (uJ l'_16) (Q (.ret (.tup [aWd n_0 n_3 n_6 n_9 n_12 n_15,.bool false])) [] {}))∧∀x_18
 : Nat×List Rc×List UInt8×Bool×List AV×List AV,bGc x_18 c l'_16 b'_17→bif decide ((x_18.1:Int)<(c:Int)) then Lf (aAb∧zT∧okH [aDw,bAg n_0 n_3 n_6 n_9 n_12 n_15 x_18,zU x_18,zK x_18,zF x_18])∧∀
 n_19:Int,∀l'_20:List UInt8,∀b'_21:Bool,Lf (tkM (Int.toNat 4) x_18.2.2.1 x_18.2.2.2.1=Prod.mk n_19 (Prod.mk l'_20 b'_21))→Lf (aL0∧aM0∧okH [aDw,Blk.mk BK.exact false [.int .i64 1,.int .i64 n_0,.int .i64 0,.int
 .i64 n_3,.int .i64 n_6,.int .i64 n_9,.int .i64 n_12,.int .i64 n_15,aTe x_18,.nils,.int .i64 0,.int .i64 0,.nils,.str l'_20,.bool b'_21],zU x_18,zK x_18,zF x_18])∧∀n_22:Int,∀l'_23:List UInt8,∀b'_24:Bool,
 Lf (tkM (Int.toNat 1) l'_20 b'_21=Prod.mk n_22 (Prod.mk l'_23 b'_24))→Lf (aMq∧aLc∧okH [aDw,Blk.mk BK.exact false [.int .i64 1,.int .i64 n_0,.int .i64 0,.int .i64 n_3,.int .i64 n_6,.int .i64 n_9,.int .i64 n_12,.int .i64
 n_15,aTe x_18,.nils,.int .i64 0,.int .i64 0,.nils,.str l'_23,.bool b'_24],zU x_18,zK x_18,zF x_18,bGd n_19 n_22])∧∀n_25:Int,∀l'_26:List UInt8,∀b'_27:Bool,Lf (tkM (Int.toNat 3) l'_23 b'_24=Prod.mk n_25
 (Prod.mk l'_26 b'_27))→bif decide (n_25≥8388608) then exW .i64 (n_25-16777216) (fun n_28=>aA9 n_0 n_3 n_6 n_9 n_12 n_15 x_18 l'_26 b'_27 n_19 n_22 n_28 c l'_16 b'_17) else aA9 n_0 n_3 n_6 n_9 n_12 n_15 x_18 l'_26
 b'_27 n_19 n_22 n_25 c l'_16 b'_17 else bif x_18.2.2.2.1 then aAv Q n_0 n_3 n_6 n_9 n_12 n_15 x_18 else bif eqB x_18.2.2.1 [] then ckQ (aLo x_18) (Q (.ret (.tup [.agg [.int .i64 1,.int .i64 n_0,.int .i64 0,.int .i64 n_3,.int
 .i64 n_6,.int .i64 n_9,.int .i64 n_12,.int .i64 n_15,aTe x_18,.nils,.int .i64 0,.int .i64 0,.nils],.bool true])) [Blk.mk BK.exact false [.int .i64 1,.int .i64 n_0,.int .i64 0,.int .i64 n_3,.int .i64 n_6,.int .i64 n_9,.int
 .i64 n_12,.int .i64 n_15,aTe x_18,.nils,.int .i64 0,.int .i64 0,.nils],bAg n_0 n_3 n_6 n_9 n_12 n_15 x_18,zU x_18,zK x_18,zF x_18] {}) else ckQ (aLo x_18) (aAv Q n_0 n_3 n_6 n_9 n_12 n_15 x_18)):=by
 kernel_rfl

end Go.Proofs.YtafchcmemeinlaaDoor
