/-
  Chapter 24: the reference's reader: models.
-/
import Derived.Test.YtafchcmemeinlaaDoorCrA
import Derived.Test.YtafchcmemeinlaaDoorC24XS
set_option linter.unusedSimpArgs false
set_option linter.unusedVariables false
set_option linter.unusedSectionVars false
namespace Go.Proofs.YtafchcmemeinlaaDoor
open Go.RowKit
set_option maxRecDepth 1000000

def aGq:Nat→List UInt8→List Int
 | 0,_=>[]
 | n+1,l=>if l=[] then [] else (((nbM l 2:Nat):Int)::mbM (nbM l 2:Nat) (nbM (l.drop 2) 2:Nat) 16)++aGq n (l.drop 4)
def kT (l:List UInt8):Nat→List Int
 | 0=>[]
 | m+1=>kT l m++rH (nbM (l.drop (2*m)) 2:Nat)
def rnM (n:Nat):Nat:=if 98<n then 15 else (n+6)/7
def aCx (sg:List Int):Nat→Nat→Int→List UInt8→List Int→List Int
 | 0,_,_,_,acc=>acc
 | n+1,i,la,l,acc=>
  if sg.getD i 0=1 then aCx sg n (i+1) (la+(nbM l 1:Nat)) (l.drop 1) (acc++[la+(nbM l 1:Nat)])
  else if sg.getD i 0=2 then aCx sg n (i+1) (la+sxM (nbM l 2:Nat)) (l.drop 2) (acc++[la+sxM (nbM l 2:Nat)])
  else aCx sg n (i+1) la l (acc++[-1])
def uW (n:Nat) (rf:Int) (l:List UInt8):List Int:=aCx (kT l (rnM n)) (min n (7*rnM n)) 0 (256*rf) (l.drop (2*rnM n)) []
def aAi (k n:Nat) (b:List UInt8):Ctl:=
 if k=200 then ⟨1,(nbM b 4:Nat),0,(nbM (b.drop 4) 4:Nat),(nbM (b.drop 8) 4:Nat),(nbM (b.drop 12) 4:Nat),(nbM (b.drop 16) 4:Nat),(nbM (b.drop 20) 4:Nat),fT (b.drop 24) n,[],0,0,[]⟩
 else if k=201 then ⟨2,(nbM b 4:Nat),0,0,0,0,0,0,fT (b.drop 4) n,[],0,0,[]⟩
 else if k=203 then ⟨3,(nbM b 4:Nat),0,0,0,0,0,0,[],[],0,0,[]⟩
 else if k=206 then ⟨5,(nbM b 4:Nat),(nbM (b.drop 4) 4:Nat),0,0,0,0,0,[],[],0,0,[]⟩
 else if k=205∧n=1 then ⟨4,(nbM b 4:Nat),(nbM (b.drop 4) 4:Nat),0,0,0,0,0,[],aGq (b.drop 8).length (b.drop 8),0,0,[]⟩
 else if k=205 then ⟨6,(nbM b 4:Nat),(nbM (b.drop 4) 4:Nat),0,0,0,0,0,[],[],(nbM (b.drop 8) 2:Nat),(nbM (b.drop 15) 1:Nat),uW (nbM (b.drop 10) 2) (nbM (b.drop 12) 3:Nat) (b.drop 16)⟩
 else ⟨0,(nbM b 4:Nat),0,0,0,0,0,0,[],[],0,0,[]⟩
def aJ0 (s:List UInt8):Ctl:=aAi (nbM (s.drop 1) 1) (nbM s 1%32) (s.drop 4)
def lN:Nat→List UInt8→List Ctl→Option (List Ctl)
 | 0,_,acc=>some acc
 | n+1,s,acc=>if s=[] then some acc else if s.length<dC s then none else lN n (s.drop (dC s)) (acc++[aJ0 (s.take (dC s))])
theorem bDx (x:Int):(rH x).length=7:=rfl
theorem qW (l:List UInt8):∀m,(kT l m).length=7*m
 | 0=>rfl
 | m+1=>by rw[kT,List.length_append,qW l m,bDx];omega
theorem bLb (x:Int):∀y∈rH x,0≤y∧y≤3:=by
 intro y hy
 simp only[rH,List.mem_cons,List.not_mem_nil,or_false] at hy
 rcases hy with rfl | rfl | rfl | rfl | rfl | rfl | rfl<;>omega
theorem aOw (l:List UInt8):∀m,∀y∈kT l m,0≤y∧y≤3
 | 0,y,hy=>by simp[kT] at hy
 | m+1,y,hy=>by
  rw[kT,List.mem_append] at hy
  rcases hy with hy | hy
  ·exact aOw l m y hy
  ·exact bLb _ y hy
theorem aRv {sg:List Int} (h:∀y∈sg,0≤y∧y≤3) (i:Nat):0≤sg.getD i 0∧sg.getD i 0≤3:=by
 rw[List.getD_eq_getElem?_getD]
 rcases e:sg[i]? with _ | y
 ·simp
 ·exact h y (List.mem_of_getElem? e)
end Go.Proofs.YtafchcmemeinlaaDoor

set_option linter.unusedSimpArgs false
set_option linter.unusedVariables false
set_option linter.unusedSectionVars false
namespace Go.Proofs.YtafchcmemeinlaaDoor
open Go.RowKit
set_option maxRecDepth 1000000

def bI1 (s:List UInt8) (n rf:Nat) (z:S):List (List LInv):=[[
 { α:=Nat,pre:=fun x=>Lf (x=0),st:=fun _=>⟨mkT [(0,.ptr 0 1 0),(1,.int .i64 (n:Nat)),(2,.int .i64 (rf:Nat)),(7,.nils)],[⟨.exact,true,[.str s]⟩]⟩,mu:=fun _=>100 },
 { α:=Nat,pre:=fun m=>Lf (1≤m∧m≤rnM n),st:=fun m=>⟨mkT [(0,.ptr 0 1 0),(1,.int .i64 (n:Nat)),(2,.int .i64 (rf:Nat)),(7,.sl 1 (7*m) 0 (7*m) 1)],[⟨.exact,true,[.str (s.drop (2*m))]⟩,⟨.grow,true,aA (kT s m)⟩]⟩,mu:=fun m=>64-m }]]
def qH (sg:List Int) (n:Nat) (la0:Int) (l0:List UInt8) (i:Nat) (la:Int) (l:List UInt8) (acc:List Int):Prop:=
 i≤n∧i≤sg.length∧acc.length=i ∧ -(65536*(i:Int))≤la∧la≤4294967296+65536*(i:Int)∧l.length≤l0.length∧aCx sg (min n sg.length) 0 la0 l0 []=aCx sg (min n sg.length-i) i la l acc
def bCh (n:Nat) (z:S):List (List LInv):=match z.tm.get 7,z.tm.get 11,z.hp with
 | .nils,.int _ la,[⟨_,_,[.str l0]⟩]=>[[
  { α:=Nat,pre:=fun i=>Lf (i=0∧n=0),st:=fun i=>⟨mkT [(0,.ptr 0 1 0),(1,.int .i64 (n:Nat)),(7,.nils),(10,.nils),(11,.int .i64 la),(12,.int .i64 0)],[⟨.exact,true,[.str l0]⟩]⟩,mu:=fun i=>0 }]]
 | .sl _ tot _ _ _,.int _ la,[⟨_,_,[.str l0]⟩,⟨_,_,g⟩]=>[[
  { α:=List Int,pre:=fun sg=>Lf (g=aA sg∧tot=sg.length∧0≤la∧la≤4294967296),st:=fun sg=>⟨mkT [(0,.ptr 0 1 0),(1,.int .i64 (n:Nat)),(7,.sl 1 sg.length 0 sg.length 1),(10,.nils),(11,.int .i64 la),(12,.int .i64 0)],[⟨.exact,true,[.str l0]⟩,⟨.grow,true,aA sg⟩]⟩,mu:=fun _=>n+1 },
  { α:=List Int×Nat×Int×List UInt8×List Int,pre:=fun x=>Lf (g=aA x.1∧tot=x.1.length∧1≤x.2.1∧qH x.1 n la l0 x.2.1 x.2.2.1 x.2.2.2.1 x.2.2.2.2),st:=fun x=>⟨mkT [(0,.ptr 0 1 0),(1,.int .i64 (n:Nat)),(7,.sl 1 x.1.length 0 x.1.length 1),(10,.sl 2 x.2.2.2.2.length 0 x.2.2.2.2.length 1),(11,.int .i64 x.2.2.1),(12,.int .i64 (x.2.1:Nat))],[⟨.exact,true,[.str x.2.2.2.1]⟩,⟨.grow,true,aA x.1⟩,⟨.grow,true,aA x.2.2.2.2⟩]⟩,mu:=fun x=>n-x.2.1 }]]
 | _,_,_=>[]
noncomputable def aY8 (hv:Nat→Option Pa) (hb:Nat→Option Bool) (s:List UInt8) (n rf:Nat):Env:=e24 bOt (fun i=>bif Nat.beq i 64000 then some (bI1 s n rf) else bif Nat.beq i 64004 then some (bCh n) else none) hv hb
noncomputable def aJb (hv:Nat→Option Pa) (hb:Nat→Option Bool) (s:List UInt8) (n rf:Nat) (Q:Out→List Blk→Gh→Prop):Prop:=
 bH (aY8 hv hb s n rf) (wpx (aY8 hv hb s n rf) 1000) 64 [.ptr 0 1 0,.int .i64 (n:Nat),.int .i64 (rf:Nat)] [⟨.exact,true,[.str s]⟩] {} Q
abbrev mF:Prop:=aK (AV.ptr 0 1 0)
abbrev lG (n:Nat):Prop:=aK (AV.int .i64 (n:Int))
abbrev aT2 (n_1:Int):Prop:=aK (AV.int .i64 n_1)∧aK (AV.int .i64 0)∧AV.nils=AV.nils∧True
def aGk (s:List UInt8) (n:Nat) (rf:Nat) (Q:Out→List Blk→Gh→Prop):Prop:=
exI .i64 (rf:Int) (fun n_0=>exW .i64 (256*n_0) (fun n_1=>(∃x_2:Nat,Lf (x_2=0∧n=0)∧aK [AV.str s]∧mF∧lG n∧AV.nils=AV.nils∧aT2 n_1)∧∀x_2:Nat,Lf (x_2=0∧n=0)→exI .i64 0 (fun n_3=>exI .i64 (n:Int) (fun n_4=>bif decide (n_3<n_4) then exI .i64 0 (fun n_5=>exI .i64 0 (fun n_6=>bif decide (n_5<n_6) then exI .i64 0 (fun n_7=>False) else Q (.ret .nils) [Blk.mk BK.exact true [.str s]] {})) else Q (.ret .nils) [Blk.mk BK.exact true [.str s]] {}))))
abbrev aI7 (n_16:Int) (x_6:List Int×Nat×Int×List UInt8×List Int):Bool:=decide (0≤n_16)&&Nat.blt n_16.toNat x_6.1.length&&Nat.beq (aA x_6.1).length x_6.1.length&&true
abbrev aV2 (x_6:List Int×Nat×Int×List UInt8×List Int):Bool:=Nat.beq (aA x_6.1).length x_6.1.length
abbrev aO6 (n_16:Int):Nat:=0+n_16.toNat*1
abbrev aH3 (x_6:List Int×Nat×Int×List UInt8×List Int) (n_16:Int):Bool:=aV2 x_6&&Nat.blt (aO6 n_16) x_6.1.length
abbrev aI9 (n_16:Int) (x_6:List Int×Nat×Int×List UInt8×List Int):AV:=(((aA x_6.1).drop (0+n_16.toNat*1)).take 1).getD 0 AV.undef
abbrev kZ (x_6:List Int×Nat×Int×List UInt8×List Int):List AV:=aA x_6.2.2.2.2
abbrev bFu (x_6:List Int×Nat×Int×List UInt8×List Int):Bool:=Nat.beq (kZ x_6).length x_6.2.2.2.2.length&&true&&Nat.beq (0+x_6.2.2.2.2.length*1) x_6.2.2.2.2.length&&Nat.ble (x_6.2.2.2.2.length+1) 1099511627776&&Nat.ble ((x_6.2.2.2.2.length+1)*8) 1099511627776
abbrev aEd:Prop:=True∧(0:Nat)=(0:Nat)
abbrev aNc (s:List UInt8) (x_0:Nat) (y_20:List Int) (n_5:Int):Prop:=Lf (aA (kT s x_0)=aA y_20∧7*x_0=y_20.length∧0≤n_5∧n_5≤4294967296)
abbrev aKa (s:List UInt8) (x_0:Nat) (y_20:List Int×Nat×Int×List UInt8×List Int) (n:Nat) (n_5:Int):Prop:=Lf (aA (kT s x_0)=aA y_20.1∧7*x_0=y_20.1.length∧1≤y_20.2.1∧qH y_20.1 n n_5 (s.drop (2*x_0)) y_20.2.1 y_20.2.2.1 y_20.2.2.2.1 y_20.2.2.2.2)
abbrev mG (y_22:List Int×Nat×Int×List UInt8×List Int):AV:=.str y_22.2.2.2.1
abbrev aFk:AV:=.int .i64 (-1)
abbrev aE4 (x_6:List Int×Nat×Int×List UInt8×List Int):AV:=.sl 1 x_6.1.length 0 x_6.1.length 1
abbrev gM (n_15:Int):AV:=.int .i64 n_15
abbrev bGi (n_19:Int) (y_20 x_6:List Int×Nat×Int×List UInt8×List Int):Prop:=gM n_19=AV.int .i64 (y_20.2.1:Int)∧AV.sl 2 (x_6.2.2.2.2.length+1) 0 (x_6.2.2.2.2.length+1) 1=AV.sl 2 y_20.2.2.2.2.length 0 y_20.2.2.2.2.length 1∧True
abbrev bM6 (x_6:List Int×Nat×Int×List UInt8×List Int) (s:List UInt8) (x_0:Nat) (n_5:Int) (n k_13:Nat) (n_15:Int):Prop:=ckQ (bFu x_6) (exI .i64 (x_6.2.1:Int) (fun n_18=>exW .i64 (n_18+1) (fun n_19=>aEd∧((∃y_20:List Int,aNc s x_0 y_20 n_5∧n+1<n-x_6.2.1∧[AV.str (x_6.2.2.2.1.drop k_13)]=[AV.str (s.drop (2*x_0))]∧aA x_6.1=aA y_20∧False)∨∃y_20:List Int×Nat×Int×List UInt8×List Int,aKa s x_0 y_20 n n_5∧n-y_20.2.1<n-x_6.2.1∧[AV.str (x_6.2.2.2.1.drop k_13)]=[mG y_20]∧aA x_6.1=aA y_20.1∧kZ x_6++[aFk]=kZ y_20∧mF∧aK (AV.int .i64 (n:Int))∧aE4 x_6=aE4 y_20∧gM n_15=AV.int .i64 y_20.2.2.1∧bGi n_19 y_20 x_6))))
abbrev aNn:Prop:=aEd
abbrev nC (x_0:Nat) (s:List UInt8):AV:=.str (s.drop (2*x_0))
abbrev aS2 (x_6:List Int×Nat×Int×List UInt8×List Int):AV:=aE4 x_6
def wU (x_6:List Int×Nat×Int×List UInt8×List Int) (s:List UInt8) (x_0:Nat) (n_5:Int) (n:Nat) (k_13:Nat) (n_15:Int):Prop:=
exI .i64 (x_6.2.1:Int) (fun n_16=>ckQ (aI7 n_16 x_6) (ckQ (aH3 x_6 n_16) (exV IntKind.i64 (aI9 n_16 x_6) (fun n_17=>bif n_17==0 then bM6 x_6 s x_0 n_5 n k_13 n_15 else exI .i64 (x_6.2.1:Int) (fun n_18=>ckQ (aI7 n_18 x_6) (ckQ (aH3 x_6 n_18) (exV IntKind.i64 (aI9 n_18 x_6) (fun n_19=>bif n_19==3 then bM6 x_6 s x_0 n_5 n k_13 n_15 else ckQ (bFu x_6) (exI .i64 (x_6.2.1:Int) (fun n_20=>exW .i64 (n_20+1) (fun n_21=>aNn∧((∃y_22:List Int,aNc s x_0 y_22 n_5∧n+1<n-x_6.2.1∧[AV.str (x_6.2.2.2.1.drop k_13)]=[nC x_0 s]∧aA x_6.1=aA y_22∧False)∨∃y_22:List Int×Nat×Int×List UInt8×List Int,aKa s x_0 y_22 n n_5∧n-y_22.2.1<n-x_6.2.1∧[AV.str (x_6.2.2.2.1.drop k_13)]=[mG y_22]∧aA x_6.1=aA y_22.1∧kZ x_6++[gM n_15]=kZ y_22∧mF∧lG n∧aS2 x_6=aS2 y_22∧gM n_15=AV.int .i64 y_22.2.2.1∧bGi n_21 y_22 x_6))))))))))))
abbrev aId (n_16:Int) (x_6:List Int):Bool:=decide (0≤n_16)&&Nat.blt n_16.toNat x_6.length&&Nat.beq (aA x_6).length x_6.length&&true
abbrev aWw (x_6:List Int):Bool:=Nat.beq (aA x_6).length x_6.length
abbrev aHb (x_6:List Int) (n_16:Int):Bool:=aWw x_6&&Nat.blt (aO6 n_16) x_6.length
abbrev aH9 (n_16:Int) (x_6:List Int):AV:=(((aA x_6).drop (0+n_16.toNat*1)).take 1).getD 0 AV.undef
abbrev aFo (k_13 x_0:Nat) (s:List UInt8):AV:=.str ((s.drop (2*x_0)).drop k_13)
abbrev aLw (x_6:List Int):AV:=.sl 1 x_6.length 0 x_6.length 1
abbrev aNu (y_22:List Int×Nat×Int×List UInt8×List Int):Prop:=AV.sl 2 1 0 1 1=AV.sl 2 y_22.2.2.2.2.length 0 y_22.2.2.2.2.length 1∧True
abbrev bLf (n:Nat) (x_6:List Int) (y_20:List Int×Nat×Int×List UInt8×List Int) (n_15 n_19:Int):Prop:=mF∧lG n∧aLw x_6=aS2 y_20∧gM n_15=AV.int .i64 y_20.2.2.1∧gM n_19=AV.int .i64 (y_20.2.1:Int)∧aNu y_20
abbrev bPy (s:List UInt8) (x_0:Nat) (n_5:Int) (n k_13:Nat) (x_6:List Int) (n_15:Int):Prop:=exI .i64 0 (fun n_18=>exW .i64 (n_18+1) (fun n_19=>aEd∧((∃y_20:List Int,aNc s x_0 y_20 n_5∧n+1<n+1∧[aFo k_13 x_0 s]=[AV.str (s.drop (2*x_0))]∧aA x_6=aA y_20∧False)∨∃y_20:List Int×Nat×Int×List UInt8×List Int,aKa s x_0 y_20 n n_5∧n-y_20.2.1<n+1∧[aFo k_13 x_0 s]=[mG y_20]∧aA x_6=aA y_20.1∧[aFk]=kZ y_20∧bLf n x_6 y_20 n_15 n_19)))
def vR (x_6:List Int) (s:List UInt8) (x_0:Nat) (n_5:Int) (n:Nat) (k_13:Nat) (n_15:Int):Prop:=
exI .i64 0 (fun n_16=>ckQ (aId n_16 x_6) (ckQ (aHb x_6 n_16) (exV IntKind.i64 (aH9 n_16 x_6) (fun n_17=>bif n_17==0 then bPy s x_0 n_5 n k_13 x_6 n_15 else exI .i64 0 (fun n_18=>ckQ (aId n_18 x_6) (ckQ (aHb x_6 n_18) (exV IntKind.i64 (aH9 n_18 x_6) (fun n_19=>bif n_19==3 then bPy s x_0 n_5 n k_13 x_6 n_15 else exI .i64 0 (fun n_20=>exW .i64 (n_20+1) (fun n_21=>aNn∧((∃y_22:List Int,aNc s x_0 y_22 n_5∧n+1<n+1∧[aFo k_13 x_0 s]=[nC x_0 s]∧aA x_6=aA y_22∧False)∨∃y_22:List Int×Nat×Int×List UInt8×List Int,aKa s x_0 y_22 n n_5∧n-y_22.2.1<n+1∧[aFo k_13 x_0 s]=[mG y_22]∧aA x_6=aA y_22.1∧[gM n_15]=kZ y_22∧mF∧lG n∧aLw x_6=aS2 y_22∧gM n_15=AV.int .i64 y_22.2.2.1∧AV.int .i64 n_21=AV.int .i64 (y_22.2.1:Int)∧aNu y_22)))))))))))
abbrev aRi (k_13 x_0:Nat) (s:List UInt8):Prop:=k_13≤4∧(s.drop (2*x_0)).length≤9223372036854775807
abbrev aXu (s:List UInt8) (x_0:Nat) (n_5:Int) (n:Nat) (x_6:List Int):Prop:=∃y_17:List Int,aNc s x_0 y_17 n_5∧n+1<n+1∧aK [nC x_0 s]∧aA x_6=aA y_17∧False
abbrev bOo (x_6:List Int×Nat×Int×List UInt8×List Int) (s:List UInt8) (x_0:Nat) (n_5:Int) (n:Nat):Prop:=ckQ (bFu x_6) (exI .i64 (x_6.2.1:Int) (fun n_15=>exW .i64 (n_15+1) (fun n_16=>aEd∧((∃y_17:List Int,aNc s x_0 y_17 n_5∧n+1<n-x_6.2.1∧[mG x_6]=[AV.str (s.drop (2*x_0))]∧aA x_6.1=aA y_17∧False)∨∃y_17:List Int×Nat×Int×List UInt8×List Int,aKa s x_0 y_17 n n_5∧n-y_17.2.1<n-x_6.2.1∧[mG x_6]=[mG y_17]∧aA x_6.1=aA y_17.1∧kZ x_6++[aFk]=kZ y_17∧mF∧aK (AV.int .i64 (n:Int))∧aE4 x_6=aE4 y_17∧AV.int .i64 x_6.2.2.1=AV.int .i64 y_17.2.2.1∧bGi n_16 y_17 x_6))))
abbrev bFd (Q:Out→List Blk→Gh→Prop) (x_6:List Int×Nat×Int×List UInt8×List Int):Prop:=Q (.ret (.sl 2 x_6.2.2.2.2.length 0 x_6.2.2.2.2.length 1)) [Blk.mk BK.exact true [.str x_6.2.2.2.1],Blk.mk BK.grow true (aA x_6.1),Blk.mk BK.grow true (kZ x_6)] {}
def xK (rf:Nat) (s:List UInt8) (x_0:Nat) (n:Nat) (Q:Out→List Blk→Gh→Prop):Prop:=
exI .i64 (rf:Int) (fun n_4=>exW .i64 (256*n_4) (fun n_5=>((∃x_6:List Int,aNc s x_0 x_6 n_5∧aK [nC x_0 s]∧aA (kT s x_0)=aA x_6∧mF∧lG n∧AV.sl 1 (7*x_0) 0 (7*x_0) 1=aLw x_6 ∧
 aT2 n_5)∨∃x_6:List Int×Nat×Int×List UInt8×List Int,aKa s x_0 x_6 n n_5∧[nC x_0 s]=[mG x_6]∧aA (kT s x_0)=aA x_6.1∧False)∧(∀x_6:List Int,aNc s x_0 x_6 n_5→exI .i64 0 (fun n_7=>exI
 IntKind.i64 (n:Int) (fun n_8=>bif decide (n_7<n_8) then exI .i64 0 (fun n_9=>ckQ (aWw x_6) (exI .i64 (x_6.length:Int) (fun n_10=>bif decide (n_9<n_10) then exI .i64 0 (fun n_11=>ckQ (aId n_11 x_6)
 (ckQ (aHb x_6 n_11) (exV IntKind.i64 (aH9 n_11 x_6) (fun n_12=>bif n_12==1 then ∃k_13:Nat,Lf (1=(k_13:Int)∧aRi k_13 x_0 s)∧exI .i64 (nbM (s.drop (2*x_0)) k_13:Int) (fun n_14=>exW .i64 (n_5+n_14)
 (fun n_15=>vR x_6 s x_0 n_5 n k_13 n_15)) else bif n_12==2 then ∃k_13:Nat,Lf (2=(k_13:Int)∧aRi k_13 x_0 s)∧exI .i64 (nbM (s.drop (2*x_0)) k_13:Int) (fun n_14=>bif decide (n_14≥32768) then exW
 IntKind.i64 (n_14-65536) (fun n_15=>exW .i64 (n_5+n_15) (fun n_16=>vR x_6 s x_0 n_5 n k_13 n_16)) else exW .i64 (n_5+n_14) (fun n_15=>vR x_6 s x_0 n_5 n k_13 n_15)) else exI .i64 0 (fun n_13=>
 ckQ (aId n_13 x_6) (ckQ (aHb x_6 n_13) (exV IntKind.i64 (aH9 n_13 x_6) (fun n_14=>bif n_14==0 then exI .i64 0 (fun n_15=>exW .i64 (n_15+1) (fun n_16=>aNn∧(aXu s x_0 n_5 n x_6∨∃y_17:List Int×Nat ×
 Int×List UInt8×List Int,aKa s x_0 y_17 n n_5∧n-y_17.2.1<n+1∧[nC x_0 s]=[mG y_17]∧aA x_6=aA y_17.1∧[aFk]=kZ y_17∧bLf n x_6 y_17 n_5 n_16))) else exI .i64 0 (fun n_15=>ckQ (aId n_15
 x_6) (ckQ (aHb x_6 n_15) (exV IntKind.i64 (aH9 n_15 x_6) (fun n_16=>bif n_16==3 then exI .i64 0 (fun n_17=>exW .i64 (n_17+1) (fun n_18=>aNn∧(aXu s x_0 n_5 n x_6∨∃y_19:List Int×Nat×Int×List UInt8
 × List Int,aKa s x_0 y_19 n n_5∧n-y_19.2.1<n+1∧[nC x_0 s]=[mG y_19]∧aA x_6=aA y_19.1∧[aFk]=kZ y_19∧mF∧lG n∧aLw x_6=aS2 y_19∧AV.int .i64 n_5=AV.int .i64 y_19.2.2.1∧gM
 n_18=AV.int .i64 (y_19.2.1:Int)∧aNu y_19))) else exI .i64 0 (fun n_17=>exW .i64 (n_17+1) (fun n_18=>aNn∧(aXu s x_0 n_5 n x_6∨∃y_19:List Int×Nat×Int×List UInt8×List Int,aKa s x_0 y_19 n n_5 ∧
 n-y_19.2.1<n+1∧[nC x_0 s]=[mG y_19]∧aA x_6=aA y_19.1∧[AV.int .i64 n_5]=kZ y_19∧bLf n x_6 y_19 n_5 n_18))))))))))))))) else Q (.ret .nils) [Blk.mk BK.exact true [.str (s.drop (2*x_0))]] {}))) else Q
 (.ret .nils) [Blk.mk BK.exact true [.str (s.drop (2*x_0))]] {})))∧∀x_6:List Int×Nat×Int×List UInt8×List Int,aKa s x_0 x_6 n n_5→exI .i64 (x_6.2.1:Int) (fun n_7=>exI .i64 (n:Int) (fun n_8=>bif decide
 (n_7<n_8) then exI .i64 (x_6.2.1:Int) (fun n_9=>ckQ (aV2 x_6) (exI .i64 (x_6.1.length:Int) (fun n_10=>bif decide (n_9<n_10) then exI .i64 (x_6.2.1:Int) (fun n_11=>ckQ (aI7 n_11 x_6) (ckQ (aH3 x_6
 n_11) (exV IntKind.i64 (aI9 n_11 x_6) (fun n_12=>bif n_12==1 then ∃k_13:Nat,Lf (1=(k_13:Int)∧k_13≤4∧x_6.2.2.2.1.length≤9223372036854775807)∧exI .i64 (nbM x_6.2.2.2.1 k_13:Int) (fun n_14=>exW .i64
 (x_6.2.2.1+n_14) (fun n_15=>wU x_6 s x_0 n_5 n k_13 n_15)) else bif n_12==2 then ∃k_13:Nat,Lf (2=(k_13:Int)∧k_13≤4∧x_6.2.2.2.1.length≤9223372036854775807)∧exI .i64 (nbM x_6.2.2.2.1 k_13:Int) (fun n_14
 => bif decide (n_14≥32768) then exW .i64 (n_14-65536) (fun n_15=>exW .i64 (x_6.2.2.1+n_15) (fun n_16=>wU x_6 s x_0 n_5 n k_13 n_16)) else exW .i64 (x_6.2.2.1+n_14) (fun n_15=>wU x_6 s x_0 n_5 n
 k_13 n_15)) else exI .i64 (x_6.2.1:Int) (fun n_13=>ckQ (aI7 n_13 x_6) (ckQ (aH3 x_6 n_13) (exV IntKind.i64 (aI9 n_13 x_6) (fun n_14=>bif n_14==0 then bOo x_6 s x_0 n_5 n else exI .i64 (x_6.2.1:Int) (fun n_15
 => ckQ (aI7 n_15 x_6) (ckQ (aH3 x_6 n_15) (exV IntKind.i64 (aI9 n_15 x_6) (fun n_16=>bif n_16==3 then bOo x_6 s x_0 n_5 n else ckQ (bFu x_6) (exI .i64 (x_6.2.1:Int) (fun n_17=>exW .i64 (n_17+1) (fun n_18=>
 aNn∧((∃y_19:List Int,aNc s x_0 y_19 n_5∧n+1<n-x_6.2.1∧[mG x_6]=[nC x_0 s]∧aA x_6.1=aA y_19∧False)∨∃y_19:List Int×Nat×Int×List UInt8×List Int,aKa s x_0 y_19 n n_5∧n-y_19.2.1<n -
 x_6.2.1∧[mG x_6]=[mG y_19]∧aA x_6.1=aA y_19.1∧kZ x_6++[AV.int .i64 x_6.2.2.1]=kZ y_19∧mF∧lG n∧aS2 x_6=aS2 y_19∧AV.int .i64 x_6.2.2.1=AV.int .i64 y_19.2.2.1∧bGi n_18 y_19
 x_6)))))))))))))))) else bFd Q x_6))) else bFd Q x_6))))
abbrev aRc (x_0 n:Nat):Prop:=Lf (1≤x_0∧x_0≤rnM n)
abbrev aF6 (n_9:Int):AV:=.int .i64 n_9
abbrev aZz (s:List UInt8) (x_0:Nat) (n_7:Int):List AV:=aA (kT s x_0)++[AV.int .i64 n_7]
abbrev aLv (s:List UInt8) (x_0:Nat) (n_7 n_9:Int):List AV:=aA (kT s x_0)++[AV.int .i64 n_7]++[AV.int .i64 n_9]
abbrev uF (x_0:Nat):Nat:=7*x_0+1+1+1+1
abbrev zH (x_0:Nat):Nat:=uF x_0+1+1
theorem bNl (s:List UInt8) (n:Nat) (rf:Nat) (Q:Out→List Blk→Gh→Prop):aJb (bG [(262160,.int .i64),(262168,.int .i64),(262177,.int .i64),(262178,.int .i64),(262181,.int .i64),(262182,.int .i64),(262184,
 .int .i64),(262159,.int .i64),(262164,.int .i64),(262189,.int .i64),(262197,.int .i64),(262202,.int .i64),(262203,.int .i64),(262218,.int .i64),(262224,.int .i64),(262207,.int .i64),(262211,.int .i64),(262214,.int
 .i64),(262183,.int .i64),(262187,.int .i64),(262195,.int .i64),(262216,.int .i64),(262192,.int .i64),(262193,.int .i64),(262222,.int .i64)]) (bF []) s n rf Q=(((∃x_0:Nat,Lf (x_0=0)∧aK [AV.str s]∧mF∧lG
 n∧AV.nils=AV.nils∧lG rf∧True)∨∃x_0:Nat,aRc x_0 n∧[AV.str s]=[nC x_0 s]∧False)∧(∀x_0:Nat,Lf (x_0=0)→exI .i64 0 (fun n_1=>exI .i64 (n:Int) (fun n_2=>bif decide (n_1<n_2) then exI
 IntKind.i64 0 (fun n_3=>bif decide (n_3<100) then ∃k_4:Nat,Lf (2=(k_4:Int)∧k_4≤4∧s.length≤9223372036854775807)∧exI .i64 (nbM s k_4:Int) (fun n_5=>exI .i64 (Int.fdiv n_5 4096) (fun n_6=>exI
 IntKind.i64 (n_6.tmod 4) (fun n_7=>exI .i64 (Int.fdiv n_5 1024) (fun n_8=>exI .i64 (n_8.tmod 4) (fun n_9=>exI .i64 (Int.fdiv n_5 256) (fun n_10=>exI .i64 (n_10.tmod 4) (fun n_11=>exI .i64
 (Int.fdiv n_5 64) (fun n_12=>exI .i64 (n_12.tmod 4) (fun n_13=>exI .i64 (Int.fdiv n_5 16) (fun n_14=>exI .i64 (n_14.tmod 4) (fun n_15=>exI .i64 (Int.fdiv n_5 4) (fun n_16=>exI .i64 (n_16.tmod 4)
 (fun n_17=>exI .i64 (Int.fdiv n_5 1) (fun n_18=>exI .i64 (n_18.tmod 4) (fun n_19=>aNn∧((∃y_20:Nat,Lf (y_20=0)∧(100:Nat)<(100:Nat)∧[AV.str (s.drop k_4)]=[AV.str s]∧False)∨∃y_20:Nat,aRc y_20
 n∧64-y_20<100∧[AV.str (s.drop k_4)]=[nC y_20 s]∧[AV.int .i64 n_7,aF6 n_9,aF6 n_11,aF6 n_13,aF6 n_15,aF6 n_17,aF6 n_19]=aA (kT s y_20)∧mF∧lG n∧AV.sl 1 7 0 7 1=AV.sl 1 (7*y_20) 0 (7 *
 y_20) 1∧lG rf∧True)))))))))))))))) else aGk s n rf Q) else aGk s n rf Q)))∧∀x_0:Nat,aRc x_0 n→ckQ (Nat.beq (aA (kT s x_0)).length (7*x_0)) (exI .i64 ((7*x_0:Nat):Int) (fun n_1=>exI
 IntKind.i64 (n:Int) (fun n_2=>bif decide (n_1<n_2) then ckQ (Nat.beq (aA (kT s x_0)).length (7*x_0)) (exI .i64 ((7*x_0:Nat):Int) (fun n_3=>bif decide (n_3<100) then ∃k_4:Nat,Lf (2=(k_4:Int)∧aRi
 k_4 x_0 s)∧exI .i64 (nbM (s.drop (2*x_0)) k_4:Int) (fun n_5=>exI .i64 (Int.fdiv n_5 4096) (fun n_6=>exI .i64 (n_6.tmod 4) (fun n_7=>ckQ (Nat.beq (aA (kT s x_0)).length (7*x_0)&&true&&Nat.beq (0
 + 7*x_0*1) (7*x_0)&&Nat.ble (7*x_0+1) 1099511627776&&Nat.ble ((7*x_0+1)*8) 1099511627776) (exI .i64 (Int.fdiv n_5 1024) (fun n_8=>exI .i64 (n_8.tmod 4) (fun n_9=>ckQ (Nat.beq (aZz s x_0 n_7).length
 (7*x_0+1)&&true&&Nat.beq (0+(7*x_0+1)*1) (7*x_0+1)&&Nat.ble (7*x_0+1+1) 1099511627776&&Nat.ble ((7*x_0+1+1)*8) 1099511627776) (exI .i64 (Int.fdiv n_5 256) (fun n_10=>exI .i64 (n_10.tmod
 4) (fun n_11=>ckQ (Nat.beq (aLv s x_0 n_7 n_9).length (7*x_0+1+1)&&true&&Nat.beq (0+(7*x_0+1+1)*1) (7*x_0+1+1)&&Nat.ble (7*x_0+1+1+1) 1099511627776&&Nat.ble ((7*x_0+1+1+1)*8)
 1099511627776) (exI .i64 (Int.fdiv n_5 64) (fun n_12=>exI .i64 (n_12.tmod 4) (fun n_13=>ckQ (Nat.beq (aLv s x_0 n_7 n_9++[gM n_11]).length (7*x_0+1+1+1)&&true&&Nat.beq (0+(7*x_0+1+1+1)*1) (7
 * x_0+1+1+1)&&Nat.ble (uF x_0) 1099511627776&&Nat.ble (uF x_0*8) 1099511627776) (exI .i64 (Int.fdiv n_5 16) (fun n_14=>exI .i64 (n_14.tmod 4) (fun n_15=>ckQ (Nat.beq (aLv s x_0 n_7 n_9++[gM n_11]
 ++ [gM n_13]).length (uF x_0)&&true&&Nat.beq (0+uF x_0*1) (uF x_0)&&Nat.ble (uF x_0+1) 1099511627776&&Nat.ble ((uF x_0+1)*8) 1099511627776) (exI .i64 (Int.fdiv n_5 4) (fun n_16=>exI .i64
 (n_16.tmod 4) (fun n_17=>ckQ (Nat.beq (aLv s x_0 n_7 n_9++[gM n_11]++[gM n_13]++[AV.int .i64 n_15]).length (uF x_0+1)&&true&&Nat.beq (0+(uF x_0+1)*1) (uF x_0+1)&&Nat.ble (zH x_0)
 1099511627776&&Nat.ble (zH x_0*8) 1099511627776) (exI .i64 (Int.fdiv n_5 1) (fun n_18=>exI .i64 (n_18.tmod 4) (fun n_19=>ckQ (Nat.beq (aLv s x_0 n_7 n_9++[gM n_11]++[gM n_13]++[gM n_15]++[gM
 n_17]).length (zH x_0)&&true&&Nat.beq (0+zH x_0*1) (zH x_0)&&Nat.ble (zH x_0+1) 1099511627776&&Nat.ble ((zH x_0+1)*8) 1099511627776) (aNn∧((∃y_20:Nat,Lf (y_20=0)∧100<64-x_0∧[aFo k_4 x_0
 s]=[AV.str s]∧False)∨∃y_20:Nat,aRc y_20 n∧64-y_20<64-x_0∧[aFo k_4 x_0 s]=[nC y_20 s]∧aZz s x_0 n_7++[AV.int .i64 n_9]++[gM n_11]++[gM n_13]++[gM n_15]++[gM n_17]++[gM n_19]
 = aA (kT s y_20)∧mF∧lG n∧AV.sl 1 (zH x_0+1) 0 (zH x_0+1) 1=AV.sl 1 (7*y_20) 0 (7*y_20) 1∧lG rf∧True))))))))))))))))))))))) else xK rf s x_0 n Q)) else xK rf s x_0 n Q)))):=by kernel_rfl

end Go.Proofs.YtafchcmemeinlaaDoor

set_option linter.unusedSimpArgs false
set_option linter.unusedVariables false
set_option linter.unusedSectionVars false
namespace Go.Proofs.YtafchcmemeinlaaDoor
open Go.RowKit
set_option maxRecDepth 1000000

theorem nmI (k:Nat) {m:Int} {s:List UInt8} {K:Nat→Int→Prop} (hm:m=(k:Nat)) (hk:k≤4) (hs:s.length≤9223372036854775807) (h:K k ((nbM s k:Nat):Int)) :
  ∃k_2:Nat,Lf (m=(k_2:Nat)∧k_2≤4∧s.length≤9223372036854775807)∧∃n:Int,AV.int .i64 ((nbM s k_2:Nat):Int)=AV.int .i64 n∧K k_2 n:=⟨k,⟨hm,hk,hs⟩,_,rfl,h⟩
theorem eP {s:List UInt8} {m:Nat} (h:s.length≤9223372036854775807):(s.drop m).length≤9223372036854775807:=by rw[List.length_drop];omega
theorem aKv (s:List UInt8):∀i,(aF (fT s i)).length=7*i
 | 0=>rfl
 | i+1=>by
  have:=aKv s i
  simp only[fT,aF,List.flatMap_append,List.length_append] at this ⊢
  rw[this]
  simp[oW]
  omega
theorem aNt (s:List UInt8) (i:Nat):aF (fT s (i+1))=aF (fT s i)++oW (zD (s.drop (24*i))):=by simp[fT,aF]
theorem aAz {s:List UInt8} {a:Int} (h:a=xA (nbM (s.drop 5) 3)) :
  [AV.int .i64 ((nbM s 4:Nat):Int),AV.int .i64 ((nbM (s.drop 4) 1:Nat):Int),AV.int .i64 a,AV.int .i64 ((nbM ((s.drop 5).drop 3) 4:Nat):Int),AV.int .i64 ((nbM (((s.drop 5).drop 3).drop 4) 4:Nat):Int),AV.int .i64 ((nbM ((((s.drop 5).drop 3).drop 4).drop 4) 4:Nat):Int),AV.int .i64 ((nbM (((((s.drop 5).drop 3).drop 4).drop 4).drop 4) 4:Nat):Int)]=oW (zD s):=by
 simp only[List.drop_drop,oW,zD,h]
theorem bCn {x:Nat} (h:(x:Int)≥8388608):(x:Int)-16777216=xA x:=(if_pos (by omega)).symm
theorem bAm {x:Nat} (h:¬ (x:Int)≥8388608):(x:Int)=xA x:=(if_neg (by omega)).symm
theorem aPc (s:List UInt8) (n:Nat) (hn:n≤31) (hs:s.length≤9223372036854775807) (Q:Out→List Blk→Gh→Prop)
  (h0:n=0→Q (.ret .nils) [⟨.exact,true,[.str s]⟩] {})
  (h1:1≤n→Q (.ret (.sl 2 (7*n) 0 n 7)) [⟨.exact,true,[.str (s.drop (24*n))]⟩,⟨.exact,true,oW (zD s)⟩,⟨.grow,true,aF (fT s n)⟩] {}):∃hv hb,aIc hv hb s n Q:=by
 obtain ⟨hv',hb',e'⟩:∃hv hb,aIc hv hb s n Q=_:=⟨_,_,bO2 s n Q⟩
 refine ⟨hv',hb',e'.mpr ?_⟩
 delta bKz bFm bE7 aVh bMr bOi bOq bOa bOk aQn bNv
 clear e'
 refine ⟨.inl ⟨0,⟨rfl⟩,rfl,rfl,rfl,rfl,rfl,trivial⟩, ?_, ?_⟩
 ·rintro i ⟨hi⟩
  refine ⟨_,rfl,aD (fun h => ?_) (fun h => ?_)⟩
  ·have hx:=mZ (s.drop 5) 3
   have p3:(256:Nat)^3=16777216:=by decide
   refine nmI 4 rfl (by omega) hs (nmI 1 rfl (by omega) (eP hs) ?_)
   rw[show List.drop 1 (List.drop 4 s)=List.drop 5 s from List.drop_drop]
   refine nmI 3 rfl (by omega) (eP hs) (aD (fun h8 => ?_) (fun h8 => ?_))
   ·refine aC (by omega) (by omega) (nmI 4 rfl (by omega) (eP (eP hs)) (nmI 4 rfl (by omega) (eP (eP (eP hs))) (nmI 4 rfl (by omega) (eP (eP (eP (eP hs)))) (nmI 4 rfl (by omega) (eP (eP (eP (eP (eP hs))))) ⟨_,rfl,aC (by omega) (by omega) ⟨⟨trivial,rfl⟩,.inr ⟨1,⟨by omega,by omega,by omega⟩,by omega, ?_, ?_, ?_,rfl,rfl,rfl,rfl,trivial⟩⟩⟩))))
    ·simp only[List.drop_drop]
    ·exact aAz (bCn h8)
    ·rw[show fT s 1=[zD s] from rfl]
     exact (aAz (bCn h8)).trans (by simp[aF])
   ·refine (nmI 4 rfl (by omega) (eP (eP hs)) (nmI 4 rfl (by omega) (eP (eP (eP hs))) (nmI 4 rfl (by omega) (eP (eP (eP (eP hs)))) (nmI 4 rfl (by omega) (eP (eP (eP (eP (eP hs))))) ⟨_,rfl,aC (by omega) (by omega) ⟨⟨trivial,rfl⟩,.inr ⟨1,⟨by omega,by omega,by omega⟩,by omega, ?_, ?_, ?_,rfl,rfl,rfl,rfl,trivial⟩⟩⟩))))
    ·simp only[List.drop_drop]
    ·exact aAz (bAm h8)
    ·rw[show fT s 1=[zD s] from rfl]
     exact (aAz (bAm h8)).trans (by simp[aF])
  ·exact h0 (by omega)
 ·rintro i ⟨hi1,hi2,hi3⟩
  refine ⟨_,rfl,aD (fun h => ?_) (fun h => ?_)⟩
  ·have hl:=aKv s i
   have hz:(s.drop (24*(i+1)))=((s.drop (24*i)).drop 24):=by rw[List.drop_drop];rfl
   have hsn:=aNt s i
   have hsi:(s.drop (24*i)).length≤9223372036854775807:=eP hs
   generalize s.drop (24*i)=si at *
   have hx:=mZ (si.drop 5) 3
   have p3:(256:Nat)^3=16777216:=by decide
   refine nmI 4 rfl (by omega) hsi (nmI 1 rfl (by omega) (eP hsi) ?_)
   rw[show List.drop 1 (List.drop 4 si)=List.drop 5 si from List.drop_drop]
   refine nmI 3 rfl (by omega) (eP hsi) (aD (fun h8 => ?_) (fun h8 => ?_))
   ·refine aC (by omega) (by omega) (nmI 4 rfl (by omega) (eP (eP hsi)) (nmI 4 rfl (by omega) (eP (eP (eP hsi))) (nmI 4 rfl (by omega) (eP (eP (eP (eP hsi)))) (nmI 4 rfl (by omega) (eP (eP (eP (eP (eP hsi))))) (ckI (by simp[hl];omega) ⟨_,rfl,aC (by omega) (by omega) ⟨⟨trivial,rfl⟩,.inr ⟨i+1,⟨by omega,by omega,by omega⟩,by omega, ?_,rfl, ?_,rfl,rfl,rfl,rfl,trivial⟩⟩⟩)))))
    ·rw[hz];simp only[List.drop_drop]
    ·rw[hsn,←aAz (bCn h8)]
   ·refine (nmI 4 rfl (by omega) (eP (eP hsi)) (nmI 4 rfl (by omega) (eP (eP (eP hsi))) (nmI 4 rfl (by omega) (eP (eP (eP (eP hsi)))) (nmI 4 rfl (by omega) (eP (eP (eP (eP (eP hsi))))) (ckI (by simp[hl];omega) ⟨_,rfl,aC (by omega) (by omega) ⟨⟨trivial,rfl⟩,.inr ⟨i+1,⟨by omega,by omega,by omega⟩,by omega, ?_,rfl, ?_,rfl,rfl,rfl,rfl,trivial⟩⟩⟩)))))
    ·rw[hz];simp only[List.drop_drop]
    ·rw[hsn,←aAz (bAm h8)]
  ·obtain rfl:i=n:=by omega
   exact h1 hi1
def bCt (rest cs:List AV) (K:(Nat→Out)→List AV→List Blk→Prop):Prop:=match rest,cs with
 | [.int .i64 n],[.str s]=>∃k:Nat,Lf (n=(k:Int)∧k≤31∧s.length≤9223372036854775807)∧(Lf (k=0)→K (fun _=>.ret .nils) [.str s] []) ∧
   (Lf (1≤k)→K (fun N=>.ret (.sl (N+1) (7*k) 0 k 7)) [.str (s.drop (24*k))] [⟨.exact,true,oW (zD s)⟩,⟨.grow,true,aF (fT s k)⟩])
 | _,_=>False
theorem bC9 (r:Rc):bB 0 (oW r)=true∧bQ (oW r)=true:=⟨rfl,rfl⟩
theorem aJ1:∀rs:List Rc,bB 0 (aF rs)=true∧bQ (aF rs)=true
 | []=>⟨rfl,rfl⟩
 | r::rs=>by
  have:=aJ1 rs
  exact ⟨by simpa [aF,oW,bB,old] using this.1,by simpa [aF,oW,bQ,noY] using this.2⟩
theorem aR0:aO Tryd.prog glC 63 (aLt 1 bCt):=by
 refine aA3 (enters_of (by kernel_rfl)) aV fun rest cs R _ _ _ _ hg => ?_
 unfold bCt at hg
 split at hg
 ·rename_i n s _ _ _ _
  obtain ⟨k,⟨rfl,h1,h2⟩,q0,q1⟩:=hg
  obtain ⟨hv,hb',h⟩:=aPc s k h1 h2 (Q:=fun o H' _=>∃of cs' nw,H'=⟨.exact,true,cs'⟩::nw∧bB 0 cs'=true∧bQ cs'=true∧(∀b∈nw,b.k≠.ro∧bB 0 b.cs=true∧bQ b.cs=true)∧o=of 1∧(∀i N,aM6 (sig (fun _=>i) 1 N) o=of N)∧R of cs' nw)
   (fun hk=>⟨_,_,_,rfl,rfl,rfl,by simp,rfl,fun _ _=>rfl,q0 ⟨hk⟩⟩)
   (fun hk=>⟨_,_,_,rfl,rfl,rfl,(by
    intro b hb
    simp only[List.mem_cons,List.not_mem_nil,or_false] at hb
    rcases hb with rfl | rfl
    ·exact ⟨by simp,bC9 _⟩
    ·exact ⟨by simp,aJ1 _⟩),rfl,fun i N=>(by simp[aM6,ren,sig]),q1 ⟨hk⟩⟩)
  exact ⟨_,1000,aS aSw _ hv hb',rfl,h⟩
 ·exact hg.elim
end Go.Proofs.YtafchcmemeinlaaDoor

set_option linter.unusedSimpArgs false
set_option linter.unusedVariables false
set_option linter.unusedSectionVars false
namespace Go.Proofs.YtafchcmemeinlaaDoor
open Go.RowKit
set_option maxRecDepth 1000000

theorem aBp {sg:List Int} {n:Nat} {la0:Int} {l0:List UInt8} {i:Nat} {la:Int} {l:List UInt8} {acc:List Int} (h:qH sg n la0 l0 i la l acc) (hi:i<n) (hs:i<sg.length) (la':Int) (l':List UInt8) (x:Int)
  (hb : -65536≤la'-la∧la'-la≤65536) (hl:l'.length≤l.length) (he:aCx sg (min n sg.length-i) i la l acc=aCx sg (min n sg.length-(i+1)) (i+1) la' l' (acc++[x])):qH sg n la0 l0 (i+1) la' l' (acc++[x]):=by
 obtain ⟨h1,h2,h3,h4,h5,h6,h7⟩:=h
 exact ⟨by omega,by omega,by rw[List.length_append,h3];rfl,by omega,by omega,by omega,h7.trans he⟩
theorem bG5 {sg:List Int} {n:Nat} {la0:Int} {l0:List UInt8} {i:Nat} {la:Int} {l:List UInt8} {acc:List Int} (h:qH sg n la0 l0 i la l acc) (hi:i<n) (hs:i<sg.length) (h1:sg.getD i 0=1) :
  qH sg n la0 l0 (i+1) (la+(nbM l 1:Nat)) (l.drop 1) (acc++[la+(nbM l 1:Nat)]):=by
 have:=mZ l 1
 refine aBp h hi hs _ _ _ (by omega) (by rw[List.length_drop];omega) ?_
 obtain ⟨m,hm⟩:∃m,min n sg.length-i=m+1:=⟨min n sg.length-i-1,by omega⟩
 rw[hm,aCx,if_pos h1,show min n sg.length-(i+1)=m by omega]
theorem bGo {sg:List Int} {n:Nat} {la0:Int} {l0:List UInt8} {i:Nat} {la:Int} {l:List UInt8} {acc:List Int} (h:qH sg n la0 l0 i la l acc) (hi:i<n) (hs:i<sg.length) (h1:sg.getD i 0=2) :
  qH sg n la0 l0 (i+1) (la+sxM (nbM l 2:Nat)) (l.drop 2) (acc++[la+sxM (nbM l 2:Nat)]):=by
 have h2:=mZ l 2
 have p2:(256:Nat)^2=65536:=by decide
 have:=bA8 (x:=((nbM l 2:Nat):Int)) (by omega)
 refine aBp h hi hs _ _ _ (by omega) (by rw[List.length_drop];omega) ?_
 obtain ⟨m,hm⟩:∃m,min n sg.length-i=m+1:=⟨min n sg.length-i-1,by omega⟩
 rw[hm,aCx,if_neg (by omega),if_pos h1,show min n sg.length-(i+1)=m by omega]
theorem bIf {sg:List Int} {n:Nat} {la0:Int} {l0:List UInt8} {i:Nat} {la:Int} {l:List UInt8} {acc:List Int} (h:qH sg n la0 l0 i la l acc) (hi:i<n) (hs:i<sg.length) (h1:sg.getD i 0≠1) (h2:sg.getD i 0≠2) :
  qH sg n la0 l0 (i+1) la l (acc++[-1]):=by
 refine aBp h hi hs _ _ _ (by omega) (Nat.le_refl _) ?_
 obtain ⟨m,hm⟩:∃m,min n sg.length-i=m+1:=⟨min n sg.length-i-1,by omega⟩
 rw[hm,aCx,if_neg h1,if_neg h2,show min n sg.length-(i+1)=m by omega]
theorem aQu (sg:List Int) (n:Nat) {la0:Int} (l0:List UInt8) (h:0≤la0∧la0≤4294967296):qH sg n la0 l0 0 la0 l0 []:=⟨Nat.zero_le _,Nat.zero_le _,rfl,by omega,by omega,Nat.le_refl _,rfl⟩
theorem bE4 {sg:List Int} {n:Nat} {la0:Int} {l0:List UInt8} {i:Nat} {la:Int} {l:List UInt8} {acc:List Int} (h:qH sg n la0 l0 i la l acc) (hi:n≤i∨sg.length≤i):aCx sg (min n sg.length) 0 la0 l0 []=acc:=by
 obtain ⟨h1,h2,h3,h4,h5,h6,h7⟩:=h
 rw[h7,show min n sg.length-i=0 by omega,aCx]
theorem aIk {sg:List Int} {s:List UInt8} {m n k:Nat} {n5 n15:Int} (hc:aA (kT s m)=aA sg) (hl:7*m=sg.length) (hi:0<sg.length) (h0:sg.getD 0 0≠0) (h3:sg.getD 0 0≠3) (hn:n≤65535)
  (ha:qH sg n n5 (s.drop (2*m)) 1 n15 ((s.drop (2*m)).drop k) ([]++[n15])):vR sg s m n5 n k n15:=by
 unfold vR
 delta aNu gM aS2 aE4 aLw lG mF kZ mG aFo aKa nC aNc aNn aEd bPy bLf aFk aH9 aHb aO6 aWw aId
 refine ⟨_,rfl, ?_⟩
 try dsimp only
 refine ckI (by simp[aB];omega) (ckI (by simp[aB];omega) (aFz (xs:=sg) (i:=0) hi (by simp) (aP (fun h=>absurd h h0) fun _=>⟨_,rfl, ?_⟩)))
 try dsimp only
 refine ckI (by simp[aB];omega) (ckI (by simp[aB];omega) (aFz (xs:=sg) (i:=0) hi (by simp) (aP (fun h=>absurd h h3) fun _=>⟨_,rfl, ?_⟩)))
 exact aC (by omega) (by omega) ⟨⟨trivial,rfl⟩,.inr ⟨(sg,1,n15,(s.drop (2*m)).drop k,[n15]),⟨hc,hl,Nat.le_refl _,ha⟩,by dsimp only;omega,rfl,rfl,rfl,rfl,rfl,rfl,rfl,rfl,rfl,trivial⟩⟩
theorem aIx {sg acc:List Int} {s l:List UInt8} {m n k i:Nat} {la n5 n15:Int} (hc:aA (kT s m)=aA sg) (hl:7*m=sg.length) (hi:i<sg.length) (hin:i<n) (h1:1≤i) (h0:sg.getD i 0≠0) (h3:sg.getD i 0≠3) (hn:n≤65535) (hac:acc.length=i)
  (ha:qH sg n n5 (s.drop (2*m)) (i+1) n15 (l.drop k) (acc++[n15])):wU (sg,i,la,l,acc) s m n5 n k n15:=by
 unfold wU
 delta bGi gM aS2 aE4 lG mF kZ mG aKa nC aNc aNn aEd bFu bM6 aFk aI9 aH3 aO6 aV2 aI7
 refine ⟨_,rfl, ?_⟩
 dsimp only
 refine ckI (by simp[aB];omega) (ckI (by simp[aB];omega) (aFz (xs:=sg) (i:=i) hi (by simp) (aP (fun h=>absurd h h0) fun _=>⟨_,rfl, ?_⟩)))
 try dsimp only
 refine ckI (by simp[aB];omega) (ckI (by simp[aB];omega) (aFz (xs:=sg) (i:=i) hi (by simp) (aP (fun h=>absurd h h3) fun _=>ckI (by simp[aB];omega) ⟨_,rfl, ?_⟩)))
 exact aC (by omega) (by omega) ⟨⟨trivial,rfl⟩,.inr ⟨(sg,i+1,n15,l.drop k,acc++[n15]),⟨hc,hl,by dsimp only;omega,ha⟩,by dsimp only;omega,rfl,rfl,by simp[aA],rfl,rfl,rfl,rfl,rfl,by simp,trivial⟩⟩
theorem sgB {s:List UInt8} {m:Nat} {sg:List Int} (h:aA (kT s m)=aA sg) (i:Nat):0≤sg.getD i 0∧sg.getD i 0≤3:=by
 obtain rfl:=mM h
 exact aRv (aOw _ _) i
theorem sxT {x:Nat} (h:(x:Int)≥32768):sxM (x:Int)=(x:Int)-65536:=if_pos h
theorem sxF {x:Nat} (h:¬ (x:Int)≥32768):sxM (x:Int)=(x:Int):=if_neg h
theorem bAa (rf:Nat) (s:List UInt8) (m n:Nat) (Q:Out→List Blk→Gh→Prop) (hrf:rf≤16777215) (hs:s.length≤9223372036854775807) (hn:n≤65535) (hm:1≤m∧m=rnM n) (h1:1≤n)
  (hq:∀s',Q (.ret (.sl 2 (uW n rf s).length 0 (uW n rf s).length 1)) [⟨.exact,true,[.str s']⟩,⟨.grow,true,aA (kT s (rnM n))⟩,⟨.grow,true,aA (uW n rf s)⟩] {}):xK rf s m n Q:=by
 unfold xK
 delta bFd kZ bGi gM aS2 aE4 lG mF mG aKa nC aNc aNn aEd bFu bOo aFk aI9 aH3 aO6 aV2 aI7 bLf aNu aLw aXu aH9 aHb aWw aId aRi aT2
 refine ⟨_,rfl, ?_⟩
 try dsimp only
 refine aC (by omega) (by omega) ⟨.inl ⟨kT s m,⟨rfl,(qW s m).symm,by omega,by omega⟩,rfl,rfl,rfl,rfl,by rw[qW],rfl,rfl,rfl,trivial⟩, ?_, ?_⟩
 ·rintro sg ⟨hc,hl,hla1,hla2⟩
  have hst:=aQu sg n (s.drop (2*m)) ⟨hla1,hla2⟩
  have hsi:(s.drop (2*m)).length≤9223372036854775807:=eP hs
  refine ⟨_,rfl,⟨_,rfl,aD (fun _=>⟨_,rfl, ?_⟩) (fun h=>absurd h (by omega))⟩⟩
  refine ckI (by simp[aB]) ⟨_,rfl,aD (fun _=>⟨_,rfl, ?_⟩) (fun h=>absurd h (by omega))⟩
  try dsimp only
  have b0:=sgB hc 0
  have h0n:0<sg.length:=by omega
  refine ckI (by simp[aB];omega) (ckI (by simp[aB];omega) (aFz (xs:=sg) (i:=0) h0n (by simp) (aP (fun e1 => ?_) (fun e1=>aP (fun e2 => ?_) (fun e2=>⟨_,rfl, ?_⟩)))))
  ·have hb:=mZ (s.drop (2*m)) 1
   refine nmI 1 rfl (by omega) hsi (aC (by omega) (by omega) (aIk hc hl h0n (by omega) (by omega) hn (bG5 hst (by omega) h0n e1)))
  ·have hb:=mZ (s.drop (2*m)) 2
   have p2:(256:Nat)^2=65536:=by decide
   have ha:=bGo hst (by omega) h0n e2
   refine nmI 2 rfl (by omega) hsi (aD (fun h8 => ?_) (fun h8 => ?_))
   ·rw[sxT h8] at ha
    exact aC (by omega) (by omega) (aC (by omega) (by omega) (aIk hc hl h0n (by omega) (by omega) hn ha))
   ·rw[sxF h8] at ha
    exact aC (by omega) (by omega) (aIk hc hl h0n (by omega) (by omega) hn ha)
  ·have ha:=bIf hst (by omega) h0n e1 e2
   try dsimp only
   refine ckI (by simp[aB];omega) (ckI (by simp[aB];omega) (aFz (xs:=sg) (i:=0) h0n (by simp) (aP (fun e0=>⟨_,rfl, ?_⟩) (fun e0=>⟨_,rfl, ?_⟩))))
   ·exact aC (by omega) (by omega) ⟨⟨trivial,rfl⟩,.inr ⟨(sg,1,256*(rf:Int),s.drop (2*m),[-1]),⟨hc,hl,Nat.le_refl _,ha⟩,by dsimp only;omega,rfl,rfl,rfl,rfl,rfl,rfl,rfl,rfl,rfl,trivial⟩⟩
   ·try dsimp only
    refine ckI (by simp[aB];omega) (ckI (by simp[aB];omega) (aFz (xs:=sg) (i:=0) h0n (by simp) (aP (fun e3=>⟨_,rfl, ?_⟩) (fun e3=>absurd b0 (by omega)))))
    exact aC (by omega) (by omega) ⟨⟨trivial,rfl⟩,.inr ⟨(sg,1,256*(rf:Int),s.drop (2*m),[-1]),⟨hc,hl,Nat.le_refl _,ha⟩,by dsimp only;omega,rfl,rfl,rfl,rfl,rfl,rfl,rfl,rfl,rfl,trivial⟩⟩
 ·rintro ⟨sg,i,la,l,acc⟩ ⟨hc,hl,hi1,hst⟩
  dsimp only at hc hl hi1 hst ⊢
  have hst':=hst
  obtain ⟨a1,a2,a3,a4,a5,a6,a7⟩:=hst'
  have hsi:l.length≤9223372036854775807:=Nat.le_trans a6 (eP hs)
  have fin:n≤i∨sg.length≤i→Q (.ret (.sl 2 acc.length 0 acc.length 1)) [⟨.exact,true,[.str l]⟩,⟨.grow,true,aA sg⟩,⟨.grow,true,aA acc⟩] {}:=fun h=>by
   have e:=bE4 hst h
   have e1:=mM hc
   have e2:uW n rf s=acc:=by
    rw[uW,←hm.2,e1,←e,hl]
   have:=hq l
   rw[e2,←hm.2,hc] at this
   exact this
  refine ⟨_,rfl,⟨_,rfl,aD (fun hin=>⟨_,rfl, ?_⟩) (fun h=>fin (by omega))⟩⟩
  refine ckI (by simp[aB]) ⟨_,rfl,aD (fun hsn=>⟨_,rfl, ?_⟩) (fun h=>fin (by omega))⟩
  try dsimp only
  have b0:=sgB hc i
  have h0n:i<sg.length:=by omega
  have hin':i<n:=by omega
  refine ckI (by simp[aB];omega) (ckI (by simp[aB];omega) (aFz (xs:=sg) (i:=i) h0n (by simp) (aP (fun e1 => ?_) (fun e1=>aP (fun e2 => ?_) (fun e2=>⟨_,rfl, ?_⟩)))))
  ·have hb:=mZ l 1
   refine nmI 1 rfl (by omega) hsi (aC (by omega) (by omega) (aIx hc hl h0n hin' hi1 (by omega) (by omega) hn a3 (bG5 hst hin' h0n e1)))
  ·have hb:=mZ l 2
   have p2:(256:Nat)^2=65536:=by decide
   have ha:=bGo hst hin' h0n e2
   refine nmI 2 rfl (by omega) hsi (aD (fun h8 => ?_) (fun h8 => ?_))
   ·rw[sxT h8] at ha
    exact aC (by omega) (by omega) (aC (by omega) (by omega) (aIx hc hl h0n hin' hi1 (by omega) (by omega) hn a3 ha))
   ·rw[sxF h8] at ha
    exact aC (by omega) (by omega) (aIx hc hl h0n hin' hi1 (by omega) (by omega) hn a3 ha)
  ·have ha:=bIf hst hin' h0n e1 e2
   try dsimp only
   refine ckI (by simp[aB];omega) (ckI (by simp[aB];omega) (aFz (xs:=sg) (i:=i) h0n (by simp) (aP (fun e0 => ?_) (fun e0=>⟨_,rfl, ?_⟩))))
   ·exact ckI (by simp[aB];omega) ⟨_,rfl,aC (by omega) (by omega) ⟨⟨trivial,rfl⟩,.inr ⟨(sg,i+1,la,l,acc++[-1]),⟨hc,hl,by dsimp only;omega,ha⟩,by dsimp only;omega,rfl,rfl,by simp[aA],rfl,rfl,rfl,rfl,rfl,by simp,trivial⟩⟩⟩
   ·try dsimp only
    refine ckI (by simp[aB];omega) (ckI (by simp[aB];omega) (aFz (xs:=sg) (i:=i) h0n (by simp) (aP (fun e3 => ?_) (fun e3=>absurd b0 (by omega)))))
    exact ckI (by simp[aB];omega) ⟨_,rfl,aC (by omega) (by omega) ⟨⟨trivial,rfl⟩,.inr ⟨(sg,i+1,la,l,acc++[-1]),⟨hc,hl,by dsimp only;omega,ha⟩,by dsimp only;omega,rfl,rfl,by simp[aA],rfl,rfl,rfl,rfl,rfl,by simp,trivial⟩⟩⟩
end Go.Proofs.YtafchcmemeinlaaDoor

set_option linter.unusedSimpArgs false
set_option linter.unusedVariables false
set_option linter.unusedSectionVars false
namespace Go.Proofs.YtafchcmemeinlaaDoor
open Go.RowKit
set_option maxRecDepth 1000000

theorem sgW (w:Nat) {d:Int} (hd:0<d):(Int.fdiv (w:Int) d).tmod 4=(w:Int)/d%4:=by
 have h0:0≤(w:Int)/d:=Int.ediv_nonneg (by omega) (by omega)
 rw[Int.fdiv_eq_ediv_of_nonneg _ (by omega),Int.tmod_eq_emod_of_nonneg h0]
theorem sgL (w:Nat):[AV.int .i64 ((Int.fdiv (w:Int) 4096).tmod 4),.int .i64 ((Int.fdiv (w:Int) 1024).tmod 4),.int .i64 ((Int.fdiv (w:Int) 256).tmod 4),.int .i64 ((Int.fdiv (w:Int) 64).tmod 4),.int .i64 ((Int.fdiv (w:Int) 16).tmod 4),.int .i64 ((Int.fdiv (w:Int) 4).tmod 4),.int .i64 ((Int.fdiv (w:Int) 1).tmod 4)]=aA (rH (w:Int)):=by
 rw[sgW w (by decide),sgW w (by decide),sgW w (by decide),sgW w (by decide),sgW w (by decide),sgW w (by decide),sgW w (by decide),Int.ediv_one]
 rfl
theorem sgK {L:List AV} {t:Nat} {P:Prop} (hL:L.length=t) (ht:t≤1000) (h:P):ckQ (Nat.beq L.length t&&Bool.true&&Nat.beq (0+t*1) t&&Nat.ble (t+1) 1099511627776&&Nat.ble ((t+1)*8) 1099511627776) P:=
 ckI (by simp[hL];omega) h
theorem bB2 (s:List UInt8) (m:Nat):(aA (kT s m)).length=7*m:=by rw[aB,qW]
theorem aUl (s:List UInt8) (m:Nat) {a b c d e f g:AV} (h:[a,b,c,d,e,f,g]=aA (rH (nbM (s.drop (2*m)) 2:Nat))):aA (kT s m)++[a]++[b]++[c]++[d]++[e]++[f]++[g]=aA (kT s (m+1)):=by
 have e0:aA (kT s (m+1))=aA (kT s m)++aA (rH (nbM (s.drop (2*m)) 2:Nat)):=by simp[kT,aA]
 rw[e0,←h]
 simp
theorem aXg (s:List UInt8) (n rf:Nat) (hrf:rf≤16777215) (hs:s.length≤9223372036854775807) (hn:n≤65535) (Q:Out→List Blk→Gh→Prop)
  (h0:n=0→Q (.ret .nils) [⟨.exact,true,[.str s]⟩] {})
  (h1:1≤n→∀s',Q (.ret (.sl 2 (uW n rf s).length 0 (uW n rf s).length 1)) [⟨.exact,true,[.str s']⟩,⟨.grow,true,aA (kT s (rnM n))⟩,⟨.grow,true,aA (uW n rf s)⟩] {}):∃hv hb,aJb hv hb s n rf Q:=by
 obtain ⟨hv',hb',e'⟩:∃hv hb,aJb hv hb s n rf Q=_:=⟨_,_,bNl s n rf Q⟩
 refine ⟨hv',hb',e'.mpr ?_⟩
 delta mF lG aRc nC aEd aNn aF6 aRi aZz aLv gM uF zH aFo
 clear e'
 have hr15:rnM n≤15:=by unfold rnM;split<;>omega
 refine ⟨.inl ⟨0,⟨rfl⟩,rfl,rfl,rfl,rfl,rfl,trivial⟩, ?_, ?_⟩
 ·rintro i ⟨hi⟩
  refine ⟨_,rfl,_,rfl,aD (fun h=>⟨_,rfl,aD (fun _ => ?_) (fun h=>absurd h (by omega))⟩) (fun h => ?_)⟩
  ·have hr1:1≤rnM n:=by unfold rnM;split<;>omega
   refine nmI 2 rfl (by omega) hs ⟨_,rfl,_,rfl,_,rfl,_,rfl,_,rfl,_,rfl,_,rfl,_,rfl,_,rfl,_,rfl,_,rfl,_,rfl,_,rfl,_,rfl,⟨trivial,rfl⟩,.inr ⟨1,⟨by omega,hr1⟩,by omega,rfl, ?_,rfl,rfl,rfl,rfl,trivial⟩⟩
   rw[sgL]
   rfl
  ·unfold aGk
   delta aT2 lG mF
   refine ⟨_,rfl,aC (by omega) (by omega) ⟨⟨0,⟨rfl,by omega⟩,rfl,rfl,rfl,rfl,rfl,rfl,rfl,trivial⟩, ?_⟩⟩
   rintro j ⟨hj,hn0⟩
   exact ⟨_,rfl,_,rfl,aD (fun h=>absurd h (by omega)) (fun _=>h0 hn0)⟩
 ·rintro m ⟨hm1,hm2⟩
  have hn1:1≤n:=by
   cases n with
   | zero=>exact absurd hm2 (by rw[show rnM 0=0 from rfl];omega)
   | succ n=>omega
  have hl:=bB2 s m
  have hsi:(s.drop (2*m)).length≤9223372036854775807:=eP hs
  have fin:n≤7*m∨100≤7*m→xK rf s m n Q:=fun h=>by
   refine bAa rf s m n Q hrf hs hn ⟨hm1, ?_⟩ hn1 (h1 hn1)
   have:rnM n≤m:=by unfold rnM;split<;>omega
   omega
  refine ckI (by simp[hl]) ⟨_,rfl,_,rfl,aD (fun hlt => ?_) (fun h=>fin (by omega))⟩
  refine ckI (by simp[hl]) ⟨_,rfl,aD (fun hlt2 => ?_) (fun h=>fin (by omega))⟩
  have hm3:m+1≤rnM n:=by unfold rnM;split<;>omega
  have hm4:m≤14:=by omega
  refine nmI 2 rfl (by omega) hsi ⟨_,rfl,_,rfl, ?_⟩
  try dsimp only
  refine sgK hl (by omega) ⟨_,rfl,_,rfl, ?_⟩
  try dsimp only
  refine sgK (by simp[hl]) (by omega) ⟨_,rfl,_,rfl, ?_⟩
  try dsimp only
  refine sgK (by simp[hl]) (by omega) ⟨_,rfl,_,rfl, ?_⟩
  try dsimp only
  refine sgK (by simp[hl]) (by omega) ⟨_,rfl,_,rfl, ?_⟩
  try dsimp only
  refine sgK (by simp[hl]) (by omega) ⟨_,rfl,_,rfl, ?_⟩
  try dsimp only
  refine sgK (by simp[hl]) (by omega) ⟨_,rfl,_,rfl, ?_⟩
  try dsimp only
  refine sgK (by simp[hl]) (by omega) ⟨⟨trivial,rfl⟩,.inr ⟨m+1,⟨by omega,hm3⟩,by omega, ?_,aUl s m (sgL _),rfl,rfl,rfl,rfl,trivial⟩⟩
  rw[List.drop_drop]
  rfl
def bN0 (rest cs:List AV) (K:(Nat→Out)→List AV→List Blk→Prop):Prop:=match rest,cs with
 | [.int .i64 n,.int .i64 rf],[.str s]=>∃k r:Nat,Lf (n=(k:Int)∧rf=(r:Int)∧k≤65535∧r≤16777215∧s.length≤9223372036854775807)∧(Lf (k=0)→K (fun _=>.ret .nils) [.str s] []) ∧
   (Lf (1≤k)→∀s',K (fun N=>.ret (.sl (N+1) (uW k r s).length 0 (uW k r s).length 1)) [.str s'] [⟨.grow,true,aA (kT s (rnM k))⟩,⟨.grow,true,aA (uW k r s)⟩])
 | _,_=>False
theorem aWs:aO Tryd.prog glC 64 (aLt 1 bN0):=by
 refine aA3 (enters_of (by kernel_rfl)) aV fun rest cs R _ _ _ _ hg => ?_
 unfold bN0 at hg
 split at hg
 ·rename_i n rf s _ _ _ _
  obtain ⟨k,r,⟨rfl,rfl,h1,h2,h3⟩,q0,q1⟩:=hg
  obtain ⟨hv,hb',h⟩:=aXg s k r h2 h3 h1 (Q:=fun o H' _=>∃of cs' nw,H'=⟨.exact,true,cs'⟩::nw∧bB 0 cs'=true∧bQ cs'=true∧(∀b∈nw,b.k≠.ro∧bB 0 b.cs=true∧bQ b.cs=true)∧o=of 1∧(∀i N,aM6 (sig (fun _=>i) 1 N) o=of N)∧R of cs' nw)
   (fun hk=>⟨_,_,_,rfl,rfl,rfl,by simp,rfl,fun _ _=>rfl,q0 ⟨hk⟩⟩)
   (fun hk s'=>⟨_,_,_,rfl,rfl,rfl,(by
    intro b hb
    simp only[List.mem_cons,List.not_mem_nil,or_false] at hb
    rcases hb with rfl | rfl
    ·exact ⟨by simp,iW _⟩
    ·exact ⟨by simp,iW _⟩),rfl,fun i N=>(by simp[aM6,ren,sig]),q1 ⟨hk⟩ s'⟩)
  exact ⟨_,1000,aS aSw _ hv hb',rfl,h⟩
 ·exact hg.elim
end Go.Proofs.YtafchcmemeinlaaDoor

set_option linter.unusedSimpArgs false
set_option linter.unusedVariables false
set_option linter.unusedSectionVars false
namespace Go.Proofs.YtafchcmemeinlaaDoor
open Go.RowKit
set_option maxRecDepth 1000000

def bQe:SM:=gH [(62,bKj 1 bLj),(63,aLt 1 bCt),(64,aLt 1 bN0)]
theorem bD0:∀f g,bQe f=some g→aO Tryd.prog glC f g:=bW _ (by simp only[List.mem_cons,List.not_mem_nil,or_false,forall_eq_or_imp,forall_eq];exact ⟨aK1,aR0,aWs⟩)
def aC6 (l0:List UInt8) (acc:List Int) (l:List UInt8):Prop:=l.length≤l0.length∧acc.length+17*l.length≤17*l0.length∧∃f,l.length≤f∧aGq l0.length l0=acc++aGq f l
def bKd (z:S):List (List LInv):=match z.hp with
 | [⟨_,_,z0⟩,⟨_,_,[.str l0]⟩,⟨_,_,[c0,c1,c2,c3,c4,c5,c6,c7,c8,_,c10,c11,c12]⟩]=>[[
  { α:=Nat,pre:=fun i=>Lf (i=0),st:=fun i=>⟨mkT [(2,.ptr 0 13 0),(3,.ptr 1 1 0),(6,.ptr 2 13 0)],z.hp⟩,mu:=fun i=>l0.length+1 },
  { α:=List Int×List UInt8,pre:=fun x=>Lf (1≤x.1.length∧aC6 l0 x.1 x.2),st:=fun x=>⟨mkT [(2,.ptr 0 13 0),(3,.ptr 1 1 0),(6,.ptr 2 13 0)],[⟨.exact,true,z0⟩,⟨.exact,true,[.str x.2]⟩,⟨.exact,false,[c0,c1,c2,c3,c4,c5,c6,c7,c8,.sl 3 x.1.length 0 x.1.length 1,c10,c11,c12]⟩,⟨.grow,true,aA x.1⟩]⟩,mu:=fun x=>x.2.length }]]
 | _=>[]
def bEm (z:S):List (List LInv):=match z.tm.get 7,z.tm.get 8,z.hp with
 | .int _ base,.int _ mask,[⟨_,_,z0⟩,⟨_,_,[.str l0]⟩,⟨_,_,[c0,c1,c2,c3,c4,c5,c6,c7,c8,.sl _ tot _ _ _,c10,c11,c12]⟩,⟨_,_,g⟩]=>[[
  { α:=Nat,pre:=fun i=>Lf (i≤16),st:=fun i=>⟨mkT [(2,.ptr 0 13 0),(3,.ptr 1 1 0),(6,.ptr 2 13 0),(7,.int .i64 base),(8,.int .i64 mask),(9,.int .i64 (i:Nat))],[⟨.exact,true,z0⟩,⟨.exact,true,[.str l0]⟩,⟨.exact,false,[c0,c1,c2,c3,c4,c5,c6,c7,c8,.sl 3 (tot+(mbM base mask i).length) 0 (tot+(mbM base mask i).length) 1,c10,c11,c12]⟩,⟨.grow,true,g++aA (mbM base mask i)⟩]⟩,mu:=fun i=>16-i }]]
 | _,_,_=>[]
noncomputable def aZi (hv:Nat→Option Pa) (hb:Nat→Option Bool):Env:=e24 bQe (fun i=>bif Nat.beq i 39001 then some bKd else bif Nat.beq i 39003 then some bEm else none) hv hb
noncomputable def aIh (hv:Nat→Option Pa) (hb:Nat→Option Bool) (s:List UInt8) (Q:Out→List Blk→Gh→Prop):Prop:=
 bH (aZi hv hb) (wpx (aZi hv hb) 1000) 39 [.str s] [] {} Q
def bH8 (n_4:Int) (k_7:Nat) (k_5:Nat) (k_3:Nat) (k_0:Nat) (s:List UInt8) (Q:Out→List Blk→Gh→Prop) (n_8:Int):Prop:=
bif n_4==205 then ∃k_9:Nat,Lf (4=(k_9:Int)∧k_9≤4∧((((s.drop k_0).drop k_3).drop k_5).drop k_7).length≤9223372036854775807)∧exI .i64 (nbM ((((s.drop k_0).drop k_3).drop k_5).drop k_7) k_9:Int) (fun n_10=>∃k_11
 : Nat,Lf (2=(k_11:Int)∧k_11≤4∧(((((s.drop k_0).drop k_3).drop k_5).drop k_7).drop k_9).length≤9223372036854775807)∧exI .i64 (nbM (((((s.drop k_0).drop k_3).drop k_5).drop k_7).drop k_9) k_11:Int) (fun n_12=>∃k_13
 : Nat,Lf (2=(k_13:Int)∧k_13≤4∧((((((s.drop k_0).drop k_3).drop k_5).drop k_7).drop k_9).drop k_11).length≤9223372036854775807)∧exI .i64 (nbM ((((((s.drop k_0).drop k_3).drop k_5).drop k_7).drop k_9).drop k_11) k_13 :
 Int) (fun n_14=>∃k_15:Nat,Lf (3=(k_15:Int)∧k_15≤4∧(((((((s.drop k_0).drop k_3).drop k_5).drop k_7).drop k_9).drop k_11).drop k_13).length≤9223372036854775807)∧exI .i64 (nbM (((((((s.drop k_0).drop k_3).drop
 k_5).drop k_7).drop k_9).drop k_11).drop k_13) k_15:Int) (fun n_16=>∃k_17:Nat,Lf (1=(k_17:Int)∧k_17≤4∧((((((((s.drop k_0).drop k_3).drop k_5).drop k_7).drop k_9).drop k_11).drop k_13).drop k_15).length ≤
 9223372036854775807)∧exI .i64 (nbM ((((((((s.drop k_0).drop k_3).drop k_5).drop k_7).drop k_9).drop k_11).drop k_13).drop k_15) k_17:Int) (fun n_18=>∃k_19 r_20:Nat,Lf (n_14=(k_19:Int)∧n_16=(r_20:Int)∧k_19 ≤
 65535∧r_20≤16777215∧(((((((((s.drop k_0).drop k_3).drop k_5).drop k_7).drop k_9).drop k_11).drop k_13).drop k_15).drop k_17).length≤9223372036854775807)∧(Lf (k_19=0)→Q (.ret (.agg [.int .i64 6,.int .i64 n_8,
 .int .i64 n_10,.int .i64 0,.int .i64 0,.int .i64 0,.int .i64 0,.int .i64 0,.nils,.nils,.int .i64 n_12,.int .i64 n_18,.nils])) [] {})∧(Lf (1≤k_19)→∀s'_21:List UInt8,
 Q (.ret (.agg [.int .i64 6,.int .i64 n_8,.int .i64 n_10,.int .i64 0,.int .i64 0,.int .i64 0,.int .i64 0,.int .i64 0,.nils,.nils,.int .i64 n_12,.int .i64 n_18,
 .sl 4 (uW k_19 (r_20:Int) (((((((((s.drop k_0).drop k_3).drop k_5).drop k_7).drop k_9).drop k_11).drop k_13).drop k_15).drop k_17)).length 0 (uW k_19 (r_20:Int) (((((((((s.drop k_0).drop k_3).drop k_5).drop k_7).drop k_9).drop
 k_11).drop k_13).drop k_15).drop k_17)).length 1])) [Blk.mk BK.exact false [.int .i64 6,.int .i64 n_8,.int .i64 n_10,.int .i64 0,.int .i64 0,.int .i64 0,.int .i64 0,.int .i64
 0,.nils,.nils,.int .i64 n_12,.int .i64 n_18,.sl 4 (uW k_19 (r_20:Int) (((((((((s.drop k_0).drop k_3).drop k_5).drop k_7).drop k_9).drop k_11).drop k_13).drop k_15).drop k_17)).length 0 (uW k_19 (r_20:Int)
 (((((((((s.drop k_0).drop k_3).drop k_5).drop k_7).drop k_9).drop k_11).drop k_13).drop k_15).drop k_17)).length 1],Blk.mk BK.exact true [.str s'_21],Blk.mk BK.exact false [.int .i64 6,.int .i64 n_8,.int .i64 n_10,
 .int .i64 0,.int .i64 0,.int .i64 0,.int .i64 0,.int .i64 0,.nils,.nils,.int .i64 n_12,.int .i64 n_18,.sl 4 (uW k_19 (r_20:Int) (((((((((s.drop k_0).drop k_3).drop k_5).drop
 k_7).drop k_9).drop k_11).drop k_13).drop k_15).drop k_17)).length 0 (uW k_19 (r_20:Int) (((((((((s.drop k_0).drop k_3).drop k_5).drop k_7).drop k_9).drop k_11).drop k_13).drop k_15).drop k_17)).length 1],Blk.mk BK.grow true (aA
 (kT (((((((((s.drop k_0).drop k_3).drop k_5).drop k_7).drop k_9).drop k_11).drop k_13).drop k_15).drop k_17) (rnM k_19))),Blk.mk BK.grow true (aA (uW k_19 (r_20:Int) (((((((((s.drop k_0).drop k_3).drop k_5).drop k_7).drop
 k_9).drop k_11).drop k_13).drop k_15).drop k_17)))] {})))))) else Q (.ret (.agg [.int .i64 0,.int .i64 n_8,.int .i64 0,.int .i64 0,.int .i64 0,.int .i64 0,.int .i64 0,.int .i64
 0,.nils,.nils,.int .i64 0,.int .i64 0,.nils])) [] {}
abbrev bOn (k_5 k_3 k_0:Nat) (s:List UInt8):List UInt8:=((s.drop k_0).drop k_3).drop k_5
abbrev aVt (k_7 k_5 k_3 k_0:Nat) (s:List UInt8):List UInt8:=(((s.drop k_0).drop k_3).drop k_5).drop k_7
abbrev aU1 (k_9 k_7 k_5 k_3 k_0:Nat) (s:List UInt8):Prop:=Lf (4=(k_9:Int)∧k_9≤4∧(aVt k_7 k_5 k_3 k_0 s).length≤9223372036854775807)
abbrev yI (k_9 k_7 k_5 k_3 k_0:Nat) (s:List UInt8):List UInt8:=((((s.drop k_0).drop k_3).drop k_5).drop k_7).drop k_9
abbrev pO (k_13 k_11 k_9 k_7 k_5 k_3 k_0:Nat) (s:List UInt8):List UInt8:=((yI k_9 k_7 k_5 k_3 k_0 s).drop k_11).drop k_13
abbrev jX (n_8:Int):AV:=.int .i64 n_8
abbrev bR:AV:=.int .i64 0
abbrev aVb (n_8 n_10 n_12 n_14 n_16 n_18:Int) (k_19:Nat):List AV:=[.int .i64 1,jX n_8,bR,jX n_10,jX n_12,jX n_14,jX n_16,jX n_18,.sl 4 (7*k_19) 0 k_19 7,.nils,bR,bR,.nils]
abbrev aTt (n_8:Int) (k_9:Nat):List AV:=[.int .i64 2,jX n_8,bR,bR,bR,bR,bR,bR,.sl 4 (7*k_9) 0 k_9 7,.nils,bR,bR,.nils]
abbrev aRm:Prop:=aK [AV.int .i64 0,bR,bR,bR,bR,bR,bR,bR,.nils,.nils,bR,bR,.nils]
abbrev aQk:Prop:=aK (AV.ptr 1 1 0)
abbrev aWi:Prop:=aQk∧aK (AV.ptr 0 13 0)∧aK (AV.ptr 2 13 0)∧True
abbrev bFw (n_8 n_10 n_15 n_17:Int) (x_18:Nat):List AV:=[.int .i64 4,jX n_8,jX n_10,bR,bR,bR,bR,bR,.nils,.sl 3 (1+(mbM n_15 n_17 x_18).length) 0 (1+(mbM n_15 n_17 x_18).length) 1,bR,bR,.nils]
abbrev nA (n_15:Int):AV:=.int .i64 n_15
abbrev bBv:Prop:=aK (AV.ptr 2 13 0)∧True
abbrev bPh (n_17:Int):Prop:=aK (AV.ptr 0 13 0)∧aK (nA n_17)∧bBv
abbrev aIp:Prop:=True∧(0:Nat)=(0:Nat)
abbrev bIh (n_15 n_28:Int) (y_29:Nat) (n_17:Int):Prop:=aQk∧aK (nA n_15)∧nA n_28=AV.int .i64 (y_29:Int)∧aK (AV.ptr 0 13 0)∧aK (nA n_17)∧bBv
abbrev bEz:Prop:=aK [AV.int .i64 0,bR,bR,bR,bR,bR,bR,bR,.nils,.nils,bR,bR,.nils]
abbrev bFn (n_8 n_10:Int) (x_11:List Int×List UInt8) (n_15 n_17:Int) (x_18:Nat):List AV:=[.int .i64 4,jX n_8,jX n_10,bR,bR,bR,bR,bR,.nils,.sl 3 (x_11.1.length+1+(mbM n_15 n_17 x_18).length) 0 (x_11.1.length+1+(mbM n_15 n_17 x_18).length) 1,bR,bR,.nils]
abbrev aE3 (x_11:List Int×List UInt8) (n_15 n_17:Int) (x_18:Nat):List AV:=aA x_11.1++[AV.int .i64 n_15]++aA (mbM n_15 n_17 x_18)
abbrev aEb (x_11:List Int×List UInt8) (n_15 n_17:Int) (x_18:Nat):Nat:=x_11.1.length+1+(mbM n_15 n_17 x_18).length
abbrev aVn (n_8 n_10:Int) (x_11:List Int×List UInt8):List AV:=[.int .i64 4,jX n_8,jX n_10,bR,bR,bR,bR,bR,.nils,.sl 3 x_11.1.length 0 x_11.1.length 1,bR,bR,.nils]
theorem bOz (s:List UInt8) (Q:Out→List Blk→Gh→Prop):aIh (bG [(159760,.int .i64),(159761,.int .i64),(159763,.int .i64),(159765,.int .i64),(159767,.int .i64),(159774,.int .i64),(159777,.int .i64),(159780,
 .int .i64),(159783,.int .i64),(159786,.int .i64),(159809,.int .i64),(159820,.int .i64),(159825,.str),(159826,.int .i64),(159829,.int .i64),(159831,.int .i64),(159838,.int .i64),(159843,.int .i64),(159844,.int .i64),
 (159845,.int .i64),(159850,.int .i64),(159851,.int .i64),(159852,.int .i64),(159853,.int .i64),(159840,.int .i64),(159841,.int .i64),(159862,.int .i64),(159865,.int .i64),(159868,.int .i64),(159870,.int .i64),(159872,
 .int .i64)]) (bF []) s Q=(∃k_0:Nat,Lf (1=(k_0:Int)∧k_0≤4∧s.length≤9223372036854775807)∧exI .i64 (nbM s k_0:Int) (fun n_1=>exI .i64 (n_1.tmod 32) (fun n_2=>∃k_3:Nat,Lf (1=(k_3:Int)∧k_3 ≤
 4∧(s.drop k_0).length≤9223372036854775807)∧exI .i64 (nbM (s.drop k_0) k_3:Int) (fun n_4=>∃k_5:Nat,Lf (2=(k_5:Int)∧k_5≤4∧((s.drop k_0).drop k_3).length≤9223372036854775807)∧exI .i64 (nbM ((s.drop
 k_0).drop k_3) k_5:Int) (fun n_6=>∃k_7:Nat,Lf (4=(k_7:Int)∧k_7≤4∧(bOn k_5 k_3 k_0 s).length≤9223372036854775807)∧exI .i64 (nbM (bOn k_5 k_3 k_0 s) k_7:Int) (fun n_8=>bif n_4==200 then ∃k_9:Nat,aU1
 k_9 k_7 k_5 k_3 k_0 s∧exI .i64 (nbM (aVt k_7 k_5 k_3 k_0 s) k_9:Int) (fun n_10=>∃k_11:Nat,Lf (4=(k_11:Int)∧k_11≤4∧(yI k_9 k_7 k_5 k_3 k_0 s).length≤9223372036854775807)∧exI .i64 (nbM (yI k_9 k_7
 k_5 k_3 k_0 s) k_11:Int) (fun n_12=>∃k_13:Nat,Lf (4=(k_13:Int)∧k_13≤4∧((yI k_9 k_7 k_5 k_3 k_0 s).drop k_11).length≤9223372036854775807)∧exI .i64 (nbM ((yI k_9 k_7 k_5 k_3 k_0 s).drop k_11) k_13:Int) (fun
 n_14=>∃k_15:Nat,Lf (4=(k_15:Int)∧k_15≤4∧(pO k_13 k_11 k_9 k_7 k_5 k_3 k_0 s).length≤9223372036854775807)∧exI .i64 (nbM (pO k_13 k_11 k_9 k_7 k_5 k_3 k_0 s) k_15:Int) (fun n_16=>∃k_17:Nat,Lf (4 =
 (k_17:Int)∧k_17≤4∧((pO k_13 k_11 k_9 k_7 k_5 k_3 k_0 s).drop k_15).length≤9223372036854775807)∧exI .i64 (nbM ((pO k_13 k_11 k_9 k_7 k_5 k_3 k_0 s).drop k_15) k_17:Int) (fun n_18=>∃k_19:Nat,Lf (n_2=(k_19 :
 Int)∧k_19≤31∧(((pO k_13 k_11 k_9 k_7 k_5 k_3 k_0 s).drop k_15).drop k_17).length≤9223372036854775807)∧(Lf (k_19=0)→Q (.ret (.agg [.int .i64 1,jX n_8,bR,jX n_10,jX n_12,jX n_14,jX n_16,jX n_18,
 .nils,.nils,bR,bR,.nils])) [] {})∧(Lf (1≤k_19)→Q (.ret (.agg (aVb n_8 n_10 n_12 n_14 n_16 n_18 k_19))) [Blk.mk BK.exact false (aVb n_8 n_10 n_12 n_14 n_16 n_18 k_19),Blk.mk BK.exact true [.str ((((pO k_13 k_11 k_9 k_7
 k_5 k_3 k_0 s).drop k_15).drop k_17).drop (24*k_19))],Blk.mk BK.exact false (aVb n_8 n_10 n_12 n_14 n_16 n_18 k_19),Blk.mk BK.exact true (oW (zD (((pO k_13 k_11 k_9 k_7 k_5 k_3 k_0 s).drop k_15).drop k_17))),Blk.mk BK.grow
 true (aF (fT (((pO k_13 k_11 k_9 k_7 k_5 k_3 k_0 s).drop k_15).drop k_17) k_19))] {})))))) else bif n_4==201 then ∃k_9:Nat,Lf (n_2=(k_9:Int)∧k_9≤31∧(aVt k_7 k_5 k_3 k_0 s).length≤9223372036854775807)∧(Lf
 (k_9=0)→Q (.ret (.agg [.int .i64 2,jX n_8,bR,bR,bR,bR,bR,bR,.nils,.nils,bR,bR,.nils])) [] {})∧(Lf (1≤k_9)→Q (.ret (.agg (aTt n_8 k_9))) [Blk.mk BK.exact false (aTt n_8 k_9),Blk.mk
 BK.exact true [.str ((aVt k_7 k_5 k_3 k_0 s).drop (24*k_9))],Blk.mk BK.exact false (aTt n_8 k_9),Blk.mk BK.exact true (oW (zD (aVt k_7 k_5 k_3 k_0 s))),Blk.mk BK.grow true (aF (fT (aVt k_7 k_5 k_3 k_0 s) k_9))] {})
 else bif n_4==203 then Q (.ret (.agg [.int .i64 3,jX n_8,bR,bR,bR,bR,bR,bR,.nils,.nils,bR,bR,.nils])) [] {} else bif n_4==206 then ∃k_9:Nat,aU1 k_9 k_7 k_5 k_3 k_0 s∧exI .i64 (nbM
 (aVt k_7 k_5 k_3 k_0 s) k_9:Int) (fun n_10=>Q (.ret (.agg [.int .i64 5,jX n_8,jX n_10,bR,bR,bR,bR,bR,.nils,.nils,bR,bR,.nils])) [] {}) else bif n_4==205 then bif n_2==1 then ∃k_9:Nat,aU1
 k_9 k_7 k_5 k_3 k_0 s∧exI .i64 (nbM (aVt k_7 k_5 k_3 k_0 s) k_9:Int) (fun n_10=>((∃x_11:Nat,Lf (x_11=0)∧aRm∧aK [AV.str (yI k_9 k_7 k_5 k_3 k_0 s)]∧aK [AV.int .i64 4,jX n_8,jX n_10,bR,bR,bR,
 bR,bR,.nils,.nils,bR,bR,.nils]∧aWi)∨∃x_11:List Int×List UInt8,Lf (1≤x_11.1.length∧aC6 (yI k_9 k_7 k_5 k_3 k_0 s) x_11.1 x_11.2)∧aRm∧[AV.str (yI k_9 k_7 k_5 k_3 k_0 s)]=[AV.str x_11.2]∧False) ∧
 (∀x_11:Nat,Lf (x_11=0)→exS (.str (yI k_9 k_7 k_5 k_3 k_0 s)) (fun s_12=>exI .i64 (s_12.length:Int) (fun n_13=>bif decide (n_13>0) then ∃k_14:Nat,Lf (2=(k_14:Int)∧k_14≤4∧(yI k_9 k_7 k_5 k_3 k_0
 s).length≤9223372036854775807)∧exI .i64 (nbM (yI k_9 k_7 k_5 k_3 k_0 s) k_14:Int) (fun n_15=>∃k_16:Nat,Lf (2=(k_16:Int)∧k_16≤4∧((yI k_9 k_7 k_5 k_3 k_0 s).drop k_14).length≤9223372036854775807)∧exI
 IntKind.i64 (nbM ((yI k_9 k_7 k_5 k_3 k_0 s).drop k_14) k_16:Int) (fun n_17=>(∃x_18:Nat,Lf (x_18≤16)∧aRm∧aK [AV.str (pO k_16 k_14 k_9 k_7 k_5 k_3 k_0 s)]∧[AV.int .i64 4,jX n_8,jX n_10,bR,bR,bR,bR,
 bR,.nils,.sl 3 1 0 1 1,bR,bR,.nils]=bFw n_8 n_10 n_15 n_17 x_18∧[nA n_15]=[nA n_15]++aA (mbM n_15 n_17 x_18)∧aQk∧aK (nA n_15)∧AV.int .i64 0=AV.int .i64 (x_18:Int)∧bPh n_17)∧∀x_18:Nat,
 Lf (x_18≤16)→exI .i64 (x_18:Int) (fun n_19=>bif decide (n_19<16) then exI .i64 (x_18:Int) (fun n_20=>ckQ (decide (0≤n_20)&&true) (exI .i64 (Int.fdiv n_17 ((2:Int)^Min.min n_20.toNat 64)) (fun n_21
 => exI .i64 (n_21.tmod 2) (fun n_22=>bif n_22==1 then exW .i64 (n_15+1) (fun n_23=>exI .i64 (x_18:Int) (fun n_24=>exW .i64 (n_23+n_24) (fun n_25=>exI .i64 (n_25.tmod 65536) (fun n_26=>
 ckQ (Nat.beq ([nA n_15]++aA (mbM n_15 n_17 x_18)).length (1+(mbM n_15 n_17 x_18).length)&&true&&Nat.beq (0+(1+(mbM n_15 n_17 x_18).length)*1) (1+(mbM n_15 n_17 x_18).length)&&Nat.ble (1+(mbM n_15 n_17
 x_18).length+1) 1099511627776&&Nat.ble ((1+(mbM n_15 n_17 x_18).length+1)*8) 1099511627776) (exI .i64 (x_18:Int) (fun n_27=>exW .i64 (n_27+1) (fun n_28=>aIp∧∃y_29:Nat,Lf (y_29≤16)∧16-y_29<16
 - x_18∧aRm∧aK [AV.str (pO k_16 k_14 k_9 k_7 k_5 k_3 k_0 s)]∧[AV.int .i64 4,jX n_8,jX n_10,bR,bR,bR,bR,bR,.nils,.sl 3 (1+(mbM n_15 n_17 x_18).length+1) 0 (1+(mbM n_15 n_17 x_18).length+1) 1,bR,
 bR,.nils]=bFw n_8 n_10 n_15 n_17 y_29∧[nA n_15]++aA (mbM n_15 n_17 x_18)++[nA n_26]=[AV.int .i64 n_15]++aA (mbM n_15 n_17 y_29)∧bIh n_15 n_28 y_29 n_17))))))) else exI .i64 (x_18:Int) (fun
 n_23=>exW .i64 (n_23+1) (fun n_24=>aIp∧∃y_25:Nat,Lf (y_25≤16)∧16-y_25<16-x_18∧aRm∧aK [AV.str (pO k_16 k_14 k_9 k_7 k_5 k_3 k_0 s)]∧bFw n_8 n_10 n_15 n_17 x_18=bFw n_8 n_10 n_15 n_17 y_25 ∧
 [nA n_15]++aA (mbM n_15 n_17 x_18)=[AV.int .i64 n_15]++aA (mbM n_15 n_17 y_25)∧bIh n_15 n_24 y_25 n_17)))))) else aIp∧((∃y_20:Nat,Lf (y_20=0)∧(yI k_9 k_7 k_5 k_3 k_0 s).length+1<(yI k_9 k_7
 k_5 k_3 k_0 s).length+1∧bEz∧[AV.str (pO k_16 k_14 k_9 k_7 k_5 k_3 k_0 s)]=[AV.str (yI k_9 k_7 k_5 k_3 k_0 s)]∧False)∨∃y_20:List Int×List UInt8,Lf (1≤y_20.1.length∧aC6 (yI k_9 k_7 k_5 k_3 k_0 s) y_20.1
 y_20.2)∧y_20.2.length<(yI k_9 k_7 k_5 k_3 k_0 s).length+1∧aRm∧[AV.str (pO k_16 k_14 k_9 k_7 k_5 k_3 k_0 s)]=[AV.str y_20.2]∧bFw n_8 n_10 n_15 n_17 x_18=[AV.int .i64 4,jX n_8,jX n_10,bR,bR,bR,bR,
 bR,.nils,.sl 3 y_20.1.length 0 y_20.1.length 1,bR,bR,.nils]∧[nA n_15]++aA (mbM n_15 n_17 x_18)=aA y_20.1∧aWi)))) else Q (.ret (.agg [.int .i64 4,jX n_8,jX n_10,bR,bR,bR,bR,bR,
 .nils,.nils,bR,bR,.nils])) [] {})))∧∀x_11:List Int×List UInt8,Lf (1≤x_11.1.length∧aC6 (yI k_9 k_7 k_5 k_3 k_0 s) x_11.1 x_11.2)→exS (.str x_11.2) (fun s_12=>exI .i64 (s_12.length:Int) (fun n_13=>bif
 decide (n_13>0) then ∃k_14:Nat,Lf (2=(k_14:Int)∧k_14≤4∧x_11.2.length≤9223372036854775807)∧exI .i64 (nbM x_11.2 k_14:Int) (fun n_15=>∃k_16:Nat,Lf (2=(k_16:Int)∧k_16≤4∧(x_11.2.drop k_14).length ≤
 9223372036854775807)∧exI .i64 (nbM (x_11.2.drop k_14) k_16:Int) (fun n_17=>ckQ (Nat.beq (aA x_11.1).length x_11.1.length&&true&&Nat.beq (0+x_11.1.length*1) x_11.1.length&&Nat.ble (x_11.1.length+1) 1099511627776
 && Nat.ble ((x_11.1.length+1)*8) 1099511627776) ((∃x_18:Nat,Lf (x_18≤16)∧aRm∧aK [AV.str ((x_11.2.drop k_14).drop k_16)]∧[AV.int .i64 4,jX n_8,jX n_10,bR,bR,bR,bR,bR,.nils,.sl 3 (x_11.1.length+1)
 0 (x_11.1.length+1) 1,bR,bR,.nils]=bFn n_8 n_10 x_11 n_15 n_17 x_18∧aA x_11.1++[nA n_15]=aE3 x_11 n_15 n_17 x_18∧aQk∧aK (nA n_15)∧AV.int .i64 0=AV.int .i64 (x_18:Int)∧bPh n_17)∧∀x_18:Nat,
 Lf (x_18≤16)→exI .i64 (x_18:Int) (fun n_19=>bif decide (n_19<16) then exI .i64 (x_18:Int) (fun n_20=>ckQ (decide (0≤n_20)&&true) (exI .i64 (Int.fdiv n_17 ((2:Int)^Min.min n_20.toNat 64)) (fun n_21
 => exI .i64 (n_21.tmod 2) (fun n_22=>bif n_22==1 then exW .i64 (n_15+1) (fun n_23=>exI .i64 (x_18:Int) (fun n_24=>exW .i64 (n_23+n_24) (fun n_25=>exI .i64 (n_25.tmod 65536) (fun n_26=>
 ckQ (Nat.beq (aE3 x_11 n_15 n_17 x_18).length (aEb x_11 n_15 n_17 x_18)&&true&&Nat.beq (0+aEb x_11 n_15 n_17 x_18*1) (aEb x_11 n_15 n_17 x_18)&&Nat.ble (aEb x_11 n_15 n_17 x_18+1) 1099511627776&&Nat.ble ((aEb x_11
 n_15 n_17 x_18+1)*8) 1099511627776) (exI .i64 (x_18:Int) (fun n_27=>exW .i64 (n_27+1) (fun n_28=>aIp∧∃y_29:Nat,Lf (y_29≤16)∧16-y_29<16-x_18∧aRm∧aK [AV.str ((x_11.2.drop k_14).drop k_16)] ∧
 [AV.int .i64 4,jX n_8,jX n_10,bR,bR,bR,bR,bR,.nils,.sl 3 (aEb x_11 n_15 n_17 x_18+1) 0 (aEb x_11 n_15 n_17 x_18+1) 1,bR,bR,.nils]=bFn n_8 n_10 x_11 n_15 n_17 y_29∧aE3 x_11 n_15 n_17 x_18 ++
 [nA n_26]=aE3 x_11 n_15 n_17 y_29∧bIh n_15 n_28 y_29 n_17))))))) else exI .i64 (x_18:Int) (fun n_23=>exW .i64 (n_23+1) (fun n_24=>aIp∧∃y_25:Nat,Lf (y_25≤16)∧16-y_25<16-x_18∧aRm∧aK
 [AV.str ((x_11.2.drop k_14).drop k_16)]∧bFn n_8 n_10 x_11 n_15 n_17 x_18=bFn n_8 n_10 x_11 n_15 n_17 y_25∧aE3 x_11 n_15 n_17 x_18=aE3 x_11 n_15 n_17 y_25∧bIh n_15 n_24 y_25 n_17)))))) else aIp∧((∃y_20:Nat,Lf (y_20
 = 0)∧(yI k_9 k_7 k_5 k_3 k_0 s).length+1<x_11.2.length∧aRm∧[AV.str ((x_11.2.drop k_14).drop k_16)]=[AV.str (yI k_9 k_7 k_5 k_3 k_0 s)]∧False)∨∃y_20:List Int×List UInt8,Lf (1≤y_20.1.length∧aC6 (yI k_9 k_7
 k_5 k_3 k_0 s) y_20.1 y_20.2)∧y_20.2.length<x_11.2.length∧bEz∧[AV.str ((x_11.2.drop k_14).drop k_16)]=[AV.str y_20.2]∧bFn n_8 n_10 x_11 n_15 n_17 x_18=[AV.int .i64 4,jX n_8,jX n_10,bR,bR,bR,bR,bR,
 .nils,.sl 3 y_20.1.length 0 y_20.1.length 1,bR,bR,.nils]∧aE3 x_11 n_15 n_17 x_18=aA y_20.1∧aWi))))) else Q (.ret (.agg (aVn n_8 n_10 x_11))) [Blk.mk BK.exact false (aVn n_8 n_10 x_11),Blk.mk BK.exact true [.str
 x_11.2],Blk.mk BK.exact false (aVn n_8 n_10 x_11),Blk.mk BK.grow true (aA x_11.1)] {}))) else bH8 n_4 k_7 k_5 k_3 k_0 s Q n_8 else bH8 n_4 k_7 k_5 k_3 k_0 s Q n_8)))))):=by kernel_rfl

end Go.Proofs.YtafchcmemeinlaaDoor

set_option linter.unusedSimpArgs false
set_option linter.unusedVariables false
set_option linter.unusedSectionVars false
namespace Go.Proofs.YtafchcmemeinlaaDoor
open Go.RowKit
set_option maxRecDepth 1000000

def aZj:AV→AV
 | .agg l=>.agg (nlL [0,0,0,0,0,0,0,0,7,1,0,0,1] l)
 | v=>v
theorem bCr (a:AV):wk a (aZj a):=by
 unfold aZj
 split
 ·exact aJe (yZ _ _)
 ·exact sF _
def aPe (v:AV) (H:List Blk):AV:=aZj (dK 0 H 9 v)
theorem bQj {H:List Blk} {k f a s1 s2 s3 s4 s5:Int} {acc:List Rc} {n m:Nat} (hH:H[4]? = some ⟨.grow,true,aF acc⟩) (hn:n=7*acc.length) (hm:m=acc.length) :
  aPe (.agg [.int .i64 k,.int .i64 f,.int .i64 a,.int .i64 s1,.int .i64 s2,.int .i64 s3,.int .i64 s4,.int .i64 s5,.sl 4 n 0 m 7,.nils,.int .i64 0,.int .i64 0,.nils]) H=.agg (ctC ⟨k,f,a,s1,s2,s3,s4,s5,acc,[],0,0,[]⟩):=by
 subst hn hm
 have e:dK 0 H 8 (.sl 4 (7*acc.length) 0 acc.length 7)=.lst 0 (aF acc) acc.length 7:=
  mE (d:=6) hH (bI acc) (by omega) (by simp) (by rw[List.drop_zero];exact List.take_of_length_le (by rw[bI];omega)) (aGf acc)
 show aZj (.agg [.int .i64 k,.int .i64 f,.int .i64 a,.int .i64 s1,.int .i64 s2,.int .i64 s3,.int .i64 s4,.int .i64 s5,dK 0 H 8 (.sl 4 (7*acc.length) 0 acc.length 7),.nils,.int .i64 0,.int .i64 0,.nils])=_
 rw[e]
 rfl
theorem bRc {H:List Blk} {k f a:Int} {acc:List Int} (hH:H[3]? = some ⟨.grow,true,aA acc⟩) :
  aPe (.agg [.int .i64 k,.int .i64 f,.int .i64 a,.int .i64 0,.int .i64 0,.int .i64 0,.int .i64 0,.int .i64 0,.nils,.sl 3 acc.length 0 acc.length 1,.int .i64 0,.int .i64 0,.nils]) H=.agg (ctC ⟨k,f,a,0,0,0,0,0,[],acc,0,0,[]⟩):=by
 have e:dK 0 H 8 (.sl 3 acc.length 0 acc.length 1)=.lst 0 (aA acc) acc.length 1:=
  mE (d:=6) hH (aB acc) (by omega) (by simp) (by rw[List.drop_zero];exact List.take_of_length_le (by rw[aB];omega)) (fO acc)
 show aZj (.agg [.int .i64 k,.int .i64 f,.int .i64 a,.int .i64 0,.int .i64 0,.int .i64 0,.int .i64 0,.int .i64 0,.nils,dK 0 H 8 (.sl 3 acc.length 0 acc.length 1),.int .i64 0,.int .i64 0,.nils])=_
 rw[e]
 rfl
theorem bQ8 {H:List Blk} {f a ba ro:Int} {acc:List Int} (hH:H[4]? = some ⟨.grow,true,aA acc⟩) :
  aPe (.agg [.int .i64 6,.int .i64 f,.int .i64 a,.int .i64 0,.int .i64 0,.int .i64 0,.int .i64 0,.int .i64 0,.nils,.nils,.int .i64 ba,.int .i64 ro,.sl 4 acc.length 0 acc.length 1]) H=.agg (ctC ⟨6,f,a,0,0,0,0,0,[],[],ba,ro,acc⟩):=by
 have e:dK 0 H 8 (.sl 4 acc.length 0 acc.length 1)=.lst 0 (aA acc) acc.length 1:=
  mE (d:=6) hH (aB acc) (by omega) (by simp) (by rw[List.drop_zero];exact List.take_of_length_le (by rw[aB];omega)) (fO acc)
 show aZj (.agg [.int .i64 6,.int .i64 f,.int .i64 a,.int .i64 0,.int .i64 0,.int .i64 0,.int .i64 0,.int .i64 0,.nils,.nils,.int .i64 ba,.int .i64 ro,dK 0 H 8 (.sl 4 acc.length 0 acc.length 1)])=_
 rw[e]
 rfl
theorem aEe (l0:List UInt8):aC6 l0 [] l0:=⟨Nat.le_refl _,by simp,l0.length,Nat.le_refl _,rfl⟩
theorem aEm {l0 l:List UInt8} {acc:List Int} (h:aC6 l0 acc l) (hl:0<l.length):aC6 l0 (acc++((nbM l 2:Nat):Int)::mbM (nbM l 2:Nat) (nbM (l.drop 2) 2:Nat) 16) ((l.drop 2).drop 2):=by
 obtain ⟨h1,h2,f,h3,h4⟩:=h
 have hm:=qE (nbM l 2:Nat) (nbM (l.drop 2) 2:Nat) 16
 refine ⟨by simp only[List.length_drop];omega,by simp only[List.length_drop,List.length_append,List.length_cons];omega,f-1,by simp only[List.length_drop];omega, ?_⟩
 obtain ⟨g,rfl⟩:∃g,f=g+1:=⟨f-1,by omega⟩
 have hn:l≠[]:=fun hh=>by rw[hh] at hl;simp at hl
 rw[h4,aGq,if_neg hn,List.drop_drop,List.append_assoc]
 rfl
theorem aJ3 {l0 l:List UInt8} {acc:List Int} (h:aC6 l0 acc l) (hl:l.length=0):aGq l0.length l0=acc:=by
 obtain ⟨h1,h2,f,h3,h4⟩:=h
 have hn:l=[]:=List.length_eq_zero_iff.1 hl
 subst hn
 rw[h4]
 cases f with
 | zero=>simp[aGq]
 | succ f=>simp[aGq]
theorem kM (s:List UInt8):∀i,(fT s i).length=i
 | 0=>rfl
 | i+1=>by rw[fT,List.length_append,kM s i];rfl
theorem aJi {m:Int} {k:Nat} (hm:0≤m) (hk:k<16) {K:Int→Prop} (h:K (m/2^k%2)) :
  ∃a:Int,AV.int .i64 (Int.fdiv m ((2:Int)^Min.min (Int.toNat (k:Int)) 64))=AV.int .i64 a∧∃b:Int,AV.int .i64 (a.tmod 2)=AV.int .i64 b∧K b:=by
 have e1:Min.min (Int.toNat (k:Int)) 64=k:=by rw[Int.toNat_natCast];exact Nat.min_eq_left (by omega)
 have e3:(0:Int)≤2^k:=Int.pow_nonneg (by decide)
 refine ⟨_,rfl,_,rfl, ?_⟩
 rw[e1,Int.fdiv_eq_ediv_of_nonneg _ e3,Int.tmod_eq_emod_of_nonneg (Int.ediv_nonneg hm e3)]
 exact h
theorem bG0 {z:Int} (hz:0≤z) {K:Int→Prop} (h:K (z%65536)):∃n:Int,AV.int .i64 (z.tmod 65536)=AV.int .i64 n∧K n:=⟨_,rfl,by rw[Int.tmod_eq_emod_of_nonneg hz];exact h⟩
theorem bB6 {s b:List UInt8} {k c:Nat} (hb:((s.drop 1).drop 1).drop 2=b) (hs:b.length≤10000) {Q:Out→List Blk→Gh→Prop} (hk:k≠200∧k≠201∧k≠203∧k≠206) (hc:k=205→c≠1)
  (hq:∀v H,aPe v H=.agg (ctC (aAi k c b))→Q (.ret v) H {}):bH8 (k:Int) 4 2 1 1 s Q ((nbM b 4:Nat):Int):=by
 unfold bH8
 rw[hb]
 refine aP (fun e5 => ?_) (fun e5 => ?_)
 ·have e:aAi k c b=⟨6,(nbM b 4:Nat),(nbM (b.drop 4) 4:Nat),0,0,0,0,0,[],[],(nbM (b.drop 8) 2:Nat),(nbM (b.drop 15) 1:Nat),uW (nbM (b.drop 10) 2) (nbM (b.drop 12) 3:Nat) (b.drop 16)⟩:=by
   have:=hc (by omega)
   rw[aAi,if_neg hk.1,if_neg hk.2.1,if_neg hk.2.2.1,if_neg hk.2.2.2,if_neg (by omega),if_pos (by omega)]
  rw[e] at hq
  have h2:=mZ (b.drop 10) 2
  have h3:=mZ (b.drop 12) 3
  have p2:(256:Nat)^2=65536:=by decide
  have p3:(256:Nat)^3=16777216:=by decide
  have hl:∀m,(b.drop m).length≤9223372036854775807:=fun m=>eP (by omega)
  refine nmI 4 rfl (by omega) (hl _) (nmI 2 rfl (by omega) (eP (hl _)) ?_)
  rw[show (b.drop 4).drop 4=b.drop 8 from List.drop_drop,show (b.drop 8).drop 2=b.drop 10 from List.drop_drop]
  refine nmI 2 rfl (by omega) (hl _) ?_
  rw[show (b.drop 10).drop 2=b.drop 12 from List.drop_drop]
  refine nmI 3 rfl (by omega) (hl _) ?_
  rw[show (b.drop 12).drop 3=b.drop 15 from List.drop_drop]
  refine nmI 1 rfl (by omega) (hl _) ?_
  rw[show (b.drop 15).drop 1=b.drop 16 from List.drop_drop]
  refine ⟨nbM (b.drop 10) 2,nbM (b.drop 12) 3,⟨rfl,rfl,by omega,by omega,hl _⟩, ?_, ?_⟩
  ·rintro ⟨h0⟩
   refine hq _ _ ?_
   rw[h0]
   rfl
  ·rintro ⟨h1⟩ s'
   exact hq _ _ (bQ8 rfl)
 ·have e:aAi k c b=⟨0,(nbM b 4:Nat),0,0,0,0,0,0,[],[],0,0,[]⟩:=by
   rw[aAi,if_neg hk.1,if_neg hk.2.1,if_neg hk.2.2.1,if_neg hk.2.2.2,if_neg (by omega),if_neg (by omega)]
  rw[e] at hq
  exact hq _ _ rfl
theorem bIl (s:List UInt8) (hs:s.length≤10000) (Q:Out→List Blk→Gh→Prop) (hq:∀v H,aPe v H=.agg (ctC (aJ0 s))→Q (.ret v) H {}):∃hv hb,aIh hv hb s Q:=by
 obtain ⟨hv,hb',e⟩:∃hv hb,aIh hv hb s Q=_:=⟨_,_,bOz s Q⟩
 refine ⟨hv,hb',e.mpr ?_⟩
 delta bOn aVt aU1 yI pO jX bR aVb aTt aRm aQk aWi bFw nA bBv bPh aIp bIh bEz bFn aE3 aEb aVn
 clear e
 have hl:∀m,(s.drop m).length≤9223372036854775807:=fun m=>eP (by omega)
 have hs':s.length≤9223372036854775807:=by omega
 refine nmI 1 rfl (by omega) hs' ⟨_,rfl,nmI 1 rfl (by omega) (hl _) (nmI 2 rfl (by omega) (eP (hl _)) ?_)⟩
 have hbe:((s.drop 1).drop 1).drop 2=s.drop 4:=by simp only[List.drop_drop]
 have hbl:(s.drop 4).length≤10000:=by rw[List.length_drop];omega
 unfold aJ0 at hq
 have ec:((nbM s 1:Nat):Int).tmod 32=((nbM s 1%32:Nat):Int):=by rw[Int.tmod_eq_emod_of_nonneg (by omega)];omega
 rw[ec]
 have hc31:nbM s 1%32≤31:=by omega
 generalize nbM s 1%32=c at *
 generalize hkk:nbM (s.drop 1) 1=k at *
 generalize hb:s.drop 4=b at *
 have tl:(k≠200∧k≠201∧k≠203∧k≠206)→(k=205→c≠1)→bH8 (k:Int) 4 2 1 1 s Q ((nbM b 4:Nat):Int):=fun h1 h2=>bB6 hbe hbl h1 h2 hq
 rw[hbe]
 have hl:∀m,(b.drop m).length≤9223372036854775807:=fun m=>eP (by omega)
 refine nmI 4 rfl (by omega) (by omega) ?_
 refine aP (fun k0 => ?_) (fun k0=>aP (fun k1 => ?_) (fun k1=>aP (fun k3 => ?_) (fun k3=>aP (fun k6 => ?_) (fun k6=>aP (fun k5 => ?_) (fun k5 => ?_)))))
 ·have e:aAi k c b=⟨1,(nbM b 4:Nat),0,(nbM (b.drop 4) 4:Nat),(nbM (b.drop 8) 4:Nat),(nbM (b.drop 12) 4:Nat),(nbM (b.drop 16) 4:Nat),(nbM (b.drop 20) 4:Nat),fT (b.drop 24) c,[],0,0,[]⟩:=by rw[aAi,if_pos (by omega)]
  rw[e] at hq
  refine nmI 4 rfl (by omega) (hl _) ?_
  rw[show (b.drop 4).drop 4=b.drop 8 from List.drop_drop]
  refine nmI 4 rfl (by omega) (hl _) ?_
  rw[show (b.drop 8).drop 4=b.drop 12 from List.drop_drop]
  refine nmI 4 rfl (by omega) (hl _) ?_
  rw[show (b.drop 12).drop 4=b.drop 16 from List.drop_drop]
  refine nmI 4 rfl (by omega) (hl _) ?_
  rw[show (b.drop 16).drop 4=b.drop 20 from List.drop_drop]
  refine nmI 4 rfl (by omega) (hl _) ?_
  rw[show (b.drop 20).drop 4=b.drop 24 from List.drop_drop]
  refine ⟨c,⟨rfl,hc31,hl _⟩, ?_, ?_⟩
  ·rintro ⟨h0⟩
   refine hq _ _ ?_
   rw[h0]
   rfl
  ·rintro ⟨h1⟩
   exact hq _ _ (bQj rfl (by rw[kM]) (by rw[kM]))
 ·have e:aAi k c b=⟨2,(nbM b 4:Nat),0,0,0,0,0,0,fT (b.drop 4) c,[],0,0,[]⟩:=by rw[aAi,if_neg (by omega),if_pos (by omega)]
  rw[e] at hq
  refine ⟨c,⟨rfl,hc31,hl _⟩, ?_, ?_⟩
  ·rintro ⟨h0⟩
   refine hq _ _ ?_
   rw[h0]
   rfl
  ·rintro ⟨h1⟩
   exact hq _ _ (bQj rfl (by rw[kM]) (by rw[kM]))
 ·have e:aAi k c b=⟨3,(nbM b 4:Nat),0,0,0,0,0,0,[],[],0,0,[]⟩:=by rw[aAi,if_neg (by omega),if_neg (by omega),if_pos (by omega)]
  rw[e] at hq
  exact hq _ _ rfl
 ·have e:aAi k c b=⟨5,(nbM b 4:Nat),(nbM (b.drop 4) 4:Nat),0,0,0,0,0,[],[],0,0,[]⟩:=by rw[aAi,if_neg (by omega),if_neg (by omega),if_neg (by omega),if_pos (by omega)]
  rw[e] at hq
  exact nmI 4 rfl (by omega) (hl _) (hq _ _ rfl)
 ·refine aP (fun c1 => ?_) (fun c1=>tl (by omega) (by omega))
  have e:aAi k c b=⟨4,(nbM b 4:Nat),(nbM (b.drop 4) 4:Nat),0,0,0,0,0,[],aGq (b.drop 8).length (b.drop 8),0,0,[]⟩:=by rw[aAi,if_neg (by omega),if_neg (by omega),if_neg (by omega),if_neg (by omega),if_pos (by omega)]
  rw[e] at hq
  refine nmI 4 rfl (by omega) (hl _) ?_
  rw[show (b.drop 4).drop 4=b.drop 8 from List.drop_drop]
  have hl8:(b.drop 8).length≤10000:=by rw[List.length_drop];omega
  generalize nbM (b.drop 4) 4=x4 at *
  generalize b.drop 8=r at *
  refine ⟨.inl ⟨0,⟨rfl⟩,rfl,rfl,rfl,rfl,rfl,rfl,trivial⟩, ?_, ?_⟩
  ·rintro i ⟨hi⟩
   refine ⟨_,rfl,_,rfl,aD (fun h => ?_) (fun h => ?_)⟩
   ·have hx:=mZ r 2
    have hy:=mZ (r.drop 2) 2
    have p2:(256:Nat)^2=65536:=by decide
    have hst:=aEm (aEe r) (by omega)
    rw[List.nil_append] at hst
    refine nmI 2 rfl (by omega) (by omega) (nmI 2 rfl (by omega) (eP (by omega)) ⟨⟨0,⟨by omega⟩,rfl,rfl,rfl,rfl,rfl,rfl,rfl,rfl,rfl,rfl,trivial⟩, ?_⟩)
    generalize nbM r 2=x at *
    generalize nbM (r.drop 2) 2=y at *
    rintro k' ⟨hk⟩
    have hml:=qE (x:Int) (y:Int) k'
    refine ⟨_,rfl,aD (fun h16=>⟨_,rfl,ckI (by simp) ?_⟩) (fun h16 => ?_)⟩
    ·refine aJi (by omega) (by omega) (aP (fun h1 => ?_) (fun h1 => ?_))
     ·have hm:mbM (x:Int) (y:Int) (k'+1)=mbM (x:Int) (y:Int) k'++[((x:Int)+1+(k':Int))%65536]:=by rw[mbM,if_pos h1]
      refine aC (by omega) (by omega) ⟨_,rfl,aC (by omega) (by omega) (bG0 (by omega) (ckI (by simp[aB];omega) ⟨_,rfl,aC (by omega) (by omega) ⟨⟨trivial,rfl⟩,k'+1,⟨by omega⟩,by omega,rfl,rfl,by rw[hm];simp;try omega,by rw[hm];simp[aA],rfl,rfl,rfl,rfl,rfl,rfl,trivial⟩⟩))⟩
     ·have hm:mbM (x:Int) (y:Int) (k'+1)=mbM (x:Int) (y:Int) k':=by rw[mbM,if_neg h1,List.append_nil]
      refine ⟨_,rfl,aC (by omega) (by omega) ⟨⟨trivial,rfl⟩,k'+1,⟨by omega⟩,by omega,rfl,rfl,by rw[hm],by rw[hm],rfl,rfl,rfl,rfl,rfl,rfl,trivial⟩⟩
    ·obtain rfl:k'=16:=by omega
     refine ⟨⟨trivial,rfl⟩,.inr ⟨((x:Int)::mbM x y 16,(r.drop 2).drop 2),⟨by first | (simp;done) | (simp;omega),hst⟩,by simp only[List.length_drop];omega,rfl,rfl,by simp;try omega,by simp[aA],rfl,rfl,rfl,trivial⟩⟩
   ·refine hq _ _ ?_
    rw[aJ3 (aEe r) (by omega)]
    rfl
  ·rintro ⟨acc,l⟩ ⟨g1,g2⟩
   dsimp only at g1 g2 ⊢
   have g3:=g2
   obtain ⟨g4,g5,_⟩:=g3
   refine ⟨_,rfl,_,rfl,aD (fun h => ?_) (fun h => ?_)⟩
   ·have hx:=mZ l 2
    have hy:=mZ (l.drop 2) 2
    have p2:(256:Nat)^2=65536:=by decide
    have hst:=aEm g2 (by omega)
    refine nmI 2 rfl (by omega) (by omega) (nmI 2 rfl (by omega) (eP (by omega)) ?_)
    generalize nbM l 2=x at *
    generalize nbM (l.drop 2) 2=y at *
    refine ckI (by simp[aB];omega) ⟨⟨0,⟨by omega⟩,rfl,rfl,rfl,by simp[mbM,aA],rfl,rfl,rfl,rfl,rfl,rfl,trivial⟩, ?_⟩
    rintro k' ⟨hk⟩
    have hml:=qE (x:Int) (y:Int) k'
    refine ⟨_,rfl,aD (fun h16=>⟨_,rfl,ckI (by simp) ?_⟩) (fun h16 => ?_)⟩
    ·refine aJi (by omega) (by omega) (aP (fun h1 => ?_) (fun h1 => ?_))
     ·have hm:mbM (x:Int) (y:Int) (k'+1)=mbM (x:Int) (y:Int) k'++[((x:Int)+1+(k':Int))%65536]:=by rw[mbM,if_pos h1]
      refine aC (by omega) (by omega) ⟨_,rfl,aC (by omega) (by omega) (bG0 (by omega) (ckI (by simp[aB];omega) ⟨_,rfl,aC (by omega) (by omega) ⟨⟨trivial,rfl⟩,k'+1,⟨by omega⟩,by omega,rfl,rfl,by rw[hm];simp;try omega,by rw[hm];simp[aA],rfl,rfl,rfl,rfl,rfl,rfl,trivial⟩⟩))⟩
     ·have hm:mbM (x:Int) (y:Int) (k'+1)=mbM (x:Int) (y:Int) k':=by rw[mbM,if_neg h1,List.append_nil]
      refine ⟨_,rfl,aC (by omega) (by omega) ⟨⟨trivial,rfl⟩,k'+1,⟨by omega⟩,by omega,rfl,rfl,by rw[hm],by rw[hm],rfl,rfl,rfl,rfl,rfl,rfl,trivial⟩⟩
    ·obtain rfl:k'=16:=by omega
     refine ⟨⟨trivial,rfl⟩,.inr ⟨(acc++(x:Int)::mbM x y 16,(l.drop 2).drop 2),⟨by first | (simp;done) | (simp;omega),hst⟩,by simp only[List.length_drop];omega,rfl,rfl,by simp;try omega,by simp[aA],rfl,rfl,rfl,trivial⟩⟩
   ·refine hq _ _ ?_
    rw[aJ3 g2 (by omega)]
    exact bRc rfl
 ·exact tl (by omega) (by omega)
theorem aRg:∀ (n:Nat) (l:List UInt8),(aGq n l).length≤17*n
 | 0,_=>by simp[aGq]
 | n+1,l=>by
  rw[aGq]
  split
  ·simp
  ·have h1:=aRg n (l.drop 4)
   have h2:=qE (nbM l 2:Nat) (nbM (l.drop 2) 2:Nat) 16
   simp only[List.length_append,List.length_cons]
   omega
theorem aSo (sg:List Int):∀ (n i:Nat) (la:Int) (l:List UInt8) (acc:List Int),(aCx sg n i la l acc).length=acc.length+n
 | 0,_,_,_,_=>rfl
 | n+1,i,la,l,acc=>by
  rw[aCx]
  repeat' split
  all_goals rw[aSo sg n];simp;omega
theorem aP1 (k c:Nat) (b:List UInt8) (hc:c≤31) (hb:b.length≤10000):okC (aAi k c b):=by
 have h1:=kM (b.drop 24) c
 have h2:=kM (b.drop 4) c
 have h3:=aRg (b.drop 8).length (b.drop 8)
 have h3':(b.drop 8).length≤10000:=by rw[List.length_drop];omega
 have h4:∀n rf (l:List UInt8),(uW n rf l).length≤105:=fun n rf l=>by
  rw[uW,aSo]
  have:rnM n≤15:=by unfold rnM;split<;>omega
  simp only[List.length_nil]
  omega
 have h5:=h4 (nbM (b.drop 10) 2) (nbM (b.drop 12) 3:Nat) (b.drop 16)
 unfold aAi
 repeat' split
 all_goals exact ⟨by first | (simp;done) | (simp;omega) | (dsimp only;omega),by first | (simp;done) | (dsimp only;omega),by first | (simp;done) | (dsimp only;omega)⟩
def cPk:Con
 | [.str s],H,K=>Lf (s.length≤10000)∧∀c,Lf (aJ0 s=c∧okC c)→K (.ret (.agg (ctC c))) H
 | _,_,_=>False
theorem bN7:aO Tryd.prog glC 39 cPk:=by
 refine fE (enters_of (by kernel_rfl)) aV 9 aZj bCr fun args H Q hc => ?_
 unfold cPk at hc
 split at hc
 ·rename_i s
  obtain ⟨⟨h1⟩,hq⟩:=hc
  have hok:okC (aJ0 s):=aP1 _ _ _ (by omega) (by rw[List.length_drop];omega)
  obtain ⟨hv,hb',h⟩:=bIl s h1 (fun o H' _=>∃v,o=.ret v∧Q (.ret (aZj (dK 0 H' 9 v))) H) (fun v H' ho=>⟨v,rfl,by
   have:=hq _ ⟨rfl,hok⟩
   rw[←ho] at this
   exact this⟩)
  exact ⟨rfl,rfl,_,1000,aS bD0 _ hv hb',rfl,h⟩
 ·exact hc.elim
end Go.Proofs.YtafchcmemeinlaaDoor
