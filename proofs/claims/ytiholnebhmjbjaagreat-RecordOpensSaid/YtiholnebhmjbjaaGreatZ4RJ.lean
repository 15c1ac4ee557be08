/-
  Chapter 4: the reference's Block.
-/
import Derived.Test.YtiholnebhmjbjaaGreatZ4RI
set_option linter.unusedSimpArgs false
set_option linter.unusedVariables false
set_option linter.unusedSectionVars false
namespace Go.Proofs.YtiholnebhmjbjaaGreat
open Go.RowKit
set_option maxRecDepth 1000000

def wordsM (s:List UInt8):Nat→List Nat
 | 0=>[]
 | i+1=>wordsM s i++[numM s (4*i)]
def colM (l:List Nat):Nat→List Nat
 | 0=>l
 | i+1=>qLM (colM l i) i (4+i) (8+i) (12+i)
def diaM (l:List Nat):Nat→List Nat
 | 0=>l
 | i+1=>qLM (diaM l i) i (4+(i+1)%4) (8+(i+2)%4) (12+(i+3)%4)
def rndM (l:List Nat):Nat→List Nat
 | 0=>l
 | i+1=>diaM (colM (rndM l i) 4) 4
def outLM (f w:List Nat):Nat→List UInt8
 | 0=>[]
 | i+1=>outLM f w i++(leW (addW (f.getD i 0) (w.getD i 0))).map UInt8.ofNat
def inv_36a (s:S):List (List LInv):=match s.tm.get 7 with
 | .str t=>[[
  { α:=Nat,pre:=fun p=>Lf (p=0),st:=fun p=>⟨mkT [(7,s.tm.get 7),(8,.nils),(9,.int .i64 (p:Nat))],[]⟩,mu:=fun _=>20 },
  { α:=Nat,pre:=fun i=>Lf (1≤i∧i≤16),st:=fun i=>⟨mkT [(7,s.tm.get 7),(8,.sl 0 i 0 i 1),(9,.int .i64 (i:Nat))],[⟨.grow,true,cellsNM (wordsM t i)⟩]⟩,mu:=fun i=>16-i }]]
 | _=>[]
def inv_36c (s:S):List (List LInv):=match s.hp with
 | [⟨_,_,cs⟩]=>[[
  { α:=Nat,pre:=fun p=>Lf (p=0),st:=fun p=>⟨mkT [(8,s.tm.get 8),(10,s.tm.get 8),(11,.int .i64 (p:Nat))],s.hp⟩,mu:=fun _=>20 },
  { α:=Nat×List Nat,pre:=fun x=>Lf (1≤x.1∧x.1≤10∧x.2=rndM (cs.map unNM) x.1),st:=fun x=>⟨mkT [(8,s.tm.get 8),(10,.lst 0 (cellsNM x.2) 16 1),(11,.int .i64 (x.1:Nat))],s.hp⟩,mu:=fun x=>10-x.1 }]]
 | _=>[]
def famQ (s:S) (ix:Nat) (v:AV) (c:Nat):LInv := { α:=Nat,pre:=fun x=>Lf (x=0),st:=fun _=>⟨mkT [(8,s.tm.get 8),(10,v),(11,s.tm.get 11),(ix,.int .i64 (.ofNat c))],s.hp⟩,mu:=fun _=>4-c }
def inL (s:S):List Nat:=match s.tm.get 10,s.hp with
 | .lst _ cs _ _,_=>cs.map unNM
 | _,[⟨_,_,cs⟩]=>cs.map unNM
 | _,_=>[]
def inv_36e (s:S):List (List LInv):=[[famQ s 12 (s.tm.get 10) 0,famQ s 12 (.lst 0 (cellsNM (colM (inL s) 1)) 16 1) 1,famQ s 12 (.lst 0 (cellsNM (colM (inL s) 2)) 16 1) 2,famQ s 12 (.lst 0 (cellsNM (colM (inL s) 3)) 16 1) 3,famQ s 12 (.lst 0 (cellsNM (colM (inL s) 4)) 16 1) 4]]
def inv_36g (s:S):List (List LInv):=[[famQ s 13 (s.tm.get 10) 0,famQ s 13 (.lst 0 (cellsNM (diaM (inL s) 1)) 16 1) 1,famQ s 13 (.lst 0 (cellsNM (diaM (inL s) 2)) 16 1) 2,famQ s 13 (.lst 0 (cellsNM (diaM (inL s) 3)) 16 1) 3,famQ s 13 (.lst 0 (cellsNM (diaM (inL s) 4)) 16 1) 4]]
def inv_36i (s:S):List (List LInv):=match s.tm.get 10,s.hp with
 | .lst _ ws _ _,[⟨_,_,cs⟩]=>[[{ α:=Nat,pre:=fun i=>Lf (i≤16),st:=fun i=>⟨mkT [(8,s.tm.get 8),(10,s.tm.get 10),(14,.str (outLM (cs.map unNM) (ws.map unNM) i)),(15,.int .i64 (i:Nat))],s.hp⟩,mu:=fun i=>16-i }]]
 | _,_=>[]
def smB3:SM:=lookS [(89,cOct62),(90,cNum63),(91,cQuV)]
theorem smB3_ok:∀f g,smB3 f=some g→ValidF Tryz.prog gl0 f g:=lookS_ok _ (by simp only[List.mem_cons,List.not_mem_nil,or_false,forall_eq_or_imp,forall_eq];exact ⟨oct62_ok,num63_ok,qu_ok⟩)
noncomputable def env_36 (hv:Nat→Option Pa) (hb:Nat→Option Bool):Env:=
 { e04 smB3 (fun x=>bif Nat.beq x 61000 then some inv_36a else bif Nat.beq x 61002 then some inv_36c else bif Nat.beq x 61004 then some inv_36e else bif Nat.beq x 61006 then some inv_36g else bif Nat.beq x 61008 then some inv_36i else none) hv hb with hz:=fun k=>Nat.beq k 249892 }
noncomputable def goal_36f (hv:Nat→Option Pa) (hb:Nat→Option Bool) (key nonce:List UInt8) (c:Int) (Q:Out→List Blk→Gh→Prop):Prop:=
 callx (env_36 hv hb) (wpx (env_36 hv hb) 1000) 61 [.str key,.str nonce,.int .i64 c] [] {} Q
abbrev zRJ52 (s_0 r_2:List UInt8):Bool:=decide (s_0.length+r_2.length≤9223372036854775807)&&true
abbrev zRJ8 (x_5:Nat):AV:=.int .i64 (x_5:Int)
abbrev zRJ88 (x_5:Nat):Prop:=Lf (1≤x_5∧x_5≤16)
abbrev zRJ11:Prop:=True∧(0:Nat)=(0:Nat)
abbrev zRJ1 (s_4:List UInt8) (y_12:Nat):List AV:=cellsNM (wordsM s_4 y_12)
abbrev zRJ5 (y_12:Nat):AV:=.sl 0 y_12 0 y_12 1
abbrev zRJ0 (s_4:List UInt8) (x_5:Nat):Prop:=eqqQ (cellsNM (wordsM s_4 x_5))
abbrev zRJ2 (x_5:Nat):Prop:=eqqQ (AV.sl 0 x_5 0 x_5 1)
abbrev zRJ31 (x_6:Nat×List Nat) (s_4:List UInt8) (x_5:Nat):Prop:=Lf (1≤x_6.1∧x_6.1≤10∧x_6.2=rndM (List.map unNM (zRJ1 s_4 x_5)) x_6.1)
abbrev zRJ9 (x_6:Nat×List Nat):AV:=.int .i64 (x_6.1:Int)
abbrev zRJ16 (x_6:Nat×List Nat):AV:=.lst 0 (cellsNM x_6.2) 16 1
abbrev zRJ7 (x_6:Nat):Prop:=eqqQ (AV.int .i64 (x_6:Int))
abbrev zRJ82:Prop:=eqqQ (AV.int .i64 0)
abbrev zRJ32:Prop:=AV.int .i64 0=AV.int .i64 1
abbrev zRJ28 (s_4:List UInt8) (x_5:Nat):AV:=.lst 0 (cellsNM (colM (List.map unNM (zRJ1 s_4 x_5)) 1)) 16 1
abbrev zRJ33:Prop:=AV.int .i64 0=AV.int .i64 2
abbrev zRJ29 (s_4:List UInt8) (x_5:Nat):AV:=.lst 0 (cellsNM (colM (List.map unNM (zRJ1 s_4 x_5)) 2)) 16 1
abbrev zRJ34:Prop:=AV.int .i64 0=AV.int .i64 3
abbrev zRJ30 (s_4:List UInt8) (x_5:Nat):AV:=.lst 0 (cellsNM (colM (List.map unNM (zRJ1 s_4 x_5)) 3)) 16 1
abbrev zRJ35:Prop:=AV.int .i64 0=AV.int .i64 4
abbrev zRJ10 (s_4:List UInt8) (x_5:Nat):List AV:=cellsNM (colM (List.map unNM (zRJ1 s_4 x_5)) 4)
abbrev zRJ26 (s_4:List UInt8) (x_5:Nat):AV:=.lst 0 (zRJ10 s_4 x_5) 16 1
abbrev zRJ12 (l_8:List Nat):Prop:=∀x_13:Nat,l_8.getD x_13 0<4294967296
abbrev zRJ13 (i_9 j_10 k_11 m_12:Nat):Prop:=i_9<16∧j_10<16∧k_11<16∧m_12<16
abbrev zRJ89 (l_8:List Nat) (i_9 j_10 k_11 m_12:Nat):Prop:=l_8.length=16∧zRJ12 l_8∧0=(i_9:Int)∧4=(j_10:Int)∧8=(k_11:Int)∧12=(m_12:Int)∧zRJ13 i_9 j_10 k_11 m_12
abbrev zRJ81:Prop:=(4:Nat)<(4:Nat)
abbrev zRJ36:Prop:=AV.int .i64 1=AV.int .i64 0
abbrev zRJ4 (r_13:List Nat):AV:=.lst 0 (cellsNM r_13) 16 1
abbrev zRJ77:Prop:=(3:Nat)<(4:Nat)
abbrev zRJ83:Prop:=eqqQ (AV.int .i64 1)
abbrev zRJ73:Prop:=(2:Nat)<(4:Nat)
abbrev zRJ37:Prop:=AV.int .i64 1=AV.int .i64 2
abbrev zRJ69:Prop:=(1:Nat)<(4:Nat)
abbrev zRJ38:Prop:=AV.int .i64 1=AV.int .i64 3
abbrev zRJ65:Prop:=(0:Nat)<(4:Nat)
abbrev zRJ39:Prop:=AV.int .i64 1=AV.int .i64 4
abbrev zRJ87 (r_13:List Nat) (s_4:List UInt8) (x_5:Nat):Prop:=zRJ4 r_13=zRJ26 s_4 x_5∧True
abbrev zRJ56 (l_8:List Nat) (i_9 j_10 k_11 m_12:Nat):Prop:=eqqQ (16:Nat)∧l_8.length=16∧zRJ12 l_8∧1=(i_9:Int)∧5=(j_10:Int)∧9=(k_11:Int)∧13=(m_12:Int)∧zRJ13 i_9 j_10 k_11 m_12
abbrev zRJ80:Prop:=(4:Nat)<(3:Nat)
abbrev zRJ40:Prop:=AV.int .i64 2=AV.int .i64 0
abbrev zRJ76:Prop:=(3:Nat)<(3:Nat)
abbrev zRJ41:Prop:=AV.int .i64 2=AV.int .i64 1
abbrev zRJ72:Prop:=(2:Nat)<(3:Nat)
abbrev zRJ84:Prop:=eqqQ (AV.int .i64 2)
abbrev zRJ68:Prop:=(1:Nat)<(3:Nat)
abbrev zRJ42:Prop:=AV.int .i64 2=AV.int .i64 3
abbrev zRJ64:Prop:=(0:Nat)<(3:Nat)
abbrev zRJ43:Prop:=AV.int .i64 2=AV.int .i64 4
abbrev zRJ53 (l_8:List Nat) (i_9 j_10 k_11 m_12:Nat):Prop:=eqqQ (16:Nat)∧l_8.length=16∧zRJ12 l_8∧2=(i_9:Int)∧6=(j_10:Int)∧10=(k_11:Int)∧14=(m_12:Int)∧zRJ13 i_9 j_10 k_11 m_12
abbrev zRJ79:Prop:=(4:Nat)<(2:Nat)
abbrev zRJ44:Prop:=AV.int .i64 3=AV.int .i64 0
abbrev zRJ75:Prop:=(3:Nat)<(2:Nat)
abbrev zRJ45:Prop:=AV.int .i64 3=AV.int .i64 1
abbrev zRJ71:Prop:=(2:Nat)<(2:Nat)
abbrev zRJ46:Prop:=AV.int .i64 3=AV.int .i64 2
abbrev zRJ67:Prop:=(1:Nat)<(2:Nat)
abbrev zRJ85:Prop:=eqqQ (AV.int .i64 3)
abbrev zRJ63:Prop:=(0:Nat)<(2:Nat)
abbrev zRJ47:Prop:=AV.int .i64 3=AV.int .i64 4
abbrev zRJ54 (l_8:List Nat) (i_9 j_10 k_11 m_12:Nat):Prop:=eqqQ (16:Nat)∧l_8.length=16∧zRJ12 l_8∧3=(i_9:Int)∧7=(j_10:Int)∧11=(k_11:Int)∧15=(m_12:Int)∧zRJ13 i_9 j_10 k_11 m_12
abbrev zRJ78:Prop:=(4:Nat)<(1:Nat)
abbrev zRJ48:Prop:=AV.int .i64 4=AV.int .i64 0
abbrev zRJ74:Prop:=(3:Nat)<(1:Nat)
abbrev zRJ49:Prop:=AV.int .i64 4=AV.int .i64 1
abbrev zRJ70:Prop:=(2:Nat)<(1:Nat)
abbrev zRJ50:Prop:=AV.int .i64 4=AV.int .i64 2
abbrev zRJ66:Prop:=(1:Nat)<(1:Nat)
abbrev zRJ51:Prop:=AV.int .i64 4=AV.int .i64 3
abbrev zRJ62:Prop:=(0:Nat)<(1:Nat)
abbrev zRJ86:Prop:=eqqQ (AV.int .i64 4)
abbrev zRJ15 (s_4:List UInt8) (x_5:Nat):AV:=.lst 0 (cellsNM (diaM (List.map unNM (zRJ10 s_4 x_5)) 4)) 16 1
abbrev zRJ55 (l_9:List Nat) (i_10 j_11 k_12 m_13:Nat):Prop:=eqqQ (16:Nat)∧l_9.length=16∧zRJ12 l_9∧0=(i_10:Int)∧5=(j_11:Int)∧10=(k_12:Int)∧15=(m_13:Int)∧zRJ13 i_10 j_11 k_12 m_13
abbrev zRJ20 (x_5:Nat) (r_14:List Nat) (s_4:List UInt8):Prop:=zRJ2 x_5∧zRJ4 r_14=AV.lst 0 (cellsNM (diaM (List.map unNM (zRJ10 s_4 x_5)) 1)) 16 1∧True
abbrev zRJ21 (x_5:Nat) (r_14:List Nat) (s_4:List UInt8):Prop:=zRJ2 x_5∧zRJ4 r_14=AV.lst 0 (cellsNM (diaM (List.map unNM (zRJ10 s_4 x_5)) 2)) 16 1∧True
abbrev zRJ22 (x_5:Nat) (r_14:List Nat) (s_4:List UInt8):Prop:=zRJ2 x_5∧zRJ4 r_14=AV.lst 0 (cellsNM (diaM (List.map unNM (zRJ10 s_4 x_5)) 3)) 16 1∧True
abbrev zRJ57 (l_9:List Nat) (i_10 j_11 k_12 m_13:Nat):Prop:=eqqQ (16:Nat)∧l_9.length=16∧zRJ12 l_9∧1=(i_10:Int)∧6=(j_11:Int)∧11=(k_12:Int)∧12=(m_13:Int)∧zRJ13 i_10 j_11 k_12 m_13
abbrev zRJ58 (l_9:List Nat) (i_10 j_11 k_12 m_13:Nat):Prop:=eqqQ (16:Nat)∧l_9.length=16∧zRJ12 l_9∧2=(i_10:Int)∧7=(j_11:Int)∧8=(k_12:Int)∧13=(m_13:Int)∧zRJ13 i_10 j_11 k_12 m_13
abbrev zRJ59 (l_9:List Nat) (i_10 j_11 k_12 m_13:Nat):Prop:=eqqQ (16:Nat)∧l_9.length=16∧zRJ12 l_9∧3=(i_10:Int)∧4=(j_11:Int)∧9=(k_12:Int)∧14=(m_13:Int)∧zRJ13 i_10 j_11 k_12 m_13
abbrev zRJ6 (x_6:Nat×List Nat):Prop:=eqqQ (AV.int .i64 (x_6.1:Int))
abbrev zRJ17 (x_6:Nat×List Nat):AV:=.lst 0 (cellsNM (colM (List.map unNM (cellsNM x_6.2)) 1)) 16 1
abbrev zRJ18 (x_6:Nat×List Nat):AV:=.lst 0 (cellsNM (colM (List.map unNM (cellsNM x_6.2)) 2)) 16 1
abbrev zRJ19 (x_6:Nat×List Nat):AV:=.lst 0 (cellsNM (colM (List.map unNM (cellsNM x_6.2)) 3)) 16 1
abbrev zRJ3 (x_6:Nat×List Nat):List AV:=cellsNM (colM (List.map unNM (cellsNM x_6.2)) 4)
abbrev zRJ27 (x_6:Nat×List Nat):AV:=.lst 0 (zRJ3 x_6) 16 1
abbrev zRJ61 (r_13:List Nat) (x_6:Nat×List Nat):Prop:=zRJ4 r_13=zRJ27 x_6∧True
abbrev zRJ23 (x_6:Nat×List Nat):AV:=.lst 0 (cellsNM (diaM (List.map unNM (zRJ3 x_6)) 1)) 16 1
abbrev zRJ24 (x_6:Nat×List Nat):AV:=.lst 0 (cellsNM (diaM (List.map unNM (zRJ3 x_6)) 2)) 16 1
abbrev zRJ25 (x_6:Nat×List Nat):AV:=.lst 0 (cellsNM (diaM (List.map unNM (zRJ3 x_6)) 3)) 16 1
abbrev zRJ14 (x_6:Nat×List Nat):AV:=.lst 0 (cellsNM (diaM (List.map unNM (zRJ3 x_6)) 4)) 16 1
abbrev zRJ60 (s_4:List UInt8) (x_5:Nat) (x_6:Nat×List Nat) (x_7:Nat):List UInt8:=outLM (List.map unNM (zRJ1 s_4 x_5)) (List.map unNM (cellsNM x_6.2)) x_7
theorem vc_36f (key:List UInt8) (nonce:List UInt8) (c:Int) (Q:Out→List Blk→Gh→Prop):goal_36f (lookV [(249873,.str),(249876,.str),(249878,.str),(249886,.int .i64),(249888,.int .i64),(249889,.int .i64),(249890,
 .str),(249882,.int .i64),(249898,.int .i64),(249935,.str),(249939,.int .i64),(249943,.int .i64),(249944,.int .i64),(249945,.int .i64),(249947,.str),(249934,.int .i64),(249948,.str)]) (lookB []) key nonce c Q=(ckQ
 (decide (16+key.length≤9223372036854775807)&&true) (exS (.str ([UInt8.ofNat 101,UInt8.ofNat 120,UInt8.ofNat 112,UInt8.ofNat 97,UInt8.ofNat 110,UInt8.ofNat 100,UInt8.ofNat 32,UInt8.ofNat 51,UInt8.ofNat 50,UInt8.ofNat 45,
 UInt8.ofNat 98,UInt8.ofNat 121,UInt8.ofNat 116,UInt8.ofNat 101,UInt8.ofNat 32,UInt8.ofNat 107]++key)) (fun s_0=>∃a_1:Nat,Lf (c=(a_1:Int)∧a_1<4294967296)∧∀r_2:List UInt8,Lf (r_2=List.map UInt8.ofNat (leW a_1)) →
 ckQ (zRJ52 s_0 r_2) (exS (.str (s_0++r_2)) (fun s_3=>ckQ (zRJ52 s_3 nonce) (exS (.str (s_3++nonce)) (fun s_4=>((∃x_5:Nat,Lf (x_5=0)∧eqqQ (AV.str s_4)∧AV.int .i64 0=zRJ8 x_5∧AV.nils=AV.nils∧True)∨∃x_5:Nat,
 zRJ88 x_5∧False)∧(∀x_5:Nat,Lf (x_5=0)→ckQ (decide ((x_5:Int)<16)) (exW .i64 (4*(x_5:Int)) (fun n_6=>exW .i64 (4*(x_5:Int)) (fun n_7=>exW .i64 (n_7+4) (fun n_8=>ckQ (decide (0≤n_6)&&decide (0≤n_8) &&
 Nat.ble n_6.toNat n_8.toNat&&Nat.ble n_8.toNat s_4.length) (exS (.str ((s_4.drop n_6.toNat).take (n_8.toNat-n_6.toNat))) (fun s_9=>Lf (s_9.length=4)∧∀r_10:Nat,Lf (r_10=numM s_9 0)→exW .i64 ((x_5:Int)+1) (fun n_11=>
 zRJ11∧((∃y_12:Nat,Lf (y_12=0)∧(20:Nat)<(20:Nat)∧False)∨∃y_12:Nat,zRJ88 y_12∧16-y_12<20∧[zRJ8 r_10]=zRJ1 s_4 y_12∧eqqQ (AV.str s_4)∧AV.int .i64 n_11=zRJ8 y_12∧AV.sl 0 1 0 1 1=zRJ5 y_12 ∧
 True)))))))))∧∀x_5:Nat,zRJ88 x_5→bif decide ((x_5:Int)<16) then exW .i64 (4*(x_5:Int)) (fun n_6=>exW .i64 (4*(x_5:Int)) (fun n_7=>exW .i64 (n_7+4) (fun n_8=>ckQ (decide (0≤n_6)&&decide (0≤n_8)&&Nat.ble
 n_6.toNat n_8.toNat&&Nat.ble n_8.toNat s_4.length) (exS (.str ((s_4.drop n_6.toNat).take (n_8.toNat-n_6.toNat))) (fun s_9=>Lf (s_9.length=4)∧∀r_10:Nat,Lf (r_10=numM s_9 0)→ckQ (Nat.beq (zRJ1 s_4 x_5).length x_5&&true &&
 Nat.beq (0+x_5*1) x_5&&Nat.ble (x_5+1) 1099511627776&&Nat.ble ((x_5+1)*8) 1099511627776) (exW .i64 ((x_5:Int)+1) (fun n_11=>zRJ11∧((∃y_12:Nat,Lf (y_12=0)∧20<16-x_5∧False)∨∃y_12:Nat,zRJ88 y_12∧16
 - y_12<16-x_5∧zRJ1 s_4 x_5++[zRJ8 r_10]=zRJ1 s_4 y_12∧eqqQ (AV.str s_4)∧AV.int .i64 n_11=zRJ8 y_12∧AV.sl 0 (x_5+1) 0 (x_5+1) 1=zRJ5 y_12∧True)))))))) else ((∃x_6:Nat,Lf (x_6=0)∧zRJ0 s_4 x_5∧AV.int .i64 0
 = zRJ8 x_6∧zRJ2 x_5∧zRJ2 x_5∧True)∨∃x_6:Nat×List Nat,zRJ31 x_6 s_4 x_5∧zRJ0 s_4 x_5∧AV.int .i64 0=zRJ9 x_6∧zRJ2 x_5∧zRJ5 x_5=zRJ16 x_6∧True)∧(∀x_6:Nat,Lf (x_6=0)→ckQ (decide ((x_6:Int)<10)) (((∃
 x_7:Nat,Lf (x_7=0)∧zRJ0 s_4 x_5∧zRJ7 x_6∧zRJ2 x_5∧zRJ82∧zRJ2 x_5∧True)∨(∃x_7:Nat,Lf (x_7=0)∧zRJ0 s_4 x_5∧zRJ7 x_6∧zRJ2 x_5∧zRJ32∧zRJ5 x_5=zRJ28 s_4 x_5∧True)∨(∃x_7:Nat,Lf (x_7=0)∧zRJ0 s_4
 x_5∧zRJ7 x_6∧zRJ2 x_5∧zRJ33∧zRJ5 x_5=zRJ29 s_4 x_5∧True)∨(∃x_7:Nat,Lf (x_7=0)∧zRJ0 s_4 x_5∧zRJ7 x_6∧zRJ2 x_5∧zRJ34∧zRJ5 x_5=zRJ30 s_4 x_5∧True)∨∃x_7:Nat,Lf (x_7=0)∧zRJ0 s_4 x_5∧zRJ7 x_6∧zRJ2
 x_5∧zRJ35∧zRJ5 x_5=zRJ26 s_4 x_5∧True)∧(∀x_7:Nat,Lf (x_7=0)→ckQ (Nat.beq (zRJ1 s_4 x_5).length x_5&&Nat.ble (0+x_5*1) x_5&&true) (∃l_8:List Nat,∃i_9 j_10 k_11 m_12:Nat,Lf (List.map (fun (x_13:AV)=>frzV
 1 [Blk.mk BK.grow true (zRJ1 s_4 x_5)] 8 x_13) (((zRJ1 s_4 x_5).drop 0).take (x_5*1))=cellsNM l_8∧x_5=16∧zRJ89 l_8 i_9 j_10 k_11 m_12)∧∀r_13:List Nat,Lf (r_13=qLM l_8 i_9 j_10 k_11 m_12)→zRJ11∧((∃y_14:Nat,Lf (y_14
 = 0)∧zRJ81∧zRJ0 s_4 x_5∧zRJ7 x_6∧zRJ2 x_5∧zRJ36∧zRJ4 r_13=zRJ5 x_5∧True)∨(∃y_14:Nat,Lf (y_14=0)∧zRJ77∧zRJ0 s_4 x_5∧zRJ7 x_6∧zRJ2 x_5∧zRJ83∧zRJ4 r_13=zRJ28 s_4 x_5∧True)∨(∃y_14:Nat,Lf (y_14=0)
 ∧ zRJ73∧zRJ0 s_4 x_5∧zRJ7 x_6∧zRJ2 x_5∧zRJ37∧zRJ4 r_13=zRJ29 s_4 x_5∧True)∨(∃y_14:Nat,Lf (y_14=0)∧zRJ69∧zRJ0 s_4 x_5∧zRJ7 x_6∧zRJ2 x_5∧zRJ38∧zRJ4 r_13=zRJ30 s_4 x_5∧True)∨∃y_14:Nat,Lf (y_14=0)
 ∧ zRJ65∧zRJ0 s_4 x_5∧zRJ7 x_6∧zRJ2 x_5∧zRJ39∧zRJ87 r_13 s_4 x_5)))∧(∀x_7:Nat,Lf (x_7=0)→∃l_8:List Nat,∃i_9 j_10 k_11 m_12:Nat,Lf (cellsNM (colM (List.map unNM (zRJ1 s_4 x_5)) 1)=cellsNM l_8∧zRJ56 l_8 i_9
 j_10 k_11 m_12)∧∀r_13:List Nat,Lf (r_13=qLM l_8 i_9 j_10 k_11 m_12)→zRJ11∧((∃y_14:Nat,Lf (y_14=0)∧zRJ80∧zRJ0 s_4 x_5∧zRJ7 x_6∧zRJ2 x_5∧zRJ40∧zRJ4 r_13=zRJ5 x_5∧True)∨(∃y_14:Nat,Lf (y_14=0)∧zRJ76
 ∧ zRJ0 s_4 x_5∧zRJ7 x_6∧zRJ2 x_5∧zRJ41∧zRJ4 r_13=zRJ28 s_4 x_5∧True)∨(∃y_14:Nat,Lf (y_14=0)∧zRJ72∧zRJ0 s_4 x_5∧zRJ7 x_6∧zRJ2 x_5∧zRJ84∧zRJ4 r_13=zRJ29 s_4 x_5∧True)∨(∃y_14:Nat,Lf (y_14=0)∧zRJ68
 ∧ zRJ0 s_4 x_5∧zRJ7 x_6∧zRJ2 x_5∧zRJ42∧zRJ4 r_13=zRJ30 s_4 x_5∧True)∨∃y_14:Nat,Lf (y_14=0)∧zRJ64∧zRJ0 s_4 x_5∧zRJ7 x_6∧zRJ2 x_5∧zRJ43∧zRJ87 r_13 s_4 x_5))∧(∀x_7:Nat,Lf (x_7=0)→∃l_8:List Nat,∃
 i_9 j_10 k_11 m_12:Nat,Lf (cellsNM (colM (List.map unNM (zRJ1 s_4 x_5)) 2)=cellsNM l_8∧zRJ53 l_8 i_9 j_10 k_11 m_12)∧∀r_13:List Nat,Lf (r_13=qLM l_8 i_9 j_10 k_11 m_12)→zRJ11∧((∃y_14:Nat,Lf (y_14=0)∧zRJ79∧zRJ0
 s_4 x_5∧zRJ7 x_6∧zRJ2 x_5∧zRJ44∧zRJ4 r_13=zRJ5 x_5∧True)∨(∃y_14:Nat,Lf (y_14=0)∧zRJ75∧zRJ0 s_4 x_5∧zRJ7 x_6∧zRJ2 x_5∧zRJ45∧zRJ4 r_13=zRJ28 s_4 x_5∧True)∨(∃y_14:Nat,Lf (y_14=0)∧zRJ71∧zRJ0 s_4
 x_5∧zRJ7 x_6∧zRJ2 x_5∧zRJ46∧zRJ4 r_13=zRJ29 s_4 x_5∧True)∨(∃y_14:Nat,Lf (y_14=0)∧zRJ67∧zRJ0 s_4 x_5∧zRJ7 x_6∧zRJ2 x_5∧zRJ85∧zRJ4 r_13=zRJ30 s_4 x_5∧True)∨∃y_14:Nat,Lf (y_14=0)∧zRJ63∧zRJ0 s_4
 x_5∧zRJ7 x_6∧zRJ2 x_5∧zRJ47∧zRJ87 r_13 s_4 x_5))∧(∀x_7:Nat,Lf (x_7=0)→∃l_8:List Nat,∃i_9 j_10 k_11 m_12:Nat,Lf (cellsNM (colM (List.map unNM (zRJ1 s_4 x_5)) 3)=cellsNM l_8∧zRJ54 l_8 i_9 j_10 k_11 m_12)∧∀
 r_13:List Nat,Lf (r_13=qLM l_8 i_9 j_10 k_11 m_12)→zRJ11∧((∃y_14:Nat,Lf (y_14=0)∧zRJ78∧zRJ0 s_4 x_5∧zRJ7 x_6∧zRJ2 x_5∧zRJ48∧zRJ4 r_13=zRJ5 x_5∧True)∨(∃y_14:Nat,Lf (y_14=0)∧zRJ74∧zRJ0 s_4 x_5 ∧
 zRJ7 x_6∧zRJ2 x_5∧zRJ49∧zRJ4 r_13=zRJ28 s_4 x_5∧True)∨(∃y_14:Nat,Lf (y_14=0)∧zRJ70∧zRJ0 s_4 x_5∧zRJ7 x_6∧zRJ2 x_5∧zRJ50∧zRJ4 r_13=zRJ29 s_4 x_5∧True)∨(∃y_14:Nat,Lf (y_14=0)∧zRJ66∧zRJ0 s_4 x_5 ∧
 zRJ7 x_6∧zRJ2 x_5∧zRJ51∧zRJ4 r_13=zRJ30 s_4 x_5∧True)∨∃y_14:Nat,Lf (y_14=0)∧zRJ62∧zRJ0 s_4 x_5∧zRJ7 x_6∧zRJ2 x_5∧zRJ86∧zRJ87 r_13 s_4 x_5))∧∀x_7:Nat,Lf (x_7=0)→((∃x_8:Nat,Lf (x_8=0)∧zRJ0 s_4
 x_5∧zRJ7 x_6∧zRJ82∧zRJ2 x_5∧eqqQ (zRJ26 s_4 x_5)∧True)∨(∃x_8:Nat,Lf (x_8=0)∧zRJ0 s_4 x_5∧zRJ7 x_6∧zRJ32∧zRJ2 x_5∧zRJ26 s_4 x_5=AV.lst 0 (cellsNM (diaM (List.map unNM (zRJ10 s_4 x_5)) 1)) 16 1∧True)∨(∃x_8
 : Nat,Lf (x_8=0)∧zRJ0 s_4 x_5∧zRJ7 x_6∧zRJ33∧zRJ2 x_5∧zRJ26 s_4 x_5=AV.lst 0 (cellsNM (diaM (List.map unNM (zRJ10 s_4 x_5)) 2)) 16 1∧True)∨(∃x_8:Nat,Lf (x_8=0)∧zRJ0 s_4 x_5∧zRJ7 x_6∧zRJ34∧zRJ2 x_5∧zRJ26
 s_4 x_5=AV.lst 0 (cellsNM (diaM (List.map unNM (zRJ10 s_4 x_5)) 3)) 16 1∧True)∨∃x_8:Nat,Lf (x_8=0)∧zRJ0 s_4 x_5∧zRJ7 x_6∧zRJ35∧zRJ2 x_5∧zRJ26 s_4 x_5=zRJ15 s_4 x_5∧True)∧(∀x_8:Nat,Lf (x_8=0)→∃l_9:List
 Nat,∃i_10 j_11 k_12 m_13:Nat,Lf (zRJ10 s_4 x_5=cellsNM l_9∧zRJ55 l_9 i_10 j_11 k_12 m_13)∧∀r_14:List Nat,Lf (r_14=qLM l_9 i_10 j_11 k_12 m_13)→zRJ11∧((∃y_15:Nat,Lf (y_15=0)∧zRJ81∧zRJ0 s_4 x_5∧zRJ7 x_6 ∧
 zRJ36∧zRJ2 x_5∧zRJ87 r_14 s_4 x_5)∨(∃y_15:Nat,Lf (y_15=0)∧zRJ77∧zRJ0 s_4 x_5∧zRJ7 x_6∧zRJ83∧zRJ20 x_5 r_14 s_4)∨(∃y_15:Nat,Lf (y_15=0)∧zRJ73∧zRJ0 s_4 x_5∧zRJ7 x_6∧zRJ37∧zRJ21 x_5 r_14 s_4)∨(∃y_15
 : Nat,Lf (y_15=0)∧zRJ69∧zRJ0 s_4 x_5∧zRJ7 x_6∧zRJ38∧zRJ22 x_5 r_14 s_4)∨∃y_15:Nat,Lf (y_15=0)∧zRJ65∧zRJ0 s_4 x_5∧zRJ7 x_6∧zRJ39∧zRJ2 x_5∧zRJ4 r_14=zRJ15 s_4 x_5∧True))∧(∀x_8:Nat,Lf (x_8=0)→∃
 l_9:List Nat,∃i_10 j_11 k_12 m_13:Nat,Lf (cellsNM (diaM (List.map unNM (zRJ10 s_4 x_5)) 1)=cellsNM l_9∧zRJ57 l_9 i_10 j_11 k_12 m_13)∧∀r_14:List Nat,Lf (r_14=qLM l_9 i_10 j_11 k_12 m_13)→zRJ11∧((∃y_15:Nat,Lf
 (y_15=0)∧zRJ80∧zRJ0 s_4 x_5∧zRJ7 x_6∧zRJ40∧zRJ2 x_5∧zRJ87 r_14 s_4 x_5)∨(∃y_15:Nat,Lf (y_15=0)∧zRJ76∧zRJ0 s_4 x_5∧zRJ7 x_6∧zRJ41∧zRJ20 x_5 r_14 s_4)∨(∃y_15:Nat,Lf (y_15=0)∧zRJ72∧zRJ0 s_4 x_5 ∧
 zRJ7 x_6∧zRJ84∧zRJ21 x_5 r_14 s_4)∨(∃y_15:Nat,Lf (y_15=0)∧zRJ68∧zRJ0 s_4 x_5∧zRJ7 x_6∧zRJ42∧zRJ22 x_5 r_14 s_4)∨∃y_15:Nat,Lf (y_15=0)∧zRJ64∧zRJ0 s_4 x_5∧zRJ7 x_6∧zRJ43∧zRJ2 x_5∧zRJ4 r_14=zRJ15
 s_4 x_5∧True))∧(∀x_8:Nat,Lf (x_8=0)→∃l_9:List Nat,∃i_10 j_11 k_12 m_13:Nat,Lf (cellsNM (diaM (List.map unNM (zRJ10 s_4 x_5)) 2)=cellsNM l_9∧zRJ58 l_9 i_10 j_11 k_12 m_13)∧∀r_14:List Nat,Lf (r_14=qLM l_9 i_10
 j_11 k_12 m_13)→zRJ11∧((∃y_15:Nat,Lf (y_15=0)∧zRJ79∧zRJ0 s_4 x_5∧zRJ7 x_6∧zRJ44∧zRJ2 x_5∧zRJ87 r_14 s_4 x_5)∨(∃y_15:Nat,Lf (y_15=0)∧zRJ75∧zRJ0 s_4 x_5∧zRJ7 x_6∧zRJ45∧zRJ20 x_5 r_14 s_4)∨(∃y_15 :
 Nat,Lf (y_15=0)∧zRJ71∧zRJ0 s_4 x_5∧zRJ7 x_6∧zRJ46∧zRJ21 x_5 r_14 s_4)∨(∃y_15:Nat,Lf (y_15=0)∧zRJ67∧zRJ0 s_4 x_5∧zRJ7 x_6∧zRJ85∧zRJ22 x_5 r_14 s_4)∨∃y_15:Nat,Lf (y_15=0)∧zRJ63∧zRJ0 s_4 x_5∧zRJ7
 x_6∧zRJ47∧zRJ2 x_5∧zRJ4 r_14=zRJ15 s_4 x_5∧True))∧(∀x_8:Nat,Lf (x_8=0)→∃l_9:List Nat,∃i_10 j_11 k_12 m_13:Nat,Lf (cellsNM (diaM (List.map unNM (zRJ10 s_4 x_5)) 3)=cellsNM l_9∧zRJ59 l_9 i_10 j_11 k_12 m_13) ∧
 ∀r_14:List Nat,Lf (r_14=qLM l_9 i_10 j_11 k_12 m_13)→zRJ11∧((∃y_15:Nat,Lf (y_15=0)∧zRJ78∧zRJ0 s_4 x_5∧zRJ7 x_6∧zRJ48∧zRJ2 x_5∧zRJ87 r_14 s_4 x_5)∨(∃y_15:Nat,Lf (y_15=0)∧zRJ74∧zRJ0 s_4 x_5∧zRJ7 x_6
 ∧ zRJ49∧zRJ20 x_5 r_14 s_4)∨(∃y_15:Nat,Lf (y_15=0)∧zRJ70∧zRJ0 s_4 x_5∧zRJ7 x_6∧zRJ50∧zRJ21 x_5 r_14 s_4)∨(∃y_15:Nat,Lf (y_15=0)∧zRJ66∧zRJ0 s_4 x_5∧zRJ7 x_6∧zRJ51∧zRJ22 x_5 r_14 s_4)∨∃y_15:Nat,Lf
 (y_15=0)∧zRJ62∧zRJ0 s_4 x_5∧zRJ7 x_6∧zRJ86∧zRJ2 x_5∧zRJ4 r_14=zRJ15 s_4 x_5∧True))∧∀x_8:Nat,Lf (x_8=0)→exW .i64 ((x_6:Int)+1) (fun n_9=>zRJ11∧((∃y_10:Nat,Lf (y_10=0)∧(20:Nat)<(20:Nat) ∧
 zRJ0 s_4 x_5∧AV.int .i64 n_9=zRJ8 y_10∧zRJ2 x_5∧zRJ15 s_4 x_5=zRJ5 x_5∧True)∨∃y_10:Nat×List Nat,zRJ31 y_10 s_4 x_5∧10-y_10.1<20∧zRJ0 s_4 x_5∧AV.int .i64 n_9=zRJ9 y_10∧zRJ2 x_5∧zRJ15 s_4 x_5=zRJ16 y_10
 ∧ True))))∧∀x_6:Nat×List Nat,zRJ31 x_6 s_4 x_5→bif decide ((x_6.1:Int)<10) then ((∃x_7:Nat,Lf (x_7=0)∧zRJ0 s_4 x_5∧zRJ6 x_6∧zRJ2 x_5∧zRJ82∧eqqQ (zRJ16 x_6)∧True)∨(∃x_7:Nat,Lf (x_7=0)∧zRJ0 s_4 x_5 ∧
 zRJ6 x_6∧zRJ2 x_5∧zRJ32∧zRJ16 x_6=zRJ17 x_6∧True)∨(∃x_7:Nat,Lf (x_7=0)∧zRJ0 s_4 x_5∧zRJ6 x_6∧zRJ2 x_5∧zRJ33∧zRJ16 x_6=zRJ18 x_6∧True)∨(∃x_7:Nat,Lf (x_7=0)∧zRJ0 s_4 x_5∧zRJ6 x_6∧zRJ2 x_5∧zRJ34
 ∧ zRJ16 x_6=zRJ19 x_6∧True)∨∃x_7:Nat,Lf (x_7=0)∧zRJ0 s_4 x_5∧zRJ6 x_6∧zRJ2 x_5∧zRJ35∧zRJ16 x_6=zRJ27 x_6∧True)∧(∀x_7:Nat,Lf (x_7=0)→∃l_8:List Nat,∃i_9 j_10 k_11 m_12:Nat,Lf (cellsNM x_6.2 =
 cellsNM l_8∧eqqQ (16:Nat)∧zRJ89 l_8 i_9 j_10 k_11 m_12)∧∀r_13:List Nat,Lf (r_13=qLM l_8 i_9 j_10 k_11 m_12)→zRJ11∧((∃y_14:Nat,Lf (y_14=0)∧zRJ81∧zRJ0 s_4 x_5∧zRJ6 x_6∧zRJ2 x_5∧zRJ36∧zRJ4 r_13=zRJ16 x_6
 ∧ True)∨(∃y_14:Nat,Lf (y_14=0)∧zRJ77∧zRJ0 s_4 x_5∧zRJ6 x_6∧zRJ2 x_5∧zRJ83∧zRJ4 r_13=zRJ17 x_6∧True)∨(∃y_14:Nat,Lf (y_14=0)∧zRJ73∧zRJ0 s_4 x_5∧zRJ6 x_6∧zRJ2 x_5∧zRJ37∧zRJ4 r_13=zRJ18 x_6∧True)
 ∨ (∃y_14:Nat,Lf (y_14=0)∧zRJ69∧zRJ0 s_4 x_5∧zRJ6 x_6∧zRJ2 x_5∧zRJ38∧zRJ4 r_13=zRJ19 x_6∧True)∨∃y_14:Nat,Lf (y_14=0)∧zRJ65∧zRJ0 s_4 x_5∧zRJ6 x_6∧zRJ2 x_5∧zRJ39∧zRJ61 r_13 x_6))∧(∀x_7:Nat,Lf
 (x_7=0)→∃l_8:List Nat,∃i_9 j_10 k_11 m_12:Nat,Lf (cellsNM (colM (List.map unNM (cellsNM x_6.2)) 1)=cellsNM l_8∧zRJ56 l_8 i_9 j_10 k_11 m_12)∧∀r_13:List Nat,Lf (r_13=qLM l_8 i_9 j_10 k_11 m_12)→zRJ11∧((∃y_14 :
 Nat,Lf (y_14=0)∧zRJ80∧zRJ0 s_4 x_5∧zRJ6 x_6∧zRJ2 x_5∧zRJ40∧zRJ4 r_13=zRJ16 x_6∧True)∨(∃y_14:Nat,Lf (y_14=0)∧zRJ76∧zRJ0 s_4 x_5∧zRJ6 x_6∧zRJ2 x_5∧zRJ41∧zRJ4 r_13=zRJ17 x_6∧True)∨(∃y_14:Nat,Lf
 (y_14=0)∧zRJ72∧zRJ0 s_4 x_5∧zRJ6 x_6∧zRJ2 x_5∧zRJ84∧zRJ4 r_13=zRJ18 x_6∧True)∨(∃y_14:Nat,Lf (y_14=0)∧zRJ68∧zRJ0 s_4 x_5∧zRJ6 x_6∧zRJ2 x_5∧zRJ42∧zRJ4 r_13=zRJ19 x_6∧True)∨∃y_14:Nat,Lf (y_14 =
 0)∧zRJ64∧zRJ0 s_4 x_5∧zRJ6 x_6∧zRJ2 x_5∧zRJ43∧zRJ61 r_13 x_6))∧(∀x_7:Nat,Lf (x_7=0)→∃l_8:List Nat,∃i_9 j_10 k_11 m_12:Nat,Lf (cellsNM (colM (List.map unNM (cellsNM x_6.2)) 2)=cellsNM l_8∧zRJ53 l_8 i_9 j_10
 k_11 m_12)∧∀r_13:List Nat,Lf (r_13=qLM l_8 i_9 j_10 k_11 m_12)→zRJ11∧((∃y_14:Nat,Lf (y_14=0)∧zRJ79∧zRJ0 s_4 x_5∧zRJ6 x_6∧zRJ2 x_5∧zRJ44∧zRJ4 r_13=zRJ16 x_6∧True)∨(∃y_14:Nat,Lf (y_14=0)∧zRJ75 ∧
 zRJ0 s_4 x_5∧zRJ6 x_6∧zRJ2 x_5∧zRJ45∧zRJ4 r_13=zRJ17 x_6∧True)∨(∃y_14:Nat,Lf (y_14=0)∧zRJ71∧zRJ0 s_4 x_5∧zRJ6 x_6∧zRJ2 x_5∧zRJ46∧zRJ4 r_13=zRJ18 x_6∧True)∨(∃y_14:Nat,Lf (y_14=0)∧zRJ67∧zRJ0
 s_4 x_5∧zRJ6 x_6∧zRJ2 x_5∧zRJ85∧zRJ4 r_13=zRJ19 x_6∧True)∨∃y_14:Nat,Lf (y_14=0)∧zRJ63∧zRJ0 s_4 x_5∧zRJ6 x_6∧zRJ2 x_5∧zRJ47∧zRJ61 r_13 x_6))∧(∀x_7:Nat,Lf (x_7=0)→∃l_8:List Nat,∃i_9 j_10 k_11
 m_12:Nat,Lf (cellsNM (colM (List.map unNM (cellsNM x_6.2)) 3)=cellsNM l_8∧zRJ54 l_8 i_9 j_10 k_11 m_12)∧∀r_13:List Nat,Lf (r_13=qLM l_8 i_9 j_10 k_11 m_12)→zRJ11∧((∃y_14:Nat,Lf (y_14=0)∧zRJ78∧zRJ0 s_4 x_5 ∧
 zRJ6 x_6∧zRJ2 x_5∧zRJ48∧zRJ4 r_13=zRJ16 x_6∧True)∨(∃y_14:Nat,Lf (y_14=0)∧zRJ74∧zRJ0 s_4 x_5∧zRJ6 x_6∧zRJ2 x_5∧zRJ49∧zRJ4 r_13=zRJ17 x_6∧True)∨(∃y_14:Nat,Lf (y_14=0)∧zRJ70∧zRJ0 s_4 x_5∧zRJ6
 x_6∧zRJ2 x_5∧zRJ50∧zRJ4 r_13=zRJ18 x_6∧True)∨(∃y_14:Nat,Lf (y_14=0)∧zRJ66∧zRJ0 s_4 x_5∧zRJ6 x_6∧zRJ2 x_5∧zRJ51∧zRJ4 r_13=zRJ19 x_6∧True)∨∃y_14:Nat,Lf (y_14=0)∧zRJ62∧zRJ0 s_4 x_5∧zRJ6 x_6 ∧
 zRJ2 x_5∧zRJ86∧zRJ61 r_13 x_6))∧∀x_7:Nat,Lf (x_7=0)→((∃x_8:Nat,Lf (x_8=0)∧zRJ0 s_4 x_5∧zRJ6 x_6∧zRJ82∧zRJ2 x_5∧eqqQ (zRJ27 x_6)∧True)∨(∃x_8:Nat,Lf (x_8=0)∧zRJ0 s_4 x_5∧zRJ6 x_6∧zRJ32∧zRJ2 x_5
 ∧ zRJ27 x_6=zRJ23 x_6∧True)∨(∃x_8:Nat,Lf (x_8=0)∧zRJ0 s_4 x_5∧zRJ6 x_6∧zRJ33∧zRJ2 x_5∧zRJ27 x_6=zRJ24 x_6∧True)∨(∃x_8:Nat,Lf (x_8=0)∧zRJ0 s_4 x_5∧zRJ6 x_6∧zRJ34∧zRJ2 x_5∧zRJ27 x_6=zRJ25 x_6 ∧
 True)∨∃x_8:Nat,Lf (x_8=0)∧zRJ0 s_4 x_5∧zRJ6 x_6∧zRJ35∧zRJ2 x_5∧zRJ27 x_6=zRJ14 x_6∧True)∧(∀x_8:Nat,Lf (x_8=0)→∃l_9:List Nat,∃i_10 j_11 k_12 m_13:Nat,Lf (zRJ3 x_6=cellsNM l_9∧zRJ55 l_9 i_10 j_11
 k_12 m_13)∧∀r_14:List Nat,Lf (r_14=qLM l_9 i_10 j_11 k_12 m_13)→zRJ11∧((∃y_15:Nat,Lf (y_15=0)∧zRJ81∧zRJ0 s_4 x_5∧zRJ6 x_6∧zRJ36∧zRJ2 x_5∧zRJ61 r_14 x_6)∨(∃y_15:Nat,Lf (y_15=0)∧zRJ77∧zRJ0 s_4 x_5 ∧
 zRJ6 x_6∧zRJ83∧zRJ2 x_5∧zRJ4 r_14=zRJ23 x_6∧True)∨(∃y_15:Nat,Lf (y_15=0)∧zRJ73∧zRJ0 s_4 x_5∧zRJ6 x_6∧zRJ37∧zRJ2 x_5∧zRJ4 r_14=zRJ24 x_6∧True)∨(∃y_15:Nat,Lf (y_15=0)∧zRJ69∧zRJ0 s_4 x_5∧zRJ6
 x_6∧zRJ38∧zRJ2 x_5∧zRJ4 r_14=zRJ25 x_6∧True)∨∃y_15:Nat,Lf (y_15=0)∧zRJ65∧zRJ0 s_4 x_5∧zRJ6 x_6∧zRJ39∧zRJ2 x_5∧zRJ4 r_14=zRJ14 x_6∧True))∧(∀x_8:Nat,Lf (x_8=0)→∃l_9:List Nat,∃i_10 j_11 k_12
 m_13:Nat,Lf (cellsNM (diaM (List.map unNM (zRJ3 x_6)) 1)=cellsNM l_9∧zRJ57 l_9 i_10 j_11 k_12 m_13)∧∀r_14:List Nat,Lf (r_14=qLM l_9 i_10 j_11 k_12 m_13)→zRJ11∧((∃y_15:Nat,Lf (y_15=0)∧zRJ80∧zRJ0 s_4 x_5∧zRJ6
 x_6∧zRJ40∧zRJ2 x_5∧zRJ61 r_14 x_6)∨(∃y_15:Nat,Lf (y_15=0)∧zRJ76∧zRJ0 s_4 x_5∧zRJ6 x_6∧zRJ41∧zRJ2 x_5∧zRJ4 r_14=zRJ23 x_6∧True)∨(∃y_15:Nat,Lf (y_15=0)∧zRJ72∧zRJ0 s_4 x_5∧zRJ6 x_6∧zRJ84∧zRJ2
 x_5∧zRJ4 r_14=zRJ24 x_6∧True)∨(∃y_15:Nat,Lf (y_15=0)∧zRJ68∧zRJ0 s_4 x_5∧zRJ6 x_6∧zRJ42∧zRJ2 x_5∧zRJ4 r_14=zRJ25 x_6∧True)∨∃y_15:Nat,Lf (y_15=0)∧zRJ64∧zRJ0 s_4 x_5∧zRJ6 x_6∧zRJ43∧zRJ2 x_5 ∧
 zRJ4 r_14=zRJ14 x_6∧True))∧(∀x_8:Nat,Lf (x_8=0)→∃l_9:List Nat,∃i_10 j_11 k_12 m_13:Nat,Lf (cellsNM (diaM (List.map unNM (zRJ3 x_6)) 2)=cellsNM l_9∧zRJ58 l_9 i_10 j_11 k_12 m_13)∧∀r_14:List Nat,Lf (r_14=qLM
 l_9 i_10 j_11 k_12 m_13)→zRJ11∧((∃y_15:Nat,Lf (y_15=0)∧zRJ79∧zRJ0 s_4 x_5∧zRJ6 x_6∧zRJ44∧zRJ2 x_5∧zRJ61 r_14 x_6)∨(∃y_15:Nat,Lf (y_15=0)∧zRJ75∧zRJ0 s_4 x_5∧zRJ6 x_6∧zRJ45∧zRJ2 x_5∧zRJ4 r_14=zRJ23
 x_6∧True)∨(∃y_15:Nat,Lf (y_15=0)∧zRJ71∧zRJ0 s_4 x_5∧zRJ6 x_6∧zRJ46∧zRJ2 x_5∧zRJ4 r_14=zRJ24 x_6∧True)∨(∃y_15:Nat,Lf (y_15=0)∧zRJ67∧zRJ0 s_4 x_5∧zRJ6 x_6∧zRJ85∧zRJ2 x_5∧zRJ4 r_14=zRJ25 x_6 ∧
 True)∨∃y_15:Nat,Lf (y_15=0)∧zRJ63∧zRJ0 s_4 x_5∧zRJ6 x_6∧zRJ47∧zRJ2 x_5∧zRJ4 r_14=zRJ14 x_6∧True))∧(∀x_8:Nat,Lf (x_8=0)→∃l_9:List Nat,∃i_10 j_11 k_12 m_13:Nat,Lf (cellsNM (diaM (List.map unNM (zRJ3
 x_6)) 3)=cellsNM l_9∧zRJ59 l_9 i_10 j_11 k_12 m_13)∧∀r_14:List Nat,Lf (r_14=qLM l_9 i_10 j_11 k_12 m_13)→zRJ11∧((∃y_15:Nat,Lf (y_15=0)∧zRJ78∧zRJ0 s_4 x_5∧zRJ6 x_6∧zRJ48∧zRJ2 x_5∧zRJ61 r_14 x_6)∨(∃y_15 :
 Nat,Lf (y_15=0)∧zRJ74∧zRJ0 s_4 x_5∧zRJ6 x_6∧zRJ49∧zRJ2 x_5∧zRJ4 r_14=zRJ23 x_6∧True)∨(∃y_15:Nat,Lf (y_15=0)∧zRJ70∧zRJ0 s_4 x_5∧zRJ6 x_6∧zRJ50∧zRJ2 x_5∧zRJ4 r_14=zRJ24 x_6∧True)∨(∃y_15:Nat,Lf
 (y_15=0)∧zRJ66∧zRJ0 s_4 x_5∧zRJ6 x_6∧zRJ51∧zRJ2 x_5∧zRJ4 r_14=zRJ25 x_6∧True)∨∃y_15:Nat,Lf (y_15=0)∧zRJ62∧zRJ0 s_4 x_5∧zRJ6 x_6∧zRJ86∧zRJ2 x_5∧zRJ4 r_14=zRJ14 x_6∧True))∧∀x_8:Nat,Lf (x_8=0)
 → exW .i64 ((x_6.1:Int)+1) (fun n_9=>zRJ11∧((∃y_10:Nat,Lf (y_10=0)∧20<10-x_6.1∧zRJ0 s_4 x_5∧AV.int .i64 n_9=zRJ8 y_10∧zRJ2 x_5∧zRJ14 x_6=zRJ5 x_5∧True)∨∃y_10:Nat×List Nat,zRJ31 y_10 s_4 x_5∧10 -
 y_10.1<10-x_6.1∧zRJ0 s_4 x_5∧AV.int .i64 n_9=zRJ9 y_10∧zRJ2 x_5∧zRJ14 x_6=zRJ16 y_10∧True)) else (∃x_7:Nat,Lf (x_7≤16)∧zRJ0 s_4 x_5∧AV.int .i64 0=zRJ8 x_7∧zRJ2 x_5∧eqqQ (zRJ16 x_6)∧AV.str []=AV.str
 (zRJ60 s_4 x_5 x_6 x_7)∧True)∧∀x_7:Nat,Lf (x_7≤16)→bif decide ((x_7:Int)<16) then exS (.str (zRJ60 s_4 x_5 x_6 x_7)) (fun s_8=>ckQ (Nat.blt (x_7:Int).toNat x_5&&Nat.beq (zRJ1 s_4 x_5).length x_5&&true) (ckQ (Nat.beq
 (zRJ1 s_4 x_5).length x_5&&Nat.blt (0+(x_7:Int).toNat*1) x_5) (exV .i64 ((((zRJ1 s_4 x_5).drop (0+(x_7:Int).toNat*1)).take 1).getD 0 AV.undef) (fun n_9=>ckQ (Nat.blt (x_7:Int).toNat 16&&true) (ckQ (Nat.blt ((x_7 :
 Int).toNat*1) (cellsNM x_6.2).length) (exV .i64 ((cellsNM x_6.2).getD ((x_7:Int).toNat*1) AV.undef) (fun n_10=>exW .i64 (n_9+n_10) (fun n_11=>exI .i64 (n_11.tmod 4294967296) (fun n_12=>∃a_13:Nat,Lf (n_12=(a_13:Int) ∧
 a_13<4294967296)∧∀r_14:List UInt8,Lf (r_14=List.map UInt8.ofNat (leW a_13))→ckQ (zRJ52 s_8 r_14) (exS (.str (s_8++r_14)) (fun s_15=>exW .i64 ((x_7:Int)+1) (fun n_16=>zRJ11∧∃y_17:Nat,Lf (y_17≤16)∧16-y_17 <
 16-x_7∧zRJ0 s_4 x_5∧AV.int .i64 n_16=zRJ8 y_17∧zRJ2 x_5∧eqqQ (zRJ16 x_6)∧AV.str s_15=AV.str (zRJ60 s_4 x_5 x_6 y_17)∧True)))))))))))) else exS (.str (zRJ60 s_4 x_5 x_6 x_7)) (fun s_8=>Q (.ret (.str s_8)) [] {}))))))))
 := by kernel_rfl

theorem words_len (s:List UInt8):∀i,(wordsM s i).length=i
 | 0=>rfl
 | i+1=>by rw[wordsM,List.length_append,words_len s i];rfl
theorem num_lt (s:List UInt8) (m:Nat):numM s m<4294967296:=by
 rw[num_words]
 have:=bytM_lt s m
 have:=bytM_lt s (m+1)
 have:=bytM_lt s (m+2)
 have:=bytM_lt s (m+3)
 omega
theorem words_lt (s:List UInt8):∀i x,(wordsM s i).getD x 0<4294967296
 | 0,x=>by rw[wordsM];simp
 | i+1,x=>by
  have ih:=words_lt s i x
  rw[wordsM,List.getD_eq_getElem?_getD,List.getElem?_append]
  split
  ·rwa [List.getD_eq_getElem?_getD] at ih
  ·by_cases h:x-(wordsM s i).length=0
   ·rw[h];exact num_lt s _
   ·rw[List.getElem?_eq_none (by simp;omega)];decide
theorem num_at (s:List UInt8) (a:Nat):numM ((s.drop a).take 4) 0=numM s a:=by
 have e:∀i,i<4→bytM ((s.drop a).take 4) i=bytM s (a+i):=fun i hi=>by
  unfold bytM
  rw[List.getD_eq_getElem?_getD,List.getD_eq_getElem?_getD,List.getElem?_take,if_pos hi,List.getElem?_drop]
 rw[num_words,num_words,e 0 (by omega),e (0+1) (by omega),e (0+2) (by omega),e (0+3) (by omega),Nat.add_zero,Nat.zero_add,Nat.zero_add,Nat.zero_add]
theorem col_len (l:List Nat):∀i,(colM l i).length=l.length
 | 0=>rfl
 | i+1=>by rw[colM,qL_len,col_len l i]
theorem col_lt {l:List Nat} (h:∀x,l.getD x 0<4294967296):∀i x,(colM l i).getD x 0<4294967296
 | 0=>h
 | i+1=>qL_lt _ _ _ _ (col_lt h i)
theorem dia_len (l:List Nat):∀i,(diaM l i).length=l.length
 | 0=>rfl
 | i+1=>by rw[diaM,qL_len,dia_len l i]
theorem dia_lt {l:List Nat} (h:∀x,l.getD x 0<4294967296):∀i x,(diaM l i).getD x 0<4294967296
 | 0=>h
 | i+1=>qL_lt _ _ _ _ (dia_lt h i)
theorem rnd_len (l:List Nat):∀i,(rndM l i).length=l.length
 | 0=>rfl
 | i+1=>by rw[rndM,dia_len,col_len,rnd_len l i]
theorem rnd_lt {l:List Nat} (h:∀x,l.getD x 0<4294967296):∀i x,(rndM l i).getD x 0<4294967296
 | 0=>h
 | i+1=>dia_lt (col_lt (rnd_lt h i) 4) 4
theorem col_s (l:List Nat) (i:Nat):colM l (i+1)=qLM (colM l i) i (4+i) (8+i) (12+i):=rfl
theorem dia_s (l:List Nat) (i:Nat):diaM l (i+1)=qLM (diaM l i) i (4+(i+1)%4) (8+(i+2)%4) (12+(i+3)%4):=rfl
theorem outL_len (f w:List Nat):∀i,(outLM f w i).length=4*i
 | 0=>rfl
 | i+1=>by rw[outLM,List.length_append,outL_len f w i];simp[leW];omega
set_option maxHeartbeats 4000000 in
theorem rblock_run (key nonce:List UInt8) (c:Nat) (hk:key.length=32) (hn:nonce.length=12) (hc:c<4294967296) (Q:Out→List Blk→Gh→Prop)
  (hq:∀A,A=((expandM++key)++(leW c).map UInt8.ofNat)++nonce→Q (.ret (.str (outLM (wordsM A 16) (rndM (wordsM A 16) 10) 16))) [] {}):∃hv hb,goal_36f hv hb key nonce (c:Nat) Q:=by
 obtain ⟨hv,hb',e⟩:∃hv hb,goal_36f hv hb key nonce (c:Nat) Q=_:=⟨_,_,vc_36f key nonce (c:Nat) Q⟩
 refine ⟨hv,hb',e.mpr ?_⟩
 delta zRJ52 zRJ8 zRJ88 zRJ11 zRJ1 zRJ5 zRJ0 zRJ2 zRJ31 zRJ9 zRJ16 zRJ7 zRJ82 zRJ32 zRJ28 zRJ33 zRJ29 zRJ34 zRJ30 zRJ35 zRJ10 zRJ26 zRJ12 zRJ13 zRJ89 zRJ81 zRJ36 zRJ4 zRJ77 zRJ83 zRJ73 zRJ37 zRJ69 zRJ38 zRJ65 zRJ39 zRJ87 zRJ56 zRJ80 zRJ40 zRJ76 zRJ41 zRJ72 zRJ84 zRJ68 zRJ42 zRJ64 zRJ43 zRJ53 zRJ79 zRJ44 zRJ75 zRJ45 zRJ71 zRJ46 zRJ67 zRJ85 zRJ63 zRJ47 zRJ54 zRJ78 zRJ48 zRJ74 zRJ49 zRJ70 zRJ50 zRJ66 zRJ51 zRJ62 zRJ86 zRJ15 zRJ55 zRJ20 zRJ21 zRJ22 zRJ57 zRJ58 zRJ59 zRJ6 zRJ17 zRJ18 zRJ19 zRJ3 zRJ27 zRJ61 zRJ23 zRJ24 zRJ25 zRJ14 zRJ60
 clear e
 have hw:((leW c).map UInt8.ofNat).length=4:=by simp[leW]
 refine ckI (by simp;omega) ⟨_,rfl,c,⟨rfl,hc⟩, ?_⟩
 rintro w ⟨rfl⟩
 refine ckI (by rw[hw];simp;omega) ⟨_,rfl,ckI (by rw[List.length_append,hw];simp;omega) ?_⟩
 refine ⟨((expandM++key)++(leW c).map UInt8.ofNat)++nonce,rfl, ?_⟩
 obtain ⟨A,hA⟩:∃A,A=((expandM++key)++(leW c).map UInt8.ofNat)++nonce:=⟨_,rfl⟩
 rw[←hA]
 have hAl:A.length=64:=by rw[hA];simp[expandM,hk,hn,leW]
 have hq:=hq A hA
 clear hA
 have stp:∀i,i<16→wordsM A (i+1)=wordsM A i++[numM A (4*i)]:=fun i _=>rfl
 refine ⟨.inl ⟨0,⟨rfl⟩,rfl,rfl,rfl,trivial⟩, ?_, ?_⟩
 ·rintro _ ⟨rfl⟩
  refine ckI (by simp) (wrapI (by omega) (by omega) (wrapI (by omega) (by omega) (wrapI (by omega) (by omega) (ckI (by rw[hAl];rfl) ⟨(A.drop (4*0)).take 4,rfl,⟨by rw[List.length_take,List.length_drop];omega⟩, ?_⟩))))
  rintro r ⟨hr⟩
  rw[num_at] at hr
  exact wrapI (by omega) (by omega) ⟨⟨trivial,rfl⟩,.inr ⟨1,⟨by omega,by omega⟩,by omega,by rw[hr];rfl,rfl,rfl,rfl,trivial⟩⟩
 ·rintro i ⟨h1,h2⟩
  have hwl:=words_len A i
  have hcl:(cellsNM (wordsM A i)).length=i:=by rw[cellsN_len,hwl]
  refine splitD (fun h => ?_) (fun h => ?_)
  ·refine wrapI (by omega) (by omega) (wrapI (by omega) (by omega) (wrapI (by omega) (by omega) (ckI (by rw[hAl];simp;omega) ⟨(A.drop (4*i)).take 4, ?_,⟨by rw[List.length_take,List.length_drop];omega⟩, ?_⟩)))
   ·rw[show Int.toNat (4*(i:Int))=4*i by omega,show Int.toNat (4*(i:Int)+4)-4*i=4 by omega]
   rintro r ⟨hr⟩
   rw[num_at] at hr
   exact ckI (by rw[hcl];simp;omega) (wrapI (by omega) (by omega) ⟨⟨trivial,rfl⟩,.inr ⟨i+1,⟨by omega,by omega⟩,by omega,by rw[hr,wordsM];simp[cellsNM],rfl,rfl,rfl,trivial⟩⟩)
  ·obtain rfl:i=16:=by omega
   obtain ⟨F,hF⟩:∃F,F=wordsM A 16:=⟨_,rfl⟩
   rw[←hF] at hwl hcl hq ⊢
   have hFb:∀x,F.getD x 0<4294967296:=by rw[hF];exact words_lt A 16
   rw[unN_map]
   have lF:F.length=16:=hwl
   have bF:=hFb
   refine ⟨.inl ⟨0,⟨rfl⟩,rfl,rfl,rfl,rfl,trivial⟩, ?_, ?_⟩
   ·rintro _ ⟨rfl⟩
    refine ckI (by simp) ?_
    obtain ⟨C1,hC1⟩:∃X,colM F 1=X:=⟨_,rfl⟩
    have sC1:qLM F 0 4 8 12=C1:=by rw[←hC1,col_s];rfl
    have lC1:C1.length=16:=by rw[←sC1,qL_len,lF]
    have bC1:∀x,C1.getD x 0<4294967296:=by rw[←sC1];exact qL_lt _ _ _ _ bF
    obtain ⟨C2,hC2⟩:∃X,colM F 2=X:=⟨_,rfl⟩
    have sC2:qLM C1 1 5 9 13=C2:=by rw[←hC2,col_s,hC1]
    have lC2:C2.length=16:=by rw[←sC2,qL_len,lC1]
    have bC2:∀x,C2.getD x 0<4294967296:=by rw[←sC2];exact qL_lt _ _ _ _ bC1
    obtain ⟨C3,hC3⟩:∃X,colM F 3=X:=⟨_,rfl⟩
    have sC3:qLM C2 2 6 10 14=C3:=by rw[←hC3,col_s,hC2]
    have lC3:C3.length=16:=by rw[←sC3,qL_len,lC2]
    have bC3:∀x,C3.getD x 0<4294967296:=by rw[←sC3];exact qL_lt _ _ _ _ bC2
    obtain ⟨C4,hC4⟩:∃X,colM F 4=X:=⟨_,rfl⟩
    have sC4:qLM C3 3 7 11 15=C4:=by rw[←hC4,col_s,hC3]
    have lC4:C4.length=16:=by rw[←sC4,qL_len,lC3]
    have bC4:∀x,C4.getD x 0<4294967296:=by rw[←sC4];exact qL_lt _ _ _ _ bC3
    rw[hC1,hC2,hC3,hC4]
    refine ⟨.inl ⟨0,⟨rfl⟩,rfl,rfl,rfl,rfl,rfl,trivial⟩, ?_, ?_, ?_, ?_, ?_⟩
    ·rintro _ ⟨rfl⟩
     refine ckI (by rw[hcl];rfl) ⟨F,0,4,8,12,⟨by rw[List.drop_zero,List.take_of_length_le (by omega),frz_plain],rfl,lF,bF,rfl,rfl,rfl,rfl,by decide,by decide,by decide,by decide⟩, ?_⟩
     rintro r ⟨hr⟩
     rw[sC1] at hr
     subst hr
     exact ⟨⟨trivial,rfl⟩,.inr (.inl ⟨0,⟨rfl⟩,by decide,rfl,rfl,rfl,rfl,rfl,trivial⟩)⟩
    ·rintro _ ⟨rfl⟩
     refine ⟨C1,1,5,9,13,⟨rfl,rfl,lC1,bC1,rfl,rfl,rfl,rfl,by decide,by decide,by decide,by decide⟩, ?_⟩
     rintro r ⟨hr⟩
     rw[sC2] at hr
     subst hr
     exact ⟨⟨trivial,rfl⟩,.inr (.inr (.inl ⟨0,⟨rfl⟩,by decide,rfl,rfl,rfl,rfl,rfl,trivial⟩))⟩
    ·rintro _ ⟨rfl⟩
     refine ⟨C2,2,6,10,14,⟨rfl,rfl,lC2,bC2,rfl,rfl,rfl,rfl,by decide,by decide,by decide,by decide⟩, ?_⟩
     rintro r ⟨hr⟩
     rw[sC3] at hr
     subst hr
     exact ⟨⟨trivial,rfl⟩,.inr (.inr (.inr (.inl ⟨0,⟨rfl⟩,by decide,rfl,rfl,rfl,rfl,rfl,trivial⟩)))⟩
    ·rintro _ ⟨rfl⟩
     refine ⟨C3,3,7,11,15,⟨rfl,rfl,lC3,bC3,rfl,rfl,rfl,rfl,by decide,by decide,by decide,by decide⟩, ?_⟩
     rintro r ⟨hr⟩
     rw[sC4] at hr
     subst hr
     exact ⟨⟨trivial,rfl⟩,.inr (.inr (.inr (.inr ⟨0,⟨rfl⟩,by decide,rfl,rfl,rfl,rfl,rfl,trivial⟩)))⟩
    ·rintro _ ⟨rfl⟩
     rw[unN_map]
     obtain ⟨D1,hD1⟩:∃X,diaM C4 1=X:=⟨_,rfl⟩
     have sD1:qLM C4 0 5 10 15=D1:=by rw[←hD1,dia_s];rfl
     have lD1:D1.length=16:=by rw[←sD1,qL_len,lC4]
     have bD1:∀x,D1.getD x 0<4294967296:=by rw[←sD1];exact qL_lt _ _ _ _ bC4
     obtain ⟨D2,hD2⟩:∃X,diaM C4 2=X:=⟨_,rfl⟩
     have sD2:qLM D1 1 6 11 12=D2:=by rw[←hD2,dia_s,hD1]
     have lD2:D2.length=16:=by rw[←sD2,qL_len,lD1]
     have bD2:∀x,D2.getD x 0<4294967296:=by rw[←sD2];exact qL_lt _ _ _ _ bD1
     obtain ⟨D3,hD3⟩:∃X,diaM C4 3=X:=⟨_,rfl⟩
     have sD3:qLM D2 2 7 8 13=D3:=by rw[←hD3,dia_s,hD2]
     have lD3:D3.length=16:=by rw[←sD3,qL_len,lD2]
     have bD3:∀x,D3.getD x 0<4294967296:=by rw[←sD3];exact qL_lt _ _ _ _ bD2
     obtain ⟨D4,hD4⟩:∃X,diaM C4 4=X:=⟨_,rfl⟩
     have sD4:qLM D3 3 4 9 14=D4:=by rw[←hD4,dia_s,hD3]
     have lD4:D4.length=16:=by rw[←sD4,qL_len,lD3]
     have bD4:∀x,D4.getD x 0<4294967296:=by rw[←sD4];exact qL_lt _ _ _ _ bD3
     rw[hD1,hD2,hD3,hD4]
     refine ⟨.inl ⟨0,⟨rfl⟩,rfl,rfl,rfl,rfl,rfl,trivial⟩, ?_, ?_, ?_, ?_, ?_⟩
     ·rintro _ ⟨rfl⟩
      refine ⟨C4,0,5,10,15,⟨rfl,rfl,lC4,bC4,rfl,rfl,rfl,rfl,by decide,by decide,by decide,by decide⟩, ?_⟩
      rintro r ⟨hr⟩
      rw[sD1] at hr
      subst hr
      exact ⟨⟨trivial,rfl⟩,.inr (.inl ⟨0,⟨rfl⟩,by decide,rfl,rfl,rfl,rfl,rfl,trivial⟩)⟩
     ·rintro _ ⟨rfl⟩
      refine ⟨D1,1,6,11,12,⟨rfl,rfl,lD1,bD1,rfl,rfl,rfl,rfl,by decide,by decide,by decide,by decide⟩, ?_⟩
      rintro r ⟨hr⟩
      rw[sD2] at hr
      subst hr
      exact ⟨⟨trivial,rfl⟩,.inr (.inr (.inl ⟨0,⟨rfl⟩,by decide,rfl,rfl,rfl,rfl,rfl,trivial⟩))⟩
     ·rintro _ ⟨rfl⟩
      refine ⟨D2,2,7,8,13,⟨rfl,rfl,lD2,bD2,rfl,rfl,rfl,rfl,by decide,by decide,by decide,by decide⟩, ?_⟩
      rintro r ⟨hr⟩
      rw[sD3] at hr
      subst hr
      exact ⟨⟨trivial,rfl⟩,.inr (.inr (.inr (.inl ⟨0,⟨rfl⟩,by decide,rfl,rfl,rfl,rfl,rfl,trivial⟩)))⟩
     ·rintro _ ⟨rfl⟩
      refine ⟨D3,3,4,9,14,⟨rfl,rfl,lD3,bD3,rfl,rfl,rfl,rfl,by decide,by decide,by decide,by decide⟩, ?_⟩
      rintro r ⟨hr⟩
      rw[sD4] at hr
      subst hr
      exact ⟨⟨trivial,rfl⟩,.inr (.inr (.inr (.inr ⟨0,⟨rfl⟩,by decide,rfl,rfl,rfl,rfl,rfl,trivial⟩)))⟩
     ·rintro _ ⟨rfl⟩
      exact wrapI (by omega) (by omega) ⟨⟨trivial,rfl⟩,.inr ⟨(1,D4),⟨by simp,by simp,by show D4=diaM (colM F 4) 4;rw[hC4,hD4]⟩,by simp,rfl,rfl,rfl,rfl,trivial⟩⟩
   ·rintro ⟨r,G⟩ ⟨g1,g2,g3⟩
    dsimp only at g1 g2 g3 ⊢
    have lG:G.length=16:=by rw[g3,rnd_len,lF]
    have bG:∀x,G.getD x 0<4294967296:=by rw[g3];exact rnd_lt bF r
    rw[unN_map]
    refine splitD (fun h => ?_) (fun h => ?_)
    ·skip
     obtain ⟨C1,hC1⟩:∃X,colM G 1=X:=⟨_,rfl⟩
     have sC1:qLM G 0 4 8 12=C1:=by rw[←hC1,col_s];rfl
     have lC1:C1.length=16:=by rw[←sC1,qL_len,lG]
     have bC1:∀x,C1.getD x 0<4294967296:=by rw[←sC1];exact qL_lt _ _ _ _ bG
     obtain ⟨C2,hC2⟩:∃X,colM G 2=X:=⟨_,rfl⟩
     have sC2:qLM C1 1 5 9 13=C2:=by rw[←hC2,col_s,hC1]
     have lC2:C2.length=16:=by rw[←sC2,qL_len,lC1]
     have bC2:∀x,C2.getD x 0<4294967296:=by rw[←sC2];exact qL_lt _ _ _ _ bC1
     obtain ⟨C3,hC3⟩:∃X,colM G 3=X:=⟨_,rfl⟩
     have sC3:qLM C2 2 6 10 14=C3:=by rw[←hC3,col_s,hC2]
     have lC3:C3.length=16:=by rw[←sC3,qL_len,lC2]
     have bC3:∀x,C3.getD x 0<4294967296:=by rw[←sC3];exact qL_lt _ _ _ _ bC2
     obtain ⟨C4,hC4⟩:∃X,colM G 4=X:=⟨_,rfl⟩
     have sC4:qLM C3 3 7 11 15=C4:=by rw[←hC4,col_s,hC3]
     have lC4:C4.length=16:=by rw[←sC4,qL_len,lC3]
     have bC4:∀x,C4.getD x 0<4294967296:=by rw[←sC4];exact qL_lt _ _ _ _ bC3
     rw[hC1,hC2,hC3,hC4]
     refine ⟨.inl ⟨0,⟨rfl⟩,rfl,rfl,rfl,rfl,rfl,trivial⟩, ?_, ?_, ?_, ?_, ?_⟩
     ·rintro _ ⟨rfl⟩
      refine ⟨G,0,4,8,12,⟨rfl,rfl,lG,bG,rfl,rfl,rfl,rfl,by decide,by decide,by decide,by decide⟩, ?_⟩
      rintro r ⟨hr⟩
      rw[sC1] at hr
      subst hr
      exact ⟨⟨trivial,rfl⟩,.inr (.inl ⟨0,⟨rfl⟩,by decide,rfl,rfl,rfl,rfl,rfl,trivial⟩)⟩
     ·rintro _ ⟨rfl⟩
      refine ⟨C1,1,5,9,13,⟨rfl,rfl,lC1,bC1,rfl,rfl,rfl,rfl,by decide,by decide,by decide,by decide⟩, ?_⟩
      rintro r ⟨hr⟩
      rw[sC2] at hr
      subst hr
      exact ⟨⟨trivial,rfl⟩,.inr (.inr (.inl ⟨0,⟨rfl⟩,by decide,rfl,rfl,rfl,rfl,rfl,trivial⟩))⟩
     ·rintro _ ⟨rfl⟩
      refine ⟨C2,2,6,10,14,⟨rfl,rfl,lC2,bC2,rfl,rfl,rfl,rfl,by decide,by decide,by decide,by decide⟩, ?_⟩
      rintro r ⟨hr⟩
      rw[sC3] at hr
      subst hr
      exact ⟨⟨trivial,rfl⟩,.inr (.inr (.inr (.inl ⟨0,⟨rfl⟩,by decide,rfl,rfl,rfl,rfl,rfl,trivial⟩)))⟩
     ·rintro _ ⟨rfl⟩
      refine ⟨C3,3,7,11,15,⟨rfl,rfl,lC3,bC3,rfl,rfl,rfl,rfl,by decide,by decide,by decide,by decide⟩, ?_⟩
      rintro r ⟨hr⟩
      rw[sC4] at hr
      subst hr
      exact ⟨⟨trivial,rfl⟩,.inr (.inr (.inr (.inr ⟨0,⟨rfl⟩,by decide,rfl,rfl,rfl,rfl,rfl,trivial⟩)))⟩
     ·rintro _ ⟨rfl⟩
      rw[unN_map]
      obtain ⟨D1,hD1⟩:∃X,diaM C4 1=X:=⟨_,rfl⟩
      have sD1:qLM C4 0 5 10 15=D1:=by rw[←hD1,dia_s];rfl
      have lD1:D1.length=16:=by rw[←sD1,qL_len,lC4]
      have bD1:∀x,D1.getD x 0<4294967296:=by rw[←sD1];exact qL_lt _ _ _ _ bC4
      obtain ⟨D2,hD2⟩:∃X,diaM C4 2=X:=⟨_,rfl⟩
      have sD2:qLM D1 1 6 11 12=D2:=by rw[←hD2,dia_s,hD1]
      have lD2:D2.length=16:=by rw[←sD2,qL_len,lD1]
      have bD2:∀x,D2.getD x 0<4294967296:=by rw[←sD2];exact qL_lt _ _ _ _ bD1
      obtain ⟨D3,hD3⟩:∃X,diaM C4 3=X:=⟨_,rfl⟩
      have sD3:qLM D2 2 7 8 13=D3:=by rw[←hD3,dia_s,hD2]
      have lD3:D3.length=16:=by rw[←sD3,qL_len,lD2]
      have bD3:∀x,D3.getD x 0<4294967296:=by rw[←sD3];exact qL_lt _ _ _ _ bD2
      obtain ⟨D4,hD4⟩:∃X,diaM C4 4=X:=⟨_,rfl⟩
      have sD4:qLM D3 3 4 9 14=D4:=by rw[←hD4,dia_s,hD3]
      have lD4:D4.length=16:=by rw[←sD4,qL_len,lD3]
      have bD4:∀x,D4.getD x 0<4294967296:=by rw[←sD4];exact qL_lt _ _ _ _ bD3
      rw[hD1,hD2,hD3,hD4]
      refine ⟨.inl ⟨0,⟨rfl⟩,rfl,rfl,rfl,rfl,rfl,trivial⟩, ?_, ?_, ?_, ?_, ?_⟩
      ·rintro _ ⟨rfl⟩
       refine ⟨C4,0,5,10,15,⟨rfl,rfl,lC4,bC4,rfl,rfl,rfl,rfl,by decide,by decide,by decide,by decide⟩, ?_⟩
       rintro r ⟨hr⟩
       rw[sD1] at hr
       subst hr
       exact ⟨⟨trivial,rfl⟩,.inr (.inl ⟨0,⟨rfl⟩,by decide,rfl,rfl,rfl,rfl,rfl,trivial⟩)⟩
      ·rintro _ ⟨rfl⟩
       refine ⟨D1,1,6,11,12,⟨rfl,rfl,lD1,bD1,rfl,rfl,rfl,rfl,by decide,by decide,by decide,by decide⟩, ?_⟩
       rintro r ⟨hr⟩
       rw[sD2] at hr
       subst hr
       exact ⟨⟨trivial,rfl⟩,.inr (.inr (.inl ⟨0,⟨rfl⟩,by decide,rfl,rfl,rfl,rfl,rfl,trivial⟩))⟩
      ·rintro _ ⟨rfl⟩
       refine ⟨D2,2,7,8,13,⟨rfl,rfl,lD2,bD2,rfl,rfl,rfl,rfl,by decide,by decide,by decide,by decide⟩, ?_⟩
       rintro r ⟨hr⟩
       rw[sD3] at hr
       subst hr
       exact ⟨⟨trivial,rfl⟩,.inr (.inr (.inr (.inl ⟨0,⟨rfl⟩,by decide,rfl,rfl,rfl,rfl,rfl,trivial⟩)))⟩
      ·rintro _ ⟨rfl⟩
       refine ⟨D3,3,4,9,14,⟨rfl,rfl,lD3,bD3,rfl,rfl,rfl,rfl,by decide,by decide,by decide,by decide⟩, ?_⟩
       rintro r ⟨hr⟩
       rw[sD4] at hr
       subst hr
       exact ⟨⟨trivial,rfl⟩,.inr (.inr (.inr (.inr ⟨0,⟨rfl⟩,by decide,rfl,rfl,rfl,rfl,rfl,trivial⟩)))⟩
      ·rintro _ ⟨rfl⟩
       exact wrapI (by omega) (by omega) ⟨⟨trivial,rfl⟩,.inr ⟨(r+1,D4),⟨by dsimp only;omega,by dsimp only;omega,by show D4=diaM (colM (rndM F r) 4) 4;rw[←g3,hC4,hD4]⟩,by dsimp only;omega,rfl,rfl,rfl,rfl,trivial⟩⟩
    ·obtain rfl:r=10:=by omega
     rw[←g3] at hq
     refine ⟨⟨0,⟨by omega⟩,rfl,rfl,rfl,rfl,rfl,trivial⟩, ?_⟩
     rintro i ⟨hi⟩
     have hol:=outL_len F G i
     have bFi:=bF i
     have bGi:=bG i
     refine splitD (fun h => ?_) (fun h => ?_)
     ·refine ⟨_,rfl,ckI (by rw[hcl];simp;omega) (ckI (by rw[hcl];simp;omega) (getN2 (j:=i) (by omega) (by simp) (ckI (by simp;omega) (ckI (by rw[cellsN_len];simp;omega) (getN (j:=i) (by omega) (by simp) (wrapI (by omega) (by omega) (exI_of (add_eq _ _) ⟨_,⟨rfl,add_lt _ _⟩, ?_⟩)))))))⟩
      rintro u ⟨rfl⟩
      exact ckI (by rw[hol];simp[leW];omega) ⟨_,rfl,wrapI (by omega) (by omega) ⟨⟨trivial,rfl⟩,i+1,⟨by omega⟩,by omega,rfl,rfl,rfl,rfl,rfl,trivial⟩⟩
     ·obtain rfl:i=16:=by omega
      exact ⟨_,rfl,hq⟩
end Go.Proofs.YtiholnebhmjbjaaGreat
