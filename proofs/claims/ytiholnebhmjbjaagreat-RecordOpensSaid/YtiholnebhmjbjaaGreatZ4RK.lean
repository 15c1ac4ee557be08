/-
  Chapter 4: the reference's Block is the program's.
-/
import Derived.Test.YtiholnebhmjbjaaGreatZ4RJ
set_option linter.unusedSimpArgs false
set_option linter.unusedVariables false
set_option linter.unusedSectionVars false
namespace Go.Proofs.YtiholnebhmjbjaaGreat
open Go.RowKit
set_option maxRecDepth 1000000

theorem qs_0_4 (x0 x1 x2 x3 x4 x5 x6 x7 x8 x9 x10 x11 x12 x13 x14 x15:Nat):qLM [x0,x1,x2,x3,x4,x5,x6,x7,x8,x9,x10,x11,x12,x13,x14,x15] 0 4 8 12=(fun p=>[p.1,x1,x2,x3,p.2.1,x5,x6,x7,p.2.2.1,x9,x10,x11,p.2.2.2,x13,x14,x15]) (quM x0 x4 x8 x12):=by kernel_rfl
theorem qs_1_5 (x0 x1 x2 x3 x4 x5 x6 x7 x8 x9 x10 x11 x12 x13 x14 x15:Nat):qLM [x0,x1,x2,x3,x4,x5,x6,x7,x8,x9,x10,x11,x12,x13,x14,x15] 1 5 9 13=(fun p=>[x0,p.1,x2,x3,x4,p.2.1,x6,x7,x8,p.2.2.1,x10,x11,x12,p.2.2.2,x14,x15]) (quM x1 x5 x9 x13):=by kernel_rfl
theorem qs_2_6 (x0 x1 x2 x3 x4 x5 x6 x7 x8 x9 x10 x11 x12 x13 x14 x15:Nat):qLM [x0,x1,x2,x3,x4,x5,x6,x7,x8,x9,x10,x11,x12,x13,x14,x15] 2 6 10 14=(fun p=>[x0,x1,p.1,x3,x4,x5,p.2.1,x7,x8,x9,p.2.2.1,x11,x12,x13,p.2.2.2,x15]) (quM x2 x6 x10 x14):=by kernel_rfl
theorem qs_3_7 (x0 x1 x2 x3 x4 x5 x6 x7 x8 x9 x10 x11 x12 x13 x14 x15:Nat):qLM [x0,x1,x2,x3,x4,x5,x6,x7,x8,x9,x10,x11,x12,x13,x14,x15] 3 7 11 15=(fun p=>[x0,x1,x2,p.1,x4,x5,x6,p.2.1,x8,x9,x10,p.2.2.1,x12,x13,x14,p.2.2.2]) (quM x3 x7 x11 x15):=by kernel_rfl
theorem qs_0_5 (x0 x1 x2 x3 x4 x5 x6 x7 x8 x9 x10 x11 x12 x13 x14 x15:Nat):qLM [x0,x1,x2,x3,x4,x5,x6,x7,x8,x9,x10,x11,x12,x13,x14,x15] 0 5 10 15=(fun p=>[p.1,x1,x2,x3,x4,p.2.1,x6,x7,x8,x9,p.2.2.1,x11,x12,x13,x14,p.2.2.2]) (quM x0 x5 x10 x15):=by kernel_rfl
theorem qs_1_6 (x0 x1 x2 x3 x4 x5 x6 x7 x8 x9 x10 x11 x12 x13 x14 x15:Nat):qLM [x0,x1,x2,x3,x4,x5,x6,x7,x8,x9,x10,x11,x12,x13,x14,x15] 1 6 11 12=(fun p=>[x0,p.1,x2,x3,x4,x5,p.2.1,x7,x8,x9,x10,p.2.2.1,p.2.2.2,x13,x14,x15]) (quM x1 x6 x11 x12):=by kernel_rfl
theorem qs_2_7 (x0 x1 x2 x3 x4 x5 x6 x7 x8 x9 x10 x11 x12 x13 x14 x15:Nat):qLM [x0,x1,x2,x3,x4,x5,x6,x7,x8,x9,x10,x11,x12,x13,x14,x15] 2 7 8 13=(fun p=>[x0,x1,p.1,x3,x4,x5,x6,p.2.1,p.2.2.1,x9,x10,x11,x12,p.2.2.2,x14,x15]) (quM x2 x7 x8 x13):=by kernel_rfl
theorem qs_3_4 (x0 x1 x2 x3 x4 x5 x6 x7 x8 x9 x10 x11 x12 x13 x14 x15:Nat):qLM [x0,x1,x2,x3,x4,x5,x6,x7,x8,x9,x10,x11,x12,x13,x14,x15] 3 4 9 14=(fun p=>[x0,x1,x2,p.1,p.2.1,x5,x6,x7,x8,p.2.2.1,x10,x11,x12,x13,p.2.2.2,x15]) (quM x3 x4 x9 x14):=by kernel_rfl
theorem col_0 (l:List Nat):colM l 0=l:=rfl
theorem dia_0 (l:List Nat):diaM l 0=l:=rfl
def toL (w:W16):List Nat:=[w.x0,w.x1,w.x2,w.x3,w.x4,w.x5,w.x6,w.x7,w.x8,w.x9,w.x10,w.x11,w.x12,w.x13,w.x14,w.x15]
theorem round_toL (w:W16):diaM (colM (toL w) 4) 4=toL (roundM w):=by
 have c4:colM (toL w) 4=(fun p q r s=>[p.1,q.1,r.1,s.1,p.2.1,q.2.1,r.2.1,s.2.1,p.2.2.1,q.2.2.1,r.2.2.1,s.2.2.1,p.2.2.2,q.2.2.2,r.2.2.2,s.2.2.2]) (quM w.x0 w.x4 w.x8 w.x12) (quM w.x1 w.x5 w.x9 w.x13) (quM w.x2 w.x6 w.x10 w.x14) (quM w.x3 w.x7 w.x11 w.x15):=by
  rw[col_s,col_s,col_s,col_s,col_0,toL]
  show qLM (qLM (qLM (qLM _ 0 4 8 12) 1 5 9 13) 2 6 10 14) 3 7 11 15=_
  rw[qs_0_4]
  dsimp only
  rw[qs_1_5]
  dsimp only
  rw[qs_2_6]
  dsimp only
  rw[qs_3_7]
 rw[c4]
 unfold roundM
 generalize quM w.x0 w.x4 w.x8 w.x12=p
 generalize quM w.x1 w.x5 w.x9 w.x13=q
 generalize quM w.x2 w.x6 w.x10 w.x14=r
 generalize quM w.x3 w.x7 w.x11 w.x15=s
 dsimp only
 rw[dia_s,dia_s,dia_s,dia_s,dia_0]
 show qLM (qLM (qLM (qLM _ 0 5 10 15) 1 6 11 12) 2 7 8 13) 3 4 9 14=_
 rw[qs_0_5]
 dsimp only
 rw[qs_1_6]
 dsimp only
 rw[qs_2_7]
 dsimp only
 rw[qs_3_4]
 rfl
theorem rnds_toL (w:W16):∀n,rndM (toL w) n=toL (roundsM n w)
 | 0=>rfl
 | n+1=>by rw[rndM,rnds_toL w n,round_toL,roundsM]
theorem out_toL (f w:W16):outLM (toL f) (toL w) 16=(outM f w).map UInt8.ofNat:=by
 unfold outM
 simp only[List.map_append]
 rfl
theorem words_toL (key nonce:List UInt8) (c:Nat) (hk:key.length=32) (hn:nonce.length=12) (hc:c<4294967296) :
  wordsM (((expandM++key)++(leW c).map UInt8.ofNat)++nonce) 16=toL { firstM key nonce with x12:=(((c:Nat):Int)%4294967296).toNat }:=by
 obtain ⟨P,hP⟩:∃P,P=expandM++key:=⟨_,rfl⟩
 obtain ⟨W,hW⟩:∃W,W=(leW c).map UInt8.ofNat:=⟨_,rfl⟩
 obtain ⟨B,hB⟩:∃B,B=allKM key nonce:=⟨_,rfl⟩
 have hB2:B=P++([0,0,0,0]++nonce):=by rw[hB,allKM,hP,List.append_assoc]
 rw[←hP,←hW]
 obtain ⟨A,hA⟩:∃A,A=(P++W)++nonce:=⟨_,rfl⟩
 have hA2:A=P++(W++nonce):=by rw[hA,List.append_assoc]
 have le:P.length=48:=by rw[hP];simp[expandM,hk]
 have lw:W.length=4:=by rw[hW];simp[leW]
 have lo:∀i,i<48→bytM A i=bytM B i:=fun i hi=>by
  unfold bytM
  rw[hA2,hB2,List.getD_eq_getElem?_getD,List.getD_eq_getElem?_getD,List.getElem?_append_left (by omega),List.getElem?_append_left (by omega)]
 have hi:∀i,52≤i→bytM A i=bytM B i:=fun i hi=>by
  unfold bytM
  rw[hA2,hB2,List.getD_eq_getElem?_getD,List.getD_eq_getElem?_getD,List.getElem?_append_right (by omega),List.getElem?_append_right (by omega),le,List.getElem?_append_right (by omega),List.getElem?_append_right (by simp;omega),lw]
  rw[le]
  rfl
 have mid:∀i,i<4→bytM A (48+i)=(leW c).getD i 0:=fun i hi=>by
  unfold bytM
  rw[hA2,List.getD_eq_getElem?_getD,List.getElem?_append_right (by omega),le,show 48+i-48=i by omega,List.getElem?_append_left (by omega),hW,List.getElem?_map]
  have:i=0∨i=1∨i=2∨i=3:=by omega
  rcases this with rfl | rfl | rfl | rfl<;>simp[leW]<;>omega
 have w0:∀a,a+3<48→numM A a=numM B a:=fun a ha=>by
  rw[num_words,num_words,lo a (by omega),lo (a+1) (by omega),lo (a+2) (by omega),lo (a+3) (by omega)]
 have w1:∀a,52≤a→numM A a=numM B a:=fun a ha=>by
  rw[num_words,num_words,hi a (by omega),hi (a+1) (by omega),hi (a+2) (by omega),hi (a+3) (by omega)]
 have wc:numM A 48=c:=by
  have m0:=mid 0 (by omega)
  have m1:=mid 1 (by omega)
  have m2:=mid 2 (by omega)
  have m3:=mid 3 (by omega)
  simp only[leW,List.getD_cons_zero,List.getD_cons_succ] at m0 m1 m2 m3
  rw[num_words]
  show bytM A (48+0)+256*bytM A (48+1)+65536*bytM A (48+2)+16777216*bytM A (48+3)=c
  omega
 have hcc:(((c:Nat):Int)%4294967296).toNat=c:=by omega
 rw[←hA,hcc]
 show [numM A 0,numM A 4,numM A 8,numM A 12,numM A 16,numM A 20,numM A 24,numM A 28,numM A 32,numM A 36,numM A 40,numM A 44,numM A 48,numM A 52,numM A 56,numM A 60]=_
 rw[w0 0 (by omega),w0 4 (by omega),w0 8 (by omega),w0 12 (by omega),w0 16 (by omega),w0 20 (by omega),w0 24 (by omega),w0 28 (by omega),w0 32 (by omega),w0 36 (by omega),w0 40 (by omega),w0 44 (by omega),wc,w1 52 (by omega),w1 56 (by omega),w1 60 (by omega),hB]
 rfl
def cBlkR:Con
 | [.str key,.str nonce,.int .i64 c],H,K=>∃n:Nat,Lf (c=(n:Int)∧n<4294967296∧key.length=32∧nonce.length=12)∧∀t,Lf (t=(blkM (firstM key nonce) c).map UInt8.ofNat)→K (.ret (.str t)) H
 | _,_,_=>False
theorem rblk_ok:ValidF Tryz.prog gl0 61 cBlkR:=by
 refine valid_flat (enters_of (by kernel_rfl)) gl0_noY fun args H Q hc => ?_
 unfold cBlkR at hc
 split at hc
 ·rename_i key nonce c
  obtain ⟨n,⟨rfl,h1,h2,h3⟩,hq⟩:=hc
  obtain ⟨hv,hb',h⟩:=rblock_run key nonce n h2 h3 h1 (Q:=fun o H' _=>H'=[]∧(∃v,o=.ret v∧old 0 v=true∧noY v=true)∧Q o H) (fun A hA=>⟨rfl,⟨_,rfl,rfl,rfl⟩,hq _ ⟨by rw[hA,words_toL key nonce n h2 h3 h1,rnds_toL,out_toL,blkM]⟩⟩)
  exact ⟨rfl,rfl,_,1000,⟨mixed04,names04,tabA_ok,smB3_ok⟩,rfl,h⟩
 ·exact hc.elim
end Go.Proofs.YtiholnebhmjbjaaGreat
