/-
  Chapter 18: the constants of the digest: a closed run.
-/
import Derived.Test.YtjenieljapmehaaGreatDoorG21A
import Derived.Test.YtjenieljapmehaaGreatDoorEnJ
set_option linter.unusedSimpArgs false
set_option linter.unusedVariables false
set_option linter.unusedSectionVars false
namespace Go.Proofs.YtjenieljapmehaaGreatDoor
open Go.RowKit
set_option maxRecDepth 1000000

def startM:List Nat:=[1779033703,3144134277,1013904242,2773480762,1359893119,2600822924,528734635,1541459225]
def kkM:List Nat:=[1116352408,1899447441,3049323471,3921009573,961987163,1508970993,2453635748,2870763221,3624381080,310598401,607225278,1426881987,1925078388,2162078206,2614888103,3248222580,3835390401,4022224774,264347078,604807628,770255983,1249150122,1555081692,1996064986,2554220882,2821834349,2952996808,3210313671,3336571891,3584528711,113926993,338241895,666307205,773529912,1294757372,1396182291,1695183700,1986661051,2177026350,2456956037,2730485921,2820302411,3259730800,3345764771,3516065817,3600352804,4094571909,275423344,430227734,506948616,659060556,883997877,958139571,1322822218,1537002063,1747873779,1955562222,2024104815,2227730452,2361852424,2428436474,2756734187,3204031479,3329325298]
def cells32M (l:List Nat):List AV:=l.map fun (n:Nat)=>AV.int .u32 (n:Int)
def cMulQ:ConQ
 | [.int .u64 a,.int .u64 b],H=>bif (decide (0≤a)&&Nat.blt a.toNat 18446744073709551616)&&(decide (0≤b)&&Nat.blt b.toNat 18446744073709551616) then some (.ret (.tup [.int .u64 (mulHM a b),.int .u64 (mulLM a b)]),H) else none
 | _,_=>none
theorem mulQ_ok:ValidF Tryz.prog gl0 79 (toP cMulQ):=valid_to mul_ok fun args H o H' K ho hk=>by
 unfold cMulQ at ho
 split at ho
 ·rename_i a b
  show (bif (decide (0≤a)&&Nat.blt a.toNat 18446744073709551616)&&(decide (0≤b)&&Nat.blt b.toNat 18446744073709551616) then K (.ret (.tup [.int .u64 (mulHM a b),.int .u64 (mulLM a b)])) H else False)
  cases hb:(decide (0≤a)&&Nat.blt a.toNat 18446744073709551616)&&(decide (0≤b)&&Nat.blt b.toNat 18446744073709551616)<;>rw[hb] at ho
  ·cases ho
  ·cases ho;exact hk
 ·cases ho
noncomputable def qC:QE := { fn:=fun f=>fnOf Tryz.prog f,sm:=lookQ [(79,cMulQ)],gl:=gl0 }
theorem envForQC:EnvFor Tryz.prog (qenv qC):=⟨mixed18,names18,tabA_ok,lookQ_ok _ (by simp only[List.mem_cons,List.not_mem_nil,or_false,forall_eq_or_imp,forall_eq];exact mulQ_ok)⟩
def constV:AV:=.tup [.agg (cells32M startM),.agg (cells32M kkM)]
def endC (o:Out) (H:List Blk) (_:Gh):Bool:=match H,o with
 | [],.ret v=>eqAV v constV
 | _,_=>false
theorem const_run:callxQ qC (wpQ qC 1000000) 91 [] [] {} endC=true:=by kernel_rfl

end Go.Proofs.YtjenieljapmehaaGreatDoor
