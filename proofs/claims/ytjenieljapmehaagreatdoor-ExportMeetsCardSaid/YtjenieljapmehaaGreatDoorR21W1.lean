/-
  Chapter 17: what was sealed is opened once (plain).
-/
import Derived.Test.YtjenieljapmehaaGreatDoorR21N
set_option linter.unusedSimpArgs false
set_option linter.unusedVariables false
set_option linter.unusedSectionVars false
namespace Go.Proofs.YtjenieljapmehaaGreatDoor.Rc
open Go.RowKit
set_option maxRecDepth 1000000

theorem zipX_inv:∀ (s:List UInt8) (l:List Nat),s.length≤l.length→zipXM (zipXM s l) l=s
 | [],_,_=>by simp[zipXM]
 | _::_,[],h=>by simp at h
 | a::s,b::l,h=>by
  have ih:=zipX_inv s l (by simpa using h)
  simp only[zipXM,List.zipWith_cons_cons] at ih ⊢
  rw[ih,x8M,x8M,UInt8.xor_assoc,UInt8.xor_self,UInt8.xor_zero]
theorem zipX_lenE (s:List UInt8) (l:List Nat) (h:s.length≤l.length):(zipXM s l).length=s.length:=by
 rw[zipXM,List.length_zipWith];omega
theorem app_inv (w:W16):∀ (f:Nat) (c:Int) (s:List UInt8),s.length≤64*f→appM w c f (appM w c f s)=s
 | 0,c,s,h=>by
  have:s=[]:=List.length_eq_zero_iff.1 (by omega)
  rw[this];rfl
 | f+1,c,s,h=>by
  have hb:=len_blk w c
  by_cases hs:s.length≤64
  ·have e1:appM w c (f+1) s=zipXM s (blkM w c):=by rw[appM,if_pos hs]
   have l1:=zipX_lenE s (blkM w c) (by omega)
   rw[e1,appM,if_pos (by omega),zipX_inv _ _ (by omega)]
  ·have lt:(s.take 64).length=64:=by rw[List.length_take];omega
   have l1:=zipX_lenE (s.take 64) (blkM w c) (by omega)
   have l2:(appM w (c+1) f (s.drop 64)).length=s.length-64:=by rw[app_len w f (c+1) _ (by rw[List.length_drop];omega),List.length_drop]
   have e1:appM w c (f+1) s=zipXM (s.take 64) (blkM w c)++appM w (c+1) f (s.drop 64):=by rw[appM,if_neg hs]
   have e2:(zipXM (s.take 64) (blkM w c)++appM w (c+1) f (s.drop 64)).take 64=zipXM (s.take 64) (blkM w c):=List.take_left' (by omega)
   have e3:(zipXM (s.take 64) (blkM w c)++appM w (c+1) f (s.drop 64)).drop 64=appM w (c+1) f (s.drop 64):=List.drop_left' (by omega)
   rw[e1,appM,if_neg (by rw[List.length_append];omega),e2,e3,zipX_inv _ _ (by omega),app_inv w f _ _ (by rw[List.length_drop];omega),List.take_append_drop]
theorem open_seal {key no hd plain:List UInt8} (h1:key.length=32) (h2:no.length=12) (h3:hd.length≤4096) (h4:plain.length≤4096):openM key no hd (sealM key no hd plain).1=(plain,0):=by
 have hl:=sealed17_len h1 h2 h3 h4
 have hs:=sealed17 h1 h2 h3 h4
 have ha:=app_len (firstM key no) 70 1 plain (by omega)
 have hc:=check_len key no hd (appM (firstM key no) 1 70 plain)
 rw[openM,if_neg (by rw[right17 h1 h2];simp),if_neg (by omega),if_neg (by omega),hl,Nat.add_sub_cancel,hs]
 dsimp only
 rw[List.drop_left' ha,List.take_left' ha,if_pos rfl,app_inv _ _ _ _ (by omega)]
def boxR (e nx:Int) (key salt:List UInt8) (kind:Int) (body:List UInt8):Rc:=(kind,e,nx,(sealM key (nonceM salt e nx) (headM (kind,e,nx,[]) ((body.length:Int)+16)) body).1)
theorem boxR_len {e nx:Int} {key salt:List UInt8} {kind:Int} {body:List UInt8} (h1:key.length=32) (h2:salt.length=12) (h4:body.length≤984):(boxR e nx key salt kind body).2.2.2.length=body.length+16:=
 sealed17_len h1 (by rw[nonce_len];exact h2) (by rw[head_len];omega) (by omega)
theorem box_rec {e nx:Int} {key salt:List UInt8} {kind:Int} {body:List UInt8} (h1:key.length=32) (h2:salt.length=12) (h4:body.length≤984):boxM e nx key salt kind body=recM (boxR e nx key salt kind body):=by
 rw[recM,boxR_len h1 h2 h4,show ((body.length+16:Nat):Int)=(body.length:Int)+16 by omega]
 rfl
theorem boxR_right {e nx:Int} {key salt:List UInt8} {kind:Int} {body:List UInt8} (h1:key.length=32) (h2:salt.length=12) (h4:body.length≤984) (h5:0≤kind∧kind≤255) (h6:0≤e∧e≤65535) (h7:0≤nx∧nx≤281474976710655):rightRM (boxR e nx key salt kind body)=true:=by
 have hl:=boxR_len (e:=e) (nx:=nx) (kind:=kind) h1 h2 h4
 have hl2:(boxR e nx key salt kind body).2.2.2.length≤1000:=by omega
 exact (rightM_iff _ _ _ _).2 ⟨h5,h6,h7,hl2⟩
theorem box_dec {e nx:Int} {key salt:List UInt8} {kind:Int} {body:List UInt8} (h1:key.length=32) (h2:salt.length=12) (h4:body.length≤984) (h5:0≤kind∧kind≤255) (h6:0≤e∧e≤65535) (h7:0≤nx∧nx≤281474976710655):decM (boxM e nx key salt kind body)=([boxR e nx key salt kind body],0):=by
 have hc:catM [boxR e nx key salt kind body]=boxM e nx key salt kind body:=by
  rw[cat_cons,box_rec h1 h2 h4]
  exact List.append_nil _
 have hr:=boxR_right h1 h2 h4 h5 h6 h7
 have:=dec_cat (l:=[boxR e nx key salt kind body]) (by simp) (by rw[List.all_cons,hr];rfl) (by rw[hc,box_len h1 h2 h4];omega)
 rwa [hc] at this
theorem openR_box {e nx:Int} {key salt:List UInt8} {kind:Int} {body:List UInt8} (h1:key.length=32) (h2:salt.length=12) (h4:body.length≤984):openRM key salt (boxR e nx key salt kind body)=(body,0):=by
 rw[openRM,boxR_len h1 h2 h4,show ((body.length+16:Nat):Int)=(body.length:Int)+16 by omega]
 exact open_seal h1 (by rw[nonce_len];exact h2) (by rw[head_len];omega) (by omega)
theorem opens_box {e nx:Int} {key salt:List UInt8} {kind:Int} {body:List UInt8} (h1:key.length=32) (h2:salt.length=12) (h4:body.length≤984) (w:Wn) :
  opensM e key salt w [boxR e nx key salt kind body]=if isFreshM w.1 w.2 nx=true then (markWM w.1 w.2 nx,[(kind,e,nx,body)]) else (w,[]):=by
 have ho:=openR_box (e:=e) (nx:=nx) (kind:=kind) h1 h2 h4
 show stepRM e key salt (w,[]) (boxR e nx key salt kind body)=_
 cases hf:isFreshM w.1 w.2 nx with
 | true=>
  rw[if_pos rfl,step_yes (e:=e) (key:=key) (salt:=salt) (x:=(w,[])) (r:=boxR e nx key salt kind body) rfl hf (by rw[ho]),ho]
  rfl
 | false=>rw[if_neg (by simp),step_no (e:=e) (key:=key) (salt:=salt) (x:=(w,[])) (r:=boxR e nx key salt kind body) (.inr (.inl hf))]
end Go.Proofs.YtjenieljapmehaaGreatDoor.Rc
