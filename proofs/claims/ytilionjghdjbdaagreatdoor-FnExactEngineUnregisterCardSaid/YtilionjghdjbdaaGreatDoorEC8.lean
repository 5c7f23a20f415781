/- FnExactEngineUnregister: for every input the law returns true and changes nothing that was there. Part 9 of 9. -/
import Derived.Test.YtilionjghdjbdaaGreatDoorEC7
import Derived.Test.YtilionjghdjbdaaGreatDoorEKEngineUnregister
set_option linter.unusedVariables false
set_option linter.unusedSimpArgs false
set_option linter.unnecessarySimpa false
set_option linter.unusedSectionVars false
set_option maxRecDepth 1000000
namespace Go.Proofs.YtilionjghdjbdaaGreatDoor
set_option synthInstance.maxSize 20000
set_option synthInstance.maxHeartbeats 2000000
namespace D
open Go.RowKit
theorem PC (r:G8) (hr:Data.sm r):lA r=some r:=by
 obtain ⟨h1,h2⟩:=aH hr.1
 obtain ⟨h3,h4⟩:=aH hr.2
 unfold lA
 have a:=bq (f:=jo r) (fun i=>((i:Int),r.1.take i,([] :List QT))) r.1.length (fun i hi=>by
  unfold jo
  simp only[bM hi,if_true,aD hi,aa,dN,We _ (h2 _ (List.getElem_mem hi)),af (show i<9223372036854775807 by omega)]
  rw[aL (by simp;omega)]
  simp only[aa]
  rw[List.take_succ_eq_append_getElem hi]) (by
  unfold jo
  simp only[bu,Bool.false_eq_true,if_false]) (dD _ (by omega))
 have e:ax (jo r) aW (0,[],[])=_:=a
 rw[e]
 simp only[aP,List.take_length]
 have a:=bq (f:=jq r) (fun i=>((i:Int),r.1,r.2.take i)) r.2.length (fun i hi=>by
  unfold jq
  have c:gJ r.2[i].2.1=some r.2[i].2.1:=by unfold gJ;rw[aL (by have:=(h4 _ (List.getElem_mem hi)).2.1.1;simp;omega)];rfl
  simp only[bM hi,if_true,aD hi,aa,dN,c,af (show i<9223372036854775807 by omega)]
  rw[aL (by simp;omega)]
  simp only[aa]
  rw[List.take_succ_eq_append_getElem hi]) (by
  unfold jq
  simp only[bu,Bool.false_eq_true,if_false]) (dD _ (by omega))
 have e:ax (jq r) aW (0,r.1,[])=_:=a
 rw[e]
 simp only[List.take_length]
theorem PD (r:G8) (hr:Data.sm r):eR r=some r:=by
 obtain ⟨h1,h2⟩:=aH hr.1
 obtain ⟨h3,h4⟩:=aH hr.2
 unfold eR
 have a:=bq (f:=eu r) (fun i=>((i:Int),r.1.take i,([] :List QT))) r.1.length (fun i hi=>by
  unfold eu
  simp only[bM hi,if_true,aD hi,aa,dN,Wf _ (h2 _ (List.getElem_mem hi)),af (show i<9223372036854775807 by omega)]
  rw[aL (by simp;omega)]
  simp only[aa]
  rw[List.take_succ_eq_append_getElem hi]) (by
  unfold eu
  simp only[bu,Bool.false_eq_true,if_false]) (dD _ (by omega))
 have e:ax (eu r) aW (0,[],[])=_:=a
 rw[e]
 simp only[aP,List.take_length]
 have a:=bq (f:=ez r) (fun i=>((i:Int),r.1,r.2.take i)) r.2.length (fun i hi=>by
  unfold ez
  have c:fV r.2[i].2.1=some r.2[i].2.1:=by unfold fV;rw[aL (by have:=(h4 _ (List.getElem_mem hi)).2.1.1;simp;omega)];rfl
  simp only[bM hi,if_true,aD hi,aa,dN,c,af (show i<9223372036854775807 by omega)]
  rw[aL (by simp;omega)]
  simp only[aa]
  rw[List.take_succ_eq_append_getElem hi]) (by
  unfold ez
  simp only[bu,Bool.false_eq_true,if_false]) (dD _ (by omega))
 have e:ax (ez r) aW (0,r.1,[])=_:=a
 rw[e]
 simp only[List.take_length]
theorem PE {r:G8} (hr:Data.sm r) (h:cD r=some true):r.2.length<=4:=by
 obtain ⟨x,b,e1,e2,hx⟩:=EM hr.2
 unfold cD at h
 rw[e2] at h
 by_cases c:(r.2.length:Int)<=4
 ·omega
 ·simp[c] at h
end D
set_option synthInstance.maxSize 20000
set_option synthInstance.maxHeartbeats 2000000
namespace D
open Go.RowKit
theorem Wg (h:Sw) (hh:Data.sm h):tj h=some h:=by
 obtain ⟨hl,hs⟩:=aH hh.2
 have e:=bq (f:=kM h) (fun i=>((i:Int),h.1,h.2.take i)) h.2.length (fun i hi=>by
  have e:py (h.2[i].1,h.2[i].2)=some h.2[i]:=Wc h.2[i] (hs _ (List.getElem_mem hi))
  have hx: ∀z:GrT,cr 48 (h.2.take i) [z] =some (h.2.take i++ [z]):=fun z=>aL (by rw[ay];simp only[ak,aG];omega)
  unfold kM
  simp only[]
  rw[bM hi,if_pos rfl,aD hi]
  simp only[aa]
  rw[e]
  simp only[aa]
  rw[hx,af (by omega),List.take_succ_eq_append_getElem hi];rfl) (by
  unfold kM
  simp only[]
  rw[bu];rfl) (dD _ (by omega))
 rw[List.take_length] at e
 have e:ax (kM h) aW (0,h.1,[])=_:=e
 unfold tj
 rw[aw e]
theorem Wh (h:Sw) (hh:Data.sm h):kO h=some h:=by
 obtain ⟨hl,hs⟩:=aH hh.2
 have e:=bq (f:=e7 h) (fun i=>((i:Int),h.1,h.2.take i)) h.2.length (fun i hi=>by
  have e:kN (h.2[i].1,h.2[i].2)=some h.2[i]:=Wd h.2[i] (hs _ (List.getElem_mem hi))
  have hx: ∀z:GrT,cr 48 (h.2.take i) [z] =some (h.2.take i++ [z]):=fun z=>aL (by rw[ay];simp only[ak,aG];omega)
  unfold e7
  simp only[]
  rw[bM hi,if_pos rfl,aD hi]
  simp only[aa]
  rw[e]
  simp only[aa]
  rw[hx,af (by omega),List.take_succ_eq_append_getElem hi];rfl) (by
  unfold e7
  simp only[]
  rw[bu];rfl) (dD _ (by omega))
 rw[List.take_length] at e
 have e:ax (e7 h) aW (0,h.1,[])=_:=e
 unfold kO
 rw[aw e]
theorem Wi (e:EngT) (he:Data.sm e):qv e=some e:=by
 obtain ⟨s1,s2,s3,s4⟩:=he
 have h3:=(aH s3).1
 unfold qv
 simp only[dN,Wg e.1 s1,PC e.2.1 s2,aa]
 rw[aL (by simp;omega)];rfl
theorem Wj (e:EngT) (he:Data.sm e):l6 e=some e:=by
 obtain ⟨s1,s2,s3,s4⟩:=he
 have h3:=(aH s3).1
 unfold l6
 simp only[dN,Wh e.1 s1,PD e.2.1 s2,aa]
 rw[aL (by simp;omega)];rfl
end D
namespace D
open Go.RowKit
theorem Wk {c:Prop} [Decidable c] (h:c):chk c=some ():=if_pos h
theorem LO {α:Type} {xs:List α} {i n:Nat} {z:α} (h:i<=xs.length):(rl xs i n z).take i=xs.take i:=by
 unfold rl
 rw[List.take_append_of_le_length (by rw[ay];omega),List.take_take,Nat.min_self]
theorem PF {α:Type} {xs:List α} {i:Nat} {z:α} (h:i<=xs.length):(rl xs i xs.length z).length=xs.length:=rK h (aB _)
theorem Sz {α:Type} {ys:List α} {i:Nat} {x:α} (h:i<ys.length):(ys.set i x).take (i+1)=ys.take i++ [x]:=by
 rw[List.take_succ_eq_append_getElem (by simpa using h)]
 simp[List.take_set_of_le]
theorem set_drop {α:Type} {ys:List α} {i j:Nat} {x:α} (h:i<j):(ys.set i x).drop j=ys.drop j:=by
 apply List.ext_getElem?
 intro q
 rw[List.getElem?_drop,List.getElem?_drop,List.getElem?_set_ne (by omega)]
theorem GZ {α:Type} {ys xs:List α} {j:Nat} (h:ys.drop j=xs.drop j):ys.drop (j+1)=xs.drop (j+1):=by
 rw[<-List.drop_drop,h,List.drop_drop]
theorem SA {α:Type} {ys xs:List α} {j q:Nat} (h:ys.drop j=xs.drop j) (hq:j<=q) (h1:q<ys.length) (h2:q<xs.length):ys[q] =xs[q]:=by
 have e:=congrArg (fun l=>l[q - j]?) h
 simp only[List.getElem?_drop,show j+(q - j)=q from by omega] at e
 rw[List.getElem?_eq_getElem h1,List.getElem?_eq_getElem h2] at e
 exact ae e
section
variable {α:Type} [DecidableEq α]
end
end D
namespace D
open Go.RowKit
theorem SB {l:List IV} {d:IV->Bool} {f:IV->Option Bool} (hf: ∀x,f x=some (d x)) (hl:l.length<=1073741824) :
  (∃(i:Nat) (hi:i<l.length),d l[i] =true/\(∀j (hj:j<i),d (l[j]'(by omega))=false)/\aZ l f=some (i:Int))\/((∀x,x∈l->d x=false)/\aZ l f=some (-1)):=by
 unfold aZ
 rcases VP (f:=bp l f) l d (fun i=>(i:Int)) (by omega) (fun i hi=>by
   unfold bp
   rw[bM hi,if_pos rfl,aD hi]
   simp only[aa,dN,hf,af (show i<9223372036854775807 by omega)]
   split <;> rfl) (by
   unfold bp
   rw[bu];rfl) with ⟨i,hi,h1,h2,e⟩ | ⟨h1,e⟩
 ·exact .inl ⟨i,hi,h1,h2,cx e⟩
 ·exact .inr ⟨h1,aw e⟩
theorem Wl {d:IV->Bool} {f:IV->Option Bool} (hf: ∀x,f x=some (d x)) (xs:List IV) (hl:xs.length<=1073741824):aX xs f=some (xs.filter fun x=> !d x):=by
 unfold aX
 rcases SB (l:=xs) (d:=d) (f:=f) hf hl with ⟨r,hr,h1,h2,e⟩ | ⟨h1,e⟩
 ·rw[e]
  simp only[aa]
  have hne:(((r:Nat):Int) == -1)=false:=beq_eq_false_iff_ne.2 (by omega)
  rw[hne]
  simp only[Bool.false_eq_true,if_false]
  rw[af (by omega)]
  have hk0:(xs.take (r+1)).filter (fun x=> !d x)=xs.take r:=by
   rw[List.take_succ_eq_append_getElem hr,List.filter_append]
   rw[show [xs[r]].filter (fun x=> !d x)= [] from by simp[h1],List.append_nil,List.filter_eq_self]
   intro a ha
   obtain ⟨j,hj,rfl⟩:=List.getElem_of_mem ha
   rw[ay] at hj
   rw[List.getElem_take,h2 j (by omega)];rfl
  obtain ⟨s,e1,ys,rfl,k1,k2,k3,k4⟩:=mB (f:=be f) (fun t s=> ∃ys:List IV,s=((((xs.take (r+1+t)).filter (fun x=> !d x)).length:Int),((r+1+t:Nat):Int),ys)/\ys.length=xs.length/\ys.take ((xs.take (r+1+t)).filter (fun x=> !d x)).length=(xs.take (r+1+t)).filter (fun x=> !d x)/\ys.drop (r+1+t)=xs.drop (r+1+t)/\((xs.take (r+1+t)).filter (fun x=> !d x)).length<=r+t) (xs.length - (r+1)) (fun t s ht hI=>by
   obtain ⟨ys,rfl,k1,k2,k3,k4⟩:=hI
   have hj:r+1+t<xs.length:=by omega
   unfold be
   rw[show ((ys.length:Nat):Int)=(xs.length:Int) from by rw[k1],bM hj,if_pos rfl,aD (xs:=ys) (by omega),SA k3 (aB _) (by omega) hj]
   simp only[aa,dN,hf]
   have hnx:(xs.take (r+1+(t+1))).filter (fun x=> !d x)=(xs.take (r+1+t)).filter (fun x=> !d x)++ [xs[r+1+t]].filter (fun x=> !d x):=by
    rw[<-List.filter_append,<-List.take_succ_eq_append_getElem hj];rfl
   generalize (xs.take (r+1+t)).filter (fun x=> !d x)=K at *
   rw[hnx]
   cases hd:d xs[r+1+t] with
   | true =>
    rw[if_pos rfl]
    simp only[aa]
    rw[af (by omega),show [xs[r+1+t]].filter (fun x=> !d x)= [] from by simp[hd],List.append_nil]
    exact ⟨_,rfl,ys,rfl,k1,k2,GZ k3,by omega⟩
   | false =>
    rw[if_neg (by simp),aD (xs:=ys) (by omega)]
    simp only[aa]
    rw[af (by omega),af (by omega),show [xs[r+1+t]].filter (fun x=> !d x)= [xs[r+1+t]] from by simp[hd]]
    refine ⟨_,rfl,ys.set K.length xs[r+1+t],?_,by simpa using k1,?_,?_,?_⟩
    ·rw[al,List.length_singleton];rfl
    ·rw[al,List.length_singleton,Sz (by omega),k2]
    ·rw[set_drop (by omega)];exact GZ k3
    ·rw[al,List.length_singleton];omega) (fun s hI=>by
   obtain ⟨ys,rfl,k1,k2,k3,k4⟩:=hI
   unfold be
   rw[if_neg (by simp;omega)]) (s:=(((r:Nat):Int),((r+1:Nat):Int),xs)) ⟨xs,by rw[Nat.add_zero,hk0,ay,Nat.min_eq_left (by omega)],rfl,by rw[Nat.add_zero,hk0,ay,Nat.min_eq_left (by omega)],rfl,by rw[Nat.add_zero,hk0,ay];omega⟩ (dD _ (by omega))
  rw[aw e1]
  have hall:xs.take (r+1+(xs.length - (r+1)))=xs:=List.take_of_length_le (by omega)
  rw[hall] at k2 k4⊢
  generalize (xs.filter fun x=> !d x)=K at *
  have q0:K.length<=ys.length:=by omega
  have z1:((0:Int)+((K.length:Nat):Int)).toNat=K.length:=by omega
  have z2:((0:Int)+(((ys.length:Nat):Int) - 0)).toNat=ys.length:=by omega
  simp only[z1,z2]
  have zl:=PF (z:=((0,0,0):IV)) q0
  rw[Wk (by omega),aa,Wk (by omega),aa,Wk (by rw[zl];omega),aa,LO q0,k2,List.drop_zero]
 ·rw[e]
  simp only[aa]
  rw[if_pos (by rfl)]
  congr 1
  exact (List.filter_eq_self.2 fun a ha=>by rw[h1 a ha];rfl).symm
end D
set_option synthInstance.maxSize 20000
set_option synthInstance.maxHeartbeats 2000000
namespace D
open Go.RowKit
end D
set_option synthInstance.maxSize 20000
set_option synthInstance.maxHeartbeats 2000000
namespace D
open Go.RowKit
theorem X2 {α:Type} [Data α] {xs:List α} (h:Data.sm xs) (i j:Nat) (hj:i<=j):Data.sm (xs.take i++xs.drop j):=by
 obtain ⟨h1,h2⟩:=aH h
 refine ⟨?_,fun x hx=>?_⟩
 ·simp only[al,ay,aS];omega
 ·rcases aJ hx with hx | hx
  ·exact h2 _ (List.mem_of_mem_take hx)
  ·exact h2 _ (List.mem_of_mem_drop hx)
theorem LP {r:G8} (hr:Data.sm r) (id:Int): ∃x:G8×Bool,gx r id=some x/\gy r id=some x/\Data.sm x.1:=by
 obtain ⟨hn,hq⟩:=aH hr.2
 obtain ⟨k,f1,f2,hk⟩:=GY r id hn
 obtain ⟨b,v1,v2,hv⟩:=C2 hr
 unfold gx gy
 simp only[f1,f2,v1,v2,aa,dN,PC r hr,PD r hr]
 rcases hk with rfl | ⟨i,hi,rfl⟩
 ·refine ⟨(r,false),?_,rfl,hr⟩
  cases b <;> rfl
 ·have hk:decide ((i:Int)<0)=false:=by simp
  cases b with
  | false=>exact ⟨(r,false),by simp,by simp[hk],hr⟩
  | true =>
   have h4:=PE hr v2
   have hw:IntKind.i64.wrap ((i:Int)+1)=((i+1:Nat):Int):=af (by omega)
   have hs:=X2 hr.2 i (i+1) (by omega)
   have hl:(r.2.take i++r.2.drop (i+1)).length<=3:=by simp only[al,ay,aS];omega
   obtain ⟨x,c,e1,e2,hx⟩:=EM hs
   have l1: ¬((r.2.take i++r.2.drop (i+1)).length:Int)>4:=by omega
   have l2:((r.2.take i++r.2.drop (i+1)).length:Int)<=4:=by omega
   rw[if_neg l1] at e1
   rw[decide_eq_true l2,Bool.and_true] at e2
   have c1:(0:Int)<=(i:Int)/\(i:Int)<=(r.2.length:Int):=by omega
   have c2:(0:Int)<=((i+1:Nat):Int)/\((i+1:Nat):Int)<=(r.2.length:Int):=by omega
   have c3:(0:Int)<=(i:Int)/\(i:Int)<=((i+1:Nat):Int)/\((i+1:Nat):Int)<=(r.2.length:Int):=by omega
   have q1:(chk (0<=(i:Int)/\(i:Int)<=(r.2.length:Int)))=some ():=if_pos c1
   have q2:(chk (0<=((i+1:Nat):Int)/\((i+1:Nat):Int)<=(r.2.length:Int)))=some ():=if_pos c2
   have q3:(chk (0<=(i:Int)/\(i:Int)<=((i+1:Nat):Int)/\((i+1:Nat):Int)<=(r.2.length:Int)))=some ():=if_pos c3
   have a1:cr 40 ([] :List QT) (r.2.take i)=some (r.2.take i):=by rw[aL (by simp only[aG,ay];omega)];rfl
   have a2:cr 40 (r.2.take i) (r.2.drop (i+1))=some (r.2.take i++r.2.drop (i+1)):=aL (by simp only[ay,aS];omega)
   have a3:bJ r.2=some r.2:=by unfold bJ;rw[aL (by simp only[aG];omega)];rfl
   have a4:bH r.2 (i:Int) ((i+1:Nat):Int)=some (r.2.take i++r.2.drop (i+1)):=by
    unfold bH R.Yk
    rw[q3];rfl
   simp only[if_true,hk,Bool.false_eq_true,if_false,hw,q1,q2,aa,Int.toNat_natCast,a1,a2,a3,a4,e1,e2]
   exact ⟨_,rfl,rfl,hx.1⟩
end D
set_option synthInstance.maxSize 20000
set_option synthInstance.maxHeartbeats 2000000
namespace D
open Go.RowKit
def TX (id:Int) (u:IV):Bool:= !(u.2.1==id)
theorem PG {l:List IV} {p:IV->Bool} {i:Nat} (h:i<l.length):(l.take (i+1)).filter p=(l.take i).filter p++if p l[i] =true then [l[i]] else []:=by
 rw[List.take_succ_eq_append_getElem h,List.filter_append]
 congr 1
 by_cases c:p l[i] =true
 ·rw[if_pos c];simp[c]
 ·rw[if_neg c];simp[c]
theorem SC (e:EngT) (id:Int) (hl:e.2.2.1.length<=1048576) (f:Int) (g:List GrT) (a:List AutT) (q:List QT) (lg:ByteArray):ax (cY e id) aW (0,f,g,a,q,[],lg)=some (.brk ((e.2.2.1.length:Int),f,g,a,q,e.2.2.1.filter (TX id),lg)):=by
 have k:=bq (f:=cY e id) (fun i=>((i:Int),f,g,a,q,(e.2.2.1.take i).filter (TX id),lg)) e.2.2.1.length (fun i hi=>by
  have hn:=List.length_filter_le (TX id) (e.2.2.1.take i)
  rw[ay] at hn
  unfold cY
  simp only[]
  rw[bM hi,if_pos rfl,aD hi,PG hi]
  simp only[aa]
  by_cases c:e.2.2.1[i].2.1=id
  ·rw[if_neg (by simp[c]),if_neg (by simp[TX,c])]
   simp only[aa]
   rw[af (by omega),List.append_nil]
  ·rw[if_pos (by simpa using c),if_pos (by simpa [TX] using c)]
   rw[aL (by simp only[ak,aG];omega)]
   simp only[aa,dN]
   rw[af (by omega)]) (by
  unfold cY
  simp only[]
  rw[bu];rfl) (dD _ (by omega))
 rw[List.take_length] at k
 exact k
theorem IW (e:EngT) (he:Data.sm e) (id:Int): ∃y:EngT×Bool,fC e id=some y/\dK e id=some y/\Data.sm y.1:=by
 obtain ⟨b,es,ei,-⟩:=Sy e he
 obtain ⟨r,r1,r2,r3⟩:=LP he.2.1 id
 have h3:=(aH he.2.2.1).1
 have d1:aX e.2.2.1 (fun u=>eI u id)=some (e.2.2.1.filter (TX id)):=Wl (d:=fun u:IV=>u.2.1==id) (f:=fun u=>eI u id) (fun u=>rfl) e.2.2.1 (by omega)
 unfold fC dK
 simp only[dN,Wi e he,Wj e he,es,ei,r1,r2,aa]
 cases b with
 | false=>exact ⟨(e,false),rfl,rfl,he⟩
 | true =>
  simp only[if_true]
  by_cases c:r.2=true
  ·have k:=SC e id h3 e.1.1 e.1.2 r.1.1 r.1.2 e.2.2.2
   simp only[if_pos c,k,d1,aP,aa,dN]
   refine ⟨_,rfl,rfl,he.1,r3,⟨?_,fun x hx=>(aH he.2.2.1).2 x (List.mem_filter.1 hx).1⟩,he.2.2.2⟩
   have:=List.length_filter_le (TX id) e.2.2.1
   show (e.2.2.1.filter (TX id)).length<=1048576
   omega
  ·simp only[if_neg c]
   exact ⟨(e,false),rfl,rfl,he⟩
end D
set_option synthInstance.maxSize 20000
set_option synthInstance.maxHeartbeats 2000000
namespace D
open Go.RowKit
theorem ve (x:EngT) (v:Int) (hx:Data.lim x) (_:Data.lim v):cZ x v=some true:=by
 unfold cZ
 simp only[dN]
 obtain ⟨r1,e1,k1⟩:=Lr x 1048576 hx (by decide) (by decide)
 rw[e1];simp only[aa]
 rcases k1 with k1 | ⟨k1,j1,s1⟩
 ·rw[if_pos (decide_eq_true k1)]
 rw[if_neg (by simpa using k1)]
 obtain ⟨r,es,ei,sr⟩:=IW x s1 v
 have b1:=GK x s1
 have b2:=GK r.1 sr
 have em1:fg x 1=_:=GL x s1 (k:=1) (by omega)
 have em2:fg r.1 1=_:=GL r.1 sr (k:=1) (by omega)
 have eh2:gK ((r.1.1.1,(tv r.1 1).1.2),(tv r.1 1).2.1,(tv r.1 1).2.2.1,r.1.2.2.2) 1=_:=OJ r.1 sr (k:=1) (by omega)
 simp only[Lu x s1,es,ei,CV r.1 r.1 sr sr,CV x x s1 s1,aa,dN,em1,em2,eh2,decide_true,if_true,Ly,bne_self_eq_false,Bool.false_eq_true,if_false]
end D
open Go.ChangeShapes Go.WideShapes Go.ChangeAt Go.RowKit
theorem own:ownKnob Tryz.prog.godebug=none:=by kernel_rfl
theorem laidOut:laidOutB Tryz.prog=true:=by kernel_rfl
theorem wG {H:Type} {enc:TypeId×Value->H} {P:Program} (hl:laidOutB P=true) {W W':World} (hb:Below W.heap.size W W') :
  ∀ {ts:List TypeId} {vs:List Value} {ds:List (DataW H)} {ps:List MemPlace},(∀t∈ts,P.readableRec t=true/\t<P.types.size)->
   DataW.TrodAll enc P W 0 (fun _=>true) true ts vs ds ps->(∀x∈ps,x.block<W.heap.size)->DataW.TrodAll enc P W' 0 (fun b=>decide (b<W.heap.size)) true ts vs ds ps
 | [],[],[],ps,_,h,_=>h
 | t::ts,v::vs,d::ds,ps,hr,⟨p,q,h1,h2,h3⟩,hlt=>by
  subst h3
  exact ⟨p,q,Below.trod hl (hr t (by simp)).1 (hr t (by simp)).2 h1 hb fun x hx=>hlt x (by simp[hx]),wG hl hb (fun t ht=>hr t (by simp[ht])) h2 fun x hx=>hlt x (by simp[hx]),rfl⟩
 | [],_::_,_,_,_,h,_=>h.elim
 | [],[],_::_,_,_,h,_=>h.elim
 | _::_,[],_,_,_,h,_=>h.elim
 | _::_,_::_,[],_,_,h,_=>h.elim
theorem SD {H:Type} {enc:TypeId×Value->H} {f:Func} {s:ChangeSpec} {W W':World} {args:Array Value} {ds:List (DataW H)} {before:List MemPlace} (tb:TypeId)
  (hb:Tryz.prog.underlying tb=some .bool) (hr:f.resultTypes= #[tb]) (hp:(f.params.toList.all fun t=>Tryz.prog.readableRec t&&decide (t<Tryz.prog.types.size))=true) (hv:s.vars= [])
  (hW:DataW.Whole enc Tryz.prog f.params.toList s.vars false W args.toList ds [] before) (hres:(s.fn H (ds++ [])).results= [.lit (.bool true)]) (hargs:(s.fn H (ds++ [])).args=ds) (hvars:(s.fn H (ds++ [])).vars= [])
  (hbel:Below W.heap.size W W'):s.post enc Tryz.prog f false true false false W args (.bool true) W':=by
 obtain ⟨p,q,h1,h2,h3,h4,h5⟩:=hW
 have hW':DataW.Whole enc Tryz.prog f.params.toList s.vars false W args.toList ds [] before:=⟨p,q,h1,h2,h3,h4,h5⟩
 have hq:q= []:=by rw[hv] at h2;exact h2
 subst hq
 simp only[List.append_nil] at h3
 subst h3
 refine ⟨ds,[],before,[],before,[],hW',?_,?_,?_,hbel.frame _,fun h=>by cases h⟩
 ·rw[hres,hr]
  exact trodAll_mk1 (shut_bool hb true)
 ·rw[hargs]
  exact wG laidOut hbel (fun t ht=>by have:=List.all_eq_true.1 hp t ht;simpa using this) h1 fun x hx=>by simpa using hW'.lt x hx
 ·rw[hvars,hv];rfl
namespace R
open Go.Shelf
def IX:Go.Shelf.Ren:=⟨fun | 146=>171 | 221=>225 | 268=>265 | 138=>266 | 143=>267 | 195=>302 | 197=>303 | 218=>304 | 219=>305 | 260=>330 | 217=>170 | 225=>331 | 224=>332 | 267=>333 | 266=>224 | 314=>349 | n=>n,fun | 9=>9 | 31=>205 | 3=>3 | 4=>4 | 0=>0 | 105=>309 | 21=>21 | 5=>5 | 46=>295 | 119=>354 | 139=>357 | 138=>356 | 146=>358 | 51=>344 | n=>n,fun | 1=>0 | 3=>4 | 4=>5 | n=>n⟩
theorem Wm:Go.Proofs.LaysM.n146 Tryz.prog IX:= {
 mixed:=by kernel_rfl
 f138:=Tryz.func266.trans (congrArg some (by kernel_rfl))
 f143:=Tryz.func267.trans (congrArg some (by kernel_rfl))
 f146:=Tryz.func171.trans (congrArg some (by kernel_rfl))
 f195:=Tryz.func302.trans (congrArg some (by kernel_rfl))
 f197:=Tryz.func303.trans (congrArg some (by kernel_rfl))
 f217:=Tryz.func170.trans (congrArg some (by kernel_rfl))
 f218:=Tryz.func304.trans (congrArg some (by kernel_rfl))
 f219:=Tryz.func305.trans (congrArg some (by kernel_rfl))
 f221:=Tryz.func225.trans (congrArg some (by kernel_rfl))
 f224:=Tryz.func332.trans (congrArg some (by kernel_rfl))
 f225:=Tryz.func331.trans (congrArg some (by kernel_rfl))
 f260:=Tryz.func330.trans (congrArg some (by kernel_rfl))
 f266:=Tryz.func224.trans (congrArg some (by kernel_rfl))
 f267:=Tryz.func333.trans (congrArg some (by kernel_rfl))
 f268:=Tryz.func265.trans (congrArg some (by kernel_rfl))
 f314:=Tryz.func349.trans (congrArg some (by kernel_rfl))
 t0:=Tryz.underlying0
 a0:=Tryz.isAgg0
 z0:=Tryz.sizeOf0
 v0:=Tryz.zeroValue0
 t3:=Tryz.underlying3
 a3:=Tryz.isAgg3
 z3:=Tryz.sizeOf3
 v3:=Tryz.zeroValue3
 t4:=Tryz.underlying4
 a4:=Tryz.isAgg4
 z4:=Tryz.sizeOf4
 v4:=Tryz.zeroValue4
 t5:=Tryz.underlying5
 a5:=Tryz.isAgg5
 z5:=Tryz.sizeOf5
 v5:=Tryz.zeroValue5
 t9:=Tryz.underlying9
 a9:=Tryz.isAgg9
 z9:=Tryz.sizeOf9
 v9:=Tryz.zeroValue9
 t21:=Tryz.underlying21
 a21:=Tryz.isAgg21
 z21:=Tryz.sizeOf21
 v21:=Tryz.zeroValue21
 t31:=Tryz.underlying205
 a31:=Tryz.isAgg205
 z31:=Tryz.sizeOf205
 v31:=Tryz.zeroValue205
 t46:=Tryz.underlying295
 a46:=Tryz.isAgg295
 z46:=Tryz.sizeOf295
 v46:=Tryz.zeroValue295
 t51:=Tryz.underlying344
 a51:=Tryz.isAgg344
 z51:=Tryz.sizeOf344
 v51:=Tryz.zeroValue344
 t105:=Tryz.underlying309
 a105:=Tryz.isAgg309
 z105:=Tryz.sizeOf309
 v105:=Tryz.zeroValue309
 t119:=Tryz.underlying354
 a119:=Tryz.isAgg354
 z119:=Tryz.sizeOf354
 t138:=Tryz.underlying356
 a138:=Tryz.isAgg356
 z138:=Tryz.sizeOf356
 v138:=Tryz.zeroValue356
 t139:=Tryz.underlying357
 a139:=Tryz.isAgg357
 z139:=Tryz.sizeOf357
 v139:=Tryz.zeroValue357
 t146:=Tryz.underlying358
 a146:=Tryz.isAgg358
 z146:=Tryz.sizeOf358
 v146:=Tryz.zeroValue358
 g1:=by kernel_rfl
 g3:=by kernel_rfl
 g4:=by kernel_rfl
 i0:=by kernel_rfl
 i3:=by kernel_rfl
 i4:=by kernel_rfl
 i5:=by kernel_rfl
 i9:=by kernel_rfl
 i21:=by kernel_rfl
 i31:=by kernel_rfl
 i46:=by kernel_rfl
 i51:=by kernel_rfl
 i105:=by kernel_rfl
 i138:=by kernel_rfl
 i139:=by kernel_rfl
 i146:=by kernel_rfl
 m1:=by kernel_rfl
 s1_3:=fun w h=>Go.Proofs.cell_of_shapedOpen_int (zero:= #[.int .i64 0]) (t:=3) h (of_decide_eq_true (by kernel_rfl)) (by kernel_rfl) rfl (by kernel_rfl) (by kernel_rfl) Tryz.underlying3
 m3:=by kernel_rfl
 m4:=by kernel_rfl }
end R
open Go.ChangeShapes Go.WideShapes Go.ChangeAt Go.RowKit
namespace D
theorem op3:Opens Tryz.prog 3 bd:=Of Tryz.underlying3
theorem ZN:Opens Tryz.prog 91 (ah 3 bd):=gA Tryz.underlying91 (by kernel_rfl) (by decide) op3
theorem Zb:Opens Tryz.prog 172 (aI bd (aI bd (aI bd bd))):=by
 refine dS Tryz.underlying172 (by kernel_rfl) ?_
 refine ct (R:=bd) (S:=aI (bd) (aI (bd) (bd))) rfl (by kernel_rfl) op3 ?_
 refine ct (R:=bd) (S:=aI (bd) (bd)) rfl (by kernel_rfl) op3 ?_
 refine ct (R:=bd) (S:=bd) rfl (by kernel_rfl) op3 ?_
 exact gL rfl (by kernel_rfl) op3
theorem Zc:Opens Tryz.prog 177 (ah 172 (aI bd (aI bd (aI bd bd)))):=gA Tryz.underlying177 (by kernel_rfl) (by decide) Zb
theorem Zd:Opens Tryz.prog 179 (aI (ah 3 bd) (ah 172 (aI bd (aI bd (aI bd bd))))):=by
 refine dS Tryz.underlying179 (by kernel_rfl) ?_
 refine ct (R:=ah 3 bd) (S:=ah 172 (aI bd (aI bd (aI bd bd)))) rfl (by kernel_rfl) ZN ?_
 exact gL rfl (by kernel_rfl) Zc
theorem Z5:Opens Tryz.prog 22 (ah 179 (aI (ah 3 bd) (ah 172 (aI bd (aI bd (aI bd bd)))))):=gA Tryz.underlying22 (by kernel_rfl) (by decide) Zd
theorem Z6:Opens Tryz.prog 24 (aI bd (ah 179 (aI (ah 3 bd) (ah 172 (aI bd (aI bd (aI bd bd))))))):=by
 refine dS Tryz.underlying24 (by kernel_rfl) ?_
 refine ct (R:=bd) (S:=ah 179 (aI (ah 3 bd) (ah 172 (aI bd (aI bd (aI bd bd)))))) rfl (by kernel_rfl) op3 ?_
 exact gL rfl (by kernel_rfl) Z5
theorem op4:Opens Tryz.prog 4 ou:=Lo Tryz.underlying4
theorem Ze:Opens Tryz.prog 181 (ah 4 ou):=gA Tryz.underlying181 (by kernel_rfl) (by decide) op4
theorem Zf:Opens Tryz.prog 182 (ah 91 (ah 3 bd)):=gA Tryz.underlying182 (by kernel_rfl) (by decide) ZN
theorem Zg:Opens Tryz.prog 184 (aI bd (aI (ah 4 ou) (ah 91 (ah 3 bd)))):=by
 refine dS Tryz.underlying184 (by kernel_rfl) ?_
 refine ct (R:=bd) (S:=aI (ah 4 ou) (ah 91 (ah 3 bd))) rfl (by kernel_rfl) op3 ?_
 refine ct (R:=ah 4 ou) (S:=ah 91 (ah 3 bd)) rfl (by kernel_rfl) Ze ?_
 exact gL rfl (by kernel_rfl) Zf
theorem Z7:Opens Tryz.prog 25 (ah 184 (aI bd (aI (ah 4 ou) (ah 91 (ah 3 bd))))):=gA Tryz.underlying25 (by kernel_rfl) (by decide) Zg
theorem Zh:Opens Tryz.prog 163 (aI bd (aI bd (aI bd bd))):=by
 refine dS Tryz.underlying163 (by kernel_rfl) ?_
 refine ct (R:=bd) (S:=aI (bd) (aI (bd) (bd))) rfl (by kernel_rfl) op3 ?_
 refine ct (R:=bd) (S:=aI (bd) (bd)) rfl (by kernel_rfl) op3 ?_
 refine ct (R:=bd) (S:=bd) rfl (by kernel_rfl) op3 ?_
 exact gL rfl (by kernel_rfl) op3
theorem Z8:Opens Tryz.prog 54 (ah 163 (aI bd (aI bd (aI bd bd)))):=gA Tryz.underlying54 (by kernel_rfl) (by decide) Zh
theorem Z9:Opens Tryz.prog 56 (ah 163 (aI bd (aI bd (aI bd bd)))):=by
 refine dS Tryz.underlying56 (by kernel_rfl) ?_
 exact gL rfl (by kernel_rfl) Z8
theorem Zi:Opens Tryz.prog 187 (aI bd (aI (ah 163 (aI bd (aI bd (aI bd bd)))) bd)):=by
 refine dS Tryz.underlying187 (by kernel_rfl) ?_
 refine ct (R:=bd) (S:=aI (ah 163 (aI bd (aI bd (aI bd bd)))) (bd)) rfl (by kernel_rfl) op3 ?_
 refine ct (R:=ah 163 (aI bd (aI bd (aI bd bd)))) (S:=bd) rfl (by kernel_rfl) Z9 ?_
 exact gL rfl (by kernel_rfl) op3
theorem aaa:Opens Tryz.prog 26 (ah 187 (aI bd (aI (ah 163 (aI bd (aI bd (aI bd bd)))) bd))):=gA Tryz.underlying26 (by kernel_rfl) (by decide) Zi
theorem aab:Opens Tryz.prog 28 (aI (ah 184 (aI bd (aI (ah 4 ou) (ah 91 (ah 3 bd))))) (ah 187 (aI bd (aI (ah 163 (aI bd (aI bd (aI bd bd)))) bd)))):=by
 refine dS Tryz.underlying28 (by kernel_rfl) ?_
 refine ct (R:=ah 184 (aI bd (aI (ah 4 ou) (ah 91 (ah 3 bd))))) (S:=ah 187 (aI bd (aI (ah 163 (aI bd (aI bd (aI bd bd)))) bd))) rfl (by kernel_rfl) Z7 ?_
 exact gL rfl (by kernel_rfl) aaa
theorem Zj:Opens Tryz.prog 133 (aI bd (aI bd bd)):=by
 refine dS Tryz.underlying133 (by kernel_rfl) ?_
 refine ct (R:=bd) (S:=aI (bd) (bd)) rfl (by kernel_rfl) op3 ?_
 refine ct (R:=bd) (S:=bd) rfl (by kernel_rfl) op3 ?_
 exact gL rfl (by kernel_rfl) op3
theorem aac:Opens Tryz.prog 29 (ah 133 (aI bd (aI bd bd))):=gA Tryz.underlying29 (by kernel_rfl) (by decide) Zj
theorem op9:Opens Tryz.prog 9 C4:=GC Tryz.underlying9
theorem aad:Opens Tryz.prog 31 (aI (aI bd (ah 179 (aI (ah 3 bd) (ah 172 (aI bd (aI bd (aI bd bd))))))) (aI (aI (ah 184 (aI bd (aI (ah 4 ou) (ah 91 (ah 3 bd))))) (ah 187 (aI bd (aI (ah 163 (aI bd (aI bd (aI bd bd)))) bd)))) (aI (ah 133 (aI bd (aI bd bd))) C4))):=by
 refine dS Tryz.underlying31 (by kernel_rfl) ?_
 refine ct (R:=aI bd (ah 179 (aI (ah 3 bd) (ah 172 (aI bd (aI bd (aI bd bd))))))) (S:=aI (aI (ah 184 (aI bd (aI (ah 4 ou) (ah 91 (ah 3 bd))))) (ah 187 (aI bd (aI (ah 163 (aI bd (aI bd (aI bd bd)))) bd)))) (aI (ah 133 (aI bd (aI bd bd))) (C4))) rfl (by kernel_rfl) Z6 ?_
 refine ct (R:=aI (ah 184 (aI bd (aI (ah 4 ou) (ah 91 (ah 3 bd))))) (ah 187 (aI bd (aI (ah 163 (aI bd (aI bd (aI bd bd)))) bd)))) (S:=aI (ah 133 (aI bd (aI bd bd))) (C4)) rfl (by kernel_rfl) aab ?_
 refine ct (R:=ah 133 (aI bd (aI bd bd))) (S:=C4) rfl (by kernel_rfl) aac ?_
 exact gL rfl (by kernel_rfl) op9
theorem Zk {W:World} {base:Nat} {z:Value} {H:Type} {enc:TypeId×Value->H} {d:DataW H} {p:List MemPlace} (hv:Value.okWide Tryz.prog W .any base 31 z) (h:DataW.Trod enc Tryz.prog W 0 (fun _=>true) true 31 z d p) :
  ∃(x:(Int×(List ((List Int)×(List (Int×Int×Int×Int)))))×((List (Int×(List Bool)×(List (List Int))))×(List (Int×((List (Int×Int×Int×Int)))×Int)))×(List (Int×Int×Int))×ByteArray) (v0:Value) (v1:Value) (v2:Value) (v3:Value),z= .agg #[.int .i64 x.1.1,v0,v1,v2,v3,.string x.2.2.2] /\Data.lim x/\(ah 179 (aI (ah 3 bd) (ah 172 (aI bd (aI bd (aI bd bd)))))).rd (hp W) [v0] x.1.2/\(ah 184 (aI bd (aI (ah 4 ou) (ah 91 (ah 3 bd))))).rd (hp W) [v1] x.2.1.1/\(ah 187 (aI bd (aI (ah 163 (aI bd (aI bd (aI bd bd)))) bd))).rd (hp W) [v2] x.2.1.2/\(ah 133 (aI bd (aI bd bd))).rd (hp W) [v3] x.2.2.1:=by
 obtain ⟨fuel,hf⟩:=h
 obtain ⟨⟨cs⟩,rfl,-⟩:=okWide_struct Tryz.underlying31 hv
 obtain ⟨x,hx,hl⟩:=aad.out enc W _ _ _ hf
 have hx:(aI (aI bd (ah 179 (aI (ah 3 bd) (ah 172 (aI bd (aI bd (aI bd bd))))))) (aI (aI (ah 184 (aI bd (aI (ah 4 ou) (ah 91 (ah 3 bd))))) (ah 187 (aI bd (aI (ah 163 (aI bd (aI bd (aI bd bd)))) bd)))) (aI (ah 133 (aI bd (aI bd bd))) C4))).rd (hp W) cs x:=hx
 obtain ⟨_,_,rfl,⟨_,_,rfl,rfl,r0⟩,⟨_,_,rfl,⟨_,_,rfl,r1,r2⟩,⟨_,_,rfl,r3,rfl⟩⟩⟩:=hx
 obtain ⟨v0,rfl⟩:=yU r0 rfl
 obtain ⟨v1,rfl⟩:=yU r1 rfl
 obtain ⟨v2,rfl⟩:=yU r2 rfl
 obtain ⟨v3,rfl⟩:=yU r3 rfl
 exact ⟨x,v0,v1,v2,v3,rfl,hl,r0,r1,r2,r3⟩
theorem aae {W:World} {base:Nat} {z:Value} {H:Type} {enc:TypeId×Value->H} {d:DataW H} {p:List MemPlace} (hv:Value.okWide Tryz.prog W .any base 3 z) (h:DataW.Trod enc Tryz.prog W 0 (fun _=>true) true 3 z d p) :
  ∃(x:Int),z= .int .i64 x/\Data.lim x:=by
 obtain ⟨fuel,hf⟩:=h
 obtain ⟨n,rfl⟩:=okWide_int Tryz.underlying3 hv
 obtain ⟨x,hx,hl⟩:=op3.out enc W _ _ _ hf
 exact ⟨x,(List.cons.inj (show [_] = [_] from hx)).1,hl⟩
end D
open D (Data)
theorem xF {H:Type} {enc:TypeId×Value->H} {a:Assume} {C:Checked} {os:Os} {f:FuncId} {fn:Func} {s:ChangeSpec} {conds:List PathCond} {apart fresh handsOn again:Bool} {X:World->Array Value->Prop}
  (hX: ∀(w w':World) (args:Array Value),w.heap=w'.heap->X w args->X w' args)
  (own:ownKnob C.prog.godebug=none) (started:os.Started) (noInit:C.prog.inits.idxOf? f=none) (hfn:C.prog.funcs[f]? =some fn)
  (witness: ∃(w:World) (tape:Tape) (i:Input),w.os=os/\(w.forCall tape i).Shaped C.prog/\i.vars= [] /\Input.okWide C.prog (w.forCall tape i) .any w.heap.size f i /\
   ((s.pre enc C.prog fn conds apart (w.forCall tape i).memory i.args/\X (w.forCall tape i).memory i.args)/\sizedMet enc C.prog fn (OpenSpec.ofChange s) apart (w.forCall tape i).memory i.args)/\a.holds C.prog (lone (Frame.enter C.prog f i.args .normal) [] (w.forCall tape i)))
  (contract: ∀(W:World) (base:Nat) (args:Array Value) (ds gs:List (DataW H)) (before:List MemPlace),
   (∀(j:Nat) t v,fn.params[j]? =some t->args[j]? =some v->Value.okWide C.prog W .any base t v)->
   DataW.Whole enc C.prog fn.params.toList s.vars apart W args.toList ds gs before->X W args->W.ShapedOpen C.prog->
   Calls C.prog f args W fun e W'=> ∃v,e= .returned v/\s.post enc C.prog fn apart fresh handsOn again W args v W') :
  ReturnsInHanded a C os f .any (fun w args=>(s.pre enc C.prog fn conds apart w args/\X w args)/\sizedMet enc C.prog fn (OpenSpec.ofChange s) apart w args) (s.post enc C.prog fn apart fresh handsOn again):=by
 refine returnsInHanded_of_calls own started noInit witness ?_
 intro w tape i _ hsh _ hok hpre _
 obtain ⟨_,_,_,fn',hfn',_,_,_,_,hval⟩:=hok
 have e:fn'=fn:=ae (hfn'.symm.trans hfn)
 subst e
 obtain ⟨⟨⟨ds,gs,before,hw,hc⟩,hx⟩,_⟩:=hpre
 have hw':=DataW.Whole.of_heap (w':=w.forCall tape i) (by rfl) hw
 refine (contract (w.forCall tape i) w.heap.size i.args ds gs before hval hw' (hX (w.forCall tape i).memory (w.forCall tape i) _ rfl hx) hsh).mono fun e W' ⟨v,he,hp⟩=>?_
 subst he
 exact ChangeSpec.post_blind hp
theorem TY (u:TypeId) (h:Tryz.prog.typeName? 3 u=some "*errors.errorString"):u=362:=
 typeName_ptr_named (nm:= "errors.errorString") (by kernel_rfl) (by kernel_rfl) (by decide) u h
theorem vf {W:World} (h:laidMetH Tryz.prog Rows.fnExactEngineUnregisterRow.laid W) (hsh:W.ShapedOpen Tryz.prog):D.LayW Tryz.prog W:=by
 rw[MakeChecks.laidMetH_plain _ _ _ (by kernel_rfl)] at h
 obtain ⟨a5,s5,hv5,-⟩:=laid_sentinel (g:=2) (ti:=243) (tp:=362) (te:=364) (ts:=9) (h.tail.tail.tail.tail) (by kernel_rfl) (by kernel_rfl) Tryz.underlying243 TY Tryz.underlying362 Tryz.underlying364 rfl rfl Tryz.underlying9 (by kernel_rfl) (by kernel_rfl)
 obtain ⟨a6,s6,hv6,-⟩:=laid_sentinel (g:=1) (ti:=243) (tp:=362) (te:=364) (ts:=9) (h.tail.tail.tail.tail.tail) (by kernel_rfl) (by kernel_rfl) Tryz.underlying243 TY Tryz.underlying362 Tryz.underlying364 rfl rfl Tryz.underlying9 (by kernel_rfl) (by kernel_rfl)
 have ht:Lib.TabIs Tryz.prog W "internal/strconv.uint64pow10" .u64 Lib.pow10Tab:=Lib.tabIs_of_head (g:=3) (by kernel_rfl) (by kernel_rfl) Tryz.underlying343 Tryz.underlying321 (by kernel_rfl) (by kernel_rfl) (h.tail.tail)
 exact ⟨⟨0,(R.Wm.s1_3 W hsh).imp fun m hm=>⟨by kernel_rfl,hm⟩⟩,ht,⟨_,_,hv6⟩,⟨_,_,hv5⟩⟩
theorem tI (W:World) (hL:laidMetH Tryz.prog Rows.fnExactEngineUnregisterRow.laid W) (hsh:W.ShapedOpen Tryz.prog) (args:Array Value) (H:Type) (enc:TypeId×Value->H) (base:Nat) (ds gs:List (DataW H)) (before:List MemPlace)
  (hval: ∀(j:Nat) t v,Tryz.f7.params[j]? =some t->args[j]? =some v->Value.okWide Tryz.prog W .any base t v)
  (hW:DataW.Whole enc Tryz.prog Tryz.f7.params.toList Rows.fnExactEngineUnregisterSpec.vars false W args.toList ds gs before) :
  Calls Tryz.prog 7 args W fun e W'=> ∃v,e= .returned v/\Rows.fnExactEngineUnregisterSpec.post enc Tryz.prog Tryz.f7 false true false false W args v W':=by
 have hW':=hW
 obtain ⟨p,q,hA,hV,rfl,hfz,hnd⟩:=hW
 rw[Tryz.params7] at hA hval
 obtain ⟨z0,vs0,d0,ds0,p0,q0,hargs,rfl,rfl,h0,r0⟩:=trodAll_cons hA
 obtain ⟨z1,vs1,d1,ds1,p1,q1,rfl,rfl,rfl,h1,r1⟩:=trodAll_cons r0
 obtain ⟨rfl,rfl,rfl⟩:=trodAll_nil r1
 obtain rfl:args= #[z0,z1]:=by cases args;simp_all
 obtain ⟨rfl,rfl⟩:=trodVars_none hV
 obtain ⟨x0,v0_0,v0_1,v0_2,v0_3,rfl,l0,r0_0,r0_1,r0_2,r0_3⟩:=D.Zk (hval 0 _ _ rfl rfl) h0
 obtain ⟨x1,rfl,l1⟩:=D.aae (hval 1 _ _ rfl rfl) h1
 have hc:=D.oi x0 x1 true (D.ve x0 x1 l0 l1) (I:=D.hp W) (w0:=W) v0_0 v0_1 v0_2 v0_3 r0_0 r0_1 r0_2 r0_3 (D.Lay.of (vf hL hsh)) W [] (D.St.init W)
 refine hc.mono fun e W' ⟨v,he,hv,hs⟩=>?_
 subst he;subst hv
 exact ⟨_,rfl,SD (f:=Tryz.f7) (s:=Rows.fnExactEngineUnregisterSpec) 4 Tryz.underlying4 rfl (by kernel_rfl) rfl hW' rfl rfl rfl (D.St.below hs)⟩
set_option maxRecDepth 100000 in
theorem qH (os:Os) (started:os.Started) (H:Type) (enc:TypeId×Value->H) :
  ReturnsInHanded {} Tryz.checked os 7 .any (fun w args=>(Rows.fnExactEngineUnregisterSpec.pre enc Tryz.prog Tryz.f7 [] false w args/\laidMetH Tryz.prog Rows.fnExactEngineUnregisterRow.laid w)/\sizedMet enc Tryz.prog Tryz.f7 (OpenSpec.ofChange Rows.fnExactEngineUnregisterSpec) false w args) (Rows.fnExactEngineUnregisterSpec.post enc Tryz.prog Tryz.f7 false true false false):=by
 refine xF (C:=Tryz.checked) (X:=fun w _=>laidMetH Tryz.prog Rows.fnExactEngineUnregisterRow.laid w) (fun _ _ _ hh h=>h.of_heap hh) own started (by kernel_rfl) Tryz.func7
  (ChangeSpec.witness_shaped (enc:=enc) (C:=Tryz.checked) (os:=os) (X:=fun w _=>laidMetH Tryz.prog Rows.fnExactEngineUnregisterRow.laid w) false (World.laidAll Tryz.prog os Rows.fnExactEngineUnregisterRow.laid) #[.agg #[.int .i64 0,.slice none 0 0,.slice none 0 0,.slice none 0 0,.slice none 0 0,.string ⟨#[]⟩],.int .i64 0] 8 (World.laidAll_os _ _ _) (World.shaped_of_ZipB (by kernel_rfl) (by kernel_rfl)) (by kernel_rfl) (by kernel_rfl) (by kernel_rfl) (by rw[MakeChecks.laidMetH_plain _ _ _ (by kernel_rfl)];exact laidMet_laidAll _ (by kernel_rfl) (by kernel_rfl))) ?_
 intro W base args ds gs before hval hW hL hsh
 exact tI W hL hsh args H enc base ds gs before hval hW
theorem ry:Rows.FnExactEngineUnregisterSaid:=
 OpenClaim.holds_of_wide 7 Tryz.f7 rfl rfl rfl rfl rfl rfl rfl ⟨rfl,rfl,rfl,rfl,rfl⟩ rfl rfl rfl rfl rfl (by kernel_rfl) Tryz.func7 closedLEngineUnregister
  (of_decide_eq_true (by kernel_rfl)) (by unfold Func.isWrapper;first | (rw[if_pos (by decide +kernel)];kernel_rfl) | (rw[if_neg (by decide +kernel)];exact ⟨rfl,rfl⟩))
  (fun os started H enc _=>qH os started H enc)
theorem cardLEngineUnregister:Rows.FnExactEngineUnregisterCardSaid:=
 Claim7.holds_tied_plain_at .later [] [.data,.data,.data,.data,.sentinel,.sentinel,.pinned] true (true,"cff0790423b5df951cc606f0fc8fb4ad82e67faf05c9a9573691dcb8680664a3") true
  ry (fun _ h=>by cases h) (by kernel_rfl) (fun _ h=>by cases h) fnExactEngineUnregister_row_tie rfl ⟨rfl,rfl⟩ kf4EngineUnregister rfl
  (fun f fn hf hfn=>by
   obtain rfl:f=7:=ae (kf1EngineUnregister.symm.trans hf) |>.symm
   obtain rfl:fn=Tryz.f7:=(ae (Tryz.func7.symm.trans hfn)).symm
   exact ⟨kf2EngineUnregister,fun j t ht=>by
    rw[Tryz.params7] at ht
    have hm:t ∈ [31,3]:=by simpa using Array.mem_of_getElem? ht
    have hall:([31,3].all fun u=> !Tryz.prog.wantsStandIn u)=true:=by kernel_rfl
    exact (show Tryz.prog.wantsStandIn t=false by simpa using List.all_eq_true.1 hall t hm)⟩)
  kf3EngineUnregister
end Go.Proofs.YtilionjghdjbdaaGreatDoor
