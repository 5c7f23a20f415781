/- FnCompaction: for every input the law returns true and changes nothing that was there. Part 6 of 9. -/
import Derived.Test.YtphjdcoponilmaaGreatDoorCC4
set_option synthInstance.maxSize 20000
set_option synthInstance.maxHeartbeats 2000000
set_option linter.unusedVariables false
set_option linter.unusedSimpArgs false
set_option linter.unnecessarySimpa false
set_option linter.unusedSectionVars false
set_option maxRecDepth 1000000
namespace Go.Proofs.YtphjdcoponilmaaGreatDoor
open Go.IntKind (i64)
namespace D
open Go.RowKit
abbrev Yq1:Type:=(Int×Int×Int×Int)
abbrev Yq2:Type:=(Int×(List Bool)×(List (List Int)))
abbrev H0:Type:=(Int×((List Yq1))×Int)
abbrev Yq3:Type:=(List H0)
abbrev wE:Type:=((List Int)×List Yq1)
abbrev Yq9:Type:=(Int×(List Bool)×List (List Int))
abbrev Eo:Type:=(Int×(List Yq1)×Int)
abbrev Yq8:Type:=(Int×Int×Int)
abbrev Yq4:Type:=((Int×List wE)×((List Yq9)×List Eo)×(List Yq8)×ByteArray)
abbrev Yq5:Type:=(Bool×Int×Int×Int×Int)
abbrev Yq6:Type:=((List Int)×(List Yq1))
abbrev Yq7:Type:=(List (Int×Int))
abbrev wL:Type:=((List Yq2)×Yq3)
abbrev C4:Type:=((Int×Bool)×Int×Int)
abbrev BB:Type:=(Int×(List Yq6))
abbrev TH:Type:=((List Int)×Int×Int×(List Int)×Bool)
abbrev VD:Type:=(BB×wL×(List Yq8)×ByteArray)
abbrev TJ:Type:=(Out (List Int) ((List Int)×Int))
abbrev TK:Type:=(Int×(List Yq2)×Yq3)
abbrev ae7:Type:=(Out (Yq4×Int×Int) (Int×Int×Int×Int×(List wE)×(List Yq9)×(List Eo)×(List Yq8)×ByteArray))
abbrev MT:Type:=(Out Int (Int×Int))
def KS (a:List Int):Option Bool:=
 some (decide ((a.length:Int)>1048576))
def qY (b:List Int) (a:Int×Int):Option (Out (Int×Int) (Int×Int)):=
 if decide (a.2<(b.length:Int)) then (if decide (a.2<4000) then ((aO b a.2).bind fun c=>some (.nxt (sd (i64.wrap ((i64.wrap ((i64.wrap (a.1*131))+(i64.wrap c)))+7)) 1073741823,i64.wrap (a.2+1)))) else (some (.brk (a.1,a.2)))) else (some (.brk (a.1,a.2)))
def yH (a:List Int):Option (Int×Int):=
 aM (ah (qY a) aR (i64.wrap (10101+(a.length:Int)),0)) (fun b=>some b) (fun c=>some (0,c.1))
def mF (a:(List Int)×Int×Int):Option Yq8:=
 Option.bind ((if decide (a.2.1<(a.1.length:Int)) then ((aO a.1 a.2.1).bind fun c=>some (sd (i64.wrap ((sd (adf (pA (i64.wrap ((i64.wrap (a.2.2*6364136223846793005))+1442695040888963407)) 33) (pA (i64.wrap ((i64.wrap (a.2.2*6364136223846793005))+1442695040888963407)) 45)) 255)+(i64.wrap c))) 255,i64.wrap (a.2.1+1),i64.wrap ((i64.wrap (a.2.2*6364136223846793005))+1442695040888963407))) else (some (sd (adf (pA (i64.wrap ((i64.wrap (a.2.2*6364136223846793005))+1442695040888963407)) 33) (pA (i64.wrap ((i64.wrap (a.2.2*6364136223846793005))+1442695040888963407)) 45)) 255,a.2.1,i64.wrap ((i64.wrap (a.2.2*6364136223846793005))+1442695040888963407))):Option Yq8)) (fun b=>some (b.1,b.2.1,b.2.2))
def aN (a:(List Int)×Int×Int) (b:Int):Option Yq8:=
 if decide (b<=0) then (some (0,a.2.1,a.2.2)) else (if decide (b<=256) then ((mF (a.1,a.2.1,a.2.2)).bind fun c=>(chk (b≠0)).bind fun _=>some (Int.tmod c.1 b,c.2.1,c.2.2)) else ((mF (a.1,a.2.1,a.2.2)).bind fun d=>(mF (a.1,d.2.1,d.2.2)).bind fun e=>(mF (a.1,e.2.1,e.2.2)).bind fun f=>(mF (a.1,f.2.1,f.2.2)).bind fun g=>(chk (b≠0)).bind fun _=>some (Int.tmod (i64.wrap ((i64.wrap ((i64.wrap ((i64.wrap (d.1*16777216))+(i64.wrap (e.1*65536))))+(i64.wrap (f.1*256))))+g.1)) b,g.2.1,g.2.2)))
def b7 (a:(List Int)×(List Yq1)):Option Yq6:=
 (bC 8 ([] :List Int) a.1).bind fun b=>(bC 32 ([] :List Yq1) a.2).bind fun c=>some (b,c)
def fy (b:Int×(List Yq6)) (a:Int×Int×(List Yq6)):Option (Out BB (Int×Int×(List Yq6))):=
 if decide (a.1<(b.2.length:Int)) then ((aO b.2 a.1).bind fun c=>(b7 (c.1,c.2)).bind fun d=>(bC 48 a.2.2 ([(d.1,d.2)])).bind fun e=>some (.nxt (i64.wrap (a.1+1),a.2.1,e))) else (some (.brk (a.1,a.2.1,a.2.2)))
def mG (a:Int×(List Yq6)):Option BB:=
 aM (ah (fy a) aR (0,a.1,[])) (fun r=>some r) (fun b=>some (b.2.1,b.2.2))
def lH (b:Int×(List Bool)×(List (List Int))) (a:Int×Int×(List Bool)×(List (List Int))):Option (Out Yq2 (Int×Int×(List Bool)×(List (List Int)))):=
 if decide (a.1<(b.2.2.length:Int)) then ((aO b.2.2 a.1).bind fun c=>(bC 8 ([] :List Int) c).bind fun d=>(bC 24 a.2.2.2 ([d])).bind fun e=>some (.nxt (i64.wrap (a.1+1),a.2.1,a.2.2.1,e))) else (some (.brk (a.1,a.2.1,a.2.2.1,a.2.2.2)))
def qf (a:Int×(List Bool)×(List (List Int))):Option Yq2:=
 (bC 1 ([] :List Bool) a.2.1).bind fun c=>aM (ah (lH a) aR (0,a.1,c,[])) (fun r=>some r) (fun b=>some (b.2.1,b.2.2.1,b.2.2.2))
def gm (a:List Yq1):Option (List Yq1):=
 (bC 32 ([] :List Yq1) a).bind fun b=>some b
def lI (d:(List Yq2)×Yq3) (a:Int×(List Yq2)×Yq3):Option (Out wL TK):=
 if decide (a.1<(d.1.length:Int)) then ((aO d.1 a.1).bind fun b=>(qf (b.1,b.2.1,b.2.2)).bind fun c=>(bC 56 a.2.1 ([(c.1,c.2.1,c.2.2)])).bind fun e=>some (.nxt (i64.wrap (a.1+1),e,a.2.2))) else (some (.brk (a.1,a.2.1,a.2.2)))
def lJ (c:(List Yq2)×Yq3) (a:Int×(List Yq2)×Yq3):Option (Out wL TK):=
 if decide (a.1<(c.2.length:Int)) then ((aO c.2 a.1).bind fun b=>(gm b.2.1).bind fun d=>(bC 40 a.2.2 ([(b.1,d,b.2.2)])).bind fun e=>some (.nxt (i64.wrap (a.1+1),a.2.1,e))) else (some (.brk (a.1,a.2.1,a.2.2)))
def mq (a:(List Yq2)×Yq3):Option wL:=
 aM (ah (lI a) aR (0,[],[])) (fun r=>some r) (fun b=>aM (ah (lJ a) aR (0,b.2.1,b.2.2)) (fun r=>some r) (fun c=>some (c.2.1,c.2.2)))
def ko (a:BB×wL×(List Yq8)×ByteArray):Option VD:=
 (mG (a.1.1,a.1.2)).bind fun b=>(mq (a.2.1.1,a.2.1.2)).bind fun c=>(bC 24 ([] :List Yq8) a.2.2.1).bind fun d=>some ((b.1,b.2),(c.1,c.2),d,a.2.2.2)
def cB (a:Int) (b:Int) (c:Int):Option Bool:=
 if decide (a≥b) then (some (decide (a<=c))) else (some false)
def vS (b:(List Int)×(List Yq1)) (a:Int×Int×Int×Int):Option Bool:=
 (cB a.1 1 99).bind fun c=>if c then ((cB a.2.1 0 (i64.wrap ((b.1.length:Int) - 1))).bind fun d=>if d then ((cB a.2.2.1 0 (i64.wrap ((b.1.length:Int) - 1))).bind fun e=>if e then ((cB a.2.2.2 0 2).bind fun f=>some f) else (some false)) else (some false)) else (some false)
def qg (b:(List Int)×(List Yq1)) (a:Int):Option (Out Bool Int):=
 if decide (a<(b.1.length:Int)) then ((aO b.1 a).bind fun c=>(cB c 0 2).bind fun d=>if d then (some (.nxt (i64.wrap (a+1)))) else (some (.ret false))) else (some (.brk a))
def mr (b:(List Int)×(List Yq1)) (a:Int):Option (Out Bool Int):=
 if decide (a<(b.2.length:Int)) then ((aO b.2 a).bind fun c=>(vS (b.1,b.2) (c.1,c.2.1,c.2.2.1,c.2.2.2)).bind fun d=>if d then (if decide (a>0) then ((aO b.2 (i64.wrap (a - 1))).bind fun e=>(aO b.2 a).bind fun f=>if decide (e.1≥f.1) then (some (.ret false)) else (some (.nxt (i64.wrap (a+1))))) else (some (.nxt (i64.wrap (a+1))))) else (some (.ret false))) else (some (.brk a))
def aY (a:(List Int)×(List Yq1)):Option Bool:=
 aM (ah (qg a) aR 0) (fun r=>some r) (fun c=>aM (ah (mr a) aR 0) (fun r=>some r) (fun d=>(cB (a.1.length:Int) 1 5).bind fun b=>if b then (some (decide ((a.2.length:Int)<=12))) else (some false)))
def qZ (b:List Int) (c:List Int) (a:Int):Option (Out Int Int):=
 if decide (a<(b.length:Int)) then (if decide (a<(c.length:Int)) then ((aO b a).bind fun d=>(aO c a).bind fun e=>if decide (d<e) then (some (.ret (-1))) else ((aO b a).bind fun f=>(aO c a).bind fun g=>if decide (f>g) then (some (.ret 1)) else (some (.nxt (i64.wrap (a+1)))))) else (some (.brk a))) else (some (.brk a))
def qi (a:List Int) (b:List Int):Option Int:=
 aM (ah (qZ a b) aR 0) (fun r=>some r) (fun c=>if decide ((a.length:Int)<(b.length:Int)) then (some (-1)) else (if decide ((a.length:Int)>(b.length:Int)) then (some 1) else (some 0)))
def bH (b:Int×(List Yq6)) (a:Int):Option (Out Bool Int):=
 if decide (a<(b.2.length:Int)) then ((aO b.2 a).bind fun c=>(aY (c.1,c.2)).bind fun d=>if d then ((aO b.2 a).bind fun e=>(aO b.2 0).bind fun f=>(qi e.1 f.1).bind fun g=>if g !=0 then (some (.ret false)) else (some (.nxt (i64.wrap (a+1))))) else (some (.ret false))) else (some (.brk a))
def m_s_IsValidHistory (a:Int×(List Yq6)):Option Bool:=
 aM (ah (bH a) aR 0) (fun r=>some r) (fun d=>(cB (a.2.length:Int) 1 8).bind fun b=>if b then ((cB a.1 1 (i64.wrap ((i64.wrap (999 - (a.2.length:Int)))+1))).bind fun c=>some c) else (some false))
def aL (a:Int×(List Yq6)):Option Int:=
 (m_s_IsValidHistory (a.1,a.2)).bind fun b=>if b then (some (i64.wrap ((i64.wrap (a.1+(a.2.length:Int))) - 1))) else (some 0)
def cH (a:Int×List wE) (c:Int):Option ((Int×List wE)×Bool):=
 (mG (a.1,a.2)).bind fun b=>(m_s_IsValidHistory (a.1,a.2)).bind fun d=>if d then ((aL (a.1,a.2)).bind fun e=>(cB c a.1 e).bind fun f=>if f then ((chk (And (0<=(i64.wrap (c - a.1))) ((i64.wrap (c - a.1))<=(b.2.length:Int)))).bind fun _=>some ((c,b.2.drop ((i64.wrap (c - a.1)).toNat)),true)) else (some ((b.1,b.2),false))) else (some ((b.1,b.2),false))
def oM (a:Int):Option Bool:=
 (cB a 0 8).bind fun b=>some b
def qj (a:Int×Int×Int×Int):Option Int:=
 Option.bind ((if a.1==1 then (some (a.1==1)) else (some (a.1==2)):Option Bool)) (fun b=>if b then (if a.2.1 !=0 then (some (-1)) else (if a.2.2.1 !=0 then (some (-1)) else (if a.2.2.2 !=0 then (some (-1)) else (some 0)))) else (if a.1==3 then ((oM a.2.1).bind fun c=>if c then (if a.2.2.1 !=0 then (some (-1)) else (if a.2.2.2 !=0 then (some (-1)) else (some 0))) else (some (-1))) else (Option.bind ((if a.1==4 then (some (a.1==4)) else (some (a.1==5)):Option Bool)) (fun d=>if d then (if a.2.1 !=0 then (some (-1)) else (if a.2.2.1 !=0 then (some (-1)) else (if a.2.2.2 !=0 then (some (-1)) else (some 2)))) else (if a.1==6 then (if a.2.1 !=0 then (some (-1)) else (if a.2.2.1 !=0 then (some (-1)) else (if a.2.2.2 !=0 then (some (-1)) else (some 1)))) else (if a.1==7 then (if a.2.1 !=0 then (some (-1)) else ((cB a.2.2.2 1 3).bind fun e=>if e then ((cB a.2.2.1 0 a.2.2.2).bind fun f=>if f then (some 1) else (some (-1))) else (some (-1)))) else (some (-1))))))))
def tn (d:(List Yq1)) (a:Int×Int):Option (Out Bool (Int×Int)):=
 if decide (a.2<(d.length:Int)) then ((aO d a.2).bind fun b=>(qj (b.1,b.2.1,b.2.2.1,b.2.2.2)).bind fun c=>if decide (c<0) then (some (.ret false)) else (if decide (c>a.1) then (some (.ret false)) else (some (.nxt (i64.wrap ((i64.wrap (a.1 - c))+1),i64.wrap (a.2+1)))))) else (some (.brk (a.1,a.2)))
def vT (a:(List Yq1)):Option Bool:=
 aM (ah (tn a) aR (0,0)) (fun r=>some r) (fun b=>some (b.1==1))
def kp (a:(List Yq1)):Option Bool:=
 if decide ((a.length:Int)<=24) then ((vT a).bind fun b=>some b) else (some false)
def ox (c:List Yq1) (a:Int×Int):Option MT:=
 if decide (a.1>0) then ((aO c (i64.wrap (a.2 - 1))).bind fun b=>(qj (b.1,b.2.1,b.2.2.1,b.2.2.2)).bind fun d=>some (.nxt (i64.wrap ((i64.wrap (a.1 - 1))+d),i64.wrap (a.2 - 1)))) else (some (.brk (a.1,a.2)))
def kt (a:List Yq1):Option Int:=
 aM (ah (ox a) aR (1,(a.length:Int))) (fun r=>some r) (fun b=>some b.2)
def fL:Nat->(List Yq1)->Option Int
 | 0,_=>none
 | n+1,p0l =>
  (aO p0l (i64.wrap ((p0l.length:Int) - 1))).bind fun a=>Option.bind ((if a.1==4 then (some (a.1==4)) else (some (a.1==5)):Option Bool)) (fun c=>if c then ((chk (And (0<=(i64.wrap ((p0l.length:Int) - 1))) ((i64.wrap ((p0l.length:Int) - 1))<=(p0l.length:Int)))).bind fun _=>(kt (p0l.take ((i64.wrap ((p0l.length:Int) - 1)).toNat))).bind fun b=>(chk (And (0<=b) (b<=(p0l.length:Int)))).bind fun _=>((fL n) (p0l.take b.toNat)).bind fun d=>(chk (And (0<=b) (And (b<=(i64.wrap ((p0l.length:Int) - 1))) ((i64.wrap ((p0l.length:Int) - 1))<=(p0l.length:Int))))).bind fun _=>((fL n) ((p0l.take ((i64.wrap ((p0l.length:Int) - 1)).toNat)).drop b.toNat)).bind fun e=>some (Min.min 100000 (i64.wrap ((i64.wrap (d+e))+1)))) else (if a.1==6 then ((chk (And (0<=(i64.wrap ((p0l.length:Int) - 1))) ((i64.wrap ((p0l.length:Int) - 1))<=(p0l.length:Int)))).bind fun _=>((fL n) (p0l.take ((i64.wrap ((p0l.length:Int) - 1)).toNat))).bind fun f=>some (Min.min 100000 (i64.wrap (f+1)))) else (if a.1==7 then ((chk (And (0<=(i64.wrap ((p0l.length:Int) - 1))) ((i64.wrap ((p0l.length:Int) - 1))<=(p0l.length:Int)))).bind fun _=>((fL n) (p0l.take ((i64.wrap ((p0l.length:Int) - 1)).toNat))).bind fun g=>some (Min.min 100000 (i64.wrap ((i64.wrap ((i64.wrap (g+3))*a.2.2.2))+1)))) else (some 1))))
def fH (b:(List Yq1)) (c:(List Yq1)) (a:Int×Int×Int×Int):Option (List Yq1):=
 (gm b).bind fun d=>(bC 32 d c).bind fun e=>(bC 32 e ([(a.1,a.2.1,a.2.2.1,a.2.2.2)])).bind fun f=>some f
def su (a:Int):Option (List Yq1):=
 some ([(a,0,0,0)])
def oN:Nat->(List Yq1)->Int->Int->Option (List Yq1)
 | 0,_,_,_=>none
 | n+1,p0e,p1low,p2high =>
  if p2high==0 then ((su 2).bind fun b=>some b) else (((oN n) p0e (Max.max 0 (i64.wrap (p1low - 1))) (i64.wrap (p2high - 1))).bind fun c=>(fH p0e c (4,0,0,0)).bind fun a=>if decide (p1low>0) then (some a) else ((su 2).bind fun d=>(fH a d (5,0,0,0)).bind fun e=>some e))
def dS:Nat->(List Yq1)->Option (List Yq1)
 | 0,_=>none
 | n+1,p0l =>
  (aO p0l (i64.wrap ((p0l.length:Int) - 1))).bind fun a=>Option.bind ((if a.1==4 then (some (a.1==4)) else (some (a.1==5)):Option Bool)) (fun c=>if c then ((chk (And (0<=(i64.wrap ((p0l.length:Int) - 1))) ((i64.wrap ((p0l.length:Int) - 1))<=(p0l.length:Int)))).bind fun _=>(kt (p0l.take ((i64.wrap ((p0l.length:Int) - 1)).toNat))).bind fun b=>(chk (And (0<=b) (b<=(p0l.length:Int)))).bind fun _=>((dS n) (p0l.take b.toNat)).bind fun d=>(chk (And (0<=b) (And (b<=(i64.wrap ((p0l.length:Int) - 1))) ((i64.wrap ((p0l.length:Int) - 1))<=(p0l.length:Int))))).bind fun _=>((dS n) ((p0l.take ((i64.wrap ((p0l.length:Int) - 1)).toNat)).drop b.toNat)).bind fun e=>(fH d e (a.1,a.2.1,a.2.2.1,a.2.2.2)).bind fun f=>some f) else (if a.1==6 then ((chk (And (0<=(i64.wrap ((p0l.length:Int) - 1))) ((i64.wrap ((p0l.length:Int) - 1))<=(p0l.length:Int)))).bind fun _=>((dS n) (p0l.take ((i64.wrap ((p0l.length:Int) - 1)).toNat))).bind fun g=>(fH g ([] :List Yq1) (a.1,a.2.1,a.2.2.1,a.2.2.2)).bind fun h=>some h) else (if a.1==7 then ((chk (And (0<=(i64.wrap ((p0l.length:Int) - 1))) ((i64.wrap ((p0l.length:Int) - 1))<=(p0l.length:Int)))).bind fun _=>((dS n) (p0l.take ((i64.wrap ((p0l.length:Int) - 1)).toNat))).bind fun i=>(oN gj i a.2.2.1 a.2.2.2).bind fun j=>some j) else (some ([(a.1,a.2.1,a.2.2.1,a.2.2.2)])))))
def jO (a:(List Yq1)):Option (((List Yq1))×Bool):=
 (kp a).bind fun c=>if c then ((fL gj a).bind fun d=>if decide (d>5000) then (some ([],false)) else ((dS gj a).bind fun b=>if decide ((b.length:Int)>400) then (some ([],false)) else (some (b,true)))) else (some ([],false))
def lK (b:Int) (c:Int) (a:Int×List Int):Option (Out TH (Int×List Int)):=
 if decide (a.1<(a.2.length:Int)) then (Option.bind (((chk (0<=a.1)).bind fun _=>if (sd (pA b a.1) 1)==1 then ((aO a.2 a.1).bind fun d=>(aO a.2 a.1).bind fun f=>some (a.2.set a.1.toNat (orI d c))) else (some a.2):Option (List Int))) (fun e=>some (.nxt (i64.wrap (a.1+1),e)))) else (some (.brk (a.1,a.2)))
def qk (a:(List Int)×Int×Int×(List Int)×Bool) (b:Int) (c:Int):Option TH:=
 aM (ah (lK b c) aR (0,a.2.2.2.1)) (fun d=>some d) (fun e=>some (a.1,a.2.1,a.2.2.1,e.2,a.2.2.2.2))
def cP:Nat->TH->(List Yq1)->Option ((Bool×Int×Int)×(List Int)×Int×Int×(List Int)×Bool)
 | 0,_,_=>none
 | n+1,p0,p1 =>
  (aO p1 (i64.wrap ((p1.length:Int) - 1))).bind fun g=>if g.1==2 then (some ((true,0,0),p0.1,p0.2.1,p0.2.2.1,p0.2.2.2.1,p0.2.2.2.2)) else (if g.1==3 then ((bC 8 p0.1 ([g.2.1])).bind fun p=>(bC 8 p0.2.2.2.1 ([0])).bind fun q=>some ((false,yj 1 (p0.1.length:Int),yj 1 (p0.1.length:Int)),p,p0.2.1,p0.2.2.1,q,p0.2.2.2.2)) else (if g.1==4 then ((chk (And (0<=(i64.wrap ((p1.length:Int) - 1))) ((i64.wrap ((p1.length:Int) - 1))<=(p1.length:Int)))).bind fun _=>(kt (p1.take ((i64.wrap ((p1.length:Int) - 1)).toNat))).bind fun h=>(chk (And (0<=h) (h<=(p1.length:Int)))).bind fun _=>((cP n) (p0.1,p0.2.1,p0.2.2.1,p0.2.2.2.1,p0.2.2.2.2) (p1.take h.toNat)).bind fun b=>(chk (And (0<=h) (And (h<=(i64.wrap ((p1.length:Int) - 1))) ((i64.wrap ((p1.length:Int) - 1))<=(p1.length:Int))))).bind fun _=>((cP n) (b.2.1,b.2.2.1,b.2.2.2.1,b.2.2.2.2.1,b.2.2.2.2.2) ((p1.take ((i64.wrap ((p1.length:Int) - 1)).toNat)).drop h.toNat)).bind fun a=>(qk (a.2.1,a.2.2.1,a.2.2.2.1,a.2.2.2.2.1,a.2.2.2.2.2) b.1.2.2 a.1.2.1).bind fun d=>if b.1.1 then (Option.bind ((if b.1.1 then (some (a.1.1,orI b.1.2.1 a.1.2.1,a.1.2.2)) else (some (a.1.1,b.1.2.1,a.1.2.2)):Option (Bool×Int×Int))) (fun j=>Option.bind ((if a.1.1 then (some (j.1,j.2.1,orI b.1.2.2 a.1.2.2)) else (some (j.1,j.2.1,j.2.2)):Option (Bool×Int×Int))) (fun m=>some ((m.1,m.2.1,m.2.2),d.1,d.2.1,d.2.2.1,d.2.2.2.1,d.2.2.2.2)))) else (Option.bind ((if b.1.1 then (some (false,orI b.1.2.1 a.1.2.1,a.1.2.2)) else (some (false,b.1.2.1,a.1.2.2)):Option (Bool×Int×Int))) (fun k=>Option.bind ((if a.1.1 then (some (k.1,k.2.1,orI b.1.2.2 a.1.2.2)) else (some (k.1,k.2.1,k.2.2)):Option (Bool×Int×Int))) (fun o=>some ((o.1,o.2.1,o.2.2),d.1,d.2.1,d.2.2.1,d.2.2.2.1,d.2.2.2.2))))) else (if g.1==5 then ((chk (And (0<=(i64.wrap ((p1.length:Int) - 1))) ((i64.wrap ((p1.length:Int) - 1))<=(p1.length:Int)))).bind fun _=>(kt (p1.take ((i64.wrap ((p1.length:Int) - 1)).toNat))).bind fun i=>(chk (And (0<=i) (i<=(p1.length:Int)))).bind fun _=>((cP n) (p0.1,p0.2.1,p0.2.2.1,p0.2.2.2.1,p0.2.2.2.2) (p1.take i.toNat)).bind fun e=>(chk (And (0<=i) (And (i<=(i64.wrap ((p1.length:Int) - 1))) ((i64.wrap ((p1.length:Int) - 1))<=(p1.length:Int))))).bind fun _=>((cP n) (e.2.1,e.2.2.1,e.2.2.2.1,e.2.2.2.2.1,e.2.2.2.2.2) ((p1.take ((i64.wrap ((p1.length:Int) - 1)).toNat)).drop i.toNat)).bind fun c=>if e.1.1 then (some ((true,orI e.1.2.1 c.1.2.1,orI e.1.2.2 c.1.2.2),c.2.1,c.2.2.1,c.2.2.2.1,c.2.2.2.2.1,c.2.2.2.2.2)) else (some ((c.1.1,orI e.1.2.1 c.1.2.1,orI e.1.2.2 c.1.2.2),c.2.1,c.2.2.1,c.2.2.2.1,c.2.2.2.2.1,c.2.2.2.2.2))) else (if g.1==6 then ((chk (And (0<=(i64.wrap ((p1.length:Int) - 1))) ((i64.wrap ((p1.length:Int) - 1))<=(p1.length:Int)))).bind fun _=>((cP n) (p0.1,p0.2.1,p0.2.2.1,p0.2.2.2.1,p0.2.2.2.2) (p1.take ((i64.wrap ((p1.length:Int) - 1)).toNat))).bind fun f=>(qk (f.2.1,f.2.2.1,f.2.2.2.1,f.2.2.2.2.1,f.2.2.2.2.2) f.1.2.2 f.1.2.1).bind fun l=>some ((true,f.1.2.1,f.1.2.2),l.1,l.2.1,l.2.2.1,l.2.2.2.1,l.2.2.2.2)) else (some ((false,0,0),p0.1,p0.2.1,p0.2.2.1,p0.2.2.2.1,p0.2.2.2.2))))))
def eT (b:(List Yq1)×Bool) (a:Int×Int):Option (Out (TH×Bool) (Int×Int)):=
 if decide (a.2<(b.1.length:Int)) then (Option.bind (((aO b.1 a.2).bind fun c=>if c.1==3 then (some (i64.wrap (a.1+1))) else (some a.1):Option Int)) (fun d=>some (.nxt (d,i64.wrap (a.2+1))))) else (some (.brk (a.1,a.2)))
def dU (c:List Yq1):Option (TH×Bool):=
 (jO c).bind fun b=>if b.2 then (aM (ah (eT b) aR (0,0)) (fun d=>some d) (fun e=>if decide (e.1>20) then (some ((([] :List Int),0,0,([] :List Int),false),false)) else ((cP gj (([] :List Int),0,0,([] :List Int),false) b.1).bind fun a=>some ((a.2.1,a.1.2.1,a.1.2.2,a.2.2.2.2.1,a.1.1),true)))) else (some ((([] :List Int),0,0,([] :List Int),false),false))
def ku (b:(List Int)×Int×Int×(List Int)×Bool) (c:Int) (a:Int×Int):Option MT:=
 if decide (a.2<(b.1.length:Int)) then (Option.bind (((chk (0<=i64.wrap (a.2+1))).bind fun _=>if (sd (pA c (i64.wrap (a.2+1))) 1)==1 then ((aO b.2.2.2.1 a.2).bind fun d=>some (orI a.1 d)) else (some a.1):Option Int)) (fun e=>some (.nxt (e,i64.wrap (a.2+1))))) else (some (.brk (a.1,a.2)))
def ky (b:(List Int)×Int×Int×(List Int)×Bool) (c:Int) (d:Int×Int) (a:Int×Int):Option MT:=
 if decide (a.2<(b.1.length:Int)) then (Option.bind (((chk (0<=a.2)).bind fun _=>if (sd (pA d.1 a.2) 1)==1 then ((aO b.1 a.2).bind fun e=>if e==c then ((chk (0<=i64.wrap (a.2+1))).bind fun _=>some (orI a.1 (yj 1 (i64.wrap (a.2+1))))) else (some a.1)) else (some a.1):Option Int)) (fun f=>some (.nxt (f,i64.wrap (a.2+1))))) else (some (.brk (a.1,a.2)))
def q7 (a:(List Int)×Int×Int×(List Int)×Bool) (b:Int) (c:Int):Option Int:=
 Option.bind ((if (sd b 1)==1 then (some a.2.1) else (some 0):Option Int)) (fun d=>aM (ah (ku a b) aR (d,0)) (fun r=>some r) (fun e=>aM (ah (ky a c e) aR (0,0)) (fun r=>some r) (fun f=>some f.1)))
def rI (b:List Int) (c:Int) (a:Int):Option (Out Int Int):=
 if decide (a<(b.length:Int)) then ((aO b a).bind fun d=>if d==c then (some (.ret a)) else (some (.nxt (i64.wrap (a+1))))) else (some (.brk a))
def ql (a:List Int) (b:Int):Option Int:=
 aM (ah (rI a b) aR 0) (fun r=>some r) (fun c=>some (-1))
def oy (a:(List Int)×Int×Int×(List Int)×Bool) (b:Int):Option Bool:=
 if (sd b 1)==1 then (if a.2.2.2.2 then (some true) else (some ((sd (pA b 1) a.2.2.1) !=0))) else (some ((sd (pA b 1) a.2.2.1) !=0))
def k9 (b:(List Int)×Int×Int×(List Int)×Bool) (f:(List Int)×Int×Int×(List Bool)×(List (List Int))) (a:(List Int)×(List Int)×Int):Option (Out (Yq2×Bool) ((List Int)×(List Int)×Int)):=
 if decide (a.2.2<9) then ((aO a.1 f.2.1).bind fun g=>(q7 (b.1,b.2.1,b.2.2.1,b.2.2.2.1,b.2.2.2.2) g a.2.2).bind fun c=>Option.bind ((if c !=0 then ((ql a.1 c).bind fun d=>if decide (d<0) then ((bC 8 a.1 ([c])).bind fun h=>some (h,(a.1.length:Int))) else (some (a.1,d))) else (some (a.1,-1)):Option ((List Int)×Int))) (fun e=>(bC 8 a.2.1 ([e.2])).bind fun i=>some (.nxt (e.1,i,i64.wrap (a.2.2+1))))) else (some (.brk (a.1,a.2.1,a.2.2)))
def iF (b:(List Int)×Int×Int×(List Int)×Bool) (d:Int) (a:(List Int)×Int×Int×(List Bool)×(List (List Int))):Option (Out (Yq2×Bool) ((List Int)×Int×Int×(List Bool)×(List (List Int)))):=
 if decide (a.2.1<(a.1.length:Int)) then (aM (ah (k9 b a) aR (a.1,([] :List Int),0)) (fun r=>some (.ret r)) (fun c=>if decide ((c.1.length:Int)>d) then (some (.ret ((0,[],[]),false))) else ((aO c.1 a.2.1).bind fun e=>(oy (b.1,b.2.1,b.2.2.1,b.2.2.2.1,b.2.2.2.2) e).bind fun f=>(bC 1 a.2.2.2.1 ([f])).bind fun g=>(bC 24 a.2.2.2.2 ([c.2.1])).bind fun h=>some (.nxt (c.1,i64.wrap (a.2.1+1),a.2.2.1,g,h))))) else (some (.brk (a.1,a.2.1,a.2.2.1,a.2.2.2.1,a.2.2.2.2)))
def fF (b:(List Int)×Int×Int×(List Int)×Bool) (c:Int):Option (Yq2×Bool):=
 aM (ah (iF b c) aR ([1],0,0,[],[])) (fun r=>some r) (fun a=>some ((a.2.2.1,a.2.2.2.1,a.2.2.2.2),true))
def Aq (a:(List Int)×Int):Option (Out Yq2 ((List Int)×Int)):=
 if decide (a.2<9) then ((bC 8 a.1 ([-1])).bind fun b=>some (.nxt (b,i64.wrap (a.2+1)))) else (some (.brk (a.1,a.2)))
def rJ:Option Yq2:=
 aM (ah (Aq) aR (([] :List Int),0)) (fun r=>some r) (fun a=>some (0,[false],[a.1]))
def jI (f:Int×(List Bool)×(List (List Int))) (d:List Int) (g:List Bool) (h:(List Int)×(List Int)×Int×Int×(List Bool)×(List (List Int))) (a:(List Int)×(List Int)×(List Int)×Int):Option (Out Yq2 ((List Int)×(List Int)×(List Int)×Int)):=
 if decide (a.2.2.2<9) then ((aO a.2.1 h.2.2.1).bind fun i=>(aO f.2.2 i).bind fun j=>(aO j a.2.2.2).bind fun b=>Option.bind ((if decide (b≥0) then ((aO g b).bind fun k=>if k then ((aO d b).bind fun l=>(ql a.1 l).bind fun e=>if decide (e<0) then ((aO d b).bind fun m=>(bC 8 a.1 ([m])).bind fun n=>(bC 8 a.2.1 ([b])).bind fun o=>some (n,o,(a.1.length:Int))) else (some (a.1,a.2.1,e))) else (some (a.1,a.2.1,-1))) else (some (a.1,a.2.1,-1)):Option ((List Int)×(List Int)×Int))) (fun c=>(bC 8 a.2.2.1 ([c.2.2])).bind fun p=>some (.nxt (c.1,c.2.1,p,i64.wrap (a.2.2.2+1))))) else (some (.brk (a.1,a.2.1,a.2.2.1,a.2.2.2)))
def lY (c:Int×(List Bool)×(List (List Int))) (d:List Int) (e:List Bool) (a:(List Int)×(List Int)×Int×Int×(List Bool)×(List (List Int))):Option (Out Yq2 ((List Int)×(List Int)×Int×Int×(List Bool)×(List (List Int)))):=
 if decide (a.2.2.1<(a.1.length:Int)) then (aM (ah (jI c d e a) aR (a.1,a.2.1,([] :List Int),0)) (fun r=>some (.ret r)) (fun b=>(aO b.2.1 a.2.2.1).bind fun f=>(aO c.2.1 f).bind fun g=>(bC 1 a.2.2.2.2.1 ([g])).bind fun h=>(bC 24 a.2.2.2.2.2 ([b.2.2.1])).bind fun i=>some (.nxt (b.1,b.2.1,i64.wrap (a.2.2.1+1),a.2.2.2.1,h,i)))) else (some (.brk (a.1,a.2.1,a.2.2.1,a.2.2.2.1,a.2.2.2.2.1,a.2.2.2.2.2)))
def lf (a:Int×(List Bool)×(List (List Int))) (d:List Int) (e:List Bool):Option Yq2:=
 (aO e a.1).bind fun f=>if f then ((aO d a.1).bind fun g=>aM (ah (lY a d e) aR ([g],[a.1],0,0,[],[])) (fun r=>some r) (fun b=>some (b.2.2.2.1,b.2.2.2.2.1,b.2.2.2.2.2))) else ((rJ).bind fun c=>some (c.1,c.2.1,c.2.2))
def oz (c:Int×(List Bool)×(List (List Int))) (b:(List Bool)×Int) (a:(List Bool)×Int):Option (Out (List Bool) ((List Bool)×Int)):=
 if decide (a.2<9) then (Option.bind (((aO c.2.2 b.2).bind fun d=>(aO d a.2).bind fun e=>if decide (e≥0) then ((aO c.2.2 b.2).bind fun f=>(aO f a.2).bind fun g=>(aO a.1 g).bind fun h=>if h then ((aO a.1 b.2).bind fun j=>some (a.1.set b.2.toNat true)) else (some a.1)) else (some a.1):Option (List Bool))) (fun i=>some (.nxt (i,i64.wrap (a.2+1))))) else (some (.brk (a.1,a.2)))
def lL (b:Int×(List Bool)×(List (List Int))) (a:(List Bool)×Int):Option (Out (List Bool) ((List Bool)×Int)):=
 if decide (a.2<(b.2.1.length:Int)) then (aM (ah (oz b a) aR (a.1,0)) (fun r=>some (.ret r)) (fun c=>some (.nxt (c.1,i64.wrap (a.2+1))))) else (some (.brk (a.1,a.2)))
def oA (b:Int×(List Bool)×(List (List Int))) (a:(List Bool)×Int):Option (Out (List Bool) ((List Bool)×Int)):=
 if decide (a.2<(b.2.1.length:Int)) then (aM (ah (lL b) aR (a.1,0)) (fun r=>some (.ret r)) (fun c=>some (.nxt (c.1,i64.wrap (a.2+1))))) else (some (.brk (a.1,a.2)))
def nS (a:Int×(List Bool)×(List (List Int))):Option (List Bool):=
 (bC 1 ([] :List Bool) a.2.1).bind fun b=>aM (ah (oA a) aR (b,0)) (fun r=>some r) (fun c=>some c.1)
def pE (c:Int×(List Bool)×(List (List Int))) (d:List Int) (e:Int) (a:(List Int)×Int):Option TJ:=
 if decide (a.2<9) then (Option.bind (((aO c.2.2 e).bind fun f=>(aO f a.2).bind fun b=>if decide (b<0) then ((bC 8 a.1 ([-1])).bind fun g=>some g) else ((aO d b).bind fun h=>(bC 8 a.1 ([h])).bind fun i=>some i):Option (List Int))) (fun j=>some (.nxt (j,i64.wrap (a.2+1))))) else (some (.brk (a.1,a.2)))
def sv (c:Int×(List Bool)×(List (List Int))) (a:List Int) (b:Int):Option (List Int):=
 (aO a b).bind fun d=>aM (ah (pE c a b) aR ([d],0)) (fun r=>some r) (fun e=>some e.1)
def iG (b:Int×(List Bool)×List (List Int)) (c:List Bool) (a:(List Int)×Int):Option TJ:=
 if decide (a.2<(b.2.1.length:Int)) then ((aO b.2.1 a.2).bind fun d=>Option.bind ((if d then (some 1) else (some 0):Option Int)) (fun e=>(aO c a.2).bind fun f=>Option.bind ((if f then (some e) else (some (-1)):Option Int)) (fun g=>(bC 8 a.1 ([g])).bind fun h=>some (.nxt (h,i64.wrap (a.2+1)))))) else (some (.brk (a.1,a.2)))
def iH (b:(List (List Int))×(List Int)×Int) (c:List Int) (a:Int×Int):Option (Out (List Int) (Int×Int)):=
 if decide (a.2<(b.1.length:Int)) then (Option.bind (((aO b.1 a.2).bind fun d=>(qi d c).bind fun e=>if e==0 then (some a.2) else (some a.1):Option Int)) (fun f=>some (.nxt (f,i64.wrap (a.2+1))))) else (some (.brk (a.1,a.2)))
def iI (b:Int×(List Bool)×List (List Int)) (c:(List Int)×Int) (a:(List (List Int))×(List Int)×Int):Option (Out (List Int) ((List (List Int))×(List Int)×Int)):=
 if decide (a.2.2<(b.2.1.length:Int)) then (Option.bind (((aO c.1 a.2.2).bind fun h=>if decide (h<0) then ((bC 8 a.2.1 ([(-1)])).bind fun i=>some (a.1,i)) else ((sv (b.1,b.2.1,b.2.2) c.1 a.2.2).bind fun d=>aM (ah (iH a d) aR ((-1),0)) (fun l=>none) (fun e=>Option.bind ((if decide (e.1<0) then ((bC 24 a.1 ([d])).bind fun j=>some (j,(a.1.length:Int))) else (some (a.1,e.1)):Option ((List (List Int))×Int))) (fun f=>(bC 8 a.2.1 ([f.2])).bind fun k=>some (f.1,k)))):Option ((List (List Int))×List Int))) (fun g=>some (.nxt (g.1,g.2,i64.wrap (a.2.2+1))))) else (some (.brk (a.1,a.2.1,a.2.2)))
def nT (b:Int×(List Bool)×List (List Int)) (a:(List Int)×Int):Option TJ:=
 if decide (a.2<=(b.2.1.length:Int)) then (aM (ah (iI b a) aR (([] :List (List Int)),([] :List Int),0)) (fun d=>some (.ret d)) (fun c=>(qi c.2.1 a.1).bind fun e=>if e==0 then (some (.ret a.1)) else (some (.nxt (c.2.1,i64.wrap (a.2+1)))))) else (some (.brk (a.1,a.2)))
def lM (a:Int×(List Bool)×List (List Int)):Option (List Int):=
 (nS (a.1,a.2.1,a.2.2)).bind fun b=>aM (ah (iG a b) aR (([] :List Int),0)) (fun c=>some c) (fun d=>aM (ah (nT a) aR (d.1,0)) (fun e=>some e) (fun f=>some f.1))
def iJ (a:Int×(List Bool)×(List (List Int))):Option Yq2:=
 (lM (a.1,a.2.1,a.2.2)).bind fun c=>(nS (a.1,a.2.1,a.2.2)).bind fun d=>(lf (a.1,a.2.1,a.2.2) c d).bind fun b=>some (b.1,b.2.1,b.2.2)
def m_s_CompileExpr (d:(List Yq1)):Option (Yq2×Bool):=
 (dU d).bind fun a=>if a.2 then ((fF (a.1.1,a.1.2.1,a.1.2.2.1,a.1.2.2.2.1,a.1.2.2.2.2) 200).bind fun b=>if b.2 then ((iJ (b.1.1,b.1.2.1,b.1.2.2)).bind fun c=>if decide ((c.2.1.length:Int)>12) then (some ((0,[],[]),false)) else (some ((c.1,c.2.1,c.2.2),true))) else (some ((0,[],[]),false))) else (some ((0,[],[]),false))
def iz (b:Int×(List Bool)×(List (List Int))) (c:Int×(List Bool)×(List (List Int))) (a:Int):Option (Out Bool Int):=
 if decide (a<(b.2.1.length:Int)) then ((aO b.2.1 a).bind fun d=>(aO c.2.1 a).bind fun e=>if d !=e then (some (.ret false)) else (some (.nxt (i64.wrap (a+1))))) else (some (.brk a))
def iA (b:Int×(List Bool)×(List (List Int))) (c:Int×(List Bool)×(List (List Int))) (a:Int):Option (Out Bool Int):=
 if decide (a<(b.2.2.length:Int)) then ((aO b.2.2 a).bind fun d=>(aO c.2.2 a).bind fun e=>(qi d e).bind fun f=>if f !=0 then (some (.ret false)) else (some (.nxt (i64.wrap (a+1))))) else (some (.brk a))
def iK (a:Int×(List Bool)×(List (List Int))) (b:Int×(List Bool)×(List (List Int))):Option Bool:=
 if a.1 !=b.1 then (some false) else (if (a.2.1.length:Int) !=(b.2.1.length:Int) then (some false) else (if (a.2.2.length:Int) !=(b.2.2.length:Int) then (some false) else (aM (ah (iz a b) aR 0) (fun r=>some r) (fun c=>aM (ah (iA a b) aR 0) (fun r=>some r) (fun d=>some true)))))
def eU (d:List Yq2) (b:Int×(List Bool)×(List (List Int))) (a:Int):Option (Out Int Int):=
 if decide (a<(d.length:Int)) then ((aO d a).bind fun c=>(iK (c.1,c.2.1,c.2.2) (b.1,b.2.1,b.2.2)).bind fun e=>if e then (some (.ret a)) else (some (.nxt (i64.wrap (a+1))))) else (some (.brk a))
def gH (a:List Yq2) (b:Int×(List Bool)×(List (List Int))):Option Int:=
 aM (ah (eU a b) aR 0) (fun r=>some r) (fun c=>some (-1))
def bD (c:List H0) (a:Int×(List Yq2)×Yq3):Option (Out (wL×Bool) TK):=
 if decide (a.1<(c.length:Int)) then ((aO c a.1).bind fun h=>(m_s_CompileExpr h.2.1).bind fun b=>if b.2 then ((aO c a.1).bind fun i=>(cB i.1 1 99).bind fun j=>if j then (if decide (a.1>0) then ((aO c (i64.wrap (a.1 - 1))).bind fun k=>(aO c a.1).bind fun l=>if decide (k.1≥l.1) then (some (.ret (([],[]),false))) else ((gH a.2.1 (b.1.1,b.1.2.1,b.1.2.2)).bind fun f=>Option.bind ((if decide (f<0) then ((bC 56 a.2.1 ([(b.1.1,b.1.2.1,b.1.2.2)])).bind fun m=>some ((a.2.1.length:Int),m,a.2.2)) else (some (f,a.2.1,a.2.2)):Option TK)) (fun d=>(aO c a.1).bind fun n=>(aO c a.1).bind fun o=>(gm o.2.1).bind fun p=>(bC 40 d.2.2 ([(n.1,p,d.1)])).bind fun q=>some (.nxt (i64.wrap (a.1+1),d.2.1,q))))) else ((gH a.2.1 (b.1.1,b.1.2.1,b.1.2.2)).bind fun g=>Option.bind ((if decide (g<0) then ((bC 56 a.2.1 ([(b.1.1,b.1.2.1,b.1.2.2)])).bind fun r=>some ((a.2.1.length:Int),r,a.2.2)) else (some (g,a.2.1,a.2.2)):Option TK)) (fun e=>(aO c a.1).bind fun s=>(aO c a.1).bind fun t=>(gm t.2.1).bind fun u=>(bC 40 e.2.2 ([(s.1,u,e.1)])).bind fun v=>some (.nxt (i64.wrap (a.1+1),e.2.1,v))))) else (some (.ret (([],[]),false)))) else (some (.ret (([],[]),false)))) else (some (.brk (a.1,a.2.1,a.2.2)))
def cQ (a:List H0):Option (wL×Bool):=
 if decide ((a.length:Int)>4) then (some (([],[]),false)) else (aM (ah (bD a) aR (0,[],[])) (fun r=>some r) (fun b=>some ((b.2.1,b.2.2),true)))
def lh (d:(List Yq1)) (e:(List Yq1)) (a:Int):Option (Out Bool Int):=
 if decide (a<(d.length:Int)) then ((aO d a).bind fun b=>(aO e a).bind fun c=>if (b.1==c.1)&&((b.2.1==c.2.1)&&((b.2.2.1==c.2.2.1)&&((b.2.2.2==c.2.2.2)&&true))) then (some (.nxt (i64.wrap (a+1)))) else (some (.ret false))) else (some (.brk a))
def rK (a:(List Yq1)) (b:(List Yq1)):Option Bool:=
 if (a.length:Int) !=(b.length:Int) then (some false) else (aM (ah (lh a b) aR 0) (fun r=>some r) (fun c=>some true))
def gb (d:(List Yq2)×Yq3) (e:(List Yq2)×Yq3) (a:Int):Option (Out Bool Int):=
 if decide (a<(d.1.length:Int)) then ((aO d.1 a).bind fun b=>(aO e.1 a).bind fun c=>(iK (b.1,b.2.1,b.2.2) (c.1,c.2.1,c.2.2)).bind fun f=>if f then (some (.nxt (i64.wrap (a+1)))) else (some (.ret false))) else (some (.brk a))
def gf (b:(List Yq2)×Yq3) (c:(List Yq2)×Yq3) (a:Int):Option (Out Bool Int):=
 if decide (a<(b.2.length:Int)) then ((aO b.2 a).bind fun d=>(aO c.2 a).bind fun e=>if d.1 !=e.1 then (some (.ret false)) else ((aO b.2 a).bind fun f=>(aO c.2 a).bind fun g=>(rK f.2.1 g.2.1).bind fun h=>if h then ((aO b.2 a).bind fun i=>(aO c.2 a).bind fun j=>if i.2.2 !=j.2.2 then (some (.ret false)) else (some (.nxt (i64.wrap (a+1))))) else (some (.ret false)))) else (some (.brk a))
def jm (a:(List Yq2)×Yq3) (b:(List Yq2)×Yq3):Option Bool:=
 if (a.1.length:Int) !=(b.1.length:Int) then (some false) else (if (a.2.length:Int) !=(b.2.length:Int) then (some false) else (aM (ah (gb a b) aR 0) (fun r=>some r) (fun c=>aM (ah (gf a b) aR 0) (fun r=>some r) (fun d=>some true))))
def m_s_IsValidRegistry (a:(List Yq2)×Yq3):Option Bool:=
 (cQ a.2).bind fun b=>if b.2 then ((jm (b.1.1,b.1.2) (a.1,a.2)).bind fun c=>some c) else (some false)
def dC (b:(List Yq2)×Yq3) (c:Int) (a:Int):Option (Out Int Int):=
 if decide (a<(b.2.length:Int)) then ((aO b.2 a).bind fun d=>if d.1==c then (some (.ret a)) else (some (.nxt (i64.wrap (a+1))))) else (some (.brk a))
def ct (a:(List Yq2)×Yq3) (b:Int):Option Int:=
 aM (ah (dC a b) aR 0) (fun r=>some r) (fun c=>some (-1))
def cj (a:BB×wL×(List Yq8)×ByteArray) (b:Int):Option (Out Bool Int):=
 if decide (b<(a.2.2.1.length:Int)) then ((aO a.2.2.1 b).bind fun c=>(cB c.1 1 99).bind fun d=>if d then (if decide (b>0) then ((aO a.2.2.1 (i64.wrap (b - 1))).bind fun e=>if decide (e.1≥c.1) then (some (.ret false)) else ((ct (a.2.1.1,a.2.1.2) c.2.1).bind fun f=>if decide (f<0) then (some (.ret false)) else ((aL (a.1.1,a.1.2)).bind fun g=>(cB c.2.2 0 g).bind fun h=>if h then (some (.nxt (i64.wrap (b+1)))) else (some (.ret false))))) else ((ct (a.2.1.1,a.2.1.2) c.2.1).bind fun i=>if decide (i<0) then (some (.ret false)) else ((aL (a.1.1,a.1.2)).bind fun j=>(cB c.2.2 0 j).bind fun k=>if k then (some (.nxt (i64.wrap (b+1)))) else (some (.ret false))))) else (some (.ret false))) else (some (.brk b))
def tq (a:BB×wL×(List Yq8)×ByteArray):Option Bool:=
 aM (ah (cj a) aR 0) (fun r=>some r) (fun b=>some (decide ((a.2.2.1.length:Int)<=4)))
def fh (a:Int×ByteArray):Option (Out ByteArray (Int×ByteArray)):=
 if a.1 !=0 then (Option.bind ((if decide ((Int.tmod a.1 10)<0) then (some (i64.wrap (-(Int.tmod a.1 10)))) else (some (Int.tmod a.1 10)):Option Int)) (fun b=>(lF (A3 ([IntKind.u8.wrap (i64.wrap (48+b))])) a.2).bind fun c=>some (.nxt (EZ a.1 10,c)))) else (some (.brk (a.1,a.2)))
def cw (a:Int):Option ByteArray:=
 if a==0 then (some (⟨#[48]⟩)) else (aM (ah (fh) aR (a,(⟨#[]⟩:ByteArray))) (fun c=>some c) (fun b=>if decide (a<0) then ((lF (⟨#[45]⟩) b.2).bind fun d=>some d) else (some b.2)))
def gp (a:Int):Option ByteArray:=
 (oM a).bind fun b=>if b then ((aO ([(⟨#[97]⟩:ByteArray),(⟨#[97,45]⟩:ByteArray),(⟨#[98]⟩:ByteArray),(⟨#[98,45]⟩:ByteArray),(⟨#[99]⟩:ByteArray),(⟨#[99,45]⟩:ByteArray),(⟨#[48]⟩:ByteArray),(⟨#[49]⟩:ByteArray),(⟨#[50]⟩:ByteArray)]) a).bind fun c=>some c) else (some (⟨#[]⟩:ByteArray))
def lN (a:Int×Int×Int×Int):Option ByteArray:=
 (cB a.1 1 99).bind fun b=>if b then ((cB a.2.1 0 4).bind fun c=>if c then ((cB a.2.2.1 0 4).bind fun d=>if d then ((cB a.2.2.2 0 2).bind fun e=>if e then ((cw a.1).bind fun f=>(lF f (⟨#[58]⟩)).bind fun g=>(cw a.2.1).bind fun h=>(lF g h).bind fun i=>(gp (i64.wrap (2*a.2.2.2))).bind fun j=>(lF i j).bind fun k=>(cw a.2.2.1).bind fun l=>(lF k l).bind fun m=>some m) else (some ((⟨#[]⟩:ByteArray)))) else (some ((⟨#[]⟩:ByteArray)))) else (some ((⟨#[]⟩:ByteArray)))) else (some ((⟨#[]⟩:ByteArray)))
def gI (c:List Yq5) (a:ByteArray×Int):Option (Out ByteArray (ByteArray×Int)):=
 if decide (a.2<(c.length:Int)) then (zW (S:=ByteArray) ((aO c a.2).bind fun b=>(lN (b.2.1,b.2.2.1,b.2.2.2.1,b.2.2.2.2)).bind fun d=>if d==((⟨#[]⟩:ByteArray)) then (some (.inl (.ret ((⟨#[]⟩:ByteArray))))) else (Option.bind ((if decide (a.2>0) then ((lF a.1 (⟨#[32]⟩)).bind fun f=>some f) else (some a.1):Option ByteArray)) (fun e=>(aO c a.2).bind fun g=>if g.1 then ((lF e (⟨#[43]⟩)).bind fun h=>(lF h d).bind fun i=>some (.inr i)) else ((lF e (⟨#[45]⟩)).bind fun j=>(lF j d).bind fun k=>some (.inr k))))) (fun l=>some (.nxt (l,i64.wrap (a.2+1))))) else (some (.brk (a.1,a.2)))
def dV (a:List Yq5):Option ByteArray:=
 if decide ((a.length:Int)>6) then (some ((⟨#[]⟩:ByteArray))) else (aM (ah (gI a) aR ((⟨#[]⟩:ByteArray),0)) (fun b=>some b) (fun c=>some c.1))
def iL (b:ByteArray) (a:Int×Int):Option MT:=
 if decide (a.2<((b.size:Nat):Int)) then ((lD b a.2).bind fun c=>some (.nxt (Int.tmod (i64.wrap ((i64.wrap ((i64.wrap (a.1*257))+(i64.wrap c)))+1)) 9973,i64.wrap (a.2+1)))) else (some (.brk (a.1,a.2)))
def jf (a:ByteArray):Option Int:=
 aM (ah (iL a) aR (1,0)) (fun b=>some b) (fun c=>some c.1)
def b6 (b:Int) (a:List Yq5):Option ByteArray:=
 (cB b 1 999).bind fun e=>if e then (if decide ((a.length:Int)>0) then ((dV a).bind fun f=>if f==((⟨#[]⟩:ByteArray)) then (some ((⟨#[]⟩:ByteArray))) else ((cw b).bind fun g=>(lF g (⟨#[59]⟩)).bind fun h=>(dV a).bind fun i=>(lF h i).bind fun j=>(lF j (⟨#[59]⟩)).bind fun c=>(jf c).bind fun k=>(cw k).bind fun l=>(lF c l).bind fun m=>(lF m (⟨#[10]⟩)).bind fun n=>some n)) else ((cw b).bind fun o=>(lF o (⟨#[59]⟩)).bind fun p=>(dV a).bind fun q=>(lF p q).bind fun r=>(lF r (⟨#[59]⟩)).bind fun d=>(jf d).bind fun s=>(cw s).bind fun t=>(lF d t).bind fun u=>(lF u (⟨#[10]⟩)).bind fun v=>some v)) else (some ((⟨#[]⟩:ByteArray)))
def q8 (b:ByteArray) (d:Int) (a:(List ByteArray)×Int×Int):Option (Out (List ByteArray) ((List ByteArray)×Int×Int)):=
 if decide (a.2.2<((b.size:Nat):Int)) then (Option.bind (((lD b a.2.2).bind fun e=>if e==d then ((qT b a.2.1 a.2.2).bind fun f=>(bC 16 a.1 ([f])).bind fun g=>some (g,i64.wrap (a.2.2+1))) else (some (a.1,a.2.1)):Option ((List ByteArray)×Int))) (fun c=>some (.nxt (c.1,c.2,i64.wrap (a.2.2+1))))) else (some (.brk (a.1,a.2.1,a.2.2)))
def iM (a:ByteArray) (c:Int):Option (List ByteArray):=
 aM (ah (q8 a c) aR (([] :List ByteArray),0,0)) (fun d=>some d) (fun b=>(qT a b.2.1 ((a.size:Nat):Int)).bind fun e=>(bC 16 b.1 ([e])).bind fun f=>some f)
def kz (b:ByteArray) (a:Int×Int×Int):Option (Out (Int×Bool) Yq8):=
 if decide (a.2.2<((b.size:Nat):Int)) then (if decide (a.2.2<11) then (Option.bind (((lD b a.2.2).bind fun d=>if decide (d≥48) then ((lD b a.2.2).bind fun e=>if decide (e<=57) then ((lD b a.2.2).bind fun f=>some (i64.wrap ((i64.wrap (a.1*10))+(i64.wrap (IntKind.u8.wrap (f - 48)))),i64.wrap (a.2.1+1))) else (some (a.1,a.2.1))) else (some (a.1,a.2.1)):Option (Int×Int))) (fun c=>some (.nxt (c.1,c.2,i64.wrap (a.2.2+1))))) else (some (.brk (a.1,a.2.1,a.2.2)))) else (some (.brk (a.1,a.2.1,a.2.2)))
def jg (a:ByteArray):Option (Int×Bool):=
 aM (ah (kz a) aR (0,0,0)) (fun e=>some e) (fun b=>if decide (((a.size:Nat):Int)>0) then ((lD a 0).bind fun f=>Option.bind ((if f==45 then (some (i64.wrap (-b.1))) else (some b.1):Option Int)) (fun c=>if decide (b.2.1>9) then (some (0,false)) else (if decide (((a.size:Nat):Int)>10) then (some (0,false)) else ((cw c).bind fun g=>if g !=a then (some (0,false)) else (some (c,true)))))) else (Option.bind ((some b.1:Option Int)) (fun d=>if decide (b.2.1>9) then (some (0,false)) else (if decide (((a.size:Nat):Int)>10) then (some (0,false)) else ((cw d).bind fun h=>if h !=a then (some (0,false)) else (some (d,true)))))))
def mZ (b:ByteArray) (a:Int):Option (Out (Int×Bool) Int):=
 if decide (a<9) then ((gp a).bind fun c=>if c==b then (some (.ret (a,true))) else (some (.nxt (i64.wrap (a+1))))) else (some (.brk a))
def iN (a:ByteArray):Option (Int×Bool):=
 aM (ah (mZ a) aR 0) (fun r=>some r) (fun b=>some (0,false))
def jn (b:ByteArray):Option (Yq1×Bool):=
 (iM b 58).bind fun a=>if (a.length:Int) !=2 then (some ((0,0,0,0),false)) else ((aO a 1).bind fun g=>if ((g.size:Nat):Int) !=3 then (some ((0,0,0,0),false)) else ((aO a 0).bind fun h=>(jg h).bind fun c=>(aO a 1).bind fun i=>(qT i 1 2).bind fun j=>(iN j).bind fun d=>(aO a 1).bind fun k=>(lD k 0).bind fun e=>(aO a 1).bind fun l=>(lD l 2).bind fun f=>(lN (c.1,i64.wrap ((i64.wrap e) - 48),i64.wrap ((i64.wrap f) - 48),EZ d.1 2)).bind fun m=>if m !=b then (some ((0,0,0,0),false)) else (some ((c.1,i64.wrap ((i64.wrap e) - 48),i64.wrap ((i64.wrap f) - 48),EZ d.1 2),true))))
def eB (c:List ByteArray) (a:Int×List Yq5):Option (Out ((List Yq5)×Bool) (Int×List Yq5)):=
 if decide (a.1<(c.length:Int)) then (if decide (a.1<=6) then ((aO c a.1).bind fun e=>if decide (((e.size:Nat):Int)<2) then (some (.ret (([] :List Yq5),false))) else ((aO c a.1).bind fun d=>(qT d 1 ((d.size:Nat):Int)).bind fun f=>(jn f).bind fun b=>if b.2 then ((aO c a.1).bind fun g=>(lD g 0).bind fun h=>(bC 40 a.2 ([(h==43,b.1.1,b.1.2.1,b.1.2.2.1,b.1.2.2.2)])).bind fun i=>some (.nxt (i64.wrap (a.1+1),i))) else (some (.ret (([] :List Yq5),false))))) else (some (.brk (a.1,a.2)))) else (some (.brk (a.1,a.2)))
def ic (a:ByteArray):Option ((List Yq5)×Bool):=
 if a==((⟨#[]⟩:ByteArray)) then (some (([] :List Yq5),true)) else ((iM a 32).bind fun c=>aM (ah (eB c) aR (0,([] :List Yq5))) (fun d=>some d) (fun b=>(dV b.2).bind fun e=>if e !=a then (some (([] :List Yq5),false)) else (some (b.2,true))))
def gq (d:ByteArray):Option (Int×((List (Bool×Yq1)))×Bool):=
 (iM d 59).bind fun a=>if (a.length:Int) !=3 then (some (0,[],false)) else ((aO a 0).bind fun e=>(jg e).bind fun b=>(aO a 1).bind fun f=>(ic f).bind fun c=>if b.2 then (if c.2 then ((b6 b.1 c.1).bind fun g=>if g !=d then (some (0,[],false)) else (some (b.1,c.1,true))) else (some (0,[],false))) else (some (0,[],false)))
def aF (c:ByteArray) (a:(List Int)×(List (List Yq5))×Int×Int):Option (Out ((List Int)×(List (List Yq5))×Int) ((List Int)×(List (List Yq5))×Int×Int)):=
 if decide (a.2.2.2<((c.size:Nat):Int)) then (if decide (((c.size:Nat):Int)<=4000) then (zW (S:=(List Int)×(List (List Yq5))×Int) ((lD c a.2.2.2).bind fun e=>if e !=10 then (some (.inr (a.1,a.2.1,a.2.2.1))) else ((qT c a.2.2.1 (i64.wrap (a.2.2.2+1))).bind fun f=>(gq f).bind fun b=>if b.2.2 then (if decide ((a.1.length:Int)>0) then ((aO a.1 (i64.wrap ((a.1.length:Int) - 1))).bind fun g=>if b.1 !=(i64.wrap (g+1)) then (some (.inl (.ret (a.1,a.2.1,a.2.2.1)))) else ((bC 8 a.1 ([b.1])).bind fun h=>(bC 24 a.2.1 ([b.2.1])).bind fun i=>some (.inr (h,i,i64.wrap (a.2.2.2+1))))) else ((bC 8 a.1 ([b.1])).bind fun j=>(bC 24 a.2.1 ([b.2.1])).bind fun k=>some (.inr (j,k,i64.wrap (a.2.2.2+1))))) else (some (.inl (.ret (a.1,a.2.1,a.2.2.1)))))) (fun d=>some (.nxt (d.1,d.2.1,d.2.2,i64.wrap (a.2.2.2+1))))) else (some (.brk (a.1,a.2.1,a.2.2.1,a.2.2.2)))) else (some (.brk (a.1,a.2.1,a.2.2.1,a.2.2.2)))
def m_s_ScanLog (b:ByteArray):Option ((List Int)×(List (List Yq5))×Int):=
 aM (ah (aF b) aR (([] :List Int),([] :List (List Yq5)),0,0)) (fun c=>some c) (fun a=>some (a.1,a.2.1,a.2.2.1))
def vU (a:BB×wL×(List Yq8)×ByteArray):Option Bool:=
 (m_s_ScanLog a.2.2.2).bind fun b=>if b.2.2==(a.2.2.2.size:Int) then (if decide ((a.2.2.2.size:Int)<=4000) then (if (b.1.length:Int)==0 then (some true) else ((aO b.1 (i64.wrap ((b.1.length:Int) - 1))).bind fun c=>(aL (a.1.1,a.1.2)).bind fun d=>some (c==d))) else (some false)) else (some false)
def bw (a:BB×wL×(List Yq8)×ByteArray):Option Bool:=
 (m_s_IsValidHistory (a.1.1,a.1.2)).bind fun b=>if b then ((m_s_IsValidRegistry (a.2.1.1,a.2.1.2)).bind fun c=>if c then ((tq ((a.1.1,a.1.2),(a.2.1.1,a.2.1.2),a.2.2.1,a.2.2.2)).bind fun d=>if d then ((vU ((a.1.1,a.1.2),(a.2.1.1,a.2.1.2),a.2.2.1,a.2.2.2)).bind fun e=>some e) else (some false)) else (some false)) else (some false)
def na (d:Int) (b:(List Int)×(List (List Yq5))×Int) (a:ByteArray×Int×List (List Yq5)):Option (Out ByteArray (ByteArray×Int×List (List Yq5))):=
 if decide (a.2.1<(b.1.length:Int)) then (Option.bind (((aO b.1 a.2.1).bind fun e=>if decide (e>d) then ((aO b.1 a.2.1).bind fun f=>(aO a.2.2 a.2.1).bind fun g=>(b6 f g).bind fun h=>(lF a.1 h).bind fun i=>some (i,a.2.2)) else (some (a.1,a.2.2)):Option (ByteArray×List (List Yq5)))) (fun c=>some (.nxt (c.1,i64.wrap (a.2.1+1),c.2)))) else (some (.brk (a.1,a.2.1,a.2.2)))
def pW (b:ByteArray) (c:Int):Option ByteArray:=
 (m_s_ScanLog b).bind fun a=>aM (ah (na c a) aR ((⟨#[]⟩:ByteArray),0,a.2.1)) (fun d=>some d) (fun e=>some e.1)
def bQ (a:BB×wL×(List Yq8)×ByteArray) (d:Int):Option (VD×Bool):=
 (ko ((a.1.1,a.1.2),(a.2.1.1,a.2.1.2),a.2.2.1,a.2.2.2)).bind fun b=>(cH (a.1.1,a.1.2) d).bind fun c=>(bw ((a.1.1,a.1.2),(a.2.1.1,a.2.1.2),a.2.2.1,a.2.2.2)).bind fun e=>if e then (if c.2 then ((pW a.2.2.2 d).bind fun f=>some (((c.1.1,c.1.2),(b.2.1.1,b.2.1.2),b.2.2.1,f),true)) else (some (((b.1.1,b.1.2),(b.2.1.1,b.2.1.2),b.2.2.1,b.2.2.2),false))) else (some (((b.1.1,b.1.2),(b.2.1.1,b.2.1.2),b.2.2.1,b.2.2.2),false))
def ig (b:(List Int)×(List Yq1)) (c:Int):Option (BB×Bool):=
 (b7 (b.1,b.2)).bind fun a=>(m_s_IsValidHistory (c,[(a.1,a.2)])).bind fun d=>if d then (some ((c,[(a.1,a.2)]),true)) else (some ((0,[]),false))
def pF (b:(List Int)×(List Yq1)):Option (VD×Bool):=
 (ig (b.1,b.2) 1).bind fun a=>if a.2 then (some (((a.1.1,a.1.2),([],[]),[],⟨#[]⟩),true)) else (some (((0,[]),([],[]),[],⟨#[]⟩),false))
def bS (a:(List Int)×Int×Int) (c:List Int):Option Yq8:=
 (aN (a.1,a.2.1,a.2.2) (c.length:Int)).bind fun b=>(aO c b.1).bind fun d=>some (d,b.2.1,b.2.2)
def eO (c:(List Int)×Int×Int) (a:Int×Int×Int×(List Int)×List Yq1):Option (Out (wE×Int×Int) (Int×Int×Int×(List Int)×List Yq1)):=
 if decide (a.1>0) then ((aN (c.1,a.2.1,a.2.2.1) 3).bind fun b=>(bC 8 a.2.2.2.1 ([b.1])).bind fun d=>some (.nxt (i64.wrap (a.1 - 1),b.2.1,b.2.2,d,a.2.2.2.2))) else (some (.brk (a.1,a.2.1,a.2.2.1,a.2.2.2.1,a.2.2.2.2)))
def ij (b:(List Int)×Int×Int) (a:Int×Int×Int×Int×(List Int)×List Yq1):Option (Out (wE×Int×Int) (Int×Int×Int×Int×(List Int)×List Yq1)):=
 if decide (a.2.1>0) then ((aN (b.1,a.2.2.1,a.2.2.2.1) 3).bind fun c=>(aN (b.1,c.2.1,c.2.2) (a.2.2.2.2.1.length:Int)).bind fun d=>(aN (b.1,d.2.1,d.2.2) (a.2.2.2.2.1.length:Int)).bind fun e=>(bS (b.1,e.2.1,e.2.2) ([0,0,1,2])).bind fun f=>(bC 32 a.2.2.2.2.2 ([(i64.wrap ((i64.wrap (a.1+1))+c.1),d.1,e.1,f.1)])).bind fun g=>some (.nxt (i64.wrap ((i64.wrap (a.1+1))+c.1),i64.wrap (a.2.1 - 1),f.2.1,f.2.2,a.2.2.2.2.1,g))) else (some (.brk (a.1,a.2.1,a.2.2.1,a.2.2.2.1,a.2.2.2.2.1,a.2.2.2.2.2)))
def kA (a:(List Int)×Int×Int):Option (wE×Int×Int):=
 (bS (a.1,a.2.1,a.2.2) ([2,3,4,4,5])).bind fun d=>aM (ah (eO a) aR (d.1,d.2.1,d.2.2,([] :List Int),([] :List Yq1))) (fun g=>some g) (fun b=>(bS (a.1,b.2.1,b.2.2.1) ([4,8,11])).bind fun e=>(aN (a.1,e.2.1,e.2.2) e.1).bind fun f=>aM (ah (ij a) aR (0,f.1,f.2.1,f.2.2,b.2.2.2.1,b.2.2.2.2)) (fun h=>some h) (fun c=>some ((c.2.2.2.2.1,c.2.2.2.2.2),c.2.2.1,c.2.2.2.1)))
def pv (b:(List Yq2)×Yq3) (c:Int) (a:Int):Option (Out (wL×Bool) Int):=
 if decide (a<(b.2.length:Int)) then ((aO b.2 a).bind fun d=>if decide (d.1<c) then (some (.nxt (i64.wrap (a+1)))) else (some (.brk a))) else (some (.brk a))
def iO (a:(List Yq2)×Yq3) (c:Int) (h:(List Yq1)):Option (wL×Bool):=
 (m_s_IsValidRegistry (a.1,a.2)).bind fun i=>if i then ((ct (a.1,a.2) c).bind fun j=>if decide (j≥0) then ((mq (a.1,a.2)).bind fun e=>some ((e.1,e.2),false)) else (aM (ah (pv a c) aR 0) (fun r=>some r) (fun b=>(chk (0<=b/\b<=(a.2.length:Int))).bind fun _=>(bC 40 ([] :List H0) (a.2.take b.toNat)).bind fun k=>(bC 40 k ([(c,h,0)])).bind fun l=>(chk (0<=b/\b<=(a.2.length:Int))).bind fun _=>(bC 40 l (a.2.drop b.toNat)).bind fun m=>(cQ m).bind fun d=>if d.2 then (some ((d.1.1,d.1.2),true)) else ((mq (a.1,a.2)).bind fun f=>some ((f.1,f.2),false))))) else ((mq (a.1,a.2)).bind fun g=>some ((g.1,g.2),false))
def gJ (b:BB×wL×(List Yq8)×ByteArray) (d:Int) (e:(List Yq1)):Option (VD×Bool):=
 (ko ((b.1.1,b.1.2),(b.2.1.1,b.2.1.2),b.2.2.1,b.2.2.2)).bind fun a=>(iO (b.2.1.1,b.2.1.2) d e).bind fun c=>(bw ((b.1.1,b.1.2),(b.2.1.1,b.2.1.2),b.2.2.1,b.2.2.2)).bind fun f=>if f then (if c.2 then (some (((a.1.1,a.1.2),(c.1.1,c.1.2),a.2.2.1,a.2.2.2),true)) else (some (((a.1.1,a.1.2),(a.2.1.1,a.2.1.2),a.2.2.1,a.2.2.2),false))) else (some (((a.1.1,a.1.2),(a.2.1.1,a.2.1.2),a.2.2.1,a.2.2.2),false))
def C5 (a:Int×Int×Int×Int):Option ByteArray:=
 if a.1==1 then (some (⟨#[33]⟩)) else (if a.1==2 then (some (⟨#[40,41]⟩)) else (if a.1==3 then ((gp a.2.1).bind fun b=>some b) else (if a.1==4 then (some (⟨#[46]⟩)) else (if a.1==5 then (some (⟨#[124]⟩)) else (if a.1==6 then (some (⟨#[42]⟩)) else ((cw a.2.2.1).bind fun c=>(lF (⟨#[123]⟩) c).bind fun d=>(lF d (⟨#[44]⟩)).bind fun e=>(cw a.2.2.2).bind fun f=>(lF e f).bind fun g=>(lF g (⟨#[125]⟩)).bind fun h=>some h))))))
def G6 (b:ByteArray) (a:Int):Option (Out Yq1 Int):=
 if decide (a<=6) then (if a !=3 then ((C5 (a,0,0,0)).bind fun c=>if c==b then (some (.ret (a,0,0,0))) else (some (.nxt (i64.wrap (a+1))))) else (some (.nxt (i64.wrap (a+1))))) else (some (.brk a))
def Fs (a:ByteArray):Option Yq1:=
 aM (ah (G6 a) aR 1) (fun c=>some c) (fun i=>(iN a).bind fun b=>if b.2 then (some (3,b.1,0,0)) else (if ((a.size:Nat):Int)==5 then ((lD a 0).bind fun d=>if d==123 then ((lD a 2).bind fun e=>if e==44 then ((lD a 4).bind fun f=>if f==125 then ((lD a 1).bind fun g=>(lD a 3).bind fun h=>some (7,0,i64.wrap ((i64.wrap g) - 48),i64.wrap ((i64.wrap h) - 48))) else (some (0,0,0,0))) else (some (0,0,0,0))) else (some (0,0,0,0))) else (some (0,0,0,0))))
def BC (c:List ByteArray) (a:Int×(List Yq1)):Option (Out (((List Yq1))×Bool) (Int×(List Yq1))):=
 if decide (a.1<(c.length:Int)) then (if decide (a.1<=24) then ((aO c a.1).bind fun d=>(Fs d).bind fun b=>(bC 32 a.2 ([(b.1,b.2.1,b.2.2.1,b.2.2.2)])).bind fun e=>some (.nxt (i64.wrap (a.1+1),e))) else (some (.brk (a.1,a.2)))) else (some (.brk (a.1,a.2)))
def lj (b:ByteArray):Option (((List Yq1))×Bool):=
 (iM b 32).bind fun c=>aM (ah (BC c) aR (0,[])) (fun r=>some r) (fun a=>(kp a.2).bind fun d=>if d then (some (a.2,true)) else (some ([],false)))
def vV (a:(List Int)×Int×Int) (c:List ByteArray):Option (ByteArray×Int×Int):=
 (aN (a.1,a.2.1,a.2.2) (c.length:Int)).bind fun b=>(aO c b.1).bind fun d=>some (d,b.2.1,b.2.2)
def nU (a:(List Int)×Int×Int):Option ((List Yq1)×Int×Int):=
 (vV (a.1,a.2.1,a.2.2) ([⟨#[97]⟩,⟨#[97,32,98,32,46]⟩,⟨#[97,32,42]⟩,⟨#[97,32,98,32,124,32,42]⟩,⟨#[97,32,97,45,32,46]⟩,⟨#[97,32,42,32,98,32,46]⟩,⟨#[97,32,98,32,42,32,46,32,99,32,46]⟩,⟨#[97,32,97,32,124,32,42]⟩,⟨#[97,32,98,32,46,32,42]⟩,⟨#[48,32,97,32,46,32,42]⟩,⟨#[97,32,49,32,46,32,98,32,46]⟩,⟨#[97,32,123,48,44,50,125]⟩,⟨#[97,32,98,32,124,32,123,49,44,51,125]⟩,⟨#[40,41]⟩,⟨#[33]⟩,⟨#[97,45,32,42,32,97,32,46]⟩,⟨#[97,32,98,45,32,46,32,42,32,99,32,124]⟩,⟨#[97,32,42,32,97,32,42,32,46]⟩,⟨#[97,32,48,32,124,32,42,32,98,32,46]⟩,⟨#[97,32,97,32,46,32,42]⟩,⟨#[97,32,98,32,46,32,98,32,97,32,46,32,124,32,42]⟩])).bind fun b=>(lj b.1).bind fun c=>some (c.1,b.2.1,b.2.2)
def dR (b:List Yq8) (c:Int) (a:Int):Option (Out Int Int):=
 if decide (a<(b.length:Int)) then ((aO b a).bind fun d=>if d.1==c then (some (.ret a)) else (some (.nxt (i64.wrap (a+1))))) else (some (.brk a))
def jo (a:List Yq8) (b:Int):Option Int:=
 aM (ah (dR a b) aR 0) (fun r=>some r) (fun c=>some (-1))
def gg (b:BB×wL×(List Yq8)×ByteArray) (c:Int) (a:Int):Option (Out (VD×Bool) Int):=
 if decide (a<(b.2.2.1.length:Int)) then ((aO b.2.2.1 a).bind fun d=>if decide (d.1<c) then (some (.nxt (i64.wrap (a+1)))) else (some (.brk a))) else (some (.brk a))
def fM (b:BB×wL×(List Yq8)×ByteArray) (d:Int) (e:Int):Option (VD×Bool):=
 (ko ((b.1.1,b.1.2),(b.2.1.1,b.2.1.2),b.2.2.1,b.2.2.2)).bind fun a=>(bw ((b.1.1,b.1.2),(b.2.1.1,b.2.1.2),b.2.2.1,b.2.2.2)).bind fun f=>if f then ((cB d 1 99).bind fun g=>if g then ((jo b.2.2.1 d).bind fun h=>if decide (h≥0) then (some (((a.1.1,a.1.2),(a.2.1.1,a.2.1.2),a.2.2.1,a.2.2.2),false)) else ((ct (b.2.1.1,b.2.1.2) e).bind fun i=>if decide (i<0) then (some (((a.1.1,a.1.2),(a.2.1.1,a.2.1.2),a.2.2.1,a.2.2.2),false)) else (if (b.2.2.1.length:Int)==4 then (some (((a.1.1,a.1.2),(a.2.1.1,a.2.1.2),a.2.2.1,a.2.2.2),false)) else (aM (ah (gg b d) aR 0) (fun r=>some r) (fun c=>(chk (0<=c/\c<=(b.2.2.1.length:Int))).bind fun _=>(bC 24 ([] :List Yq8) (b.2.2.1.take c.toNat)).bind fun j=>(bC 24 j ([(d,e,0)])).bind fun k=>(chk (0<=c/\c<=(b.2.2.1.length:Int))).bind fun _=>(bC 24 k (b.2.2.1.drop c.toNat)).bind fun l=>some (((a.1.1,a.1.2),(a.2.1.1,a.2.1.2),l,a.2.2.2),true)))))) else (some (((a.1.1,a.1.2),(a.2.1.1,a.2.1.2),a.2.2.1,a.2.2.2),false))) else (some (((a.1.1,a.1.2),(a.2.1.1,a.2.1.2),a.2.2.1,a.2.2.2),false))
def jq (a:Int×(List Yq6)) (b:(List Yq2)×Yq3) (c:Int×Int×Int):Option Bool:=
 (m_s_IsValidHistory (a.1,a.2)).bind fun d=>if d then ((m_s_IsValidRegistry (b.1,b.2)).bind fun e=>if e then ((ct (b.1,b.2) c.2.1).bind fun f=>if decide (f≥0) then (if decide (c.2.2≥0) then ((aL (a.1,a.2)).bind fun g=>some (decide (c.2.2<g))) else (some false)) else (some false)) else (some false)) else (some false)
def dk (a:(List Yq2)×Yq3) (e:Int):Option (Yq2×Bool):=
 (ct (a.1,a.2) e).bind fun d=>(m_s_IsValidRegistry (a.1,a.2)).bind fun f=>if f then (if decide (d<0) then (some ((0,[],[]),false)) else ((aO a.2 d).bind fun g=>(aO a.1 g.2.2).bind fun b=>(qf (b.1,b.2.1,b.2.2)).bind fun c=>some ((c.1,c.2.1,c.2.2),true))) else (some ((0,[],[]),false))
def jP (b:Int×(List Bool)×(List (List Int))) (c:Int) (a:Int):Option (Out Bool Int):=
 if decide (a<9) then ((aO b.2.2 c).bind fun d=>(aO d a).bind fun e=>(cB e (-1) (i64.wrap ((b.2.1.length:Int) - 1))).bind fun f=>if f then (some (.nxt (i64.wrap (a+1)))) else (some (.ret false))) else (some (.brk a))
def oB (b:Int×(List Bool)×(List (List Int))) (a:Int):Option (Out Bool Int):=
 if decide (a<(b.2.1.length:Int)) then ((aO b.2.2 a).bind fun c=>if (c.length:Int) !=9 then (some (.ret false)) else (aM (ah (jP b a) aR 0) (fun r=>some (.ret r)) (fun d=>some (.nxt (i64.wrap (a+1)))))) else (some (.brk a))
def qm (a:Int×(List Bool)×(List (List Int))):Option Bool:=
 (cB a.1 0 (i64.wrap ((a.2.1.length:Int) - 1))).bind fun b=>if b then (if (a.2.2.length:Int) !=(a.2.1.length:Int) then (some false) else (aM (ah (oB a) aR 0) (fun r=>some r) (fun c=>some true))) else (some false)
def dh (a:Int×(List Bool)×(List (List Int))):Option Bool:=
 if decide ((a.2.1.length:Int)<=12) then ((qm (a.1,a.2.1,a.2.2)).bind fun b=>some b) else (some false)
def il (b:(List Int)×(List Yq1)) (a:Int×(List Bool)×(List (List Int))) (c:Int) (d:Int):Option Bool:=
 (aY (b.1,b.2)).bind fun e=>if e then ((dh (a.1,a.2.1,a.2.2)).bind fun f=>if f then ((cB c 0 (i64.wrap ((b.1.length:Int) - 1))).bind fun g=>if g then ((cB d 0 (i64.wrap ((a.2.1.length:Int) - 1))).bind fun h=>some h) else (some false)) else (some false)) else (some false)
def gr (b:(List Int)×(List Yq1)) (c:Int) (a:Int):Option (Out Int Int):=
 if decide (a<(b.2.length:Int)) then ((aO b.2 a).bind fun d=>if d.1==c then (some (.ret a)) else (some (.nxt (i64.wrap (a+1))))) else (some (.brk a))
def dW (a:(List Int)×(List Yq1)) (b:Int):Option Int:=
 aM (ah (gr a b) aR 0) (fun r=>some r) (fun c=>some (-1))
def eC (b:Int×(List Bool)×(List (List Int))) (c:Int) (a:Int×Int):Option MT:=
 if decide (a.1≥0) then ((chk (0<=a.1)).bind fun _=>if (sd (pA a.2 a.1) 1)==0 then ((chk (0<=a.1)).bind fun _=>(aO b.2.2 a.1).bind fun d=>(aO d (i64.wrap (6+c))).bind fun e=>some (.nxt (e,orI a.2 (yj 1 a.1)))) else (some (.brk (a.1,a.2)))) else (some (.brk (a.1,a.2)))
def dx (a:Int×(List Bool)×(List (List Int))) (b:Int) (c:Int):Option Int:=
 aM (ah (eC a c) aR (b,0)) (fun r=>some r) (fun d=>some d.2)
def nc (b:(List Int)×(List Yq1)) (c:Int) (a:(List (Int×Bool))×Int):Option (Out (List (Int×Bool)) ((List (Int×Bool))×Int)):=
 if decide (a.2<(b.2.length:Int)) then (Option.bind ((Option.bind (((aO b.2 a.2).bind fun e=>if e.2.1==c then ((aO b.2 a.2).bind fun f=>(bC 16 a.1 ([(f.1,false)])).bind fun g=>some g) else (some a.1):Option (List (Int×Bool)))) (fun d=>(aO b.2 a.2).bind fun h=>if h.2.2.1==c then ((aO b.2 a.2).bind fun i=>(bC 16 d ([(i.1,true)])).bind fun j=>some j) else (some d)):Option (List (Int×Bool)))) (fun k=>some (.nxt (k,i64.wrap (a.2+1))))) else (some (.brk (a.1,a.2)))
def sw (a:(List Int)×(List Yq1)) (b:Int):Option (List (Int×Bool)):=
 aM (ah (nc a b) aR (([] :List (Int×Bool)),0)) (fun r=>some r) (fun c=>some c.1)
def jr (a:Int×Int×Int×Int) (b:Bool):Option Int:=
 if b then (some (i64.wrap ((i64.wrap (2*a.2.2.2))+1))) else (some (i64.wrap (2*a.2.2.2)))
def qn (a:Int×Int×Int×Int) (b:Bool):Option Int:=
 if b then (some a.2.1) else (some a.2.2.1)
def kB (d:Int×(List Bool)×(List (List Int))) (e:Int) (f:List (Int×Bool)) (g:(List C4)×Int) (b:Int×Int×Int×Int) (a:Int×Int):Option (Out (List C4) (Int×Int)):=
 if decide (a.2<(d.2.1.length:Int)) then (Option.bind (((aO d.2.2 a.2).bind fun h=>(aO f g.2).bind fun i=>(jr (b.1,b.2.1,b.2.2.1,b.2.2.2) i.2).bind fun j=>(aO h j).bind fun c=>(chk (0<=a.2)).bind fun _=>if (sd (pA e a.2) 1)==1 then (if decide (c≥0) then ((chk (0<=c)).bind fun _=>some (orI a.1 (yj 1 c))) else (some a.1)) else (some a.1):Option Int)) (fun k=>some (.nxt (k,i64.wrap (a.2+1))))) else (some (.brk (a.1,a.2)))
def kC (f:Int×(List Bool)×(List (List Int))) (c:List (Int×Bool)) (d:(List C4)×Int) (b:Int×Int×Int×Int) (g:Int×Int) (a:(List C4)×Int):Option (Out (List C4) ((List C4)×Int)):=
 if decide (a.2<(f.2.1.length:Int)) then (Option.bind (((chk (0<=a.2)).bind fun _=>if (sd (pA g.1 a.2) 1)==1 then ((aO c d.2).bind fun e=>(aO c d.2).bind fun h=>(qn (b.1,b.2.1,b.2.2.1,b.2.2.2) h.2).bind fun i=>(bC 32 a.1 ([((e.1,e.2),i,a.2)])).bind fun j=>some j) else (some a.1):Option (List C4))) (fun k=>some (.nxt (k,i64.wrap (a.2+1))))) else (some (.brk (a.1,a.2)))
def kD (c:(List Int)×(List Yq1)) (d:Int×(List Bool)×(List (List Int))) (f:Int) (b:List (Int×Bool)) (a:(List C4)×Int):Option (Out (List C4) ((List C4)×Int)):=
 if decide (a.2<(b.length:Int)) then ((aO b a.2).bind fun g=>(dW (c.1,c.2) g.1).bind fun h=>(aO c.2 h).bind fun e=>aM (ah (kB d f b a e) aR (0,0)) (fun r=>some (.ret r)) (fun i=>aM (ah (kC d b a e i) aR (a.1,0)) (fun r=>some (.ret r)) (fun j=>some (.nxt (j.1,i64.wrap (a.2+1)))))) else (some (.brk (a.1,a.2)))
def oO (a:(List Int)×(List Yq1)) (b:Int×(List Bool)×(List (List Int))) (c:Int) (d:Int):Option (List C4):=
 (aO a.1 c).bind fun e=>(dx (b.1,b.2.1,b.2.2) d e).bind fun f=>(sw (a.1,a.2) c).bind fun g=>aM (ah (kD a b f g) aR (([] :List C4),0)) (fun r=>some r) (fun h=>some h.1)
def kE (b:(List Int)×(List Yq1)) (c:Int×(List Bool)×(List (List Int))) (a:(List Int)×Int):Option TJ:=
 if decide (a.2<i64.wrap ((b.1.length:Int)*(c.2.1.length:Int))) then ((bC 8 a.1 ([-1])).bind fun d=>some (.nxt (d,i64.wrap (a.2+1)))) else (some (.brk (a.1,a.2)))
def kF (b:Int×(List Bool)×(List (List Int))) (g:(List Int)×(List Int)×Int) (e:List C4) (a:(List Int)×(List Int)×Int):Option (Out (List Int) ((List Int)×(List Int)×Int)):=
 if decide (a.2.2<(e.length:Int)) then (Option.bind (((aO e a.2.2).bind fun c=>(aO e a.2.2).bind fun d=>(aO a.1 (i64.wrap ((i64.wrap (c.2.1*(b.2.1.length:Int)))+d.2.2))).bind fun h=>if decide (h<0) then ((aO a.2.1 g.2.2).bind fun i=>(aO a.1 i).bind fun j=>(aO a.1 (i64.wrap ((i64.wrap (c.2.1*(b.2.1.length:Int)))+d.2.2))).bind fun l=>(bC 8 a.2.1 ([i64.wrap ((i64.wrap (c.2.1*(b.2.1.length:Int)))+d.2.2)])).bind fun k=>some (a.1.set (i64.wrap ((i64.wrap (c.2.1*(b.2.1.length:Int)))+d.2.2)).toNat (i64.wrap (j+1)),k)) else (some (a.1,a.2.1)):Option ((List Int)×(List Int)))) (fun f=>some (.nxt (f.1,f.2,i64.wrap (a.2.2+1))))) else (some (.brk (a.1,a.2.1,a.2.2)))
def kG (c:(List Int)×(List Yq1)) (b:Int×(List Bool)×(List (List Int))) (a:(List Int)×(List Int)×Int):Option (Out (List Int) ((List Int)×(List Int)×Int)):=
 if decide (a.2.2<(a.2.1.length:Int)) then ((aO a.2.1 a.2.2).bind fun e=>(chk ((b.2.1.length:Int)≠0)).bind fun _=>(aO a.2.1 a.2.2).bind fun f=>(chk ((b.2.1.length:Int)≠0)).bind fun _=>(oO (c.1,c.2) (b.1,b.2.1,b.2.2) (EZ e (b.2.1.length:Int)) (Int.tmod f (b.2.1.length:Int))).bind fun g=>aM (ah (kF b a g) aR (a.1,a.2.1,0)) (fun r=>some (.ret r)) (fun d=>some (.nxt (d.1,d.2.1,i64.wrap (a.2.2+1))))) else (some (.brk (a.1,a.2.1,a.2.2)))
def oP (b:(List Int)×(List Yq1)) (a:Int×(List Bool)×(List (List Int))) (c:Int):Option (List Int):=
 aM (ah (kE b a) aR (([] :List Int),0)) (fun r=>some r) (fun d=>(aO ([i64.wrap ((i64.wrap (c*(a.2.1.length:Int)))+a.1)]) 0).bind fun e=>(aO d.1 e).bind fun g=>aM (ah (kG b a) aR (d.1.set e.toNat 0,[i64.wrap ((i64.wrap (c*(a.2.1.length:Int)))+a.1)],0)) (fun r=>some r) (fun f=>some f.1))
def iP (b:Int×(List Bool)×(List (List Int))) (c:Int) (a:Int):Option (Out Bool Int):=
 if decide (a<(b.2.1.length:Int)) then ((chk (0<=a)).bind fun _=>if (sd (pA c a) 1)==1 then ((aO b.2.1 a).bind fun d=>if d then (some (.ret true)) else (some (.nxt (i64.wrap (a+1))))) else (some (.nxt (i64.wrap (a+1))))) else (some (.brk a))
def lO (b:(List Int)×(List Yq1)) (a:Int×(List Bool)×(List (List Int))) (c:Int) (d:Int):Option Bool:=
 (aO b.1 c).bind fun e=>(dx (a.1,a.2.1,a.2.2) d e).bind fun f=>aM (ah (iP a f) aR 0) (fun r=>some r) (fun g=>some false)
def oQ (b:Int) (a:(List Int)×Int):Option TJ:=
 if decide (a.2<30) then (Option.bind (((chk (0<=a.2)).bind fun _=>if (sd (pA b a.2) 1)==1 then ((bC 8 a.1 ([a.2])).bind fun c=>some c) else (some a.1):Option (List Int))) (fun d=>some (.nxt (d,i64.wrap (a.2+1))))) else (some (.brk (a.1,a.2)))
def yI (a:Int):Option (List Int):=
 aM (ah (oQ a) aR (([] :List Int),0)) (fun r=>some r) (fun b=>some b.1)
def lP (c:(List Int)×(List Yq1)) (b:Int×(List Bool)×(List (List Int))) (d:List Int) (a:Int×Int):Option (Out (List Int) (Int×Int)):=
 if decide (a.2<(d.length:Int)) then (Option.bind (((aO d a.2).bind fun e=>if decide (e≥0) then ((chk ((b.2.1.length:Int)≠0)).bind fun _=>(chk ((b.2.1.length:Int)≠0)).bind fun _=>(lO (c.1,c.2) (b.1,b.2.1,b.2.2) (EZ a.2 (b.2.1.length:Int)) (Int.tmod a.2 (b.2.1.length:Int))).bind fun f=>if f then ((chk ((b.2.1.length:Int)≠0)).bind fun _=>(chk (0<=EZ a.2 (b.2.1.length:Int))).bind fun _=>some (orI a.1 (yj 1 (EZ a.2 (b.2.1.length:Int))))) else (some a.1)) else (some a.1):Option Int)) (fun g=>some (.nxt (g,i64.wrap (a.2+1))))) else (some (.brk (a.1,a.2)))
def qo (b:(List Int)×(List Yq1)) (a:Int×(List Bool)×(List (List Int))) (c:Int):Option (List Int):=
 (oP (b.1,b.2) (a.1,a.2.1,a.2.2) c).bind fun d=>aM (ah (lP b a d) aR (0,0)) (fun r=>some r) (fun e=>(yI e.1).bind fun f=>some f)
def iQ (c:Yq7×Int) (b:List Int) (a:Yq7×Int):Option (Out Yq7 (Yq7×Int)):=
 if decide (a.2<(b.length:Int)) then ((aO b a.2).bind fun d=>(bC 16 a.1 ([(c.2,d)])).bind fun e=>some (.nxt (e,i64.wrap (a.2+1)))) else (some (.brk (a.1,a.2)))
def bI (c:(List Int)×(List Yq1)) (b:Int×(List Bool)×(List (List Int))) (a:Yq7×Int):Option (Out Yq7 (Yq7×Int)):=
 if decide (a.2<(c.1.length:Int)) then ((il (c.1,c.2) (b.1,b.2.1,b.2.2) 0 0).bind fun d=>if d then ((qo (c.1,c.2) (b.1,b.2.1,b.2.2) a.2).bind fun e=>aM (ah (iQ a e) aR (a.1,0)) (fun r=>some (.ret r)) (fun f=>some (.nxt (f.1,i64.wrap (a.2+1))))) else (some (.brk (a.1,a.2)))) else (some (.brk (a.1,a.2)))
def fG (a:(List Int)×(List Yq1)) (b:Int×(List Bool)×(List (List Int))):Option Yq7:=
 aM (ah (bI a b) aR (([] :List (Int×Int)),0)) (fun r=>some r) (fun c=>some c.1)
def bA (c:(List Yq2)×Yq3) (a:(List Int)×(List Yq1)) (d:Int):Option (Yq7×Bool):=
 (dk (c.1,c.2) d).bind fun b=>if b.2 then ((aY (a.1,a.2)).bind fun e=>if e then ((fG (a.1,a.2) (b.1.1,b.1.2.1,b.1.2.2)).bind fun f=>some (f,true)) else (some (([] :List (Int×Int)),false))) else (some (([] :List (Int×Int)),false))
def eD (a:Int×(List Yq6)) (b:Int):Option (Yq6×Bool):=
 (m_s_IsValidHistory (a.1,a.2)).bind fun e=>if e then ((aL (a.1,a.2)).bind fun f=>(cB b a.1 f).bind fun g=>if g then ((aO a.2 (i64.wrap (b - a.1))).bind fun c=>(b7 (c.1,c.2)).bind fun d=>some ((d.1,d.2),true)) else (some (([],[]),false))) else (some (([],[]),false))
def pG (b:List (Int×Int)) (c:Int×Int) (a:Int):Option (Out Bool Int):=
 if decide (a<(b.length:Int)) then ((aO b a).bind fun d=>if ((d.1==c.1)&&((d.2==c.2)&&true)) then (some (.ret true)) else (some (.nxt (i64.wrap (a+1))))) else (some (.brk a))
def vW (a:List (Int×Int)) (b:Int×Int):Option Bool:=
 aM (ah (pG a b) aR 0) (fun r=>some r) (fun c=>some false)
def tu (a:Int×Int) (b:Int×Int):Option Bool:=
 if decide (a.1<b.1) then (some true) else (if a.1==b.1 then (some (decide (a.2<b.2))) else (some false))
def pH (b:List (Int×Int)) (c:Int×Int) (a:Int):Option (Out Yq7 Int):=
 if decide (a<(b.length:Int)) then ((aO b a).bind fun d=>(tu (d.1,d.2) (c.1,c.2)).bind fun e=>if e then (some (.nxt (i64.wrap (a+1)))) else (some (.brk a))) else (some (.brk a))
def vX (a:List (Int×Int)) (c:Int×Int):Option Yq7:=
 aM (ah (pH a c) aR 0) (fun e=>some e) (fun b=>if decide (b<(a.length:Int)) then ((aO a b).bind fun d=>if Bool.and.match_1 (fun (l:Bool)=>Bool) (d.1==c.1) (fun (m:Unit)=>false) (fun (n:Unit)=>Bool.and.match_1 (fun (o:Bool)=>Bool) (d.2==c.2) (fun (p:Unit)=>false) (fun (q:Unit)=>true)) then (some a) else ((chk (And (0<=b) (b<=(a.length:Int)))).bind fun _=>(bC 16 ([] :List (Int×Int)) ((a.take b.toNat).drop 0)).bind fun f=>(bC 16 f ([(c.1,c.2)])).bind fun g=>(chk (And (0<=b) (b<=(a.length:Int)))).bind fun _=>(bC 16 g ((a.take a.length).drop b.toNat)).bind fun h=>some h)) else ((chk (And (0<=b) (b<=(a.length:Int)))).bind fun _=>(bC 16 ([] :List (Int×Int)) ((a.take b.toNat).drop 0)).bind fun i=>(bC 16 i ([(c.1,c.2)])).bind fun j=>(chk (And (0<=b) (b<=(a.length:Int)))).bind fun _=>(bC 16 j ((a.take a.length).drop b.toNat)).bind fun k=>some k))
def iB (b:List (Int×Int)) (e:List (Int×Int)) (a:Yq7×Int):Option (Out Yq7 (Yq7×Int)):=
 if decide (a.2<(b.length:Int)) then (Option.bind (((aO b a.2).bind fun c=>(vW e (c.1,c.2)).bind fun f=>if f then (some a.1) else ((aO b a.2).bind fun d=>(vX a.1 (d.1,d.2)).bind fun g=>some g):Option Yq7)) (fun h=>some (.nxt (h,i64.wrap (a.2+1))))) else (some (.brk (a.1,a.2)))
def iR (a:List (Int×Int)) (b:List (Int×Int)):Option Yq7:=
 aM (ah (iB a b) aR (([] :List (Int×Int)),0)) (fun r=>some r) (fun c=>some c.1)
def gu (a:List (Int×Int)) (b:List (Int×Int)):Option (Yq7×Yq7):=
 (iR b a).bind fun c=>(iR a b).bind fun d=>some (c,d)
def dy (a:Int×(List Yq6)) (b:(List Yq2)×Yq3) (c:Int×Int×Int) (d:Int):Option (Int×Bool×(Yq7×Yq7)):=
 (eD (a.1,a.2) d).bind fun e=>(bA (b.1,b.2) (e.1.1,e.1.2) c.2.1).bind fun f=>if decide (c.2.2<a.1) then (some (d,true,(f.1,[]))) else ((eD (a.1,a.2) c.2.2).bind fun g=>(bA (b.1,b.2) (g.1.1,g.1.2) c.2.1).bind fun i=>(gu i.1 f.1).bind fun h=>some (d,false,(h.1,h.2)))
def cR (b:Int×List wE) (c:(List Yq9)×List Eo) (a:Int×Int×Int):Option ((Int×Bool×Yq7×List (Int×Int))×Yq8×Bool):=
 (jq (b.1,b.2) (c.1,c.2) (a.1,a.2.1,a.2.2)).bind fun e=>if e then ((dy (b.1,b.2) (c.1,c.2) (a.1,a.2.1,a.2.2) (Max.max b.1 (i64.wrap (a.2.2+1)))).bind fun d=>some ((d.1,d.2.1,d.2.2.1,d.2.2.2),(a.1,a.2.1,Max.max b.1 (i64.wrap (a.2.2+1))),true)) else (some ((0,false,([] :List (Int×Int)),([] :List (Int×Int))),(a.1,a.2.1,a.2.2),false))
def eP (b:BB×wL×(List Yq8)×ByteArray) (f:Int):Option (VD×(Int×Bool×(Yq7×Yq7))×Bool):=
 (ko ((b.1.1,b.1.2),(b.2.1.1,b.2.1.2),b.2.2.1,b.2.2.2)).bind fun a=>(jo b.2.2.1 f).bind fun d=>(bw ((b.1.1,b.1.2),(b.2.1.1,b.2.1.2),b.2.2.1,b.2.2.2)).bind fun g=>if g then (if decide (d<0) then (some (((a.1.1,a.1.2),(a.2.1.1,a.2.1.2),a.2.2.1,a.2.2.2),(0,false,([],[])),false)) else ((aO b.2.2.1 d).bind fun e=>(cR (b.1.1,b.1.2) (b.2.1.1,b.2.1.2) (e.1,e.2.1,e.2.2)).bind fun c=>if c.2.2 then ((aO a.2.2.1 d).bind fun h=>some (((a.1.1,a.1.2),(a.2.1.1,a.2.1.2),a.2.2.1.set d.toNat (c.2.1.1,c.2.1.2.1,c.2.1.2.2),a.2.2.2),(c.1.1,c.1.2.1,(c.1.2.2.1,c.1.2.2.2)),true)) else (some (((a.1.1,a.1.2),(a.2.1.1,a.2.1.2),a.2.2.1,a.2.2.2),(0,false,([],[])),false)))) else (some (((a.1.1,a.1.2),(a.2.1.1,a.2.1.2),a.2.2.1,a.2.2.2),(0,false,([],[])),false))
def cM (a:(List Int)×Int×Int) (c:Int):Option (Bool×Int×Int):=
 (aN (a.1,a.2.1,a.2.2) c).bind fun b=>some (b.1==0,b.2.1,b.2.2)
def ll (b:(List Int)×(List Yq1)) (c:Int×Int×Int×Int) (a:Int):Option (Out (Yq6×Bool) Int):=
 if decide (a<(b.2.length:Int)) then ((aO b.2 a).bind fun d=>if decide (d.1<c.1) then (some (.nxt (i64.wrap (a+1)))) else (some (.brk a))) else (some (.brk a))
def oC (a:(List Int)×(List Yq1)) (b:Int×Int×Int×Int):Option (Yq6×Bool):=
 (aY (a.1,a.2)).bind fun h=>if h then ((vS (a.1,a.2) (b.1,b.2.1,b.2.2.1,b.2.2.2)).bind fun i=>if i then ((dW (a.1,a.2) b.1).bind fun j=>if decide (j≥0) then ((b7 (a.1,a.2)).bind fun d=>some ((d.1,d.2),false)) else (if (a.2.length:Int)==12 then ((b7 (a.1,a.2)).bind fun e=>some ((e.1,e.2),false)) else (aM (ah (ll a b) aR 0) (fun r=>some r) (fun c=>(bC 8 ([] :List Int) a.1).bind fun k=>(chk (0<=c/\c<=(a.2.length:Int))).bind fun _=>(bC 32 ([] :List Yq1) (a.2.take c.toNat)).bind fun l=>(bC 32 l ([(b.1,b.2.1,b.2.2.1,b.2.2.2)])).bind fun m=>(chk (0<=c/\c<=(a.2.length:Int))).bind fun _=>(bC 32 m (a.2.drop c.toNat)).bind fun n=>some ((k,n),true))))) else ((b7 (a.1,a.2)).bind fun f=>some ((f.1,f.2),false))) else ((b7 (a.1,a.2)).bind fun g=>some ((g.1,g.2),false))
def oD (a:(List Int)×(List Yq1)) (e:Int):Option (Yq6×Bool):=
 (dW (a.1,a.2) e).bind fun b=>(aY (a.1,a.2)).bind fun f=>if f then (if decide (b<0) then ((b7 (a.1,a.2)).bind fun c=>some ((c.1,c.2),false)) else ((bC 8 ([] :List Int) a.1).bind fun g=>(chk (0<=b/\b<=(a.2.length:Int))).bind fun _=>(bC 32 ([] :List Yq1) (a.2.take b.toNat)).bind fun h=>(chk (0<=i64.wrap (b+1)/\i64.wrap (b+1)<=(a.2.length:Int))).bind fun _=>(bC 32 h (a.2.drop (i64.wrap (b+1)).toNat)).bind fun i=>some ((g,i),true))) else ((b7 (a.1,a.2)).bind fun d=>some ((d.1,d.2),false))
def rL (c:(List Int)×(List Yq1)) (e:(List (Bool×Yq1))) (a:Int×(List Int)×(List Yq1)):Option (Out (Yq6×Bool) (Int×(List Int)×(List Yq1))):=
 if decide (a.1<(e.length:Int)) then (if decide (a.1<=6) then (zW (S:=(List Int)×(List Yq1)) ((aO e a.1).bind fun b=>(aO e a.1).bind fun n=>if n.1 then ((oC (a.2.1,a.2.2) (b.2.1,b.2.2.1,b.2.2.2.1,b.2.2.2.2)).bind fun f=>if f.2 then (some (.inr (f.1.1,f.1.2))) else ((b7 (c.1,c.2)).bind fun h=>some (.inl (.ret ((h.1,h.2),false))))) else ((dW (a.2.1,a.2.2) b.2.1).bind fun i=>if decide (i<0) then ((b7 (c.1,c.2)).bind fun j=>some (.inl (.ret ((j.1,j.2),false)))) else ((aO a.2.2 i).bind fun d=>if (d.1==b.2.1)&&((d.2.1==b.2.2.1)&&((d.2.2.1==b.2.2.2.1)&&((d.2.2.2==b.2.2.2.2)&&true))) then ((oD (a.2.1,a.2.2) b.2.1).bind fun g=>if g.2 then (some (.inr (g.1.1,g.1.2))) else ((b7 (c.1,c.2)).bind fun k=>some (.inl (.ret ((k.1,k.2),false))))) else ((b7 (c.1,c.2)).bind fun l=>some (.inl (.ret ((l.1,l.2),false))))))) (fun m=>some (.nxt (i64.wrap (a.1+1),m.1,m.2)))) else (some (.brk (a.1,a.2.1,a.2.2)))) else (some (.brk (a.1,a.2.1,a.2.2)))
def fj (a:(List Int)×(List Yq1)) (d:(List (Bool×Yq1))):Option (Yq6×Bool):=
 (b7 (a.1,a.2)).bind fun b=>aM (ah (rL a d) aR (0,b.1,b.2)) (fun r=>some r) (fun c=>some ((c.2.1,c.2.2),true))
def oE (a:(List Int)×(List Yq1)) (c:(List (Bool×Yq1))):Option (Yq6×Bool):=
 (aY (a.1,a.2)).bind fun f=>if f then (if decide ((c.length:Int)>6) then ((b7 (a.1,a.2)).bind fun d=>some ((d.1,d.2),false)) else ((fj (a.1,a.2) c).bind fun b=>some ((b.1.1,b.1.2),b.2))) else ((b7 (a.1,a.2)).bind fun e=>some ((e.1,e.2),false))
def iS (b:Int×List wE) (g:List Yq5):Option ((Int×List wE)×Bool):=
 (mG (b.1,b.2)).bind fun a=>(m_s_IsValidHistory (b.1,b.2)).bind fun h=>if h then ((aL (b.1,b.2)).bind fun i=>if i==999 then (some ((a.1,a.2),false)) else ((aO b.2 (i64.wrap ((b.2.length:Int) - 1))).bind fun e=>(oE (e.1,e.2) g).bind fun d=>if d.2 then ((bC 48 a.2 ([(d.1.1,d.1.2)])).bind fun c=>Option.bind ((if decide ((c.length:Int)>8) then ((chk (And ((0:Int)<=1) (1<=(c.length:Int)))).bind fun _=>some (i64.wrap (a.1+1),c.drop 1)) else (some (a.1,c)):Option (Int×List wE))) (fun f=>some ((f.1,f.2),true))) else (some ((a.1,a.2),false)))) else (some ((a.1,a.2),false))
def kH (b:(Int×List wE)×((List Yq9)×List Eo)×(List Yq8)×ByteArray) (d:List Yq5):Option (Yq4×Bool):=
 (ko ((b.1.1,b.1.2),(b.2.1.1,b.2.1.2),b.2.2.1,b.2.2.2)).bind fun a=>(bw ((b.1.1,b.1.2),(b.2.1.1,b.2.1.2),b.2.2.1,b.2.2.2)).bind fun f=>if f then ((iS (b.1.1,b.1.2) d).bind fun c=>if c.2 then ((aL (c.1.1,c.1.2)).bind fun g=>(b6 g d).bind fun e=>if decide ((i64.wrap (((b.2.2.2.size:Nat):Int)+((e.size:Nat):Int)))>4000) then (some (((a.1.1,a.1.2),(a.2.1.1,a.2.1.2),a.2.2.1,a.2.2.2),false)) else ((lF b.2.2.2 e).bind fun h=>some (((c.1.1,c.1.2),(a.2.1.1,a.2.1.2),a.2.2.1,h),true))) else (some (((a.1.1,a.1.2),(a.2.1.1,a.2.1.2),a.2.2.1,a.2.2.2),false))) else (some (((a.1.1,a.1.2),(a.2.1.1,a.2.1.2),a.2.2.1,a.2.2.2),false))
def sA (b:(List Int)×Int×Int) (k:(List Int)×List Yq1):Option (Yq1×Int×Int):=
 (aN (b.1,b.2.1,b.2.2) 40).bind fun e=>(aN (b.1,e.2.1,e.2.2) (Max.max 1 (k.1.length:Int))).bind fun c=>(aN (b.1,c.2.1,c.2.2) (Max.max 1 (k.1.length:Int))).bind fun f=>(aN (b.1,f.2.1,f.2.2) 3).bind fun g=>(aN (b.1,g.2.1,g.2.2) 16).bind fun a=>Option.bind ((if a.1==0 then ((bS (b.1,a.2.1,a.2.2) ([0,99,100])).bind fun h=>some (h.2.1,h.2.2,h.1,c.1,f.1,g.1)) else (if a.1==1 then ((bS (b.1,a.2.1,a.2.2) ([(-1),5])).bind fun i=>some (i.2.1,i.2.2,i64.wrap (1+e.1),c.1,i.1,g.1)) else (if a.1==2 then ((bS (b.1,a.2.1,a.2.2) ([(-1),3])).bind fun j=>some (j.2.1,j.2.2,i64.wrap (1+e.1),c.1,f.1,j.1)) else (some (a.2.1,a.2.2,i64.wrap (1+e.1),c.1,f.1,g.1)))):Option (Int×Int×Int×Int×Int×Int))) (fun d=>some ((d.2.2.1,d.2.2.2.1,d.2.2.2.2.1,d.2.2.2.2.2),d.1,d.2.1))
def jQ (i:(List Int)×Int×Int) (a:Int×Int×Int×(List Int)×(List Yq1)×List Yq5):Option (Out ((List Yq5)×Int×Int) (Int×Int×Int×(List Int)×(List Yq1)×List Yq5)):=
 if decide (a.1>0) then (Option.bind (((sA (i.1,a.2.1,a.2.2.1) (a.2.2.2.1,a.2.2.2.2.1)).bind fun h=>if decide ((a.2.2.2.2.1.length:Int)>0) then ((cM (i.1,h.2.1,h.2.2) 2).bind fun j=>Option.bind ((if j.1 then ((aN (i.1,j.2.1,j.2.2) (a.2.2.2.2.1.length:Int)).bind fun y=>(aO a.2.2.2.2.1 y.1).bind fun x=>some (y.2.1,y.2.2,false,x.1,x.2.1,x.2.2.1,x.2.2.2)) else (some (j.2.1,j.2.2,true,h.1.1,h.1.2.1,h.1.2.2.1,h.1.2.2.2)):Option (Int×Int×Bool×Int×Int×Int×Int))) (fun b=>if decide ((a.2.2.2.2.2.length:Int)>0) then ((cM (i.1,b.1,b.2.1) 4).bind fun k=>Option.bind ((if k.1 then ((aO a.2.2.2.2.2 (i64.wrap ((a.2.2.2.2.2.length:Int) - 1))).bind fun l=>some (cond.match_1 (fun (H:Bool)=>Bool) l.1 (fun (I:Unit)=>false) (fun (J:Unit)=>true),l.2.1,l.2.2.1,l.2.2.2.1,l.2.2.2.2)) else (some (b.2.2.1,b.2.2.2.1,b.2.2.2.2.1,b.2.2.2.2.2.1,b.2.2.2.2.2.2)):Option Yq5)) (fun d=>(fj (a.2.2.2.1,a.2.2.2.2.1) ([(d.1,d.2.1,d.2.2.1,d.2.2.2.1,d.2.2.2.2)])).bind fun m=>if m.2 then ((bC 40 a.2.2.2.2.2 ([(d.1,d.2.1,d.2.2.1,d.2.2.2.1,d.2.2.2.2)])).bind fun z=>some (k.2.1,k.2.2,m.1.1,m.1.2,z)) else ((cM (i.1,k.2.1,k.2.2) 12).bind fun n=>if n.1 then ((bC 40 a.2.2.2.2.2 ([(d.1,d.2.1,d.2.2.1,d.2.2.2.1,d.2.2.2.2)])).bind fun A=>some (n.2.1,n.2.2,m.1.1,m.1.2,A)) else (some (n.2.1,n.2.2,a.2.2.2.1,a.2.2.2.2.1,a.2.2.2.2.2))))) else (Option.bind ((some (b.2.2.1,b.2.2.2.1,b.2.2.2.2.1,b.2.2.2.2.2.1,b.2.2.2.2.2.2):Option Yq5)) (fun e=>(fj (a.2.2.2.1,a.2.2.2.2.1) ([(e.1,e.2.1,e.2.2.1,e.2.2.2.1,e.2.2.2.2)])).bind fun o=>if o.2 then ((bC 40 a.2.2.2.2.2 ([(e.1,e.2.1,e.2.2.1,e.2.2.2.1,e.2.2.2.2)])).bind fun B=>some (b.1,b.2.1,o.1.1,o.1.2,B)) else ((cM (i.1,b.1,b.2.1) 12).bind fun p=>if p.1 then ((bC 40 a.2.2.2.2.2 ([(e.1,e.2.1,e.2.2.1,e.2.2.2.1,e.2.2.2.2)])).bind fun C=>some (p.2.1,p.2.2,o.1.1,o.1.2,C)) else (some (p.2.1,p.2.2,a.2.2.2.1,a.2.2.2.2.1,a.2.2.2.2.2))))))) else (Option.bind ((some (h.2.1,h.2.2,true,h.1.1,h.1.2.1,h.1.2.2.1,h.1.2.2.2):Option (Int×Int×Bool×Int×Int×Int×Int))) (fun c=>if decide ((a.2.2.2.2.2.length:Int)>0) then ((cM (i.1,c.1,c.2.1) 4).bind fun q=>Option.bind ((if q.1 then ((aO a.2.2.2.2.2 (i64.wrap ((a.2.2.2.2.2.length:Int) - 1))).bind fun r=>some (cond.match_1 (fun (K:Bool)=>Bool) r.1 (fun (L:Unit)=>false) (fun (M:Unit)=>true),r.2.1,r.2.2.1,r.2.2.2.1,r.2.2.2.2)) else (some (c.2.2.1,c.2.2.2.1,c.2.2.2.2.1,c.2.2.2.2.2.1,c.2.2.2.2.2.2)):Option Yq5)) (fun f=>(fj (a.2.2.2.1,a.2.2.2.2.1) ([(f.1,f.2.1,f.2.2.1,f.2.2.2.1,f.2.2.2.2)])).bind fun s=>if s.2 then ((bC 40 a.2.2.2.2.2 ([(f.1,f.2.1,f.2.2.1,f.2.2.2.1,f.2.2.2.2)])).bind fun D=>some (q.2.1,q.2.2,s.1.1,s.1.2,D)) else ((cM (i.1,q.2.1,q.2.2) 12).bind fun t=>if t.1 then ((bC 40 a.2.2.2.2.2 ([(f.1,f.2.1,f.2.2.1,f.2.2.2.1,f.2.2.2.2)])).bind fun E=>some (t.2.1,t.2.2,s.1.1,s.1.2,E)) else (some (t.2.1,t.2.2,a.2.2.2.1,a.2.2.2.2.1,a.2.2.2.2.2))))) else (Option.bind ((some (c.2.2.1,c.2.2.2.1,c.2.2.2.2.1,c.2.2.2.2.2.1,c.2.2.2.2.2.2):Option Yq5)) (fun g=>(fj (a.2.2.2.1,a.2.2.2.2.1) ([(g.1,g.2.1,g.2.2.1,g.2.2.2.1,g.2.2.2.2)])).bind fun u=>if u.2 then ((bC 40 a.2.2.2.2.2 ([(g.1,g.2.1,g.2.2.1,g.2.2.2.1,g.2.2.2.2)])).bind fun F=>some (c.1,c.2.1,u.1.1,u.1.2,F)) else ((cM (i.1,c.1,c.2.1) 12).bind fun v=>if v.1 then ((bC 40 a.2.2.2.2.2 ([(g.1,g.2.1,g.2.2.1,g.2.2.2.1,g.2.2.2.2)])).bind fun G=>some (v.2.1,v.2.2,u.1.1,u.1.2,G)) else (some (v.2.1,v.2.2,a.2.2.2.1,a.2.2.2.2.1,a.2.2.2.2.2))))))):Option (Int×Int×(List Int)×(List Yq1)×List Yq5))) (fun w=>some (.nxt (i64.wrap (a.1 - 1),w.1,w.2.1,w.2.2.1,w.2.2.2.1,w.2.2.2.2)))) else (some (.brk (a.1,a.2.1,a.2.2.1,a.2.2.2.1,a.2.2.2.2.1,a.2.2.2.2.2)))
def mu (a:(List Int)×Int×Int) (d:(List Int)×List Yq1) (f:Int):Option ((List Yq5)×Int×Int):=
 (b7 (d.1,d.2)).bind fun e=>(aN (a.1,a.2.1,a.2.2) (i64.wrap (f+1))).bind fun b=>aM (ah (jQ a) aR (b.1,b.2.1,b.2.2,e.1,e.2,([] :List Yq5))) (fun g=>some g) (fun c=>some (c.2.2.2.2.2,c.2.1,c.2.2.1))
def gx (d:(List Int)×Int×Int) (a:Int×Int×Int×Int×(List wE)×(List Yq9)×(List Eo)×(List Yq8)×ByteArray):Option ae7:=
 if decide (a.1>0) then ((nU (d.1,a.2.1,a.2.2.1)).bind fun c=>(gJ ((a.2.2.2.1,a.2.2.2.2.1),(a.2.2.2.2.2.1,a.2.2.2.2.2.2.1),a.2.2.2.2.2.2.2.1,a.2.2.2.2.2.2.2.2) a.1 c.1).bind fun b=>some (.nxt (i64.wrap (a.1 - 1),c.2.1,c.2.2,b.1.1.1,b.1.1.2,b.1.2.1.1,b.1.2.1.2,b.1.2.2.1,b.1.2.2.2))) else (some (.brk (a.1,a.2.1,a.2.2.1,a.2.2.2.1,a.2.2.2.2.1,a.2.2.2.2.2.1,a.2.2.2.2.2.2.1,a.2.2.2.2.2.2.2.1,a.2.2.2.2.2.2.2.2)))
def gy (d:(List Int)×Int×Int) (a:Int×Int×Int×Int×(List wE)×(List Yq9)×(List Eo)×(List Yq8)×ByteArray):Option ae7:=
 if decide (a.1>0) then (Option.bind (((aN (d.1,a.2.1,a.2.2.1) 6).bind fun b=>if b.1==0 then ((aN (d.1,b.2.1,b.2.2) 4).bind fun j=>(aN (d.1,j.2.1,j.2.2) 2).bind fun k=>(fM ((a.2.2.2.1,a.2.2.2.2.1),(a.2.2.2.2.2.1,a.2.2.2.2.2.2.1),a.2.2.2.2.2.2.2.1,a.2.2.2.2.2.2.2.2) (i64.wrap (1+j.1)) (i64.wrap (1+k.1))).bind fun e=>some (k.2.1,k.2.2,e.1.1.1,e.1.1.2,e.1.2.1.1,e.1.2.1.2,e.1.2.2.1,e.1.2.2.2)) else (if b.1==1 then ((aN (d.1,b.2.1,b.2.2) 4).bind fun l=>(eP ((a.2.2.2.1,a.2.2.2.2.1),(a.2.2.2.2.2.1,a.2.2.2.2.2.2.1),a.2.2.2.2.2.2.2.1,a.2.2.2.2.2.2.2.2) (i64.wrap (1+l.1))).bind fun f=>some (l.2.1,l.2.2,f.1.1.1,f.1.1.2,f.1.2.1.1,f.1.2.1.2,f.1.2.2.1,f.1.2.2.2)) else (if b.1==2 then ((cM (d.1,b.2.1,b.2.2) 3).bind fun i=>if i.1 then ((aL (a.2.2.2.1,a.2.2.2.2.1)).bind fun p=>(aN (d.1,i.2.1,i.2.2) 2).bind fun m=>(bQ ((a.2.2.2.1,a.2.2.2.2.1),(a.2.2.2.2.2.1,a.2.2.2.2.2.2.1),a.2.2.2.2.2.2.2.1,a.2.2.2.2.2.2.2.2) (i64.wrap (p - m.1))).bind fun g=>some (m.2.1,m.2.2,g.1.1.1,g.1.1.2,g.1.2.1.1,g.1.2.1.2,g.1.2.2.1,g.1.2.2.2)) else (some (i.2.1,i.2.2,a.2.2.2.1,a.2.2.2.2.1,a.2.2.2.2.2.1,a.2.2.2.2.2.2.1,a.2.2.2.2.2.2.2.1,a.2.2.2.2.2.2.2.2))) else ((aO a.2.2.2.2.1 (i64.wrap ((a.2.2.2.2.1.length:Int) - 1))).bind fun o=>(mu (d.1,b.2.1,b.2.2) (o.1,o.2) 3).bind fun n=>(kH ((a.2.2.2.1,a.2.2.2.2.1),(a.2.2.2.2.2.1,a.2.2.2.2.2.2.1),a.2.2.2.2.2.2.2.1,a.2.2.2.2.2.2.2.2) n.1).bind fun h=>some (n.2.1,n.2.2,h.1.1.1,h.1.1.2,h.1.2.1.1,h.1.2.1.2,h.1.2.2.1,h.1.2.2.2)))):Option (Int×Int×Int×(List wE)×(List Yq9)×(List Eo)×(List Yq8)×ByteArray))) (fun c=>some (.nxt (i64.wrap (a.1 - 1),c.1,c.2.1,c.2.2.1,c.2.2.2.1,c.2.2.2.2.1,c.2.2.2.2.2.1,c.2.2.2.2.2.2.1,c.2.2.2.2.2.2.2)))) else (some (.brk (a.1,a.2.1,a.2.2.1,a.2.2.2.1,a.2.2.2.2.1,a.2.2.2.2.2.1,a.2.2.2.2.2.2.1,a.2.2.2.2.2.2.2.1,a.2.2.2.2.2.2.2.2)))
def pI (c:(List Int)×Int×Int):Option (Yq4×Int×Int):=
 (kA (c.1,c.2.1,c.2.2)).bind fun e=>(pF (e.1.1,e.1.2)).bind fun d=>(aN (c.1,e.2.1,e.2.2) 2).bind fun f=>aM (ah (gx c) aR (i64.wrap (1+f.1),f.2.1,f.2.2,d.1.1.1,d.1.1.2,d.1.2.1.1,d.1.2.1.2,d.1.2.2.1,d.1.2.2.2)) (fun h=>some h) (fun a=>(aN (c.1,a.2.1,a.2.2.1) 10).bind fun g=>aM (ah (gy c) aR (g.1,g.2.1,g.2.2,a.2.2.2.1,a.2.2.2.2.1,a.2.2.2.2.2.1,a.2.2.2.2.2.2.1,a.2.2.2.2.2.2.2.1,a.2.2.2.2.2.2.2.2)) (fun i=>some i) (fun b=>some (((b.2.2.2.1,b.2.2.2.2.1),(b.2.2.2.2.2.1,b.2.2.2.2.2.2.1),b.2.2.2.2.2.2.2.1,b.2.2.2.2.2.2.2.2),b.2.1,b.2.2.1)))
def jV (d:(List Int)×Int×Int) (a:Int×Int×Int×(List Yq9)×List Eo):Option (Out (((List Yq9)×List Eo)×Int×Int) (Int×Int×Int×(List Yq9)×List Eo)):=
 if decide (a.1>0) then ((aN (d.1,a.2.1,a.2.2.1) 6).bind fun b=>(nU (d.1,b.2.1,b.2.2)).bind fun c=>(iO (a.2.2.2.1,a.2.2.2.2) (i64.wrap (1+b.1)) c.1).bind fun e=>some (.nxt (i64.wrap (a.1 - 1),c.2.1,c.2.2,e.1.1,e.1.2))) else (some (.brk (a.1,a.2.1,a.2.2.1,a.2.2.2.1,a.2.2.2.2)))
def nf (a:(List Int)×Int×Int):Option (((List Yq9)×List Eo)×Int×Int):=
 (aN (a.1,a.2.1,a.2.2) 3).bind fun c=>aM (ah (jV a) aR (i64.wrap (1+c.1),c.2.1,c.2.2,([] :List Yq9),([] :List Eo))) (fun d=>some d) (fun b=>some ((b.2.2.2.1,b.2.2.2.2),b.2.1,b.2.2.1))
def jJ (e:(List Int)×Int×Int) (f:Int×Int×Int) (a:(List Int)×Int×Int×Int):Option (Out (Yq9×Int×Int) ((List Int)×Int×Int×Int)):=
 if decide (a.2.1<9) then ((cM (e.1,a.2.2.1,a.2.2.2) 3).bind fun b=>Option.bind ((if b.1 then (some ((-1),b.2.1,b.2.2)) else ((aN (e.1,b.2.1,b.2.2) (i64.wrap (1+f.1))).bind fun c=>some (c.1,c.2.1,c.2.2)):Option Yq8)) (fun d=>Option.bind ((if decide (a.2.1>3) then (some (-1)) else (some d.1):Option Int)) (fun g=>(bC 8 a.1 ([g])).bind fun h=>some (.nxt (h,i64.wrap (a.2.1+1),d.2.1,d.2.2))))) else (some (.brk (a.1,a.2.1,a.2.2.1,a.2.2.2)))
def lZ (d:(List Int)×Int×Int) (e:Int×Int×Int) (a:Int×Int×(List Bool)×(List (List Int))×Int×Int):Option (Out (Yq9×Int×Int) (Int×Int×(List Bool)×(List (List Int))×Int×Int)):=
 if decide (a.1<(i64.wrap (1+e.1))) then (aM (ah (jJ d e) aR (([] :List Int),0,a.2.2.2.2.1,a.2.2.2.2.2)) (fun f=>some (.ret f)) (fun b=>(cM (d.1,b.2.2.1,b.2.2.2) 3).bind fun c=>(bC 1 a.2.2.1 ([c.1])).bind fun g=>(bC 24 a.2.2.2.1 ([b.1])).bind fun h=>some (.nxt (i64.wrap (a.1+1),a.2.1,g,h,c.2.1,c.2.2)))) else (some (.brk (a.1,a.2.1,a.2.2.1,a.2.2.2.1,a.2.2.2.2.1,a.2.2.2.2.2)))
def ng (a:(List Int)×Int×Int):Option (Yq9×Int×Int):=
 (aN (a.1,a.2.1,a.2.2) 4).bind fun c=>(aN (a.1,c.2.1,c.2.2) (i64.wrap (1+c.1))).bind fun d=>aM (ah (lZ a c) aR (0,d.1,([] :List Bool),([] :List (List Int)),d.2.1,d.2.2)) (fun e=>some e) (fun b=>some ((b.2.1,b.2.2.1,b.2.2.2.1),b.2.2.2.2.1,b.2.2.2.2.2))
def wM (a:Int):Option (List Yq1):=
 some ([(3,a,0,0)])
def ff:Nat->((List Int)×Int×Int)->Int->Option ((List Yq1)×Int×Int)
 | 0,_,_=>none
 | n+1,p0,p1 =>
  if p1==0 then ((cM (p0.1,p0.2.1,p0.2.2) 12).bind fun b=>if b.1 then ((bS (p0.1,b.2.1,b.2.2) ([1,2])).bind fun d=>(su d.1).bind fun m=>some (m,d.2.1,d.2.2)) else ((bS (p0.1,b.2.1,b.2.2) ([0,0,2,2,1,4,3,6,7])).bind fun e=>(wM e.1).bind fun o=>some (o,e.2.1,e.2.2))) else ((aN (p0.1,p0.2.1,p0.2.2) 6).bind fun a=>Option.bind ((if a.1==0 then (some (a.1==0)) else (some (a.1==1)):Option Bool)) (fun p=>if p then (((ff n) (p0.1,a.2.1,a.2.2) (i64.wrap (p1 - 1))).bind fun f=>((ff n) (p0.1,f.2.1,f.2.2) (i64.wrap (p1 - 1))).bind fun g=>(fH f.1 g.1 (4,0,0,0)).bind fun q=>some (q,g.2.1,g.2.2)) else (Option.bind ((if a.1==2 then (some (a.1==2)) else (some (a.1==3)):Option Bool)) (fun r=>if r then (((ff n) (p0.1,a.2.1,a.2.2) (i64.wrap (p1 - 1))).bind fun h=>((ff n) (p0.1,h.2.1,h.2.2) (i64.wrap (p1 - 1))).bind fun i=>(fH h.1 i.1 (5,0,0,0)).bind fun s=>some (s,i.2.1,i.2.2)) else (if a.1==4 then (((ff n) (p0.1,a.2.1,a.2.2) (i64.wrap (p1 - 1))).bind fun j=>(fH j.1 ([] :List Yq1) (6,0,0,0)).bind fun t=>some (t,j.2.1,j.2.2)) else ((aN (p0.1,a.2.1,a.2.2) 3).bind fun c=>((ff n) (p0.1,c.2.1,c.2.2) (i64.wrap (p1 - 1))).bind fun k=>(aN (p0.1,k.2.1,k.2.2) (i64.wrap ((i64.wrap (1+c.1))+1))).bind fun l=>(fH k.1 ([] :List Yq1) (7,0,l.1,i64.wrap (1+c.1))).bind fun u=>some (u,l.2.1,l.2.2)))))))
def vY (a:(List Int)×Int×Int):Option ((List Yq1)×Int×Int):=
 (cM (a.1,a.2.1,a.2.2) 2).bind fun b=>if b.1 then ((nU (a.1,b.2.1,b.2.2)).bind fun c=>some (c.1,c.2.1,c.2.2)) else ((aN (a.1,b.2.1,b.2.2) 3).bind fun d=>(ff gj (a.1,d.2.1,d.2.2) (i64.wrap (1+d.1))).bind fun e=>some (e.1,e.2.1,e.2.2))
def vZ (a:(List Int)×Int×Int):Option (Yq9×Int×Int):=
 (cM (a.1,a.2.1,a.2.2) 3).bind fun b=>if b.1 then ((ng (a.1,b.2.1,b.2.2)).bind fun c=>some ((c.1.1,c.1.2.1,c.1.2.2),c.2.1,c.2.2)) else ((vY (a.1,b.2.1,b.2.2)).bind fun d=>(dU d.1).bind fun e=>(fF (e.1.1,e.1.2.1,e.1.2.2.1,e.1.2.2.2.1,e.1.2.2.2.2) 12).bind fun g=>if g.2 then (some ((g.1.1,g.1.2.1,g.1.2.2),d.2.1,d.2.2)) else ((ng (a.1,d.2.1,d.2.2)).bind fun f=>some ((f.1.1,f.1.2.1,f.1.2.2),f.2.1,f.2.2)))
def v7 (c:(List Int)×Int×Int):Option (((List Yq9)×List Eo)×Int×Int):=
 (nf (c.1,c.2.1,c.2.2)).bind fun a=>(aN (c.1,a.2.1,a.2.2) 16).bind fun b=>Option.bind ((if b.1==0 then (if decide ((a.1.2.length:Int)>0) then ((aN (c.1,b.2.1,b.2.2) 3).bind fun f=>(aO a.1.2 0).bind fun h=>some (f.2.1,f.2.2,a.1.1,a.1.2.set 0 (h.1,h.2.1,f.1))) else (some (b.2.1,b.2.2,a.1.1,a.1.2))) else (if b.1==1 then (if decide ((a.1.2.length:Int)>0) then ((bS (c.1,b.2.1,b.2.2) ([0,100,99])).bind fun g=>(aO a.1.2 0).bind fun i=>some (g.2.1,g.2.2,a.1.1,a.1.2.set 0 (g.1,i.2))) else (some (b.2.1,b.2.2,a.1.1,a.1.2))) else (if b.1==2 then ((vZ (c.1,b.2.1,b.2.2)).bind fun d=>(bC 56 a.1.1 ([(d.1.1,d.1.2.1,d.1.2.2)])).bind fun j=>some (d.2.1,d.2.2,j,a.1.2)) else (some (b.2.1,b.2.2,a.1.1,a.1.2)))):Option (Int×Int×(List Yq9)×List Eo))) (fun e=>some ((e.2.2.1,e.2.2.2),e.1,e.2.1))
def gz (e:(List Int)×Int×Int) (a:Int×Int×Int×Int×List wE):Option (Out ((Int×List wE)×Int×Int) (Int×Int×Int×Int×List wE)):=
 if decide (a.1>0) then ((aO a.2.2.2.2 (i64.wrap ((a.2.2.2.2.length:Int) - 1))).bind fun c=>(mu (e.1,a.2.1,a.2.2.1) (c.1,c.2) 4).bind fun b=>(iS (a.2.2.2.1,a.2.2.2.2) b.1).bind fun d=>some (.nxt (i64.wrap (a.1 - 1),b.2.1,b.2.2,d.1.1,d.1.2))) else (some (.brk (a.1,a.2.1,a.2.2.1,a.2.2.2.1,a.2.2.2.2)))
def pJ (a:(List Int)×Int×Int):Option ((Int×List wE)×Int×Int):=
 (kA (a.1,a.2.1,a.2.2)).bind fun b=>(aN (a.1,b.2.1,b.2.2) 4).bind fun d=>(ig (b.1.1,b.1.2) (i64.wrap (1+d.1))).bind fun g=>(bS (a.1,d.2.1,d.2.2) ([3,5,10])).bind fun e=>(aN (a.1,e.2.1,e.2.2) e.1).bind fun f=>aM (ah (gz a) aR (f.1,f.2.1,f.2.2,g.1.1,g.1.2)) (fun h=>some h) (fun c=>some ((c.2.2.2.1,c.2.2.2.2),c.2.1,c.2.2.1))
def yJ (c:(List Int)×Int×Int):Option (wE×Int×Int):=
 (kA (c.1,c.2.1,c.2.2)).bind fun b=>(aN (c.1,b.2.1,b.2.2) 14).bind fun a=>Option.bind ((if a.1==0 then ((bS (c.1,a.2.1,a.2.2) ([(-1),3,2])).bind fun e=>(aO b.1.1 0).bind fun k=>some (e.2.1,e.2.2,b.1.1.set 0 e.1,b.1.2)) else (if a.1==1 then ((bS (c.1,a.2.1,a.2.2) ([0,1,99,100])).bind fun f=>(aN (c.1,f.2.1,f.2.2) 6).bind fun g=>(aN (c.1,g.2.1,g.2.2) 6).bind fun h=>(aN (c.1,h.2.1,h.2.2) 4).bind fun i=>(bC 32 b.1.2 ([(f.1,g.1,h.1,i.1)])).bind fun j=>some (i.2.1,i.2.2,b.1.1,j)) else (if a.1==2 then (some (a.2.1,a.2.2,([] :List Int),b.1.2)) else (some (a.2.1,a.2.2,b.1.1,b.1.2)))):Option (Int×Int×(List Int)×List Yq1))) (fun d=>some ((d.2.2.1,d.2.2.2),d.1,d.2.1))
def yK (c:(List Int)×Int×Int):Option ((Int×List wE)×Int×Int):=
 (pJ (c.1,c.2.1,c.2.2)).bind fun a=>(aN (c.1,a.2.1,a.2.2) 14).bind fun b=>Option.bind ((if b.1==0 then ((bS (c.1,b.2.1,b.2.2) ([0,999,998,1000])).bind fun f=>some (f.2.1,f.2.2,f.1,a.1.2)) else (if b.1==1 then ((yJ (c.1,b.2.1,b.2.2)).bind fun d=>(aO a.1.2 (i64.wrap ((a.1.2.length:Int) - 1))).bind fun g=>some (d.2.1,d.2.2,a.1.1,a.1.2.set ((i64.wrap ((a.1.2.length:Int) - 1)).toNat) (d.1.1,d.1.2))) else (if b.1==2 then (some (b.2.1,b.2.2,a.1.1,([] :List wE))) else (some (b.2.1,b.2.2,a.1.1,a.1.2)))):Option (Int×Int×Int×List wE))) (fun e=>some ((e.2.2.1,e.2.2.2),e.1,e.2.1))
def v8 (d:(List Int)×Int×Int):Option (Yq4×Int×Int):=
 (pI (d.1,d.2.1,d.2.2)).bind fun a=>(aN (d.1,a.2.1,a.2.2) 18).bind fun b=>Option.bind ((if b.1==0 then ((lF a.1.2.2.2 (⟨#[120]⟩)).bind fun i=>some (b.2.1,b.2.2,a.1.1.1,a.1.1.2,a.1.2.1.1,a.1.2.1.2,a.1.2.2.1,i)) else (if b.1==1 then (if decide ((a.1.2.2.1.length:Int)>0) then ((bS (d.1,b.2.1,b.2.2) ([(-1),0,50])).bind fun g=>(aO a.1.2.2.1 0).bind fun h=>some (g.2.1,g.2.2,a.1.1.1,a.1.1.2,a.1.2.1.1,a.1.2.1.2,a.1.2.2.1.set 0 (h.1,h.2.1,g.1),a.1.2.2.2)) else (some (b.2.1,b.2.2,a.1.1.1,a.1.1.2,a.1.2.1.1,a.1.2.1.2,a.1.2.2.1,a.1.2.2.2))) else (if b.1==2 then ((v7 (d.1,b.2.1,b.2.2)).bind fun e=>some (e.2.1,e.2.2,a.1.1.1,a.1.1.2,e.1.1,e.1.2,a.1.2.2.1,a.1.2.2.2)) else (if b.1==3 then ((yK (d.1,b.2.1,b.2.2)).bind fun f=>some (f.2.1,f.2.2,f.1.1,f.1.2,a.1.2.1.1,a.1.2.1.2,a.1.2.2.1,a.1.2.2.2)) else (some (b.2.1,b.2.2,a.1.1.1,a.1.1.2,a.1.2.1.1,a.1.2.1.2,a.1.2.2.1,a.1.2.2.2))))):Option (Int×Int×Int×(List wE)×(List Yq9)×(List Eo)×(List Yq8)×ByteArray))) (fun c=>some (((c.2.2.1,c.2.2.2.1),(c.2.2.2.2.1,c.2.2.2.2.2.1),c.2.2.2.2.2.2.1,c.2.2.2.2.2.2.2),c.1,c.2.1))
def gK (b:List Int):Option (Yq4×Int):=
 (yH b).bind fun c=>(v8 (b,c.1,c.2)).bind fun a=>(aL (a.1.1.1,a.1.1.2)).bind fun d=>(aN (b,a.2.1,a.2.2) 4).bind fun e=>some (((a.1.1.1,a.1.1.2),(a.1.2.1.1,a.1.2.1.2),a.1.2.2.1,a.1.2.2.2),i64.wrap ((i64.wrap (d - e.1))+1))
def gL (a:ByteArray) (b:Int):Option Int:=R.An a b
def bX (a:Int) (b:Int) (c:Int):Option Bool:=
 if decide (a≥b) then (some (decide (a<=c))) else (some false)
def pb (a:Int):Option (ByteArray):=R.Vy a
def eQ (a:Int):Option ByteArray:=
 (pb a).bind fun b=>some b
def ln (a:Int×Int×Int×Int) (b:Int):Option Bool:=
 (bX a.1 1 99).bind fun c=>if c then ((bX a.2.1 0 (i64.wrap (b - 1))).bind fun d=>if d then ((bX a.2.2.1 0 (i64.wrap (b - 1))).bind fun e=>if e then ((bX a.2.2.2 0 2).bind fun f=>some f) else (some false)) else (some false)) else (some false)
def lQ (a:Int×Int×Int×Int):Option ByteArray:=
 (ln (a.1,a.2.1,a.2.2.1,a.2.2.2) 5).bind fun b=>if b then ((eQ a.1).bind fun c=>(lF c (⟨#[58]⟩)).bind fun d=>(eQ a.2.1).bind fun e=>(lF d e).bind fun f=>(qT (⟨#[97,98,99]⟩) a.2.2.2 (i64.wrap (a.2.2.2+1))).bind fun g=>(lF f g).bind fun h=>(eQ a.2.2.1).bind fun i=>(lF h i).bind fun j=>some j) else (some ((⟨#[]⟩:ByteArray)))
def l5 (a:List ByteArray) (b:ByteArray):Option (ByteArray):=R.Vx a b
def gM (d:List Yq5) (a:(List ByteArray)×Int):Option (Out ByteArray ((List ByteArray)×Int)):=
 if decide (a.2<(d.length:Int)) then (zW (S:=List ByteArray) ((aO d a.2).bind fun b=>(lQ (b.2.1,b.2.2.1,b.2.2.2.1,b.2.2.2.2)).bind fun c=>if c==((⟨#[]⟩:ByteArray)) then (some (.inl (.ret ((⟨#[]⟩:ByteArray))))) else (if b.1 then ((lF (⟨#[43]⟩) c).bind fun e=>(bC 16 a.1 ([e])).bind fun f=>some (.inr f)) else ((lF (⟨#[45]⟩) c).bind fun g=>(bC 16 a.1 ([g])).bind fun h=>some (.inr h)))) (fun i=>some (.nxt (i,i64.wrap (a.2+1))))) else (some (.brk (a.1,a.2)))
def fN (a:List Yq5):Option ByteArray:=
 if decide ((a.length:Int)>6) then (some ((⟨#[]⟩:ByteArray))) else (aM (ah (gM a) aR (([] :List ByteArray),0)) (fun b=>some b) (fun c=>(l5 c.1 (⟨#[32]⟩)).bind fun d=>some d))
def qp (b:ByteArray) (a:Int×Int):Option MT:=
 if decide (a.2<((b.size:Nat):Int)) then ((lD b a.2).bind fun c=>some (.nxt (Int.tmod (i64.wrap ((i64.wrap ((i64.wrap (257*a.1))+(i64.wrap c)))+1)) 9973,i64.wrap (a.2+1)))) else (some (.brk (a.1,a.2)))
def mH (a:ByteArray):Option Int:=
 aM (ah (qp a) aR (1,0)) (fun b=>some b) (fun c=>some c.1)
def gA (a:Int) (c:List Yq5):Option ByteArray:=
 (fN c).bind fun b=>(bX a 1 999).bind fun f=>if f then (if b==((⟨#[]⟩:ByteArray)) then (if decide ((c.length:Int)>0) then (some ((⟨#[]⟩:ByteArray))) else ((eQ a).bind fun g=>(lF g (⟨#[59]⟩)).bind fun h=>(lF h b).bind fun i=>(lF i (⟨#[59]⟩)).bind fun d=>(mH d).bind fun j=>(eQ j).bind fun k=>(lF d k).bind fun l=>(lF l (⟨#[10]⟩)).bind fun m=>some m)) else ((eQ a).bind fun n=>(lF n (⟨#[59]⟩)).bind fun o=>(lF o b).bind fun p=>(lF p (⟨#[59]⟩)).bind fun e=>(mH e).bind fun q=>(eQ q).bind fun r=>(lF e r).bind fun s=>(lF s (⟨#[10]⟩)).bind fun t=>some t)) else (some ((⟨#[]⟩:ByteArray)))
def dG (p0 p1:ByteArray):Option (List ByteArray):=R.MP p0 p1
def jh (a:ByteArray):Option (Int×Bool):=R.uM a
def dX (p0 p1:ByteArray):Option (ByteArray×ByteArray×Bool):=R.abZ p0 p1
def jt (b:ByteArray):Option (Yq1×Bool):=
 (dX b (⟨#[58]⟩)).bind fun a=>if ((a.2.1.size:Nat):Int) !=3 then (some ((0,0,0,0),false)) else ((lD a.2.1 0).bind fun c=>(lD a.2.1 1).bind fun d=>(lD a.2.1 2).bind fun e=>(jh a.1).bind fun f=>(lQ (f.1,i64.wrap ((i64.wrap c) - 48),i64.wrap ((i64.wrap e) - 48),i64.wrap ((i64.wrap d) - 97))).bind fun g=>if g !=b then (some ((0,0,0,0),false)) else (some ((f.1,i64.wrap ((i64.wrap c) - 48),i64.wrap ((i64.wrap e) - 48),i64.wrap ((i64.wrap d) - 97)),true)))
def eE (d:List ByteArray) (a:Int×List Yq5):Option (Out ((List Yq5)×Bool) (Int×List Yq5)):=
 if decide (a.1<(d.length:Int)) then ((aO d a.1).bind fun c=>if c==((⟨#[]⟩:ByteArray)) then (some (.ret (([] :List Yq5),false))) else ((qT c 1 ((c.size:Nat):Int)).bind fun e=>(jt e).bind fun b=>if b.2 then ((lD c 0).bind fun f=>(bC 40 a.2 ([(f==43,b.1.1,b.1.2.1,b.1.2.2.1,b.1.2.2.2)])).bind fun g=>some (.nxt (i64.wrap (a.1+1),g))) else (some (.ret (([] :List Yq5),false))))) else (some (.brk (a.1,a.2)))
def im (a:ByteArray):Option ((List Yq5)×Bool):=
 if a==((⟨#[]⟩:ByteArray)) then (some (([] :List Yq5),true)) else ((dG a (⟨#[32]⟩)).bind fun c=>aM (ah (eE c) aR (0,([] :List Yq5))) (fun d=>some d) (fun b=>(fN b.2).bind fun e=>if e !=a then (some (([] :List Yq5),false)) else (some (b.2,true))))
def l6 (d:ByteArray):Option (Int×(List Yq5)×Bool):=
 (dG d (⟨#[59]⟩)).bind fun a=>if (a.length:Int) !=3 then (some (0,([] :List Yq5),false)) else ((aO a 0).bind fun e=>(jh e).bind fun b=>(aO a 1).bind fun f=>(im f).bind fun c=>if b.2 then (if c.2 then ((gA b.1 c.1).bind fun g=>if g !=d then (some (0,([] :List Yq5),false)) else (some (b.1,c.1,true))) else (some (0,([] :List Yq5),false))) else (some (0,([] :List Yq5),false)))
def dz (c:ByteArray) (a:(List Int)×(List (List Yq5))×Int):Option (Out ((List Int)×(List (List Yq5))×Int) ((List Int)×(List (List Yq5))×Int)):=
 if decide (((c.size:Nat):Int)<=4000) then ((qT c a.2.2 ((c.size:Nat):Int)).bind fun e=>(gL e 10).bind fun d=>if decide (d<0) then (some (.brk (a.1,a.2.1,a.2.2))) else ((qT c a.2.2 (i64.wrap ((i64.wrap (a.2.2+d))+1))).bind fun f=>(l6 f).bind fun b=>if b.2.2 then (if decide ((a.1.length:Int)>0) then ((aO a.1 (i64.wrap ((a.1.length:Int) - 1))).bind fun g=>if b.1 !=(i64.wrap (g+1)) then (some (.brk (a.1,a.2.1,a.2.2))) else ((bC 8 a.1 ([b.1])).bind fun h=>(bC 24 a.2.1 ([b.2.1])).bind fun i=>some (.nxt (h,i,i64.wrap (a.2.2+(i64.wrap (d+1))))))) else ((bC 8 a.1 ([b.1])).bind fun j=>(bC 24 a.2.1 ([b.2.1])).bind fun k=>some (.nxt (j,k,i64.wrap (a.2.2+(i64.wrap (d+1))))))) else (some (.brk (a.1,a.2.1,a.2.2))))) else (some (.brk (a.1,a.2.1,a.2.2)))
def m_i_ScanLog (b:ByteArray):Option ((List Int)×(List (List Yq5))×Int):=
 aM (ah (dz b) aR (([] :List Int),([] :List (List Yq5)),0)) (fun c=>some c) (fun a=>some (a.1,a.2.1,a.2.2))
def fO (b:(List Int)×(List Yq1)) (a:Int):Option (Out Bool Int):=
 if decide (a<(b.1.length:Int)) then ((aO b.1 a).bind fun c=>(bX c 0 2).bind fun d=>if d then (some (.nxt (i64.wrap (a+1)))) else (some (.ret false))) else (some (.brk a))
def eF (c:(List Int)×(List Yq1)) (a:Int):Option (Out Bool Int):=
 if decide (a<(c.2.length:Int)) then ((aO c.2 a).bind fun b=>(ln (b.1,b.2.1,b.2.2.1,b.2.2.2) (c.1.length:Int)).bind fun d=>if d then (if decide (a>0) then ((aO c.2 (i64.wrap (a - 1))).bind fun e=>if decide (e.1≥b.1) then (some (.ret false)) else (some (.nxt (i64.wrap (a+1))))) else (some (.nxt (i64.wrap (a+1))))) else (some (.ret false))) else (some (.brk a))
def bf (a:(List Int)×(List Yq1)):Option Bool:=
 aM (ah (fO a) aR 0) (fun r=>some r) (fun c=>aM (ah (eF a) aR 0) (fun r=>some r) (fun d=>(bX (a.1.length:Int) 1 5).bind fun b=>if b then (some (decide ((a.2.length:Int)<=12))) else (some false)))
def dD (b:List Int) (c:List Int) (a:Int):Option (Out Bool Int):=
 if decide (a<(b.length:Int)) then ((aO b a).bind fun d=>(aO c a).bind fun e=>if d !=e then (some (.ret false)) else (some (.nxt (i64.wrap (a+1))))) else (some (.brk a))
def cr (a:List Int) (b:List Int):Option Bool:=
 if (a.length:Int) !=(b.length:Int) then (some false) else (aM (ah (dD a b) aR 0) (fun r=>some r) (fun c=>some true))
def gN (b:Int×(List Yq6)) (a:Int):Option (Out Bool Int):=
 if decide (a<(b.2.length:Int)) then ((aO b.2 a).bind fun c=>(bf (c.1,c.2)).bind fun d=>if d then ((aO b.2 0).bind fun e=>(cr c.1 e.1).bind fun f=>if f then (some (.nxt (i64.wrap (a+1)))) else (some (.ret false))) else (some (.ret false))) else (some (.brk a))
def m_i_IsValidHistory (a:Int×(List Yq6)):Option Bool:=
 (bX (a.2.length:Int) 1 8).bind fun b=>if b then ((bX a.1 1 (i64.wrap ((i64.wrap (999 - (a.2.length:Int)))+1))).bind fun c=>if c then (aM (ah (gN a) aR 0) (fun r=>some r) (fun d=>some true)) else (some false)) else (some false)
def aT (d:List Yq2) (e:List Yq2) (f:Yq2->Yq2->Option Bool) (a:Int):Option (Out Bool Int):=
 if decide (a<(d.length:Int)) then ((aO d a).bind fun b=>(aO e a).bind fun c=>(f (b.1,b.2.1,b.2.2) (c.1,c.2.1,c.2.2)).bind fun g=>if g then (some (.nxt (i64.wrap (a+1)))) else (some (.ret false))) else (some (.brk a))
def a8 (a:List Yq2) (b:List Yq2) (c:Yq2->Yq2->Option Bool):Option Bool:=
 if (a.length:Int) !=(b.length:Int) then (some false) else (aM (ah (aT a b c) aR 0) (fun r=>some r) (fun d=>some true))
def cY (b:List Bool) (c:List Bool) (a:Int):Option (Out Bool Int):=
 if decide (a<(b.length:Int)) then ((aO b a).bind fun d=>(aO c a).bind fun e=>if d !=e then (some (.ret false)) else (some (.nxt (i64.wrap (a+1))))) else (some (.brk a))
def fA (a:List Bool) (b:List Bool):Option Bool:=
 if (a.length:Int) !=(b.length:Int) then (some false) else (aM (ah (cY a b) aR 0) (fun r=>some r) (fun c=>some true))
def ba (b:List (List Int)) (c:List (List Int)) (d:(List Int)->(List Int)->Option Bool) (a:Int):Option (Out Bool Int):=
 if decide (a<(b.length:Int)) then ((aO b a).bind fun e=>(aO c a).bind fun f=>(d e f).bind fun g=>if g then (some (.nxt (i64.wrap (a+1)))) else (some (.ret false))) else (some (.brk a))
def bT (a:List (List Int)) (b:List (List Int)) (c:(List Int)->(List Int)->Option Bool):Option Bool:=
 if (a.length:Int) !=(b.length:Int) then (some false) else (aM (ah (ba a b c) aR 0) (fun r=>some r) (fun d=>some true))
def ju (a:List Int) (b:List Int):Option Bool:=
 (cr a b).bind fun c=>some c
def fI (a:Int×(List Bool)×(List (List Int))) (b:Int×(List Bool)×(List (List Int))):Option Bool:=
 if a.1==b.1 then ((fA a.2.1 b.2.1).bind fun c=>if c then ((bT a.2.2 b.2.2 (fun a0 a1=>ju a0 a1)).bind fun d=>some d) else (some false)) else (some false)
def aS (d:List H0) (e:List H0) (f:H0->H0->Option Bool) (a:Int):Option (Out Bool Int):=
 if decide (a<(d.length:Int)) then ((aO d a).bind fun b=>(aO e a).bind fun c=>(f (b.1,b.2.1,b.2.2) (c.1,c.2.1,c.2.2)).bind fun g=>if g then (some (.nxt (i64.wrap (a+1)))) else (some (.ret false))) else (some (.brk a))
def aZ (a:List H0) (b:List H0) (c:H0->H0->Option Bool):Option Bool:=
 if (a.length:Int) !=(b.length:Int) then (some false) else (aM (ah (aS a b c) aR 0) (fun r=>some r) (fun d=>some true))
def cJ (d:List Yq1) (e:List Yq1) (a:Int):Option (Out Bool Int):=
 if decide (a<(d.length:Int)) then ((aO d a).bind fun b=>(aO e a).bind fun c=>if (b.1==c.1)&&((b.2.1==c.2.1)&&((b.2.2.1==c.2.2.1)&&((b.2.2.2==c.2.2.2)&&true))) then (some (.nxt (i64.wrap (a+1)))) else (some (.ret false))) else (some (.brk a))
def eV (a:List Yq1) (b:List Yq1):Option Bool:=
 if (a.length:Int) !=(b.length:Int) then (some false) else (aM (ah (cJ a b) aR 0) (fun r=>some r) (fun c=>some true))
def oF (a:(List Yq1)) (b:(List Yq1)):Option Bool:=
 (eV a b).bind fun c=>some c
def jK (a:Int×((List Yq1))×Int) (b:Int×((List Yq1))×Int):Option Bool:=
 if a.1==b.1 then ((oF a.2.1 b.2.1).bind fun c=>if c then (some (a.2.2==b.2.2)) else (some false)) else (some false)
def fP (a:(List Yq2)×Yq3) (b:(List Yq2)×Yq3):Option Bool:=
 (a8 a.1 b.1 (fun a0 a1=>fI a0 a1)).bind fun c=>if c then ((aZ a.2 b.2 (fun a0 a1=>jK a0 a1)).bind fun d=>some d) else (some false)
def ji (a:(List Yq1)):Option (List Yq1):=
 (bC 32 ([] :List Yq1) a).bind fun b=>some b
def mI (a:Int):Option Bool:=
 (bX a 0 8).bind fun b=>some b
def tv (a:Int×Int×Int×Int):Option Bool:=
 if a.1==3 then ((mI a.2.1).bind fun b=>if b then (if a.2.2.1==0 then (some (a.2.2.2==0)) else (some false)) else (some false)) else (if a.1==7 then (if a.2.1==0 then ((bX a.2.2.1 0 a.2.2.2).bind fun c=>if c then ((bX a.2.2.2 1 3).bind fun d=>some d) else (some false)) else (some false)) else (Option.bind ((if a.1==1 then (some (a.1==1)) else (if a.1==2 then (some (a.1==2)) else (if a.1==4 then (some (a.1==4)) else (if a.1==5 then (some (a.1==5)) else (some (a.1==6))))):Option Bool)) (fun e=>if e then (some ((a.1==a.1)&&((a.2.1==0)&&((a.2.2.1==0)&&((a.2.2.2==0)&&true))))) else (some false))))
def tw (d:List Yq1) (a:(List (Tr Yq1))×Int):Option (Out (Tr Yq1) ((List (Tr Yq1))×Int)):=
 if decide (a.2<(d.length:Int)) then ((aO d a.2).bind fun b=>Option.bind ((Option.bind ((if b.1==4 then (some (b.1==4)) else (some (b.1==5)):Option Bool)) (fun e=>if e then (some 2) else (Option.bind ((if b.1==6 then (some (b.1==6)) else (some (b.1==7)):Option Bool)) (fun f=>if f then (some 1) else (some 0)))):Option Int)) (fun c=>(tv (b.1,b.2.1,b.2.2.1,b.2.2.2)).bind fun g=>if g then (if decide ((i64.wrap ((a.1.length:Int) - c))<0) then (some (.ret Tr.nil)) else ((chk (And (0<=(i64.wrap ((a.1.length:Int) - c))) ((i64.wrap ((a.1.length:Int) - c))<=(a.1.length:Int)))).bind fun _=>(bC 8 ([] :List (Tr Yq1)) (a.1.drop ((i64.wrap ((a.1.length:Int) - c)).toNat))).bind fun h=>(chk (And (0<=(i64.wrap ((a.1.length:Int) - c))) ((i64.wrap ((a.1.length:Int) - c))<=(a.1.length:Int)))).bind fun _=>(bC 8 (a.1.take ((i64.wrap ((a.1.length:Int) - c)).toNat)) ([Tr.node (b.1,b.2.1,b.2.2.1,b.2.2.2) h])).bind fun i=>some (.nxt (i,i64.wrap (a.2+1))))) else (some (.ret Tr.nil)))) else (some (.brk (a.1,a.2)))
def pX (b:List Yq1):Option (Tr Yq1):=
 aM (ah (tw b) aR (([] :List (Tr Yq1)),0)) (fun c=>some c) (fun a=>if (a.1.length:Int) !=1 then (some Tr.nil) else ((aO a.1 0).bind fun d=>some d))
def wc (a:List Yq1):Option Bool:=
 (pX a).bind fun b=>some (cond.match_1 (fun (c:Bool)=>Bool) (Tr.isNil b) (fun (d:Unit)=>false) (fun (e:Unit)=>true))
def nh (a:(List Yq1)):Option Bool:=
 if decide ((a.length:Int)<=24) then ((wc a).bind fun b=>some b) else (some false)
def eG (mrec:(Tr Yq1)->Option Int) (b:Tr Yq1) (c:Yq1×List (Tr Yq1)) (a:Int×Int):Option MT:=
 if decide (a.2<(c.2.length:Int)) then (Option.bind (((aO c.2 a.2).bind fun d=>(Tr.get b).bind fun j=>(Tr.get b).bind fun e=>if e.1.1==7 then ((mrec d).bind fun f=>(Tr.get b).bind fun k=>(Tr.get b).bind fun g=>some (i64.wrap (a.1+(i64.wrap ((i64.wrap (f+3))*g.1.2.2.2))))) else ((mrec d).bind fun h=>some (i64.wrap (a.1+h))):Option Int)) (fun i=>some (.nxt (i,i64.wrap (a.2+1))))) else (some (.brk (a.1,a.2)))
def dA:Nat->(Tr Yq1)->Option Int
 | 0,_=>none
 | n+1,p0x =>
  (Tr.get p0x).bind fun d=>(Tr.get p0x).bind fun a=>aM (ah (eG (dA n) p0x a) aR (1,0)) (fun b=>some b) (fun c=>some (Min.min c.1 100000))
def G7 (a:Int):Option (Tr Yq1):=
 some (Tr.node (a,0,0,0) ([] :List (Tr Yq1)))
def oR:Nat->(Tr Yq1)->Int->Int->Option (Tr Yq1)
 | 0,_,_,_=>none
 | n+1,p0x,p1low,p2high =>
  if p2high==0 then ((G7 2).bind fun b=>some b) else (((oR n) p0x (Max.max 0 (i64.wrap (p1low - 1))) (i64.wrap (p2high - 1))).bind fun a=>if decide (p1low>0) then (some (Tr.node (4,0,0,0) ([p0x,a]))) else ((G7 2).bind fun c=>some (Tr.node (5,0,0,0) ([Tr.node (4,0,0,0) ([p0x,a]),c]))))
def fg (mrec:(Tr Yq1)->Option (Tr Yq1)) (b:Yq1×List (Tr Yq1)) (a:Int×Int×Int×Int×Int×List (Tr Yq1)):Option (Out (Tr Yq1) (Int×Int×Int×Int×Int×List (Tr Yq1))):=
 if decide (a.1<(b.2.length:Int)) then ((aO b.2 a.1).bind fun c=>(mrec c).bind fun d=>(bC 8 a.2.2.2.2.2 ([d])).bind fun e=>some (.nxt (i64.wrap (a.1+1),a.2.1,a.2.2.1,a.2.2.2.1,a.2.2.2.2.1,e))) else (some (.brk (a.1,a.2.1,a.2.2.1,a.2.2.2.1,a.2.2.2.2.1,a.2.2.2.2.2)))
def cT:Nat->(Tr Yq1)->Option (Tr Yq1)
 | 0,_=>none
 | n+1,p0x =>
  (Tr.get p0x).bind fun l=>(Tr.get p0x).bind fun c=>if c.1.1==7 then ((Tr.get p0x).bind fun m=>(Tr.get p0x).bind fun d=>(aO d.2 0).bind fun e=>((cT n) e).bind fun f=>(Tr.get p0x).bind fun o=>(Tr.get p0x).bind fun g=>(Tr.get p0x).bind fun p=>(Tr.get p0x).bind fun h=>(oR gj f g.1.2.2.1 h.1.2.2.2).bind fun i=>some i) else ((Tr.get p0x).bind fun q=>(Tr.get p0x).bind fun b=>(Tr.get p0x).bind fun r=>(Tr.get p0x).bind fun j=>aM (ah (fg (cT n) j) aR (0,b.1.1,b.1.2.1,b.1.2.2.1,b.1.2.2.2,([] :List (Tr Yq1)))) (fun k=>some k) (fun a=>some (Tr.node (a.2.1,a.2.2.1,a.2.2.2.1,a.2.2.2.2.1) a.2.2.2.2.2)))
def dF (mrec:(Tr Yq1)->(List Yq1)->Option (List Yq1)) (b:Yq1×List (Tr Yq1)) (a:Int×List Yq1):Option (Out (List Yq1) (Int×List Yq1)):=
 if decide (a.1<(b.2.length:Int)) then ((aO b.2 a.1).bind fun c=>(mrec c a.2).bind fun d=>some (.nxt (i64.wrap (a.1+1),d))) else (some (.brk (a.1,a.2)))
def cA:Nat->(Tr Yq1)->(List Yq1)->Option (List Yq1)
 | 0,_,_=>none
 | n+1,p0x,p1out =>
  (Tr.get p0x).bind fun f=>(Tr.get p0x).bind fun b=>aM (ah (dF (cA n) b) aR (0,p1out)) (fun c=>some c) (fun d=>(Tr.get p0x).bind fun g=>(Tr.get p0x).bind fun a=>(bC 32 d.2 ([(a.1.1,a.1.2.1,a.1.2.2.1,a.1.2.2.2)])).bind fun e=>some e)
def tx (a:Tr Yq1):Option (List Yq1):=
 (cA gj a ([] :List Yq1)).bind fun b=>some b
def oG (a:List Yq1):Option ((List Yq1)×Bool):=
 (nh a).bind fun d=>if d then ((pX a).bind fun b=>(dA gj b).bind fun e=>if decide (e>5000) then (some (([] :List Yq1),false)) else ((cT gj b).bind fun f=>(tx f).bind fun c=>if decide ((c.length:Int)>400) then (some (([] :List Yq1),false)) else (some (c,true)))) else (some (([] :List Yq1),false))
def dY (b:(List Int)×Int×Int×(List Int)×Bool) (c:Int) (d:Int) (a:Int×List Int):Option (Out TH (Int×List Int)):=
 if decide (a.1<(b.2.2.2.1.length:Int)) then (Option.bind (((chk (0<=a.1)).bind fun _=>if (sd (pA c a.1) 1)==1 then ((aO a.2 a.1).bind fun e=>(aO a.2 a.1).bind fun g=>some (a.2.set a.1.toNat (orI e d))) else (some a.2):Option (List Int))) (fun f=>some (.nxt (i64.wrap (a.1+1),f)))) else (some (.brk (a.1,a.2)))
def fp (a:(List Int)×Int×Int×(List Int)×Bool) (b:Int) (c:Int):Option TH:=
 aM (ah (dY a b c) aR (0,a.2.2.2.1)) (fun d=>some d) (fun e=>some (a.1,a.2.1,a.2.2.1,e.2,a.2.2.2.2))
def bM:Nat->TH->(Tr Yq1)->Option ((Int×Int×Bool)×(List Int)×Int×Int×(List Int)×Bool)
 | 0,_,_=>none
 | n+1,p0,p1 =>
  (Tr.get p1).bind fun A=>(Tr.get p1).bind fun i=>if i.1.1==2 then (some ((0,0,true),p0.1,p0.2.1,p0.2.2.1,p0.2.2.2.1,p0.2.2.2.2)) else (if i.1.1==3 then ((Tr.get p1).bind fun B=>(Tr.get p1).bind fun m=>(bC 8 p0.1 ([m.1.2.1])).bind fun o=>(bC 8 p0.2.2.2.1 ([0])).bind fun p=>some ((yj 1 (p0.1.length:Int),yj 1 (p0.1.length:Int),false),o,p0.2.1,p0.2.2.1,p,p0.2.2.2.2)) else (if i.1.1==5 then ((Tr.get p1).bind fun C=>(Tr.get p1).bind fun q=>(aO q.2 0).bind fun r=>((bM n) (p0.1,p0.2.1,p0.2.2.1,p0.2.2.2.1,p0.2.2.2.2) r).bind fun f=>(Tr.get p1).bind fun D=>(Tr.get p1).bind fun s=>(aO s.2 1).bind fun t=>((bM n) f.2 t).bind fun b=>if f.1.2.2 then (some ((orI f.1.1 b.1.1,orI f.1.2.1 b.1.2.1,true),b.2.1,b.2.2.1,b.2.2.2.1,b.2.2.2.2.1,b.2.2.2.2.2)) else (some ((orI f.1.1 b.1.1,orI f.1.2.1 b.1.2.1,b.1.2.2),b.2.1,b.2.2.1,b.2.2.2.1,b.2.2.2.2.1,b.2.2.2.2.2))) else (if i.1.1==4 then ((Tr.get p1).bind fun E=>(Tr.get p1).bind fun u=>(aO u.2 0).bind fun v=>((bM n) (p0.1,p0.2.1,p0.2.2.1,p0.2.2.2.1,p0.2.2.2.2) v).bind fun c=>(Tr.get p1).bind fun F=>(Tr.get p1).bind fun w=>(aO w.2 1).bind fun x=>((bM n) c.2 x).bind fun a=>(fp (a.2.1,a.2.2.1,a.2.2.2.1,a.2.2.2.2.1,a.2.2.2.2.2) c.1.2.1 a.1.1).bind fun d=>if c.1.2.2 then (Option.bind ((if c.1.2.2 then (some (orI c.1.1 a.1.1,a.1.2.1,a.1.2.2)) else (some (c.1.1,a.1.2.1,a.1.2.2)):Option (Int×Int×Bool))) (fun g=>Option.bind ((if a.1.2.2 then (some (g.1,orI g.2.1 c.1.2.1,g.2.2)) else (some (g.1,g.2.1,g.2.2)):Option (Int×Int×Bool))) (fun k=>some ((k.1,k.2.1,k.2.2),d.1,d.2.1,d.2.2.1,d.2.2.2.1,d.2.2.2.2)))) else (Option.bind ((if c.1.2.2 then (some (orI c.1.1 a.1.1,a.1.2.1,false)) else (some (c.1.1,a.1.2.1,false)):Option (Int×Int×Bool))) (fun h=>Option.bind ((if a.1.2.2 then (some (h.1,orI h.2.1 c.1.2.1,h.2.2)) else (some (h.1,h.2.1,h.2.2)):Option (Int×Int×Bool))) (fun l=>some ((l.1,l.2.1,l.2.2),d.1,d.2.1,d.2.2.1,d.2.2.2.1,d.2.2.2.2))))) else (if i.1.1==6 then ((Tr.get p1).bind fun G=>(Tr.get p1).bind fun y=>(aO y.2 0).bind fun z=>((bM n) (p0.1,p0.2.1,p0.2.2.1,p0.2.2.2.1,p0.2.2.2.2) z).bind fun e=>(fp (e.2.1,e.2.2.1,e.2.2.2.1,e.2.2.2.2.1,e.2.2.2.2.2) e.1.2.1 e.1.1).bind fun j=>some ((e.1.1,e.1.2.1,true),j.1,j.2.1,j.2.2.1,j.2.2.2.1,j.2.2.2.2)) else (some ((0,0,false),p0.1,p0.2.1,p0.2.2.1,p0.2.2.2.1,p0.2.2.2.2))))))
def eW (b:(List Yq1)×Bool) (a:Int×Int):Option (Out (TH×Bool) (Int×Int)):=
 if decide (a.2<(b.1.length:Int)) then (Option.bind (((aO b.1 a.2).bind fun c=>if c.1==3 then (some (i64.wrap (a.1+1))) else (some a.1):Option Int)) (fun d=>some (.nxt (d,i64.wrap (a.2+1))))) else (some (.brk (a.1,a.2)))
def jW (c:List Yq1):Option (TH×Bool):=
 (oG c).bind fun b=>if b.2 then (aM (ah (eW b) aR (0,0)) (fun d=>some d) (fun e=>if decide (e.1>20) then (some ((([] :List Int),0,0,([] :List Int),false),false)) else ((pX b.1).bind fun f=>(bM gj (([] :List Int),0,0,([] :List Int),false) f).bind fun a=>some ((a.2.1,a.1.1,a.1.2.1,a.2.2.2.2.1,a.1.2.2),true)))) else (some ((([] :List Int),0,0,([] :List Int),false),false))
def fQ (e:Int->Int->Option (Int×Bool)) (f:(List Int)×Yq7×Int×Int×(List Bool)×(List (List Int))) (a:(List Int)×Yq7×(List Int)×Int):Option (Out (Yq2×Bool) ((List Int)×Yq7×(List Int)×Int)):=
 if decide (a.2.2.2<9) then (Option.bind (((aO a.1 f.2.2.1).bind fun g=>(e g a.2.2.2).bind fun b=>if b.2 then ((chk (iOk b.1=true)).bind fun _=>Option.bind ((if (lkM a.2.1 b.1).isSome then (some (a.1,a.2.1,(lkM a.2.1 b.1).getD 0)) else ((TA a.2.1 iOk iOk b.1 (a.1.length:Int)).bind fun m37=>(bC 8 a.1 ([b.1])).bind fun h=>some (h,m37,(a.1.length:Int))):Option ((List Int)×Yq7×Int))) (fun c=>(bC 8 a.2.2.1 ([c.2.2])).bind fun i=>some (c.1,c.2.1,i))) else ((bC 8 a.2.2.1 ([-1])).bind fun j=>some (a.1,a.2.1,j)):Option ((List Int)×Yq7×(List Int)))) (fun d=>some (.nxt (d.1,d.2.1,d.2.2,i64.wrap (a.2.2.2+1))))) else (some (.brk (a.1,a.2.1,a.2.2.1,a.2.2.2)))
def cU (c:Int) (d:Int->Option Bool) (e:Int->Int->Option (Int×Bool)) (a:(List Int)×Yq7×Int×Int×(List Bool)×(List (List Int))):Option (Out (Yq2×Bool) ((List Int)×Yq7×Int×Int×(List Bool)×(List (List Int)))):=
 if decide (a.2.2.1<(a.1.length:Int)) then (aM (ah (fQ e a) aR (a.1,a.2.1,([] :List Int),0)) (fun r=>some (.ret r)) (fun b=>if decide ((b.1.length:Int)>c) then (some (.ret ((0,[],[]),false))) else ((aO b.1 a.2.2.1).bind fun f=>(d f).bind fun g=>(bC 1 a.2.2.2.2.1 ([g])).bind fun h=>(bC 24 a.2.2.2.2.2 ([b.2.2.1])).bind fun i=>some (.nxt (b.1,b.2.1,i64.wrap (a.2.2.1+1),a.2.2.2.1,h,i))))) else (some (.brk (a.1,a.2.1,a.2.2.1,a.2.2.2.1,a.2.2.2.2.1,a.2.2.2.2.2)))
def gB (b:Int) (c:Int) (d:Int->Option Bool) (e:Int->Int->Option (Int×Bool)):Option (Yq2×Bool):=
 (TA ([] :List (Int×Int)) iOk iOk b 0).bind fun m1=>aM (ah (cU c d e) aR ([b],m1,0,0,[],[])) (fun r=>some r) (fun a=>some ((a.2.2.2.1,a.2.2.2.2.1,a.2.2.2.2.2),true))
def eX (a:(List Int)×Int×Int×(List Int)×Bool) (b:Int):Option Bool:=
 if (sd b 1)==1 then (if a.2.2.2.2 then (some true) else (some ((sd (pA b 1) a.2.2.1) !=0))) else (some ((sd (pA b 1) a.2.2.1) !=0))
def ez (b:(List Int)×Int×Int×(List Int)×Bool) (c:Int) (a:Int×Int):Option MT:=
 if decide (a.2<(b.2.2.2.1.length:Int)) then (Option.bind (((aO b.2.2.2.1 a.2).bind fun d=>(chk (0<=i64.wrap (a.2+1))).bind fun _=>if (sd (pA c (i64.wrap (a.2+1))) 1)==1 then (some (orI a.1 d)) else (some a.1):Option Int)) (fun e=>some (.nxt (e,i64.wrap (a.2+1))))) else (some (.brk (a.1,a.2)))
def eA (b:(List Int)×Int×Int×(List Int)×Bool) (c:Int) (d:Int×Int) (a:Int×Int):Option MT:=
 if decide (a.2<(b.1.length:Int)) then (Option.bind (((aO b.1 a.2).bind fun e=>if e==c then ((chk (0<=a.2)).bind fun _=>if (sd (pA d.1 a.2) 1)==1 then ((chk (0<=i64.wrap (a.2+1))).bind fun _=>some (orI a.1 (yj 1 (i64.wrap (a.2+1))))) else (some a.1)) else (some a.1):Option Int)) (fun f=>some (.nxt (f,i64.wrap (a.2+1))))) else (some (.brk (a.1,a.2)))
def jv (a:(List Int)×Int×Int×(List Int)×Bool) (b:Int) (c:Int):Option Int:=
 Option.bind ((if (sd b 1)==1 then (some a.2.1) else (some 0):Option Int)) (fun d=>aM (ah (ez a b) aR (d,0)) (fun r=>some r) (fun e=>aM (ah (eA a c e) aR (0,0)) (fun r=>some r) (fun f=>some f.1)))
def eH (b:Int) (c:Int) (q0:(List Int)×Int×Int×(List Int)×Bool):Option (Int×Bool):=
 (jv (q0.1,q0.2.1,q0.2.2.1,q0.2.2.2.1,q0.2.2.2.2) b c).bind fun a=>some (a,a !=0)
def kI (a:(List Int)×Int×Int×(List Int)×Bool) (c:Int):Option (Yq2×Bool):=
 (gB 1 c (fun a0=>eX (a.1,a.2.1,a.2.2.1,a.2.2.2.1,a.2.2.2.2) a0) (fun a0 a1=>eH a0 a1 (a.1,a.2.1,a.2.2.1,a.2.2.2.1,a.2.2.2.2))).bind fun b=>some ((b.1.1,b.1.2.1,b.1.2.2),b.2)
def eY (b:Bool×Int×List Bool) (c:List Int) (a:Bool×Int×List Bool):Option (Out (List Bool) (Bool×Int×List Bool)):=
 if decide (a.2.1<(c.length:Int)) then (Option.bind (((aO c a.2.1).bind fun d=>if decide (d≥0) then ((aO a.2.2 d).bind fun f=>if f then ((aO a.2.2 b.2.1).bind fun g=>if g then (some (a.1,a.2.2)) else ((aO a.2.2 b.2.1).bind fun h=>some (true,a.2.2.set b.2.1.toNat true))) else (some (a.1,a.2.2))) else (some (a.1,a.2.2)):Option (Bool×List Bool))) (fun e=>some (.nxt (e.1,i64.wrap (a.2.1+1),e.2)))) else (some (.brk (a.1,a.2.1,a.2.2)))
def eZ (b:Int×(List Bool)×List (List Int)) (a:Bool×Int×List Bool):Option (Out (List Bool) (Bool×Int×List Bool)):=
 if decide (a.2.1<(b.2.2.length:Int)) then ((aO b.2.2 a.2.1).bind fun d=>aM (ah (eY a d) aR (a.1,0,a.2.2)) (fun e=>some (.ret e)) (fun c=>some (.nxt (c.1,i64.wrap (a.2.1+1),c.2.2)))) else (some (.brk (a.1,a.2.1,a.2.2)))
def kJ (c:Int×(List Bool)×List (List Int)) (a:Bool×List Bool):Option (Out (List Bool) (Bool×List Bool)):=
 if a.1 then (aM (ah (eZ c) aR (false,0,a.2)) (fun d=>some (.ret d)) (fun b=>some (.nxt (b.1,b.2.2)))) else (some (.brk (a.1,a.2)))
def gO (a:Int×(List Bool)×List (List Int)):Option (List Bool):=
 (bC 1 ([] :List Bool) a.2.1).bind fun b=>aM (ah (kJ a) aR (true,b)) (fun c=>some c) (fun d=>some d.2)
def di (b:List (List Int)) (c:(List Int)->Option Bool) (a:Int):Option (Out Int Int):=
 if decide (a<(b.length:Int)) then ((aO b a).bind fun d=>(c d).bind fun e=>if e then (some (.ret a)) else (some (.nxt (i64.wrap (a+1))))) else (some (.brk a))
def cC (a:List (List Int)) (b:(List Int)->Option Bool):Option Int:=
 aM (ah (di a b) aR 0) (fun r=>some r) (fun c=>some (-1))
def jS (a:List Int) (q0:List Int):Option Bool:=
 (cr a q0).bind fun b=>some b
def dZ (d:List Int) (c:List Int) (a:Int×(List Int)):Option (Out ((List Int)×Int) (Int×(List Int))):=
 if decide (a.1<(c.length:Int)) then ((aO c a.1).bind fun b=>Option.bind ((if decide (b≥0) then ((aO d b).bind fun e=>some e) else (some b):Option Int)) (fun f=>(bC 8 a.2 ([f])).bind fun g=>some (.nxt (i64.wrap (a.1+1),g)))) else (some (.brk (a.1,a.2)))
def fB (h:Int×(List Bool)×(List (List Int))) (b:List Int) (a:(List (List Int))×(List Int)×Int):Option (Out ((List Int)×Int) ((List (List Int))×(List Int)×Int)):=
 if decide (a.2.2<(b.length:Int)) then (Option.bind (((aO b a.2.2).bind fun c=>if decide (c<0) then ((bC 8 a.2.1 ([-1])).bind fun i=>some (a.1,i)) else ((aO h.2.2 a.2.2).bind fun j=>aM (ah (dZ b j) aR (0,[c])) (fun _=>none) (fun d=>(cC a.1 (fun a0=>jS a0 d.2)).bind fun e=>Option.bind ((if decide (e<0) then ((bC 24 a.1 ([d.2])).bind fun k=>some (k,(a.1.length:Int))) else (some (a.1,e)):Option ((List (List Int))×Int))) (fun f=>(bC 8 a.2.1 ([f.2])).bind fun l=>some (f.1,l)))):Option ((List (List Int))×(List Int)))) (fun g=>some (.nxt (g.1,g.2,i64.wrap (a.2.2+1))))) else (some (.brk (a.1,a.2.1,a.2.2)))
def fq (b:Int×(List Bool)×(List (List Int))) (c:List Int):Option ((List Int)×Int):=
 aM (ah (fB b c) aR (([] :List (List Int)),([] :List Int),0)) (fun r=>some r) (fun a=>some (a.2.1,(a.1.length:Int)))
def dH (c:Int×(List Bool)×(List (List Int))) (b:List Bool) (a:(List Int)×Int):Option TJ:=
 if decide (a.2<(b.length:Int)) then (Option.bind (((aO b a.2).bind fun d=>if d then ((aO c.2.1 a.2).bind fun e=>if e then ((bC 8 a.1 ([1])).bind fun f=>some f) else ((bC 8 a.1 ([0])).bind fun g=>some g)) else ((bC 8 a.1 ([-1])).bind fun h=>some h):Option (List Int))) (fun i=>some (.nxt (i,i64.wrap (a.2+1))))) else (some (.brk (a.1,a.2)))
def iT (b:Int×(List Bool)×(List (List Int))) (c:(List Int)×Int):Option TJ:=
 (fq (b.1,b.2.1,b.2.2) c.1).bind fun a=>if a.2==c.2 then (some (.ret a.1)) else (some (.nxt (a.1,a.2)))
def fa (a:Int×(List Bool)×(List (List Int))):Option (List Int):=
 (gO (a.1,a.2.1,a.2.2)).bind fun b=>aM (ah (dH a b) aR (([] :List Int),0)) (fun r=>some r) (fun c=>aM (ah (iT a) aR (c.1,-1)) (fun r=>some r) (fun d=>none))
def xC (a:Int) (b:Int):Option (Int×Int):=
 some (IntKind.u32.wrap (pA (IntKind.u64.wrap ((IntKind.u64.wrap a)*(IntKind.u64.wrap b))) 32),IntKind.u32.wrap (IntKind.u64.wrap ((IntKind.u64.wrap a)*(IntKind.u64.wrap b))))
def qq (a:Int) (b:Int):Option (Int×Int):=
 some (IntKind.u64.wrap ((IntKind.u64.wrap ((IntKind.u64.wrap ((pA a 32)*(pA b 32)))+(pA (IntKind.u64.wrap ((IntKind.u64.wrap ((pA a 32)*(TC b 4294967295)))+(pA (IntKind.u64.wrap ((TC a 4294967295)*(TC b 4294967295))) 32))) 32)))+(pA (IntKind.u64.wrap ((TC (IntKind.u64.wrap ((IntKind.u64.wrap ((pA a 32)*(TC b 4294967295)))+(pA (IntKind.u64.wrap ((TC a 4294967295)*(TC b 4294967295))) 32))) 4294967295)+(IntKind.u64.wrap ((TC a 4294967295)*(pA b 32))))) 32)),IntKind.u64.wrap (a*b))
def sB (b:Int) (c:Int):Option (Int×Int):=
 (qq b c).bind fun a=>some (a.1,a.2)
def oS (a:Int×List Int):Option (Out (List Int) (Int×List Int)):=
 if decide (a.1<(a.2.length:Int)) then ((chk (And (0<=a.1) (a.1<=(a.2.length:Int)))).bind fun _=>(chk (And (0<=a.1) (a.1<=(a.2.length:Int)))).bind fun _=>(chk (And (0<=a.1) (a.1<=(a.2.length:Int)))).bind fun _=>(chk (And (0<=a.1) (a.1<=(a.2.length:Int)))).bind fun _=>some (.nxt (i64.wrap (a.1+((Min.min ((a.2.take a.1.toNat).length) (a.2.length - a.1.toNat):Nat):Int)),HZ a.2 a.1.toNat (a.2.take a.1.toNat)))) else (some (.brk (a.1,a.2)))
def cV (a:List Int) (c:Int):Option (List Int):=
 if decide (c<0) then (none) else ((sB (IntKind.u64.wrap (a.length:Int)) (IntKind.u64.wrap c)).bind fun b=>if decide (b.1>0) then (none) else (if decide (b.2>9223372036854775807) then (none) else ((mkI 8 (i64.wrap b.2) 0).bind fun d=>aM (ah (oS) aR (((Min.min a.length (d.length - 0):Nat):Int),HZ d 0 a)) (fun e=>some e) (fun f=>some f.2))))
def xD:Option Yq2:=
 (cV ([-1]) 9).bind fun a=>some (0,[false],[a])
def fl (b:List Int) (c:Int) (a:Int):Option (Out Int Int):=
 if decide (a<(b.length:Int)) then ((aO b a).bind fun d=>if c==d then (some (.ret a)) else (some (.nxt (i64.wrap (a+1))))) else (some (.brk a))
def gk (a:List Int) (b:Int):Option Int:=
 aM (ah (fl a b) aR 0) (fun r=>some r) (fun c=>some (-1))
def bg (a:Int) (q0:List Int):Option Int:=
 (gk q0 a).bind fun b=>some b
def dI (a:Int) (q0:Int×(List Bool)×(List (List Int))) (q1:Int->Option Int):Option Bool:=
 (q1 a).bind fun b=>(aO q0.2.1 b).bind fun c=>some c
def cm (c:Int×(List Bool)×(List (List Int))) (a:Int) (b:Int):Option Int:=
 if decide (a<0) then (some (-1)) else ((mI b).bind fun d=>if d then ((aO c.2.2 a).bind fun e=>(aO e b).bind fun f=>some f) else (some (-1)))
def dJ (b:Int) (c:Int) (q0:Int×(List Bool)×(List (List Int))) (q1:Int->Option Int) (q2:List Int):Option (Int×Bool):=
 (q1 b).bind fun d=>(cm (q0.1,q0.2.1,q0.2.2) d c).bind fun a=>if decide (a<0) then (some (0,false)) else ((aO q2 a).bind fun e=>if decide (e<0) then (some (0,false)) else ((aO q2 a).bind fun f=>some (f,true)))
def du (a:Int×(List Bool)×(List (List Int))):Option Yq2:=
 (fa (a.1,a.2.1,a.2.2)).bind fun b=>(aO b a.1).bind fun e=>if decide (e<0) then ((xD).bind fun c=>some (c.1,c.2.1,c.2.2)) else ((aO b a.1).bind fun f=>(gB f (b.length:Int) (fun a0=>dI a0 (a.1,a.2.1,a.2.2) (fun a0=>bg a0 b)) (fun a0 a1=>dJ a0 a1 (a.1,a.2.1,a.2.2) (fun a0=>bg a0 b) b)).bind fun d=>some (d.1.1,d.1.2.1,d.1.2.2))
def C6 (b:Int×(List Bool)×(List (List Int))):Option (Yq2×Bool):=
 (du (b.1,b.2.1,b.2.2)).bind fun a=>if decide ((a.2.1.length:Int)>12) then (some ((0,[],[]),false)) else (some ((a.1,a.2.1,a.2.2),true))
def kK (d:(List Yq1)):Option (Yq2×Bool):=
 (jW d).bind fun a=>if a.2 then ((kI (a.1.1,a.1.2.1,a.1.2.2.1,a.1.2.2.2.1,a.1.2.2.2.2) 200).bind fun b=>if b.2 then ((C6 (b.1.1,b.1.2.1,b.1.2.2)).bind fun c=>some ((c.1.1,c.1.2.1,c.1.2.2),c.2)) else (some ((0,[],[]),false))) else (some ((0,[],[]),false))
def b8 (c:List Yq2) (d:Yq2->Option Bool) (a:Int):Option (Out Int Int):=
 if decide (a<(c.length:Int)) then ((aO c a).bind fun b=>(d (b.1,b.2.1,b.2.2)).bind fun e=>if e then (some (.ret a)) else (some (.nxt (i64.wrap (a+1))))) else (some (.brk a))
def bK (a:List Yq2) (b:Yq2->Option Bool):Option Int:=
 aM (ah (b8 a b) aR 0) (fun r=>some r) (fun c=>some (-1))
def oT (a:Int×(List Bool)×(List (List Int))) (q0:Int×(List Bool)×(List (List Int))):Option Bool:=
 (fI (q0.1,q0.2.1,q0.2.2) (a.1,a.2.1,a.2.2)).bind fun b=>some b
def ni (d:List H0) (a:Int×(List Yq2)×Yq3):Option (Out (wL×Bool) TK):=
 if decide (a.1<(d.length:Int)) then ((aO d a.1).bind fun c=>(kK c.2.1).bind fun b=>if b.2 then ((bX c.1 1 99).bind fun i=>if i then (if decide (a.1>0) then ((aO d (i64.wrap (a.1 - 1))).bind fun j=>if decide (j.1≥c.1) then (some (.ret (([],[]),false))) else ((bK a.2.1 (fun a0=>oT a0 (b.1.1,b.1.2.1,b.1.2.2))).bind fun g=>Option.bind ((if decide (g<0) then ((bC 56 a.2.1 ([(b.1.1,b.1.2.1,b.1.2.2)])).bind fun k=>some ((a.2.1.length:Int),k,a.2.2)) else (some (g,a.2.1,a.2.2)):Option TK)) (fun e=>(ji c.2.1).bind fun l=>(bC 40 e.2.2 ([(c.1,l,e.1)])).bind fun m=>some (.nxt (i64.wrap (a.1+1),e.2.1,m))))) else ((bK a.2.1 (fun a0=>oT a0 (b.1.1,b.1.2.1,b.1.2.2))).bind fun h=>Option.bind ((if decide (h<0) then ((bC 56 a.2.1 ([(b.1.1,b.1.2.1,b.1.2.2)])).bind fun n=>some ((a.2.1.length:Int),n,a.2.2)) else (some (h,a.2.1,a.2.2)):Option TK)) (fun f=>(ji c.2.1).bind fun o=>(bC 40 f.2.2 ([(c.1,o,f.1)])).bind fun p=>some (.nxt (i64.wrap (a.1+1),f.2.1,p))))) else (some (.ret (([],[]),false)))) else (some (.ret (([],[]),false)))) else (some (.brk (a.1,a.2.1,a.2.2)))
def we (a:List H0):Option (wL×Bool):=
 aM (ah (ni a) aR (0,[],[])) (fun r=>some r) (fun b=>some ((b.2.1,b.2.2),decide ((a.length:Int)<=4)))
def cx (a:(List Yq2)×Yq3):Option Bool:=
 (we a.2).bind fun b=>if b.2 then ((fP (b.1.1,b.1.2) (a.1,a.2)).bind fun c=>some c) else (some false)
def cZ (a:Int×(List Yq6)):Option Int:=
 (m_i_IsValidHistory (a.1,a.2)).bind fun b=>if b then (some (i64.wrap ((i64.wrap (a.1+(a.2.length:Int))) - 1))) else (some 0)
def bm (c:List H0) (d:H0->Option Bool) (a:Int):Option (Out Int Int):=
 if decide (a<(c.length:Int)) then ((aO c a).bind fun b=>(d (b.1,b.2.1,b.2.2)).bind fun e=>if e then (some (.ret a)) else (some (.nxt (i64.wrap (a+1))))) else (some (.brk a))
def cq (a:List H0) (b:H0->Option Bool):Option Int:=
 aM (ah (bm a b) aR 0) (fun r=>some r) (fun c=>some (-1))
def nj (a:Int×((List Yq1))×Int) (q0:Int):Option Bool:=
 some (a.1==q0)
def gP (a:(List Yq2)×Yq3) (b:Int):Option Int:=
 (cq a.2 (fun a0=>nj a0 b)).bind fun c=>some c
def dj (a:BB×wL×(List Yq8)×ByteArray) (d:Int) (b:Int):Option (Out Bool Int):=
 if decide (b<(a.2.2.1.length:Int)) then ((aO a.2.2.1 b).bind fun c=>(bX c.1 1 99).bind fun e=>if e then (if decide (b>0) then ((aO a.2.2.1 (i64.wrap (b - 1))).bind fun f=>if decide (f.1≥c.1) then (some (.ret false)) else ((gP (a.2.1.1,a.2.1.2) c.2.1).bind fun g=>if decide (g<0) then (some (.ret false)) else ((bX c.2.2 0 d).bind fun h=>if h then (some (.nxt (i64.wrap (b+1)))) else (some (.ret false))))) else ((gP (a.2.1.1,a.2.1.2) c.2.1).bind fun i=>if decide (i<0) then (some (.ret false)) else ((bX c.2.2 0 d).bind fun j=>if j then (some (.nxt (i64.wrap (b+1)))) else (some (.ret false))))) else (some (.ret false))) else (some (.brk b))
def dK (a:BB×wL×(List Yq8)×ByteArray):Option Bool:=
 (m_i_IsValidHistory (a.1.1,a.1.2)).bind fun d=>if d then ((cx (a.2.1.1,a.2.1.2)).bind fun e=>if e then (if decide ((a.2.2.1.length:Int)>4) then (some false) else (if decide ((a.2.2.2.size:Int)>4000) then (some false) else ((cZ (a.1.1,a.1.2)).bind fun c=>aM (ah (dj a c) aR 0) (fun r=>some r) (fun g=>(m_i_ScanLog a.2.2.2).bind fun b=>if b.2.2==(a.2.2.2.size:Int) then (if (b.1.length:Int)==0 then (some true) else ((aO b.1 (i64.wrap ((b.1.length:Int) - 1))).bind fun f=>some (f==c))) else (some false))))) else (some false)) else (some false)
def kL (a:List Int):Option (List Int):=
 (bC 8 ([] :List Int) a).bind fun b=>some b
def jw (a:(List Int)×(List Yq1)):Option Yq6:=
 (kL a.1).bind fun b=>(bC 32 ([] :List Yq1) a.2).bind fun c=>some (b,c)
def gQ (b:Int×(List Yq6)) (a:Int×Int×(List Yq6)):Option (Out BB (Int×Int×(List Yq6))):=
 if decide (a.1<(b.2.length:Int)) then ((aO b.2 a.1).bind fun c=>(jw (c.1,c.2)).bind fun d=>(bC 48 a.2.2 ([(d.1,d.2)])).bind fun e=>some (.nxt (i64.wrap (a.1+1),a.2.1,e))) else (some (.brk (a.1,a.2.1,a.2.2)))
def kM (a:Int×(List Yq6)):Option BB:=
 aM (ah (gQ a) aR (0,a.1,[])) (fun r=>some r) (fun b=>some (b.2.1,b.2.2))
def fu (b:Int×(List Bool)×(List (List Int))) (a:Int×Int×(List Bool)×(List (List Int))):Option (Out Yq2 (Int×Int×(List Bool)×(List (List Int)))):=
 if decide (a.1<(b.2.2.length:Int)) then ((aO b.2.2 a.1).bind fun c=>(kL c).bind fun d=>(bC 24 a.2.2.2 ([d])).bind fun e=>some (.nxt (i64.wrap (a.1+1),a.2.1,a.2.2.1,e))) else (some (.brk (a.1,a.2.1,a.2.2.1,a.2.2.2)))
def iU (a:Int×(List Bool)×(List (List Int))):Option Yq2:=
 (bC 1 ([] :List Bool) a.2.1).bind fun c=>aM (ah (fu a) aR (0,a.1,c,[])) (fun r=>some r) (fun b=>some (b.2.1,b.2.2.1,b.2.2.2))
def fR (d:(List Yq2)×Yq3) (a:Int×(List Yq2)×Yq3):Option (Out wL TK):=
 if decide (a.1<(d.1.length:Int)) then ((aO d.1 a.1).bind fun b=>(iU (b.1,b.2.1,b.2.2)).bind fun c=>(bC 56 a.2.1 ([(c.1,c.2.1,c.2.2)])).bind fun e=>some (.nxt (i64.wrap (a.1+1),e,a.2.2))) else (some (.brk (a.1,a.2.1,a.2.2)))
def fS (c:(List Yq2)×Yq3) (a:Int×(List Yq2)×Yq3):Option (Out wL TK):=
 if decide (a.1<(c.2.length:Int)) then ((aO c.2 a.1).bind fun b=>(ji b.2.1).bind fun d=>(bC 40 a.2.2 ([(b.1,d,b.2.2)])).bind fun e=>some (.nxt (i64.wrap (a.1+1),a.2.1,e))) else (some (.brk (a.1,a.2.1,a.2.2)))
def l7 (a:(List Yq2)×Yq3):Option wL:=
 aM (ah (fR a) aR (0,[],[])) (fun r=>some r) (fun b=>aM (ah (fS a) aR (0,b.2.1,b.2.2)) (fun r=>some r) (fun c=>some (c.2.1,c.2.2)))
def lR (a:BB×wL×(List Yq8)×ByteArray):Option VD:=
 (kM (a.1.1,a.1.2)).bind fun b=>(l7 (a.2.1.1,a.2.1.2)).bind fun c=>(bC 24 ([] :List Yq8) a.2.2.1).bind fun d=>some ((b.1,b.2),(c.1,c.2),d,a.2.2.2)
def mw (a:Int×(List Yq6)) (b:Int):Option (Yq6×Bool):=
 (m_i_IsValidHistory (a.1,a.2)).bind fun e=>if e then ((cZ (a.1,a.2)).bind fun f=>(bX b a.1 f).bind fun g=>if g then ((aO a.2 (i64.wrap (b - a.1))).bind fun c=>(jw (c.1,c.2)).bind fun d=>some ((d.1,d.2),true)) else (some (([],[]),false))) else (some (([],[]),false))
def jX (a:Int×List wE) (b:Int):Option ((Int×List wE)×Bool):=
 (kM (a.1,a.2)).bind fun c=>(mw (a.1,a.2) b).bind fun d=>if d.2 then ((chk (And (0<=(i64.wrap (b - a.1))) ((i64.wrap (b - a.1))<=(c.2.length:Int)))).bind fun _=>some ((b,c.2.drop ((i64.wrap (b - a.1)).toNat)),true)) else (some ((c.1,c.2),false))
def fv (e:Int) (c:(List Int)×(List (List Yq5))×Int) (a:Int×(List (List Yq5))×Int×(List wE)×(List Yq9)×(List Eo)×(List Yq8)×ByteArray):Option (Out (Yq4×Bool) (Int×(List (List Yq5))×Int×(List wE)×(List Yq9)×(List Eo)×(List Yq8)×ByteArray)):=
 if decide (a.1<(c.1.length:Int)) then (Option.bind (((aO c.1 a.1).bind fun d=>if decide (d>e) then ((aO a.2.1 a.1).bind fun f=>(gA d f).bind fun g=>(lF a.2.2.2.2.2.2.2 g).bind fun h=>some (a.2.1,a.2.2.1,a.2.2.2.1,a.2.2.2.2.1,a.2.2.2.2.2.1,a.2.2.2.2.2.2.1,h)) else (some (a.2.1,a.2.2.1,a.2.2.2.1,a.2.2.2.2.1,a.2.2.2.2.2.1,a.2.2.2.2.2.2.1,a.2.2.2.2.2.2.2)):Option ((List (List Yq5))×Int×(List wE)×(List Yq9)×(List Eo)×(List Yq8)×ByteArray))) (fun b=>some (.nxt (i64.wrap (a.1+1),b.1,b.2.1,b.2.2.1,b.2.2.2.1,b.2.2.2.2.1,b.2.2.2.2.2.1,b.2.2.2.2.2.2)))) else (some (.brk (a.1,a.2.1,a.2.2.1,a.2.2.2.1,a.2.2.2.2.1,a.2.2.2.2.2.1,a.2.2.2.2.2.2.1,a.2.2.2.2.2.2.2)))
def lq (a:(Int×List wE)×((List Yq9)×List Eo)×(List Yq8)×ByteArray) (e:Int):Option (Yq4×Bool):=
 (lR ((a.1.1,a.1.2),(a.2.1.1,a.2.1.2),a.2.2.1,a.2.2.2)).bind fun b=>(dK ((a.1.1,a.1.2),(a.2.1.1,a.2.1.2),a.2.2.1,a.2.2.2)).bind fun g=>if g then ((jX (a.1.1,a.1.2) e).bind fun d=>if d.2 then ((m_i_ScanLog a.2.2.2).bind fun f=>aM (ah (fv e f) aR (0,f.2.1,d.1.1,d.1.2,b.2.1.1,b.2.1.2,b.2.2.1,(⟨#[]⟩:ByteArray))) (fun h=>some h) (fun c=>some (((c.2.2.1,c.2.2.2.1),(c.2.2.2.2.1,c.2.2.2.2.2.1),c.2.2.2.2.2.2.1,c.2.2.2.2.2.2.2),true))) else (some (((b.1.1,b.1.2),(b.2.1.1,b.2.1.2),b.2.2.1,b.2.2.2),false))) else (some (((b.1.1,b.1.2),(b.2.1.1,b.2.1.2),b.2.2.1,b.2.2.2),false))
def bc (b:List Yq6) (e:List Yq6) (f:Yq6->Yq6->Option Bool) (a:Int):Option (Out Bool Int):=
 if decide (a<(b.length:Int)) then ((aO b a).bind fun c=>(aO e a).bind fun d=>(f (c.1,c.2) (d.1,d.2)).bind fun g=>if g then (some (.nxt (i64.wrap (a+1)))) else (some (.ret false))) else (some (.brk a))
def bU (a:List Yq6) (b:List Yq6) (c:Yq6->Yq6->Option Bool):Option Bool:=
 if (a.length:Int) !=(b.length:Int) then (some false) else (aM (ah (bc a b c) aR 0) (fun r=>some r) (fun d=>some true))
def c6 (d:List Yq1) (e:List Yq1) (a:Int):Option (Out Bool Int):=
 if decide (a<(d.length:Int)) then ((aO d a).bind fun b=>(aO e a).bind fun c=>if (b.1==c.1)&&((b.2.1==c.2.1)&&((b.2.2.1==c.2.2.1)&&((b.2.2.2==c.2.2.2)&&true))) then (some (.nxt (i64.wrap (a+1)))) else (some (.ret false))) else (some (.brk a))
def dL (a:List Yq1) (b:List Yq1):Option Bool:=
 if (a.length:Int) !=(b.length:Int) then (some false) else (aM (ah (c6 a b) aR 0) (fun r=>some r) (fun c=>some true))
def kN (a:(List Int)×(List Yq1)) (b:(List Int)×(List Yq1)):Option Bool:=
 (cr a.1 b.1).bind fun c=>if c then ((dL a.2 b.2).bind fun d=>some d) else (some false)
def jY (a:Int×(List Yq6)) (b:Int×(List Yq6)):Option Bool:=
 if a.1==b.1 then ((bU a.2 b.2 (fun a0 a1=>kN a0 a1)).bind fun c=>some c) else (some false)
def bF (d:List Yq8) (e:List Yq8) (a:Int):Option (Out Bool Int):=
 if decide (a<(d.length:Int)) then ((aO d a).bind fun b=>(aO e a).bind fun c=>if (b.1==c.1)&&((b.2.1==c.2.1)&&((b.2.2==c.2.2)&&true)) then (some (.nxt (i64.wrap (a+1)))) else (some (.ret false))) else (some (.brk a))
def bO (a:List Yq8) (b:List Yq8):Option Bool:=
 if (a.length:Int) !=(b.length:Int) then (some false) else (aM (ah (bF a b) aR 0) (fun r=>some r) (fun c=>some true))
def l9 (a:BB×wL×(List Yq8)×ByteArray) (b:BB×wL×(List Yq8)×ByteArray):Option Bool:=
 (jY (a.1.1,a.1.2) (b.1.1,b.1.2)).bind fun c=>if c then ((fP (a.2.1.1,a.2.1.2) (b.2.1.1,b.2.1.2)).bind fun d=>if d then ((bO a.2.2.1 b.2.2.1).bind fun e=>if e then (some (a.2.2.2==b.2.2.2)) else (some false)) else (some false)) else (some false)
def gR (a:(List Yq2)×Yq3) (e:Int):Option (Yq2×Bool):=
 (gP (a.1,a.2) e).bind fun d=>if decide (d<0) then (some ((0,[],[]),false)) else ((cx (a.1,a.2)).bind fun f=>if f then ((aO a.2 d).bind fun g=>(aO a.1 g.2.2).bind fun b=>(iU (b.1,b.2.1,b.2.2)).bind fun c=>some ((c.1,c.2.1,c.2.2),true)) else (some ((0,[],[]),false)))
def c7 (c:Int×(List Bool)×(List (List Int))) (b:List Int) (a:Int):Option (Out Bool Int):=
 if decide (a<(b.length:Int)) then ((aO b a).bind fun d=>(bX d (-1) (i64.wrap ((c.2.1.length:Int) - 1))).bind fun e=>if e then (some (.nxt (i64.wrap (a+1)))) else (some (.ret false))) else (some (.brk a))
def fC (b:Int×(List Bool)×(List (List Int))) (a:Int):Option (Out Bool Int):=
 if decide (a<(b.2.2.length:Int)) then ((aO b.2.2 a).bind fun c=>aM (ah (c7 b c) aR 0) (fun r=>some (.ret r)) (fun d=>if (c.length:Int) !=9 then (some (.ret false)) else (some (.nxt (i64.wrap (a+1)))))) else (some (.brk a))
def cE (a:Int×(List Bool)×(List (List Int))):Option Bool:=
 (bX (a.2.1.length:Int) 1 12).bind fun b=>if b then ((bX a.1 0 (i64.wrap ((a.2.1.length:Int) - 1))).bind fun c=>if c then (if (a.2.2.length:Int) !=(a.2.1.length:Int) then (some false) else (aM (ah (fC a) aR 0) (fun r=>some r) (fun d=>some true))) else (some false)) else (some false)
def eR (c:(List Int)×(List Yq1)) (b:List Int) (a:Int):Option (Out Bool Int):=
 if decide (a<(b.length:Int)) then ((aO b a).bind fun d=>(bX d 0 (i64.wrap ((c.1.length:Int) - 1))).bind fun e=>if e then (some (.nxt (i64.wrap (a+1)))) else (some (.ret false))) else (some (.brk a))
def dw (a:(List Int)×(List Yq1)) (b:Int×(List Bool)×(List (List Int))) (c:List Int):Option Bool:=
 aM (ah (eR a c) aR 0) (fun r=>some r) (fun f=>(bf (a.1,a.2)).bind fun d=>if d then ((cE (b.1,b.2.1,b.2.2)).bind fun e=>some e) else (some false))
def nk (c:List Int) (a:(List Int)×Int×List Int):Option (Out (List Int) ((List Int)×Int×List Int)):=
 if decide (a.2.1<(c.length:Int)) then ((aO c a.2.1).bind fun b=>(aO a.2.2 b).bind fun e=>(bC 8 a.1 ([b])).bind fun d=>some (.nxt (d,i64.wrap (a.2.1+1),a.2.2.set b.toNat 0))) else (some (.brk (a.1,a.2.1,a.2.2)))
def nl (c:List Int) (a:(List Int)×Int×List Int):Option (Out (List Int) ((List Int)×Int×List Int)):=
 if decide (a.2.1<(c.length:Int)) then (Option.bind (((aO c a.2.1).bind fun b=>(aO a.2.2 b).bind fun e=>if decide (e<0) then ((aO a.1 0).bind fun f=>(aO a.2.2 f).bind fun g=>(aO a.2.2 b).bind fun i=>(bC 8 a.1 ([b])).bind fun h=>some (h,a.2.2.set b.toNat (i64.wrap (g+1)))) else (some (a.1,a.2.2)):Option ((List Int)×List Int))) (fun d=>some (.nxt (d.1,i64.wrap (a.2.1+1),d.2)))) else (some (.brk (a.1,a.2.1,a.2.2)))
def nn (c:List (List Int)) (a:(List Int)×List Int):Option (Out (List Int) ((List Int)×List Int)):=
 if decide ((a.1.length:Int)>0) then ((aO a.1 0).bind fun d=>(aO c d).bind fun e=>aM (ah (nl e) aR (a.1,0,a.2)) (fun f=>some (.ret f)) (fun b=>(chk (And ((0:Int)<=1) (1<=(b.1.length:Int)))).bind fun _=>some (.nxt (b.1.drop 1,b.2.2)))) else (some (.brk (a.1,a.2)))
def wg (a:List (List Int)) (c:List Int):Option (List Int):=
 (cV ([(-1)]) (a.length:Int)).bind fun d=>aM (ah (nk c) aR (([] :List Int),0,d)) (fun e=>some e) (fun b=>aM (ah (nn a) aR (b.1,b.2.2)) (fun f=>some f) (fun g=>some g.2))
def rM (b:Int) (a:(List Int)×Int):Option TJ:=
 (chk (0<=a.2)).bind fun _=>if (pA b a.2) !=0 then (Option.bind (((chk (0<=a.2)).bind fun _=>if (sd (pA b a.2) 1)==1 then ((bC 8 a.1 ([a.2])).bind fun c=>some c) else (some a.1):Option (List Int))) (fun d=>some (.nxt (d,i64.wrap (a.2+1))))) else (some (.brk (a.1,a.2)))
def kO (a:Int):Option (List Int):=
 aM (ah (rM a) aR (([] :List Int),0)) (fun r=>some r) (fun b=>some b.1)
def uN (a:Int×Int×Int×Int) (b:Bool):Option Int:=
 if b then (some (i64.wrap ((i64.wrap (2*a.2.2.2))+1))) else (some (i64.wrap (2*a.2.2.2)))
def qu (d:(List Int)×List Yq1) (b:Int×List (List C4)):Option (Out (List (List C4)) (Int×List (List C4))):=
 if decide (b.1<(d.2.length:Int)) then ((aO d.2 b.1).bind fun a=>(aO b.2 a.2.1).bind fun e=>(uN (a.1,a.2.1,a.2.2.1,a.2.2.2) false).bind fun f=>(bC 32 e ([((a.1,false),f,a.2.2.1)])).bind fun c=>(aO b.2 a.2.1).bind fun j=>(chk (a.2.1<((b.2.set a.2.1.toNat ([] :List C4)).length:Int))).bind fun _=>(chk (a.2.1=a.2.1)).bind fun _=>(aO (b.2.set a.2.1.toNat c) a.2.2.1).bind fun g=>(uN (a.1,a.2.1,a.2.2.1,a.2.2.2) true).bind fun h=>(bC 32 g ([((a.1,true),h,a.2.1)])).bind fun i=>(aO (b.2.set a.2.1.toNat c) a.2.2.1).bind fun k=>(chk (a.2.2.1<(((b.2.set a.2.1.toNat c).set a.2.2.1.toNat ([] :List C4)).length:Int))).bind fun _=>(chk (a.2.2.1=a.2.2.1)).bind fun _=>some (.nxt (i64.wrap (b.1+1),(b.2.set a.2.1.toNat c).set a.2.2.1.toNat i))) else (some (.brk (b.1,b.2)))
def yL (a:(List Int)×List Yq1):Option (List (List C4)):=
 (mkI 24 (a.1.length:Int) ([] :List C4)).bind fun b=>aM (ah (qu a) aR (0,b)) (fun c=>some c) (fun d=>some d.2)
def lS (b:Int×(List Bool)×(List (List Int))) (c:Int) (a:Int×Int):Option MT:=
 if decide (a.2≥0) then ((chk (0<=a.2)).bind fun _=>if (sd (pA a.1 a.2) 1)==0 then ((chk (0<=a.2)).bind fun _=>(cm (b.1,b.2.1,b.2.2) a.2 (i64.wrap (6+c))).bind fun d=>some (.nxt (orI a.1 (yj 1 a.2),d))) else (some (.brk (a.1,a.2)))) else (some (.brk (a.1,a.2)))
def mx (a:Int×(List Bool)×(List (List Int))) (b:Int) (c:Int):Option Int:=
 aM (ah (lS a c) aR (0,b)) (fun r=>some r) (fun d=>some d.1)
def oU (b:Int×(List Bool)×(List (List Int))) (e:Int) (d:List Int) (a:Int×Int):Option MT:=
 if decide (a.2<(d.length:Int)) then (Option.bind (((aO d a.2).bind fun f=>(cm (b.1,b.2.1,b.2.2) f e).bind fun c=>if decide (c≥0) then ((chk (0<=c)).bind fun _=>some (orI a.1 (yj 1 c))) else (some a.1):Option Int)) (fun g=>some (.nxt (g,i64.wrap (a.2+1))))) else (some (.brk (a.1,a.2)))
def kP (b:Int×(List Bool)×(List (List Int))) (d:Int) (e:Int) (c:List Int) (a:Int×Int):Option MT:=
 if decide (a.2<(c.length:Int)) then ((aO c a.2).bind fun f=>(mx (b.1,b.2.1,b.2.2) f d).bind fun g=>(kO g).bind fun h=>aM (ah (oU b e h) aR (a.1,0)) (fun r=>some (.ret r)) (fun i=>some (.nxt (i.1,i64.wrap (a.2+1))))) else (some (.brk (a.1,a.2)))
def uO (a:Int×(List Bool)×(List (List Int))) (b:Int) (c:Int) (d:Int):Option Int:=
 (kO b).bind fun e=>aM (ah (kP a c d e) aR (0,0)) (fun r=>some r) (fun f=>some f.1)
def eI (b:Int×(List Bool)×List (List Int)) (c:Int×List (List Int)) (d:Int×List (List Int)) (f:(Int×Bool)×Int×Int) (e:List Int) (a:Int×List (List Int)):Option (Out (List (List Int)) (Int×List (List Int))):=
 if decide (a.1<(e.length:Int)) then ((aO e a.1).bind fun g=>(aO a.2 (i64.wrap ((i64.wrap (c.1*(b.2.1.length:Int)))+d.1))).bind fun h=>(bC 8 h ([i64.wrap ((i64.wrap (f.2.2*(b.2.1.length:Int)))+g)])).bind fun i=>(aO a.2 (i64.wrap ((i64.wrap (c.1*(b.2.1.length:Int)))+d.1))).bind fun j=>(chk ((i64.wrap ((i64.wrap (c.1*(b.2.1.length:Int)))+d.1))<((a.2.set ((i64.wrap ((i64.wrap (c.1*(b.2.1.length:Int)))+d.1)).toNat) ([] :List Int)).length:Int))).bind fun _=>(chk ((i64.wrap ((i64.wrap (c.1*(b.2.1.length:Int)))+d.1))=(i64.wrap ((i64.wrap (c.1*(b.2.1.length:Int)))+d.1)))).bind fun _=>some (.nxt (i64.wrap (a.1+1),a.2.set ((i64.wrap ((i64.wrap (c.1*(b.2.1.length:Int)))+d.1)).toNat) i))) else (some (.brk (a.1,a.2)))
def fT (g:(List Int)×List Yq1) (b:Int×(List Bool)×List (List Int)) (d:Int×List (List Int)) (e:List C4) (c:Int×List (List Int)) (a:Int×List (List Int)):Option (Out (List (List Int)) (Int×List (List Int))):=
 if decide (a.1<(e.length:Int)) then ((aO e a.1).bind fun f=>(chk (0<=c.1)).bind fun _=>(aO g.1 d.1).bind fun h=>(uO (b.1,b.2.1,b.2.2) (yj 1 c.1) h f.2.1).bind fun i=>(kO i).bind fun j=>aM (ah (eI b d c f j) aR (0,a.2)) (fun k=>some (.ret k)) (fun l=>some (.nxt (i64.wrap (a.1+1),l.2)))) else (some (.brk (a.1,a.2)))
def fU (c:(List Int)×List Yq1) (b:Int×(List Bool)×List (List Int)) (d:Int×List (List Int)) (e:List C4) (a:Int×List (List Int)):Option (Out (List (List Int)) (Int×List (List Int))):=
 if decide (a.1<(b.2.1.length:Int)) then (aM (ah (fT c b d e a) aR (0,a.2)) (fun f=>some (.ret f)) (fun g=>some (.nxt (i64.wrap (a.1+1),g.2)))) else (some (.brk (a.1,a.2)))
def jx (c:(List Int)×List Yq1) (d:Int×(List Bool)×List (List Int)) (b:List (List C4)) (a:Int×List (List Int)):Option (Out (List (List Int)) (Int×List (List Int))):=
 if decide (a.1<(b.length:Int)) then ((aO b a.1).bind fun e=>aM (ah (fU c d a e) aR (0,a.2)) (fun f=>some (.ret f)) (fun g=>some (.nxt (i64.wrap (a.1+1),g.2)))) else (some (.brk (a.1,a.2)))
def gC (a:(List Int)×List Yq1) (b:Int×(List Bool)×List (List Int)):Option (List (List Int)):=
 (mkI 24 (i64.wrap ((b.2.1.length:Int)*(a.1.length:Int))) ([] :List Int)).bind fun c=>(yL (a.1,a.2)).bind fun d=>aM (ah (jx a b d) aR (0,c)) (fun e=>some e) (fun f=>some f.2)
def iV (b:(List Int)×List Yq1) (a:Int×(List Bool)×List (List Int)) (c:Int):Option (List Int):=
 (dw (b.1,b.2) (a.1,a.2.1,a.2.2) ([c])).bind fun e=>if e then ((gC (b.1,b.2) (a.1,a.2.1,a.2.2)).bind fun f=>(wg f ([i64.wrap ((i64.wrap (c*(a.2.1.length:Int)))+a.1)])).bind fun d=>((chk (0<(d.length:Int))).bind fun _=>some d).bind fun g=>some g) else (some ([] :List Int))
def ma (c:Int×(List Bool)×(List (List Int))) (b:List Int) (a:Int):Option (Out Bool Int):=
 if decide (a<(b.length:Int)) then ((aO b a).bind fun d=>(aO c.2.1 d).bind fun e=>if e then (some (.ret true)) else (some (.nxt (i64.wrap (a+1))))) else (some (.brk a))
def gD (a:Int×(List Bool)×(List (List Int))) (d:Int) (c:List Int) (b:Int):Option (Out Bool Int):=
 if decide (b<(c.length:Int)) then ((aO c b).bind fun e=>(mx (a.1,a.2.1,a.2.2) e d).bind fun f=>(kO f).bind fun g=>aM (ah (ma a g) aR 0) (fun r=>some (.ret r)) (fun h=>some (.nxt (i64.wrap (b+1))))) else (some (.brk b))
def np (a:Int×(List Bool)×(List (List Int))) (b:Int) (c:Int):Option Bool:=
 (kO b).bind fun d=>aM (ah (gD a c d) aR 0) (fun r=>some r) (fun e=>some false)
def ir (a:List Int):Option (List Int):=R.Vv a
def c8 (c:List Int) (b:Int) (a:Int×Int×List Int):Option (Out (List Int) (Int×Int×List Int)):=
 if decide (a.2.1<((0+((c.length:Int) - 0)) - (0+b))) then (Option.bind (((chk (And (0<=a.2.1) (a.2.1<((0+((c.length:Int) - 0)) - (0+b))))).bind fun _=>(aO a.2.2 ((0+b)+a.2.1)).bind fun e=>(chk (And (0<=(i64.wrap (a.2.1 - 1))) ((i64.wrap (a.2.1 - 1))<((0+((c.length:Int) - 0)) - (0+b))))).bind fun _=>(aO a.2.2 ((0+b)+(i64.wrap (a.2.1 - 1)))).bind fun f=>if e !=f then ((chk (And (0<=a.2.1) (a.2.1<((0+((c.length:Int) - 0)) - (0+b))))).bind fun _=>(aO a.2.2 ((0+b)+a.2.1)).bind fun g=>(aO a.2.2 a.1).bind fun h=>some (i64.wrap (a.1+1),a.2.2.set a.1.toNat g)) else (some (a.1,a.2.2)):Option (Int×List Int))) (fun d=>some (.nxt (d.1,i64.wrap (a.2.1+1),d.2)))) else (some (.brk (a.1,a.2.1,a.2.2)))
def b9 (c:List Int) (b:Int):Option (Out (List Int) Int):=
 if decide (b<(c.length:Int)) then ((aO c b).bind fun d=>(aO c (i64.wrap (b - 1))).bind fun e=>if d==e then ((chk (And (0<=b) (And (b<=((c.length:Int) - 0)) ((0+((c.length:Int) - 0))<=(c.length:Int))))).bind fun _=>aM (ah (c8 c b) aR (b,1,c)) (fun f=>some (.ret f)) (fun a=>(chk (And (0<=a.1) (And (a.1<=((a.2.2.length:Int) - 0)) ((0+((a.2.2.length:Int) - 0))<=(a.2.2.length:Int))))).bind fun _=>(chk (And ((0+a.1)<=(0+((a.2.2.length:Int) - 0))) ((0+((a.2.2.length:Int) - 0))<=(a.2.2.length:Int)))).bind fun _=>(chk (And ((0:Int)<=0) (And (0<=a.1) ((0+a.1)<=((tk a.2.2 ((0+a.1).toNat) ((0+((a.2.2.length:Int) - 0)).toNat) 0).length:Int))))).bind fun _=>some (.ret (((tk a.2.2 ((0+a.1).toNat) ((0+((a.2.2.length:Int) - 0)).toNat) 0).take ((0+a.1).toNat)).drop 0)))) else (some (.nxt (i64.wrap (b+1))))) else (some (.brk b))
def dM (a:List Int):Option (List Int):=
 if decide ((a.length:Int)<2) then (some a) else (aM (ah (b9 a) aR 1) (fun b=>some b) (fun c=>some a))
def nr (a:List Int):Option (List Int):=
 (kL a).bind fun b=>(ir b).bind fun c=>(dM c).bind fun d=>some d
def yM (a:(List Int)×Int):Option TJ:=
 if decide (a.2<((0:Nat):Int)) then (none) else (some (.brk (a.1,a.2)))
def gS (d:(List Int)×List Yq1) (b:Int×(List Bool)×List (List Int)) (c:List Int) (a:(List Int)×Int):Option TJ:=
 if decide (a.2<(c.length:Int)) then (Option.bind (((aO c a.2).bind fun e=>if decide (e≥0) then ((chk ((b.2.1.length:Int)≠0)).bind fun _=>(chk (0<=(Int.tmod a.2 (b.2.1.length:Int)))).bind fun _=>(chk ((b.2.1.length:Int)≠0)).bind fun _=>(aO d.1 (EZ a.2 (b.2.1.length:Int))).bind fun f=>(np (b.1,b.2.1,b.2.2) (yj 1 (Int.tmod a.2 (b.2.1.length:Int))) f).bind fun g=>if g then ((chk ((b.2.1.length:Int)≠0)).bind fun _=>(bC 8 a.1 ([EZ a.2 (b.2.1.length:Int)])).bind fun h=>some h) else (some a.1)) else (some a.1):Option (List Int))) (fun i=>some (.nxt (i,i64.wrap (a.2+1))))) else (some (.brk (a.1,a.2)))
def kQ (b:(List Int)×List Yq1) (a:Int×(List Bool)×List (List Int)) (d:Int):Option (List Int):=
 (iV (b.1,b.2) (a.1,a.2.1,a.2.2) d).bind fun c=>if decide ((c.length:Int)=0) then (aM (ah (yM) aR (([] :List Int),0)) (fun e=>some e) (fun f=>(nr f.1).bind fun g=>some g)) else (aM (ah (gS b a c) aR (([] :List Int),0)) (fun h=>some h) (fun i=>(nr i.1).bind fun j=>some j))
def nV (c:Yq7×Int) (b:List Int) (a:Yq7×Int):Option (Out Yq7 (Yq7×Int)):=
 if decide (a.2<(b.length:Int)) then ((aO b a.2).bind fun d=>(bC 16 a.1 ([(c.2,d)])).bind fun e=>some (.nxt (e,i64.wrap (a.2+1)))) else (some (.brk (a.1,a.2)))
def iW (b:(List Int)×(List Yq1)) (c:Int×(List Bool)×(List (List Int))) (a:Yq7×Int):Option (Out Yq7 (Yq7×Int)):=
 if decide (a.2<(b.1.length:Int)) then ((kQ (b.1,b.2) (c.1,c.2.1,c.2.2) a.2).bind fun d=>aM (ah (nV a d) aR (a.1,0)) (fun r=>some (.ret r)) (fun e=>some (.nxt (e.1,i64.wrap (a.2+1))))) else (some (.brk (a.1,a.2)))
def iu (b:(List Int)×(List Yq1)) (a:Int×(List Bool)×(List (List Int))):Option Yq7:=
 (dw (b.1,b.2) (a.1,a.2.1,a.2.2) ([])).bind fun c=>if c then (aM (ah (iW b a) aR (([] :List (Int×Int)),0)) (fun r=>some r) (fun d=>some d.1)) else (some ([]))
def fm (c:(List Yq2)×Yq3) (a:(List Int)×(List Yq1)) (d:Int):Option (Yq7×Bool):=
 (gR (c.1,c.2) d).bind fun b=>if b.2 then ((bf (a.1,a.2)).bind fun e=>if e then ((iu (a.1,a.2) (b.1.1,b.1.2.1,b.1.2.2)).bind fun f=>some (f,true)) else (some ([],false))) else (some ([],false))
def tz (a:BB×wL×(List Yq8)×ByteArray):Option Yq6:=(aO a.1.2 (i64.wrap ((a.1.2.length:Int) - 1))).bind fun b=>some (b.1,b.2)
def lr (a:(Int×List wE)×((List Yq9)×List Eo)×(List Yq8)×ByteArray) (d:Int):Option (Yq7×Bool):=
 (dK ((a.1.1,a.1.2),(a.2.1.1,a.2.1.2),a.2.2.1,a.2.2.2)).bind fun e=>if e then ((tz ((a.1.1,a.1.2),(a.2.1.1,a.2.1.2),a.2.2.1,a.2.2.2)).bind fun b=>(fm (a.2.1.1,a.2.1.2) (b.1,b.2) d).bind fun c=>some (c.1,c.2)) else (some (([] :List (Int×Int)),false))
def eJ (a:BB×wL×(List Yq8)×ByteArray) (d:Int):Option (Yq7×Bool):=
 (bw ((a.1.1,a.1.2),(a.2.1.1,a.2.1.2),a.2.2.1,a.2.2.2)).bind fun e=>if e then ((aO a.1.2 (i64.wrap ((a.1.2.length:Int) - 1))).bind fun b=>(bA (a.2.1.1,a.2.1.2) (b.1,b.2) d).bind fun c=>some (c.1,c.2)) else (some (([] :List (Int×Int)),false))
def lu (b:List (Int×Int)) (e:List (Int×Int)) (a:Int):Option (Out Bool Int):=
 if decide (a<(b.length:Int)) then ((aO b a).bind fun c=>(aO e a).bind fun d=>if (c.1==d.1)&&((c.2==d.2)&&true) then (some (.nxt (i64.wrap (a+1)))) else (some (.ret false))) else (some (.brk a))
def lT (a:List (Int×Int)) (b:List (Int×Int)):Option Bool:=
 if (a.length:Int) !=(b.length:Int) then (some false) else (aM (ah (lu a b) aR 0) (fun r=>some r) (fun c=>some true))
def bp (c:List Yq8) (d:Yq8->Option Bool) (a:Int):Option (Out Int Int):=
 if decide (a<(c.length:Int)) then ((aO c a).bind fun b=>(d (b.1,b.2.1,b.2.2)).bind fun e=>if e then (some (.ret a)) else (some (.nxt (i64.wrap (a+1))))) else (some (.brk a))
def aU (a:List Yq8) (b:Yq8->Option Bool):Option Int:=
 aM (ah (bp a b) aR 0) (fun r=>some r) (fun c=>some (-1))
def mb (a:Int×Int×Int) (q0:Int):Option Bool:=
 some (a.1==q0)
def rN (a:BB×wL×(List Yq8)×ByteArray) (b:Int):Option Int:=
 (aU a.2.2.1 (fun a0=>mb a0 b)).bind fun c=>some c
def qv (a:Int×(List Yq6)) (b:(List Yq2)×Yq3) (c:Int×Int×Int):Option Bool:=
 (m_i_IsValidHistory (a.1,a.2)).bind fun d=>if d then ((cx (b.1,b.2)).bind fun e=>if e then ((gP (b.1,b.2) c.2.1).bind fun f=>if decide (f≥0) then (if decide (c.2.2≥0) then ((cZ (a.1,a.2)).bind fun g=>some (decide (c.2.2<g))) else (some false)) else (some false)) else (some false)) else (some false)
def jy (b:Int×(List Yq6)) (c:(List Yq2)×Yq3) (e:Int) (f:Int):Option (Yq7×Bool):=
 (mw (b.1,b.2) f).bind fun a=>if a.2 then ((fm (c.1,c.2) (a.1.1,a.1.2) e).bind fun d=>some (d.1,d.2)) else (some ([],false))
def cy (b:List (Int×Int)) (d:(Int×Int)->Option Bool) (a:Int):Option (Out Int Int):=
 if decide (a<(b.length:Int)) then ((aO b a).bind fun c=>(d (c.1,c.2)).bind fun e=>if e then (some (.ret a)) else (some (.nxt (i64.wrap (a+1))))) else (some (.brk a))
def bZ (a:List (Int×Int)) (b:(Int×Int)->Option Bool):Option Int:=
 aM (ah (cy a b) aR 0) (fun r=>some r) (fun c=>some (-1))
def cn (d:(Int×Int)->Option Bool) (a:Int×Int×List (Int×Int)):Option (Out Yq7 (Int×Int×List (Int×Int))):=
 if decide (a.2.1<(a.2.2.length:Int)) then (Option.bind (((aO a.2.2 a.2.1).bind fun b=>(d (b.1,b.2)).bind fun e=>if e then (some (a.1,a.2.2)) else ((aO a.2.2 a.1).bind fun f=>some (i64.wrap (a.1+1),a.2.2.set a.1.toNat (b.1,b.2))):Option (Int×List (Int×Int)))) (fun c=>some (.nxt (c.1,i64.wrap (a.2.1+1),c.2)))) else (some (.brk (a.1,a.2.1,a.2.2)))
def cK (b:List (Int×Int)) (d:(Int×Int)->Option Bool):Option Yq7:=
 (bZ b d).bind fun c=>if c==(-1) then (some b) else (aM (ah (cn d) aR (c,i64.wrap (c+1),b)) (fun e=>some e) (fun a=>(chk (And (0<=a.1) (And (a.1<=((a.2.2.length:Int) - 0)) ((0+((a.2.2.length:Int) - 0))<=(a.2.2.length:Int))))).bind fun _=>(chk (And ((0+a.1)<=(0+((a.2.2.length:Int) - 0))) ((0+((a.2.2.length:Int) - 0))<=(a.2.2.length:Int)))).bind fun _=>(chk (And ((0:Int)<=0) (And (0<=a.1) ((0+a.1)<=((tk a.2.2 ((0+a.1).toNat) ((0+((a.2.2.length:Int) - 0)).toNat) (0,0)).length:Int))))).bind fun _=>some (((tk a.2.2 ((0+a.1).toNat) ((0+((a.2.2.length:Int) - 0)).toNat) (0,0)).take ((0+a.1).toNat)).drop 0)))
def eK (a:List (Int×Int)) (b:Unit):Option Yq7:=R.Vs R.Oq a
def qw (a:Int) (b:Int):Option Int:=
 if decide (a<b) then (some (-1)) else (if decide (a>b) then (some 1) else (some 0))
def BD (a:Int×Int) (b:Int×Int):Option Int:=
 if a.1 !=b.1 then ((qw a.1 b.1).bind fun c=>some c) else ((qw a.2 b.2).bind fun d=>some d)
def cL (c:List (Int×Int)) (b:Int) (a:Int×Int×List (Int×Int)):Option (Out Yq7 (Int×Int×List (Int×Int))):=
 if decide (a.2.1<((0+((c.length:Int) - 0)) - (0+b))) then (Option.bind (((chk (And (0<=a.2.1) (a.2.1<((0+((c.length:Int) - 0)) - (0+b))))).bind fun _=>(aO a.2.2 ((0+b)+a.2.1)).bind fun d=>(chk (And (0<=(i64.wrap (a.2.1 - 1))) ((i64.wrap (a.2.1 - 1))<((0+((c.length:Int) - 0)) - (0+b))))).bind fun _=>(aO a.2.2 ((0+b)+(i64.wrap (a.2.1 - 1)))).bind fun e=>if Bool.and.match_1 (fun (h:Bool)=>Bool) (d.1==e.1) (fun (i:Unit)=>false) (fun (j:Unit)=>Bool.and.match_1 (fun (k:Bool)=>Bool) (d.2==e.2) (fun (l:Unit)=>false) (fun (m:Unit)=>true)) then (some (a.1,a.2.2)) else ((chk (And (0<=a.2.1) (a.2.1<((0+((c.length:Int) - 0)) - (0+b))))).bind fun _=>(aO a.2.2 ((0+b)+a.2.1)).bind fun f=>(aO a.2.2 a.1).bind fun n=>some (i64.wrap (a.1+1),a.2.2.set a.1.toNat (f.1,f.2))):Option (Int×List (Int×Int)))) (fun g=>some (.nxt (g.1,i64.wrap (a.2.1+1),g.2)))) else (some (.brk (a.1,a.2.1,a.2.2)))
def bV (c:List (Int×Int)) (b:Int):Option (Out Yq7 Int):=
 if decide (b<(c.length:Int)) then ((aO c b).bind fun d=>(aO c (i64.wrap (b - 1))).bind fun e=>if Bool.and.match_1 (fun (g:Bool)=>Bool) (d.1==e.1) (fun (h:Unit)=>false) (fun (i:Unit)=>Bool.and.match_1 (fun (j:Bool)=>Bool) (d.2==e.2) (fun (k:Unit)=>false) (fun (l:Unit)=>true)) then ((chk (And (0<=b) (And (b<=((c.length:Int) - 0)) ((0+((c.length:Int) - 0))<=(c.length:Int))))).bind fun _=>aM (ah (cL c b) aR (b,1,c)) (fun f=>some (.ret f)) (fun a=>(chk (And (0<=a.1) (And (a.1<=((a.2.2.length:Int) - 0)) ((0+((a.2.2.length:Int) - 0))<=(a.2.2.length:Int))))).bind fun _=>(chk (And ((0+a.1)<=(0+((a.2.2.length:Int) - 0))) ((0+((a.2.2.length:Int) - 0))<=(a.2.2.length:Int)))).bind fun _=>(chk (And ((0:Int)<=0) (And (0<=a.1) ((0+a.1)<=((tk a.2.2 ((0+a.1).toNat) ((0+((a.2.2.length:Int) - 0)).toNat) (0,0)).length:Int))))).bind fun _=>some (.ret (((tk a.2.2 ((0+a.1).toNat) ((0+((a.2.2.length:Int) - 0)).toNat) (0,0)).take ((0+a.1).toNat)).drop 0)))) else (some (.nxt (i64.wrap (b+1))))) else (some (.brk b))
def dm (a:List (Int×Int)):Option Yq7:=
 if decide ((a.length:Int)<2) then (some a) else (aM (ah (bV a) aR 1) (fun b=>some b) (fun c=>some a))
def tC (a:List (Int×Int)):Option Yq7:=
 (bC 16 ([] :List (Int×Int)) a).bind fun b=>(eK b ()).bind fun c=>(dm c).bind fun d=>some d
def da (b:List (Int×Int)) (c:Int×Int) (a:Int):Option (Out Int Int):=
 if decide (a<(b.length:Int)) then ((aO b a).bind fun d=>if ((c.1==d.1)&&((c.2==d.2)&&true)) then (some (.ret a)) else (some (.nxt (i64.wrap (a+1))))) else (some (.brk a))
def dN (a:List (Int×Int)) (b:Int×Int):Option Int:=
 aM (ah (da a b) aR 0) (fun r=>some r) (fun c=>some (-1))
def db (b:List (Int×Int)) (a:Int×Int):Option Bool:=
 (dN b (a.1,a.2)).bind fun c=>some (decide (c≥0))
def my (a:Int×Int) (q0:List (Int×Int)):Option Bool:=
 (db q0 (a.1,a.2)).bind fun b=>some b
def iX (a:List (Int×Int)) (b:List (Int×Int)):Option Yq7:=
 (tC a).bind fun c=>(cK c (fun (d:Int×Int)=>my d b)).bind fun e=>some e
def mc (a:List (Int×Int)) (b:List (Int×Int)):Option (Yq7×Yq7):=
 (iX b a).bind fun c=>(iX a b).bind fun d=>some (c,d)
def qx (b:Int×List wE) (c:(List Yq9)×List Eo) (a:Int×Int×Int) (d:Int):Option ((Int×Bool×Yq7×List (Int×Int))×Yq8×Bool):=
 (jy (b.1,b.2) (c.1,c.2) a.2.1 d).bind fun f=>Option.bind ((if decide (a.2.2<b.1) then (some (d,true,f.1,([] :List (Int×Int)))) else ((jy (b.1,b.2) (c.1,c.2) a.2.1 a.2.2).bind fun h=>(mc h.1 f.1).bind fun g=>some (d,false,g.1,g.2)):Option (Int×Bool×Yq7×List (Int×Int)))) (fun e=>some ((e.1,e.2.1,e.2.2.1,e.2.2.2),(a.1,a.2.1,d),true))
def kR (c:Int×List wE) (d:(List Yq9)×List Eo) (a:Int×Int×Int):Option ((Int×Bool×Yq7×List (Int×Int))×Yq8×Bool):=
 (qv (c.1,c.2) (d.1,d.2) (a.1,a.2.1,a.2.2)).bind fun e=>if e then ((qx (c.1,c.2) (d.1,d.2) (a.1,a.2.1,a.2.2) (Max.max c.1 (i64.wrap (a.2.2+1)))).bind fun b=>some ((b.1.1,b.1.2.1,b.1.2.2.1,b.1.2.2.2),(b.2.1.1,b.2.1.2.1,b.2.1.2.2),b.2.2)) else (some ((0,false,([] :List (Int×Int)),([] :List (Int×Int))),(a.1,a.2.1,a.2.2),false))
def oH (a:BB×wL×(List Yq8)×ByteArray) (f:Int):Option (VD×(Int×Bool×(Yq7×Yq7))×Bool):=
 (lR ((a.1.1,a.1.2),(a.2.1.1,a.2.1.2),a.2.2.1,a.2.2.2)).bind fun b=>(rN ((a.1.1,a.1.2),(a.2.1.1,a.2.1.2),a.2.2.1,a.2.2.2) f).bind fun d=>if decide (d<0) then (some (((b.1.1,b.1.2),(b.2.1.1,b.2.1.2),b.2.2.1,b.2.2.2),(0,false,([],[])),false)) else ((dK ((a.1.1,a.1.2),(a.2.1.1,a.2.1.2),a.2.2.1,a.2.2.2)).bind fun g=>if g then ((aO a.2.2.1 d).bind fun e=>(kR (a.1.1,a.1.2) (a.2.1.1,a.2.1.2) (e.1,e.2.1,e.2.2)).bind fun c=>(aO b.2.2.1 d).bind fun h=>some (((b.1.1,b.1.2),(b.2.1.1,b.2.1.2),b.2.2.1.set d.toNat (c.2.1.1,c.2.1.2.1,c.2.1.2.2),b.2.2.2),(c.1.1,c.1.2.1,(c.1.2.2.1,c.1.2.2.2)),c.2.2)) else (some (((b.1.1,b.1.2),(b.2.1.1,b.2.1.2),b.2.2.1,b.2.2.2),(0,false,([],[])),false)))
def fV (b:Yq4×Int) (a:Yq4×Bool) (c:Int):Option (Out Bool Int):=
 if decide (c<(a.1.2.1.2.length:Int)) then ((aO a.1.2.1.2 c).bind fun d=>(lr ((a.1.1.1,a.1.1.2),(a.1.2.1.1,a.1.2.1.2),a.1.2.2.1,a.1.2.2.2) d.1).bind fun e=>(aO a.1.2.1.2 c).bind fun f=>(eJ ((b.1.1.1,b.1.1.2),(b.1.2.1.1,b.1.2.1.2),b.1.2.2.1,b.1.2.2.2) f.1).bind fun g=>(lT e.1 g.1).bind fun h=>if h then (some (.nxt (i64.wrap (c+1)))) else (some (.ret false))) else (some (.brk c))
def fW (d:Yq4×Int) (a:Yq4×Bool) (b:Int):Option (Out Bool Int):=
 if decide (b<(a.1.2.2.1.length:Int)) then ((aO a.1.2.2.1 b).bind fun e=>(oH ((a.1.1.1,a.1.1.2),(a.1.2.1.1,a.1.2.1.2),a.1.2.2.1,a.1.2.2.2) e.1).bind fun c=>if c.2.2 then ((aO a.1.2.2.1 b).bind fun f=>if c.2.1.2.1 !=(decide (f.2.2<d.2)) then (some (.ret false)) else (some (.nxt (i64.wrap (b+1))))) else (some (.nxt (i64.wrap (b+1))))) else (some (.brk b))
def me (d:List Int):Option Bool:=
 (KS d).bind fun e=>if e then (some true) else ((gK d).bind fun a=>(lq ((a.1.1.1,a.1.1.2),(a.1.2.1.1,a.1.2.1.2),a.1.2.2.1,a.1.2.2.2) a.2).bind fun b=>(bQ ((a.1.1.1,a.1.1.2),(a.1.2.1.1,a.1.2.1.2),a.1.2.2.1,a.1.2.2.2) a.2).bind fun c=>if b.2 !=c.2 then (some false) else ((l9 ((b.1.1.1,b.1.1.2),(b.1.2.1.1,b.1.2.1.2),b.1.2.2.1,b.1.2.2.2) ((c.1.1.1,c.1.1.2),(c.1.2.1.1,c.1.2.1.2),c.1.2.2.1,c.1.2.2.2)).bind fun f=>if f then (if b.2 then (aM (ah (fV a b) aR 0) (fun g=>some g) (fun j=>aM (ah (fW a b) aR 0) (fun h=>some h) (fun k=>(dK ((b.1.1.1,b.1.1.2),(b.1.2.1.1,b.1.2.1.2),b.1.2.2.1,b.1.2.2.2)).bind fun i=>if i then (some (b.1.1.1==a.2)) else (some false)))) else (some true)) else (some false)))
end D
namespace R
open Go.RowKit
open D
abbrev y3:Ty:=.int .i64
abbrev Cb:Ty:=.prod y3 (.prod y3 (.prod y3 y3))
abbrev t246:Ty:=.tree 299 246 Cb
abbrev y4:Ty:=.bool
abbrev VE:Ty:=.sl 4 y4
abbrev y65:Ty:=.sl 3 y3
abbrev ZM:Ty:=.sl 65 y65
abbrev jD:Ty:=.prod y3 (.prod VE ZM)
abbrev ab0:Ty:=.int .u64
abbrev y9:Ty:=.str
abbrev adx:Ty:=.sl 9 y9
abbrev C7:Ty:=.prod y3 (.prod y3 (.prod y3 y3))
abbrev ady:Ty:=.prod y4 C7
abbrev MU:Ty:=.prod y65 (.prod y3 (.prod y3 (.prod y65 y4)))
abbrev ae8:Ty:=.prod y4 (.prod y3 y3)
abbrev y5:Ty:=.int .u8
abbrev y22:Ty:=.sl 5 y5
abbrev ZN:Ty:=.prod y3 y4
abbrev ab1:Ty:=.prod ZN (.prod y3 y3)
abbrev ae9:Ty:=.sl 238 ab1
abbrev y78:Ty:=.sl 151 C7
abbrev y80:Ty:=.prod y65 y78
abbrev y24:Ty:=.sl 80 y80
abbrev afa:Ty:=.prod y3 (.prod y3 y4)
abbrev aea:Ty:=.fro t246
abbrev y26:Ty:=.prod y3 y24
abbrev y27:Ty:=.sl 113 jD
abbrev ab2:Ty:=.int .u64
abbrev afb:Ty:=.prod ZN (.prod y3 y3)
abbrev aeb:Ty:=.sl 283 afb
abbrev afc:Ty:=.sl 281 aeb
abbrev y42:Ty:=.sl 202 Cb
abbrev y44:Ty:=.wr y42
abbrev y46:Ty:=.prod y3 (.prod y44 y3)
abbrev y28:Ty:=.sl 46 y46
abbrev afd:Ty:=.sl 236 ZN
abbrev adz:Ty:=.sl 246 aea
abbrev afE:Ty:=.prod Cb adz
abbrev y30:Ty:=.prod y27 y28
abbrev y55:Ty:=.prod y3 (.prod y3 y3)
abbrev y31:Ty:=.sl 55 y55
abbrev ab3:Ty:=.int .u32
abbrev y33:Ty:=.prod y26 (.prod y30 (.prod y31 y9))
abbrev y83:Ty:=.prod y3 y3
abbrev y39:Ty:=.sl 83 y83
abbrev y49:Ty:=.prod y39 y39
abbrev y51:Ty:=.prod y3 (.prod y4 y49)
abbrev y70:Ty:=.sl 153 ady
abbrev y72:Ty:=.wr y70
abbrev y66:Ty:=.sl 72 y72
abbrev y92:Ty:=.prod y22 (.prod y3 y3)
theorem ti3:TI Tryz.prog 3 false 1:=⟨⟨_,Tryz.underlying3,rfl⟩,by kernel_rfl⟩
theorem ab4 (a:Int) (g:Int) (b:Int) (e:Int) (d:Int) (h:Int) (c:Int) (f:Int) (w:World):EqT Tryz.prog 151 (.agg #[.int .i64 a,.int .i64 g,.int .i64 b,.int .i64 e]) (.agg #[.int .i64 d,.int .i64 h,.int .i64 c,.int .i64 f]) ((a==d)&&((g==h)&&((b==c)&&((e==f)&&true)))) w:=LQ w Tryz.underlying151 (by kernel_rfl) (by kernel_rfl) (kV rfl (je ti3 rfl) (je ti3 rfl) (run_equalIn_int w 9998 3 _ _ _ _ Tryz.underlying3) (kV rfl (je ti3 rfl) (je ti3 rfl) (run_equalIn_int w 9998 3 _ _ _ _ Tryz.underlying3) (kV rfl (je ti3 rfl) (je ti3 rfl) (run_equalIn_int w 9998 3 _ _ _ _ Tryz.underlying3) (kV rfl (je ti3 rfl) (je ti3 rfl) (run_equalIn_int w 9998 3 _ _ _ _ Tryz.underlying3) (Gj w)))))
theorem ab5 (a:Int) (g:Int) (b:Int) (e:Int) (d:Int) (h:Int) (c:Int) (f:Int) (w:World):EqT Tryz.prog 202 (.agg #[.int .i64 a,.int .i64 g,.int .i64 b,.int .i64 e]) (.agg #[.int .i64 d,.int .i64 h,.int .i64 c,.int .i64 f]) ((a==d)&&((g==h)&&((b==c)&&((e==f)&&true)))) w:=LQ w Tryz.underlying202 (by kernel_rfl) (by kernel_rfl) (kV rfl (je ti3 rfl) (je ti3 rfl) (run_equalIn_int w 9998 3 _ _ _ _ Tryz.underlying3) (kV rfl (je ti3 rfl) (je ti3 rfl) (run_equalIn_int w 9998 3 _ _ _ _ Tryz.underlying3) (kV rfl (je ti3 rfl) (je ti3 rfl) (run_equalIn_int w 9998 3 _ _ _ _ Tryz.underlying3) (kV rfl (je ti3 rfl) (je ti3 rfl) (run_equalIn_int w 9998 3 _ _ _ _ Tryz.underlying3) (Gj w)))))
theorem aec (a:Int) (e:Int) (b:Int) (d:Int) (f:Int) (c:Int) (w:World):EqT Tryz.prog 55 (.agg #[.int .i64 a,.int .i64 e,.int .i64 b]) (.agg #[.int .i64 d,.int .i64 f,.int .i64 c]) ((a==d)&&((e==f)&&((b==c)&&true))) w:=LQ w Tryz.underlying55 (by kernel_rfl) (by kernel_rfl) (kV rfl (je ti3 rfl) (je ti3 rfl) (run_equalIn_int w 9998 3 _ _ _ _ Tryz.underlying3) (kV rfl (je ti3 rfl) (je ti3 rfl) (run_equalIn_int w 9998 3 _ _ _ _ Tryz.underlying3) (kV rfl (je ti3 rfl) (je ti3 rfl) (run_equalIn_int w 9998 3 _ _ _ _ Tryz.underlying3) (Gj w))))
theorem aed (a:Int) (c:Int) (b:Int) (d:Int) (w:World):EqT Tryz.prog 83 (.agg #[.int .i64 a,.int .i64 c]) (.agg #[.int .i64 b,.int .i64 d]) ((a==b)&&((c==d)&&true)) w:=LQ w Tryz.underlying83 (by kernel_rfl) (by kernel_rfl) (kV rfl (je ti3 rfl) (je ti3 rfl) (run_equalIn_int w 9998 3 _ _ _ _ Tryz.underlying3) (kV rfl (je ti3 rfl) (je ti3 rfl) (run_equalIn_int w 9998 3 _ _ _ _ Tryz.underlying3) (Gj w)))
theorem mz3 (w:World):(zeroValue 3).run Tryz.prog w= .ok (.int .i64 0) w:=by kernel_rfl
theorem kk3:KeyOk Tryz.prog 3 (fun n:Int=>Value.int .i64 n) Yr iOk:=abf Tryz.underlying3
theorem ek3:EltOk Tryz.prog 3 (fun n:Int=>Value.int .i64 n) Yr iOk 0:=abg Tryz.underlying3 mz3
def tt:TT:=[(3,⟨false,1,none,y3,[],some 8,none,false,none,none,some (some .i64),false,none⟩),
 (4,⟨false,1,none,y4,[],some 1,none,true,none,none,none,false,none⟩),
 (5,⟨false,1,none,y5,[],some 1,none,false,none,none,some (some .u8),false,none⟩),
 (9,⟨false,1,none,y9,[],some 16,none,false,none,none,some none,false,none⟩),
 (22,⟨false,1,some 5,y22,[],some 24,none,false,none,none,none,false,none⟩),
 (24,⟨false,1,some 80,y24,[],some 24,none,false,none,none,none,false,none⟩),
 (26,⟨true,2,none,y26,[(0,0),(1,0)],some 32,some [(0,1),(1,1)],false,none,none,none,false,none⟩),
 (27,⟨false,1,some 113,y27,[],some 24,none,false,none,none,none,false,none⟩),
 (28,⟨false,1,some 46,y28,[],some 24,none,false,none,none,none,false,none⟩),
 (30,⟨true,2,none,y30,[(0,0),(1,0)],some 48,some [(0,1),(1,1)],false,none,none,none,false,none⟩),
 (31,⟨false,1,some 55,y31,[],some 24,none,false,none,none,none,false,none⟩),
 (33,⟨true,6,none,y33,[(0,1),(2,1),(4,0),(5,0)],some 120,some [(0,2),(2,2),(4,1),(5,1)],false,none,none,none,false,none⟩),
 (39,⟨false,1,some 83,y39,[],some 24,none,false,none,none,none,false,none⟩),
 (42,⟨false,1,some 202,y42,[],some 24,none,false,none,none,none,false,none⟩),
 (44,⟨true,1,none,y44,[(0,0)],some 24,some [(0,1)],false,none,none,none,false,none⟩),
 (46,⟨true,3,none,y46,[(0,0),(1,0),(2,0)],some 40,some [(0,1),(1,1),(2,1)],false,none,none,none,false,none⟩),
 (49,⟨true,2,none,y49,[(0,0),(1,0)],some 48,some [(0,1),(1,1)],false,none,none,none,false,none⟩),
 (51,⟨true,4,none,y51,[(0,0),(1,0),(2,1)],some 64,some [(0,1),(1,1),(2,2)],false,none,none,none,false,none⟩),
 (55,⟨true,3,none,y55,[(0,0),(1,0),(2,0)],some 24,some [(0,1),(1,1),(2,1)],false,some [some .i64,some .i64,some .i64],none,none,false,none⟩),
 (65,⟨false,1,some 3,y65,[],some 24,none,false,none,none,none,false,none⟩),
 (66,⟨false,1,some 72,y66,[],some 24,none,false,none,none,none,false,none⟩),
 (70,⟨false,1,some 153,y70,[],some 24,none,false,none,none,none,false,none⟩),
 (72,⟨true,1,none,y72,[(0,0)],some 24,some [(0,1)],false,none,none,none,false,none⟩),
 (78,⟨false,1,some 151,y78,[],some 24,none,false,none,none,none,false,none⟩),
 (80,⟨true,2,none,y80,[(0,0),(1,0)],some 48,some [(0,1),(1,1)],false,none,none,none,false,none⟩),
 (83,⟨true,2,none,y83,[(0,0),(1,0)],some 16,some [(0,1),(1,1)],false,some [some .i64,some .i64],none,none,false,none⟩),
 (92,⟨true,3,none,y92,[(0,0),(1,0),(2,0)],some 40,some [(0,1),(1,1),(2,1)],false,none,none,none,false,none⟩),
 (108,⟨false,1,none,.bool,[],none,none,false,none,none,none,true,none⟩),
 (110,⟨false,1,some 4,VE,[],some 24,none,false,none,none,none,false,none⟩),
 (111,⟨false,1,some 65,ZM,[],some 24,none,false,none,none,none,false,none⟩),
 (113,⟨true,3,none,jD,[(0,0),(1,0),(2,0)],some 56,some [(0,1),(1,1),(2,1)],false,none,none,none,false,none⟩),
 (114,⟨false,1,none,.bool,[],none,none,false,none,none,none,true,none⟩),
 (116,⟨false,1,none,.bool,[],none,none,false,none,none,none,true,none⟩),
 (122,⟨false,1,none,.bool,[],none,none,false,none,none,none,true,none⟩),
 (125,⟨false,1,none,.bool,[],none,none,false,none,none,none,true,none⟩),
 (129,⟨false,1,none,.bool,[],none,none,false,none,none,none,true,none⟩),
 (140,⟨false,1,none,ab0,[],some 8,none,false,none,none,some (some .u64),false,none⟩),
 (144,⟨false,1,some 9,adx,[],some 24,none,false,none,none,none,false,none⟩),
 (151,⟨true,4,none,C7,[(0,0),(1,0),(2,0),(3,0)],some 32,some [(0,1),(1,1),(2,1),(3,1)],false,some [some .i64,some .i64,some .i64,some .i64],none,none,false,none⟩),
 (153,⟨true,5,none,ady,[(0,0),(1,3)],some 40,some [(0,1),(1,4)],false,none,none,none,false,none⟩),
 (170,⟨false,1,none,.bool,[],none,none,false,none,none,none,true,none⟩),
 (181,⟨true,5,none,MU,[(0,0),(1,0),(2,0),(3,0),(4,0)],some 72,some [(0,1),(1,1),(2,1),(3,1),(4,1)],false,none,none,none,false,none⟩),
 (202,⟨true,4,none,Cb,[(0,0),(1,0),(2,0),(3,0)],some 32,some [(0,1),(1,1),(2,1),(3,1)],false,some [some .i64,some .i64,some .i64,some .i64],none,none,false,none⟩),
 (215,⟨true,3,none,ae8,[(0,0),(1,0),(2,0)],some 24,some [(0,1),(1,1),(2,1)],false,none,none,none,false,none⟩),
 (233,⟨false,1,some 238,ae9,[],some 24,none,false,none,none,none,false,none⟩),
 (236,⟨true,2,none,ZN,[(0,0),(1,0)],some 16,some [(0,1),(1,1)],false,none,none,none,false,none⟩),
 (238,⟨true,4,none,ab1,[(0,1),(2,0),(3,0)],some 32,some [(0,2),(2,1),(3,1)],false,none,none,none,false,none⟩),
 (242,⟨false,1,none,.bool,[],none,none,false,none,none,none,true,none⟩),
 (244,⟨true,3,none,afa,[(0,0),(1,0),(2,0)],some 24,some [(0,1),(1,1),(2,1)],false,none,none,none,false,none⟩),
 (246,⟨false,1,none,aea,[],some 8,none,false,none,none,none,false,some 299⟩),
 (249,⟨false,1,none,.bool,[],none,none,false,none,none,none,true,none⟩),
 (251,⟨false,1,none,.bool,[],none,none,false,none,none,none,true,none⟩),
 (270,⟨false,1,none,ab2,[],some 8,none,false,none,none,some (some .u64),false,none⟩),
 (279,⟨false,1,some 281,afc,[],some 24,none,false,none,none,none,false,none⟩),
 (281,⟨false,1,some 283,aeb,[],some 24,none,false,none,none,none,false,none⟩),
 (283,⟨true,4,none,afb,[(0,1),(2,0),(3,0)],some 32,some [(0,2),(2,1),(3,1)],false,none,none,none,false,none⟩),
 (287,⟨false,1,some 236,afd,[],some 24,none,false,none,none,none,false,none⟩),
 (292,⟨false,1,none,.bool,[],none,none,false,none,none,none,true,none⟩),
 (297,⟨false,1,some 246,adz,[],some 24,none,false,none,none,none,false,none⟩),
 (299,⟨true,5,none,afE,[(0,3),(4,0)],some 56,some [(0,4),(4,1)],false,none,none,none,false,none⟩),
 (303,⟨false,1,none,.bool,[],none,none,false,none,some ⟨3,3,.int,.int⟩,none,false,none⟩),
 (305,⟨false,1,none,.bool,[],none,none,false,none,none,none,true,none⟩),
 (316,⟨false,1,none,ab3,[],some 4,none,false,none,none,some (some .u32),false,none⟩),
 (366,⟨false,1,none,.bool,[],none,none,false,none,none,none,true,none⟩)]
theorem Ot:TTok Tryz.prog tt:=⟨xB (n:=1) (z:=.int .i64 0) ⟨⟨_,Tryz.underlying3,rfl⟩,by kernel_rfl⟩ rfl (by unfold TZ;kernel_rfl) rfl (bB rfl) (fun h=>by cases h) (fun k h=>by obtain rfl:=ad h;exact Tryz.underlying3),
 xB (n:=1) (z:=.bool false) ⟨⟨_,Tryz.underlying4,rfl⟩,by kernel_rfl⟩ rfl (by unfold TZ;kernel_rfl) rfl (bB rfl) (fun h=>Tryz.underlying4) (fun k h=>by cases h),
 xB (n:=1) (z:=.int .u8 0) ⟨⟨_,Tryz.underlying5,rfl⟩,by kernel_rfl⟩ rfl (by unfold TZ;kernel_rfl) rfl (bB rfl) (fun h=>by cases h) (fun k h=>by obtain rfl:=ad h;exact Tryz.underlying5),
 xB (n:=1) (z:=.string ⟨#[]⟩) ⟨⟨_,Tryz.underlying9,rfl⟩,by kernel_rfl⟩ rfl (by unfold TZ;kernel_rfl) rfl (bB rfl) (fun h=>by cases h) (fun k h=>by obtain rfl:=ad h;exact Tryz.underlying9),
 tm ⟨⟨_,Tryz.underlying22,rfl⟩,by kernel_rfl⟩ Tryz.underlying22 (by unfold TZ;kernel_rfl),
 tm ⟨⟨_,Tryz.underlying24,rfl⟩,by kernel_rfl⟩ Tryz.underlying24 (by unfold TZ;kernel_rfl),
 qe (z:=.agg #[.int .i64 0,.slice none 0 0]) ⟨⟨_,Tryz.underlying26,rfl⟩,by kernel_rfl⟩ rfl ⟨⟨_,_,Tryz.underlying26,rfl,rfl,by kernel_rfl⟩,⟨_,_,Tryz.underlying26,rfl,rfl,by kernel_rfl⟩,trivial⟩ (by unfold TZ;kernel_rfl) rfl (bB rfl) ⟨_,Tryz.underlying26,by kernel_rfl⟩ (fun a h=>by cases h),
 tm ⟨⟨_,Tryz.underlying27,rfl⟩,by kernel_rfl⟩ Tryz.underlying27 (by unfold TZ;kernel_rfl),
 tm ⟨⟨_,Tryz.underlying28,rfl⟩,by kernel_rfl⟩ Tryz.underlying28 (by unfold TZ;kernel_rfl),
 qe (z:=.agg #[.slice none 0 0,.slice none 0 0]) ⟨⟨_,Tryz.underlying30,rfl⟩,by kernel_rfl⟩ rfl ⟨⟨_,_,Tryz.underlying30,rfl,rfl,by kernel_rfl⟩,⟨_,_,Tryz.underlying30,rfl,rfl,by kernel_rfl⟩,trivial⟩ (by unfold TZ;kernel_rfl) rfl (bB rfl) ⟨_,Tryz.underlying30,by kernel_rfl⟩ (fun a h=>by cases h),
 tm ⟨⟨_,Tryz.underlying31,rfl⟩,by kernel_rfl⟩ Tryz.underlying31 (by unfold TZ;kernel_rfl),
 qe (z:=.agg #[.int .i64 0,.slice none 0 0,.slice none 0 0,.slice none 0 0,.slice none 0 0,.string ⟨#[]⟩]) ⟨⟨_,Tryz.underlying33,rfl⟩,by kernel_rfl⟩ rfl ⟨⟨_,_,Tryz.underlying33,rfl,rfl,by kernel_rfl⟩,⟨_,_,Tryz.underlying33,rfl,rfl,by kernel_rfl⟩,⟨_,_,Tryz.underlying33,rfl,rfl,by kernel_rfl⟩,⟨_,_,Tryz.underlying33,rfl,rfl,by kernel_rfl⟩,trivial⟩ (by unfold TZ;kernel_rfl) rfl (bB rfl) ⟨_,Tryz.underlying33,by kernel_rfl⟩ (fun a h=>by cases h),
 tm ⟨⟨_,Tryz.underlying39,rfl⟩,by kernel_rfl⟩ Tryz.underlying39 (by unfold TZ;kernel_rfl),
 tm ⟨⟨_,Tryz.underlying42,rfl⟩,by kernel_rfl⟩ Tryz.underlying42 (by unfold TZ;kernel_rfl),
 qe (z:=.agg #[.slice none 0 0]) ⟨⟨_,Tryz.underlying44,rfl⟩,by kernel_rfl⟩ rfl ⟨⟨_,_,Tryz.underlying44,rfl,rfl,by kernel_rfl⟩,trivial⟩ (by unfold TZ;kernel_rfl) rfl (bB rfl) ⟨_,Tryz.underlying44,by kernel_rfl⟩ (fun a h=>by cases h),
 qe (z:=.agg #[.int .i64 0,.slice none 0 0,.int .i64 0]) ⟨⟨_,Tryz.underlying46,rfl⟩,by kernel_rfl⟩ rfl ⟨⟨_,_,Tryz.underlying46,rfl,rfl,by kernel_rfl⟩,⟨_,_,Tryz.underlying46,rfl,rfl,by kernel_rfl⟩,⟨_,_,Tryz.underlying46,rfl,rfl,by kernel_rfl⟩,trivial⟩ (by unfold TZ;kernel_rfl) rfl (bB rfl) ⟨_,Tryz.underlying46,by kernel_rfl⟩ (fun a h=>by cases h),
 qe (z:=.agg #[.slice none 0 0,.slice none 0 0]) ⟨⟨_,Tryz.underlying49,rfl⟩,by kernel_rfl⟩ rfl ⟨⟨_,_,Tryz.underlying49,rfl,rfl,by kernel_rfl⟩,⟨_,_,Tryz.underlying49,rfl,rfl,by kernel_rfl⟩,trivial⟩ (by unfold TZ;kernel_rfl) rfl (bB rfl) ⟨_,Tryz.underlying49,by kernel_rfl⟩ (fun a h=>by cases h),
 qe (z:=.agg #[.int .i64 0,.bool false,.slice none 0 0,.slice none 0 0]) ⟨⟨_,Tryz.underlying51,rfl⟩,by kernel_rfl⟩ rfl ⟨⟨_,_,Tryz.underlying51,rfl,rfl,by kernel_rfl⟩,⟨_,_,Tryz.underlying51,rfl,rfl,by kernel_rfl⟩,⟨_,_,Tryz.underlying51,rfl,rfl,by kernel_rfl⟩,trivial⟩ (by unfold TZ;kernel_rfl) rfl (bB rfl) ⟨_,Tryz.underlying51,by kernel_rfl⟩ (fun a h=>by cases h),
 qe (z:=.agg #[.int .i64 0,.int .i64 0,.int .i64 0]) ⟨⟨_,Tryz.underlying55,rfl⟩,by kernel_rfl⟩ rfl ⟨⟨_,_,Tryz.underlying55,rfl,rfl,by kernel_rfl⟩,⟨_,_,Tryz.underlying55,rfl,rfl,by kernel_rfl⟩,⟨_,_,Tryz.underlying55,rfl,rfl,by kernel_rfl⟩,trivial⟩ (by unfold TZ;kernel_rfl) rfl (bB rfl) ⟨_,Tryz.underlying55,by kernel_rfl⟩ (fun a h=>by obtain rfl:=ad h;exact fun w c d f g i j=>aec c f i d g j w),
 tm ⟨⟨_,Tryz.underlying65,rfl⟩,by kernel_rfl⟩ Tryz.underlying65 (by unfold TZ;kernel_rfl),
 tm ⟨⟨_,Tryz.underlying66,rfl⟩,by kernel_rfl⟩ Tryz.underlying66 (by unfold TZ;kernel_rfl),
 tm ⟨⟨_,Tryz.underlying70,rfl⟩,by kernel_rfl⟩ Tryz.underlying70 (by unfold TZ;kernel_rfl),
 qe (z:=.agg #[.slice none 0 0]) ⟨⟨_,Tryz.underlying72,rfl⟩,by kernel_rfl⟩ rfl ⟨⟨_,_,Tryz.underlying72,rfl,rfl,by kernel_rfl⟩,trivial⟩ (by unfold TZ;kernel_rfl) rfl (bB rfl) ⟨_,Tryz.underlying72,by kernel_rfl⟩ (fun a h=>by cases h),
 tm ⟨⟨_,Tryz.underlying78,rfl⟩,by kernel_rfl⟩ Tryz.underlying78 (by unfold TZ;kernel_rfl),
 qe (z:=.agg #[.slice none 0 0,.slice none 0 0]) ⟨⟨_,Tryz.underlying80,rfl⟩,by kernel_rfl⟩ rfl ⟨⟨_,_,Tryz.underlying80,rfl,rfl,by kernel_rfl⟩,⟨_,_,Tryz.underlying80,rfl,rfl,by kernel_rfl⟩,trivial⟩ (by unfold TZ;kernel_rfl) rfl (bB rfl) ⟨_,Tryz.underlying80,by kernel_rfl⟩ (fun a h=>by cases h),
 qe (z:=.agg #[.int .i64 0,.int .i64 0]) ⟨⟨_,Tryz.underlying83,rfl⟩,by kernel_rfl⟩ rfl ⟨⟨_,_,Tryz.underlying83,rfl,rfl,by kernel_rfl⟩,⟨_,_,Tryz.underlying83,rfl,rfl,by kernel_rfl⟩,trivial⟩ (by unfold TZ;kernel_rfl) rfl (bB rfl) ⟨_,Tryz.underlying83,by kernel_rfl⟩ (fun a h=>by obtain rfl:=ad h;exact fun w c d f g=>aed c f d g w),
 qe (z:=.agg #[.slice none 0 0,.int .i64 0,.int .i64 0]) ⟨⟨_,Tryz.underlying92,rfl⟩,by kernel_rfl⟩ rfl ⟨⟨_,_,Tryz.underlying92,rfl,rfl,by kernel_rfl⟩,⟨_,_,Tryz.underlying92,rfl,rfl,by kernel_rfl⟩,⟨_,_,Tryz.underlying92,rfl,rfl,by kernel_rfl⟩,trivial⟩ (by unfold TZ;kernel_rfl) rfl (bB rfl) ⟨_,Tryz.underlying92,by kernel_rfl⟩ (fun a h=>by cases h),
 Ap (ty:=.bool) (b:=8) ⟨⟨_,Tryz.underlying108,rfl⟩,by kernel_rfl⟩ rfl (by unfold TZ;kernel_rfl),
 tm ⟨⟨_,Tryz.underlying110,rfl⟩,by kernel_rfl⟩ Tryz.underlying110 (by unfold TZ;kernel_rfl),
 tm ⟨⟨_,Tryz.underlying111,rfl⟩,by kernel_rfl⟩ Tryz.underlying111 (by unfold TZ;kernel_rfl),
 qe (z:=.agg #[.int .i64 0,.slice none 0 0,.slice none 0 0]) ⟨⟨_,Tryz.underlying113,rfl⟩,by kernel_rfl⟩ rfl ⟨⟨_,_,Tryz.underlying113,rfl,rfl,by kernel_rfl⟩,⟨_,_,Tryz.underlying113,rfl,rfl,by kernel_rfl⟩,⟨_,_,Tryz.underlying113,rfl,rfl,by kernel_rfl⟩,trivial⟩ (by unfold TZ;kernel_rfl) rfl (bB rfl) ⟨_,Tryz.underlying113,by kernel_rfl⟩ (fun a h=>by cases h),
 Ap (ty:=.bool) (b:=8) ⟨⟨_,Tryz.underlying114,rfl⟩,by kernel_rfl⟩ rfl (by unfold TZ;kernel_rfl),
 Ap (ty:=.bool) (b:=8) ⟨⟨_,Tryz.underlying116,rfl⟩,by kernel_rfl⟩ rfl (by unfold TZ;kernel_rfl),
 Ap (ty:=.bool) (b:=8) ⟨⟨_,Tryz.underlying122,rfl⟩,by kernel_rfl⟩ rfl (by unfold TZ;kernel_rfl),
 Ap (ty:=.bool) (b:=8) ⟨⟨_,Tryz.underlying125,rfl⟩,by kernel_rfl⟩ rfl (by unfold TZ;kernel_rfl),
 Ap (ty:=.bool) (b:=8) ⟨⟨_,Tryz.underlying129,rfl⟩,by kernel_rfl⟩ rfl (by unfold TZ;kernel_rfl),
 xB (n:=1) (z:=.int .u64 0) ⟨⟨_,Tryz.underlying140,rfl⟩,by kernel_rfl⟩ rfl (by unfold TZ;kernel_rfl) rfl (bB rfl) (fun h=>by cases h) (fun k h=>by obtain rfl:=ad h;exact Tryz.underlying140),
 tm ⟨⟨_,Tryz.underlying144,rfl⟩,by kernel_rfl⟩ Tryz.underlying144 (by unfold TZ;kernel_rfl),
 qe (z:=.agg #[.int .i64 0,.int .i64 0,.int .i64 0,.int .i64 0]) ⟨⟨_,Tryz.underlying151,rfl⟩,by kernel_rfl⟩ rfl ⟨⟨_,_,Tryz.underlying151,rfl,rfl,by kernel_rfl⟩,⟨_,_,Tryz.underlying151,rfl,rfl,by kernel_rfl⟩,⟨_,_,Tryz.underlying151,rfl,rfl,by kernel_rfl⟩,⟨_,_,Tryz.underlying151,rfl,rfl,by kernel_rfl⟩,trivial⟩ (by unfold TZ;kernel_rfl) rfl (bB rfl) ⟨_,Tryz.underlying151,by kernel_rfl⟩ (fun a h=>by obtain rfl:=ad h;exact fun w c d f g i j l o=>ab4 c f i l d g j o w),
 qe (z:=.agg #[.bool false,.int .i64 0,.int .i64 0,.int .i64 0,.int .i64 0]) ⟨⟨_,Tryz.underlying153,rfl⟩,by kernel_rfl⟩ rfl ⟨⟨_,_,Tryz.underlying153,rfl,rfl,by kernel_rfl⟩,⟨_,_,Tryz.underlying153,rfl,rfl,by kernel_rfl⟩,trivial⟩ (by unfold TZ;kernel_rfl) rfl (bB rfl) ⟨_,Tryz.underlying153,by kernel_rfl⟩ (fun a h=>by cases h),
 Ap (ty:=.bool) (b:=8) ⟨⟨_,Tryz.underlying170,rfl⟩,by kernel_rfl⟩ rfl (by unfold TZ;kernel_rfl),
 qe (z:=.agg #[.slice none 0 0,.int .i64 0,.int .i64 0,.slice none 0 0,.bool false]) ⟨⟨_,Tryz.underlying181,rfl⟩,by kernel_rfl⟩ rfl ⟨⟨_,_,Tryz.underlying181,rfl,rfl,by kernel_rfl⟩,⟨_,_,Tryz.underlying181,rfl,rfl,by kernel_rfl⟩,⟨_,_,Tryz.underlying181,rfl,rfl,by kernel_rfl⟩,⟨_,_,Tryz.underlying181,rfl,rfl,by kernel_rfl⟩,⟨_,_,Tryz.underlying181,rfl,rfl,by kernel_rfl⟩,trivial⟩ (by unfold TZ;kernel_rfl) rfl (bB rfl) ⟨_,Tryz.underlying181,by kernel_rfl⟩ (fun a h=>by cases h),
 qe (z:=.agg #[.int .i64 0,.int .i64 0,.int .i64 0,.int .i64 0]) ⟨⟨_,Tryz.underlying202,rfl⟩,by kernel_rfl⟩ rfl ⟨⟨_,_,Tryz.underlying202,rfl,rfl,by kernel_rfl⟩,⟨_,_,Tryz.underlying202,rfl,rfl,by kernel_rfl⟩,⟨_,_,Tryz.underlying202,rfl,rfl,by kernel_rfl⟩,⟨_,_,Tryz.underlying202,rfl,rfl,by kernel_rfl⟩,trivial⟩ (by unfold TZ;kernel_rfl) rfl (bB rfl) ⟨_,Tryz.underlying202,by kernel_rfl⟩ (fun a h=>by obtain rfl:=ad h;exact fun w c d f g i j l o=>ab5 c f i l d g j o w),
 qe (z:=.agg #[.bool false,.int .i64 0,.int .i64 0]) ⟨⟨_,Tryz.underlying215,rfl⟩,by kernel_rfl⟩ rfl ⟨⟨_,_,Tryz.underlying215,rfl,rfl,by kernel_rfl⟩,⟨_,_,Tryz.underlying215,rfl,rfl,by kernel_rfl⟩,⟨_,_,Tryz.underlying215,rfl,rfl,by kernel_rfl⟩,trivial⟩ (by unfold TZ;kernel_rfl) rfl (bB rfl) ⟨_,Tryz.underlying215,by kernel_rfl⟩ (fun a h=>by cases h),
 tm ⟨⟨_,Tryz.underlying233,rfl⟩,by kernel_rfl⟩ Tryz.underlying233 (by unfold TZ;kernel_rfl),
 qe (z:=.agg #[.int .i64 0,.bool false]) ⟨⟨_,Tryz.underlying236,rfl⟩,by kernel_rfl⟩ rfl ⟨⟨_,_,Tryz.underlying236,rfl,rfl,by kernel_rfl⟩,⟨_,_,Tryz.underlying236,rfl,rfl,by kernel_rfl⟩,trivial⟩ (by unfold TZ;kernel_rfl) rfl (bB rfl) ⟨_,Tryz.underlying236,by kernel_rfl⟩ (fun a h=>by cases h),
 qe (z:=.agg #[.int .i64 0,.bool false,.int .i64 0,.int .i64 0]) ⟨⟨_,Tryz.underlying238,rfl⟩,by kernel_rfl⟩ rfl ⟨⟨_,_,Tryz.underlying238,rfl,rfl,by kernel_rfl⟩,⟨_,_,Tryz.underlying238,rfl,rfl,by kernel_rfl⟩,⟨_,_,Tryz.underlying238,rfl,rfl,by kernel_rfl⟩,trivial⟩ (by unfold TZ;kernel_rfl) rfl (bB rfl) ⟨_,Tryz.underlying238,by kernel_rfl⟩ (fun a h=>by cases h),
 Ap (ty:=.bool) (b:=8) ⟨⟨_,Tryz.underlying242,rfl⟩,by kernel_rfl⟩ rfl (by unfold TZ;kernel_rfl),
 qe (z:=.agg #[.int .i64 0,.int .i64 0,.bool false]) ⟨⟨_,Tryz.underlying244,rfl⟩,by kernel_rfl⟩ rfl ⟨⟨_,_,Tryz.underlying244,rfl,rfl,by kernel_rfl⟩,⟨_,_,Tryz.underlying244,rfl,rfl,by kernel_rfl⟩,⟨_,_,Tryz.underlying244,rfl,rfl,by kernel_rfl⟩,trivial⟩ (by unfold TZ;kernel_rfl) rfl (bB rfl) ⟨_,Tryz.underlying244,by kernel_rfl⟩ (fun a h=>by cases h),
 ad9 (e:=299) (E:=246) (u:=Cb) ⟨⟨_,Tryz.underlying246,rfl⟩,by kernel_rfl⟩ Tryz.underlying246 (by unfold TZ;kernel_rfl),
 Ap (ty:=.bool) (b:=8) ⟨⟨_,Tryz.underlying249,rfl⟩,by kernel_rfl⟩ rfl (by unfold TZ;kernel_rfl),
 Ap (ty:=.bool) (b:=8) ⟨⟨_,Tryz.underlying251,rfl⟩,by kernel_rfl⟩ rfl (by unfold TZ;kernel_rfl),
 xB (n:=1) (z:=.int .u64 0) ⟨⟨_,Tryz.underlying270,rfl⟩,by kernel_rfl⟩ rfl (by unfold TZ;kernel_rfl) rfl (bB rfl) (fun h=>by cases h) (fun k h=>by obtain rfl:=ad h;exact Tryz.underlying270),
 tm ⟨⟨_,Tryz.underlying279,rfl⟩,by kernel_rfl⟩ Tryz.underlying279 (by unfold TZ;kernel_rfl),
 tm ⟨⟨_,Tryz.underlying281,rfl⟩,by kernel_rfl⟩ Tryz.underlying281 (by unfold TZ;kernel_rfl),
 qe (z:=.agg #[.int .i64 0,.bool false,.int .i64 0,.int .i64 0]) ⟨⟨_,Tryz.underlying283,rfl⟩,by kernel_rfl⟩ rfl ⟨⟨_,_,Tryz.underlying283,rfl,rfl,by kernel_rfl⟩,⟨_,_,Tryz.underlying283,rfl,rfl,by kernel_rfl⟩,⟨_,_,Tryz.underlying283,rfl,rfl,by kernel_rfl⟩,trivial⟩ (by unfold TZ;kernel_rfl) rfl (bB rfl) ⟨_,Tryz.underlying283,by kernel_rfl⟩ (fun a h=>by cases h),
 tm ⟨⟨_,Tryz.underlying287,rfl⟩,by kernel_rfl⟩ Tryz.underlying287 (by unfold TZ;kernel_rfl),
 Ap (ty:=.bool) (b:=8) ⟨⟨_,Tryz.underlying292,rfl⟩,by kernel_rfl⟩ rfl (by unfold TZ;kernel_rfl),
 tm ⟨⟨_,Tryz.underlying297,rfl⟩,by kernel_rfl⟩ Tryz.underlying297 (by unfold TZ;kernel_rfl),
 qe (z:=.agg #[.int .i64 0,.int .i64 0,.int .i64 0,.int .i64 0,.slice none 0 0]) ⟨⟨_,Tryz.underlying299,rfl⟩,by kernel_rfl⟩ rfl ⟨⟨_,_,Tryz.underlying299,rfl,rfl,by kernel_rfl⟩,⟨_,_,Tryz.underlying299,rfl,rfl,by kernel_rfl⟩,trivial⟩ (by unfold TZ;kernel_rfl) rfl (bB rfl) ⟨_,Tryz.underlying299,by kernel_rfl⟩ (fun a h=>by cases h),
 ad8 (m:=⟨3,3,.int,.int⟩) (ty:=.bool) ⟨⟨_,Tryz.underlying303,rfl⟩,by kernel_rfl⟩ rfl ⟨Tryz.underlying303,kk3,ek3⟩,
 Ap (ty:=.bool) (b:=8) ⟨⟨_,Tryz.underlying305,rfl⟩,by kernel_rfl⟩ rfl (by unfold TZ;kernel_rfl),
 xB (n:=1) (z:=.int .u32 0) ⟨⟨_,Tryz.underlying316,rfl⟩,by kernel_rfl⟩ rfl (by unfold TZ;kernel_rfl) rfl (bB rfl) (fun h=>by cases h) (fun k h=>by obtain rfl:=ad h;exact Tryz.underlying316),
 Ap (ty:=.bool) (b:=8) ⟨⟨_,Tryz.underlying366,rfl⟩,by kernel_rfl⟩ rfl (by unfold TZ;kernel_rfl),trivial⟩
theorem mixed:Tryz.prog.follows .mixedOrders=true:=by kernel_rfl
def Xl (fn:Func):Code:=match fn.body with
 | some c=>c
 | none=>.skip
theorem fk {k:FuncId} {fn:Func} {f:FS} (ft:FT) (hF:FTok Tryz.prog ft) (hf:Tryz.prog.funcs[k]? =some fn) (ann:Ann) (an:List (Nat×Ty):=[]) (tr:Trs:=[]) (hb:fn.body=some (Xl fn):=by rfl) (he:(fn.name == "runtime.NumGoroutine")=false:=by kernel_rfl) (hcl:f.cl=none:=by rfl) (hm:Nat.ble f.ps.length fn.ntmps=true:=by rfl) (hdp:(GE f.rs&&By f.ps)=true:=by rfl)
  (hmod: ∀d,appP f.ps f.m d=mY ⟨tt,ft,an,fn.ntmps,tr⟩ (Om ⟨tt,ft,an,fn.ntmps,tr⟩ fn.results.toList f.rs f.ps d) (Xl fn) ann (fun r=>some r) (fun _ _=>none) (Om ⟨tt,ft,an,fn.ntmps,tr⟩ fn.results.toList f.rs f.ps d) (tj (A6 f.ps d)):=by intro d;kernel_rfl):FOk Tryz.prog k f:=
 fok (V:=⟨tt,ft,an,fn.ntmps,tr⟩) Ot hF mixed hf hb rfl (enters_of hf he hb) hcl (bB hm) hdp ann hmod
def RB:FS:=⟨[.rd y22],[y4],KS,none⟩
def I9:FS:=⟨[.rd y22],[.int .i64,.int .i64],yH,some (92,9)⟩
def Ft:FS:=⟨[.crs 92 5],[y3],mF,none⟩
def cF:FS:=⟨[.crs 92 5,.rd y3],[y3],aN,none⟩
def lx:FS:=⟨[.rd y80],[y80],b7,none⟩
def wh:FS:=⟨[.rd y26],[y26],mG,none⟩
def xE:FS:=⟨[.rd jD],[jD],qf,none⟩
def wi:FS:=⟨[.rd y42],[y44],gm,none⟩
def xF:FS:=⟨[.rd y30],[y30],mq,none⟩
def nW:FS:=⟨[.rd y33],[y33],ko,none⟩
def jz:FS:=⟨[.rd y3,.rd y3,.rd y3],[y4],cB,none⟩
def Ar:FS:=⟨[.rd y80,.rd C7],[y4],vS,none⟩
def fo:FS:=⟨[.rd y80],[y4],aY,none⟩
def yN:FS:=⟨[.rd y65,.rd y65],[y3],qi,none⟩
def dn:FS:=⟨[.rd y26],[y4],m_s_IsValidHistory,none⟩
def cD:FS:=⟨[.rd y26],[y3],aL,none⟩
def q9:FS:=⟨[.rd y26,.rd y3],[y26,y4],cH,none⟩
def uP:FS:=⟨[.rd y3],[y4],oM,none⟩
def xG:FS:=⟨[.rd Cb],[y3],qj,none⟩
def Fu:FS:=⟨[.rd y44],[y4],vT,none⟩
def qy:FS:=⟨[.rd y44],[y4],kp,none⟩
def tD:FS:=⟨[.rd y42],[y3],kt,none⟩
def tE (n:Nat):FS:=⟨[.rd y42],[y3],fL n,none⟩
def wj:FS:=⟨[.rd y44,.rd y44,.rd Cb],[y44],fH,none⟩
def As:FS:=⟨[.rd y3],[y44],su,none⟩
def ra (n:Nat):FS:=⟨[.rd y44,.rd y3,.rd y3],[y44],oN n,none⟩
def pK (n:Nat):FS:=⟨[.rd y42],[y44],dS n,none⟩
def wN:FS:=⟨[.rd y44],[y44,y4],jO,none⟩
def C8:FS:=⟨[.ptr 181 MU,.rd y3,.rd y3],[],qk,none⟩
def rb (n:Nat):FS:=⟨[.ptr 181 MU,.rd y42],[ae8],cP n,none⟩
def nt:FS:=⟨[.rd y44],[MU,y4],dU,none⟩
def Ba:FS:=⟨[.rd MU,.rd y3,.rd y3],[y3],q7,none⟩
def xH:FS:=⟨[.rd y65,.rd y3],[y3],ql,none⟩
def wO:FS:=⟨[.rd MU,.rd y3],[y4],oy,none⟩
def rO:FS:=⟨[.rd MU,.rd y3],[jD,y4],fF,none⟩
def wP:FS:=⟨[],[jD],rJ,none⟩
def yO:FS:=⟨[.rd jD,.rd y65,.rd VE],[jD],lf,none⟩
def xI:FS:=⟨[.rd jD],[VE],nS,none⟩
def Fv:FS:=⟨[.rd jD,.rd y65,.rd y3],[y65],sv,none⟩
def wQ:FS:=⟨[.rd jD],[y65],lM,none⟩
def uQ:FS:=⟨[.rd jD],[jD],iJ,none⟩
def uR:FS:=⟨[.rd y44],[jD,y4],m_s_CompileExpr,none⟩
def nX:FS:=⟨[.rd jD,.rd jD],[y4],iK,none⟩
def Bb:FS:=⟨[.rd y27,.rd jD],[y3],gH,none⟩
def uS:FS:=⟨[.rd y28],[y30,y4],cQ,none⟩
def wR:FS:=⟨[.rd y44,.rd y44],[y4],rK,none⟩
def qz:FS:=⟨[.rd y30,.rd y30],[y4],jm,none⟩
def fX:FS:=⟨[.rd y30],[y4],m_s_IsValidRegistry,none⟩
def lz:FS:=⟨[.rd y30,.rd y3],[y3],ct,none⟩
def C9:FS:=⟨[.rd y33],[y4],tq,none⟩
def nw:FS:=⟨[.rd y3],[y9],cw,none⟩
def mf:FS:=⟨[.rd y3],[y9],gp,none⟩
def rP:FS:=⟨[.rd C7],[y9],lN,none⟩
def qA:FS:=⟨[.rd y72],[y9],dV,none⟩
def Bc:FS:=⟨[.rd y9],[y3],jf,none⟩
def mg:FS:=⟨[.rd y3,.rd y72],[y9],b6,none⟩
def uT:FS:=⟨[.rd y9,.rd y5],[adx],iM,none⟩
def uU:FS:=⟨[.rd y9],[y3,y4],jg,none⟩
def qB:FS:=⟨[.rd y9],[y3,y4],iN,none⟩
def yP:FS:=⟨[.rd y9],[C7,y4],jn,none⟩
def wS:FS:=⟨[.rd y9],[y72,y4],ic,none⟩
def tU:FS:=⟨[.rd y9],[y3,y72,y4],gq,none⟩
def xJ:FS:=⟨[.rd y9],[y65,.sl 72 (.bag y72),y3],m_s_ScanLog,none⟩
def Fw:FS:=⟨[.rd y33],[y4],vU,none⟩
def eL:FS:=⟨[.rd y33],[y4],bw,none⟩
def Fx:FS:=⟨[.rd y9,.rd y3],[y9],pW,none⟩
def nY:FS:=⟨[.rd y33,.rd y3],[y33,y4],bQ,none⟩
def rQ:FS:=⟨[.rd y80,.rd y3],[y26,y4],ig,none⟩
def yQ:FS:=⟨[.rd y80],[y33,y4],pF,none⟩
def fD:FS:=⟨[.crs 92 5,.rd y65],[y3],bS,none⟩
def tF:FS:=⟨[.crs 92 5],[y80],kA,none⟩
def nZ:FS:=⟨[.rd y30,.rd y3,.rd y44],[y30,y4],iO,none⟩
def re:FS:=⟨[.rd y33,.rd y3,.rd y44],[y33,y4],gJ,none⟩
def Da:FS:=⟨[.rd Cb],[y9],C5,none⟩
def Fy:FS:=⟨[.rd y9],[Cb],Fs,none⟩
def yR:FS:=⟨[.rd y9],[y44,y4],lj,none⟩
def Fz:FS:=⟨[.crs 92 5,.rd adx],[y9],vV,none⟩
def tG:FS:=⟨[.crs 92 5],[y44],nU,none⟩
def xK:FS:=⟨[.rd y31,.rd y3],[y3],jo,none⟩
def qC:FS:=⟨[.rd y33,.rd y3,.rd y3],[y33,y4],fM,none⟩
def Db:FS:=⟨[.rd y26,.rd y30,.rd y55],[y4],jq,none⟩
def rf:FS:=⟨[.rd y30,.rd y3],[jD,y4],dk,none⟩
def Dc:FS:=⟨[.rd jD],[y4],qm,none⟩
def pw:FS:=⟨[.rd jD],[y4],dh,none⟩
def Dd:FS:=⟨[.rd y80,.rd jD,.rd y3,.rd y3],[y4],il,none⟩
def ny:FS:=⟨[.rd y80,.rd y3],[y3],dW,none⟩
def rR:FS:=⟨[.rd jD,.rd y3,.rd y3],[y3],dx,none⟩
def FA:FS:=⟨[.rd y80,.rd y3],[afd],sw,none⟩
def yS:FS:=⟨[.rd C7,.rd y4],[y3],jr,none⟩
def Ja:FS:=⟨[.rd C7,.rd y4],[y3],qn,none⟩
def Bd:FS:=⟨[.rd y80,.rd jD,.rd y3,.rd y3],[ae9],oO,none⟩
def Be:FS:=⟨[.rd y80,.rd jD,.rd y3],[y65],oP,none⟩
def wT:FS:=⟨[.rd y80,.rd jD,.rd y3,.rd y3],[y4],lO,none⟩
def Jb:FS:=⟨[.rd y3],[y65],yI,none⟩
def De:FS:=⟨[.rd y80,.rd jD,.rd y3],[y65],qo,none⟩
def wU:FS:=⟨[.rd y80,.rd jD],[y39],fG,none⟩
def pc:FS:=⟨[.rd y30,.rd y80,.rd y3],[y39,y4],bA,none⟩
def Df:FS:=⟨[.rd y26,.rd y3],[y80,y4],eD,none⟩
def FB:FS:=⟨[.rd y39,.rd y83],[y4],vW,none⟩
def Dg:FS:=⟨[.rd y83,.rd y83],[y4],tu,none⟩
def FC:FS:=⟨[.eat (.sl 83 y83),.rd y83],[y39],vX,none⟩
def sC:FS:=⟨[.rd y39,.rd y39],[y39],iR,none⟩
def tV:FS:=⟨[.rd y39,.rd y39],[y49],gu,none⟩
def wV:FS:=⟨[.rd y26,.rd y30,.rd y55,.rd y3],[y51],dy,none⟩
def uV:FS:=⟨[.rd y26,.rd y30,.rd y55],[y51,y55,y4],cR,none⟩
def wW:FS:=⟨[.rd y33,.rd y3],[y33,y51,y4],eP,none⟩
def n9:FS:=⟨[.crs 92 5,.rd y3],[y4],cM,none⟩
def wX:FS:=⟨[.rd y80,.rd C7],[y80,y4],oC,none⟩
def wY:FS:=⟨[.rd y80,.rd y3],[y80,y4],oD,none⟩
def xL:FS:=⟨[.rd y80,.rd y72],[y80,y4],fj,none⟩
def wZ:FS:=⟨[.rd y80,.rd y72],[y80,y4],oE,none⟩
def qD:FS:=⟨[.rd y26,.rd y72],[y26,y4],iS,none⟩
def uW:FS:=⟨[.rd y33,.rd y72],[y33,y4],kH,none⟩
def FD:FS:=⟨[.crs 92 5,.rd y80],[C7],sA,none⟩
def xM:FS:=⟨[.crs 92 5,.rd y80,.rd y3],[y72],mu,none⟩
def yT:FS:=⟨[.crs 92 5],[y33],pI,none⟩
def uX:FS:=⟨[.crs 92 5],[y30],nf,none⟩
def yU:FS:=⟨[.crs 92 5],[jD],ng,none⟩
def w7:FS:=⟨[.rd y3],[y44],wM,none⟩
def wk (n:Nat):FS:=⟨[.crs 92 5,.rd y3],[y44],ff n,none⟩
def FE:FS:=⟨[.crs 92 5],[y44],vY,none⟩
def FF:FS:=⟨[.crs 92 5],[jD],vZ,none⟩
def FG:FS:=⟨[.crs 92 5],[y30],v7,none⟩
def yV:FS:=⟨[.crs 92 5],[y26],pJ,none⟩
def Jc:FS:=⟨[.crs 92 5],[y80],yJ,none⟩
def Jd:FS:=⟨[.crs 92 5],[y26],yK,none⟩
def FH:FS:=⟨[.crs 92 5],[y33],v8,none⟩
def oV:FS:=⟨[.rd y22],[y33,y3],gK,none⟩
def oW:FS:=⟨[.rd y9,.rd y5],[.int .i64],gL,none⟩
def gE:FS:=⟨[.rd y3,.rd y3,.rd y3],[y4],bX,none⟩
def tW:FS:=⟨[.rd y3],[.str],pb,none⟩
def tH:FS:=⟨[.rd y3],[y9],eQ,none⟩
def Au:FS:=⟨[.rd C7,.rd y3],[y4],ln,none⟩
def rS:FS:=⟨[.rd C7],[y9],lQ,none⟩
def tX:FS:=⟨[.rd adx,.rd y9],[.str],l5,none⟩
def qF:FS:=⟨[.rd y72],[y9],fN,none⟩
def Bf:FS:=⟨[.rd y9],[y3],mH,none⟩
def pd:FS:=⟨[.rd y3,.rd y72],[y9],gA,none⟩
def oc:FS:=⟨[.rd y9,.rd y9],[.sl 9 .str],dG,none⟩
def uY:FS:=⟨[.rd y9],[.int .i64,.bool],jh,none⟩
def uZ:FS:=⟨[.rd y9,.rd y9],[.str,.str,.bool],dX,none⟩
def yW:FS:=⟨[.rd y9],[C7,y4],jt,none⟩
def w8:FS:=⟨[.rd y9],[y72,y4],im,none⟩
def tY:FS:=⟨[.rd y9],[y3,y72,y4],l6,none⟩
def xN:FS:=⟨[.rd y9],[y65,.sl 72 (.bag y72),y3],m_i_ScanLog,none⟩
def mi:FS:=⟨[.rd y80],[y4],bf,none⟩
def df:FS:=⟨[.rd y65,.rd y65],[y4],cr,none⟩
def gT:FS:=⟨[.rd y26],[y4],m_i_IsValidHistory,none⟩
def bP:FS:=⟨[.rd y27,.rd y27,.fn [jD,jD] [y4]],[y4],a8,none⟩
def jZ:FS:=⟨[.rd VE,.rd VE],[y4],fA,none⟩
def dq:FS:=⟨[.rd ZM,.rd ZM,.fn [y65,y65] [y4]],[y4],bT,none⟩
def qG:FS:=⟨[.rd y65,.rd y65],[y4],ju,none⟩
def od:FS:=⟨[.rd jD,.rd jD],[y4],fI,none⟩
def bL:FS:=⟨[.rd y28,.rd y28,.fn [y46,y46] [y4]],[y4],aZ,none⟩
def jj:FS:=⟨[.rd y42,.rd y42],[y4],eV,none⟩
def w9:FS:=⟨[.rd y44,.rd y44],[y4],oF,none⟩
def tZ:FS:=⟨[.rd y46,.rd y46],[y4],jK,none⟩
def mz:FS:=⟨[.rd y30,.rd y30],[y4],fP,none⟩
def vc:FS:=⟨[.rd y44],[y44],ji,none⟩
def vd:FS:=⟨[.rd y3],[y4],mI,none⟩
def Dh:FS:=⟨[.rd Cb],[y4],tv,none⟩
def bR:FS:=⟨[.rd adz],[adz],fun _=>none,some (246,8)⟩
def wm:FS:=⟨[.rd y44],[t246],pX,none⟩
def FI:FS:=⟨[.rd y44],[y4],wc,none⟩
def ve:FS:=⟨[.rd y44],[y4],nh,none⟩
def oJ (n:Nat):FS:=⟨[.rd t246],[y3],dA n,none⟩
def MV:FS:=⟨[.rd y3],[t246],G7,none⟩
def rh (n:Nat):FS:=⟨[.eat t246,.rd y3,.rd y3],[t246],oR n,none⟩
def nz (n:Nat):FS:=⟨[.rd t246],[t246],cT n,none⟩
def mj (n:Nat):FS:=⟨[.rd t246,.ptr 44 y44],[],cA n,none⟩
def yX:FS:=⟨[.rd t246],[y44],tx,none⟩
def xa:FS:=⟨[.rd y44],[y44,y4],oG,none⟩
def px:FS:=⟨[.ptr 181 MU,.rd y3,.rd y3],[],fp,none⟩
def jA (n:Nat):FS:=⟨[.ptr 181 MU,.rd t246],[afa],bM n,none⟩
def ri:FS:=⟨[.rd y44],[MU,y4],jW,none⟩
def pe:FS:=⟨[.rd y3,.rd y3,.fn [y3] [y4],.fn [y3,y3] [y3,y4]],[jD,y4],gB,none⟩
def oX:FS:=⟨[.rd MU,.rd y3],[y4],eX,none⟩
def qH:FS:=⟨[.rd MU,.rd y3,.rd y3],[y3],jv,none⟩
def sD:FS:=⟨[.rd y3,.rd y3,.cap 181 MU],[y3,y4],eH,none⟩
def vf:FS:=⟨[.rd MU,.rd y3],[jD,y4],kI,none⟩
def bY:FS:=⟨[.rd VE],[VE],fun _=>none,some (4,1)⟩
def rj:FS:=⟨[.rd jD],[VE],gO,none⟩
def gi:FS:=⟨[.rd ZM,.fn [y65] [y4]],[y3],cC,none⟩
def nM:FS:=⟨[.rd y65,.cap 65 y65],[y4],jS,none⟩
def py:FS:=⟨[.rd jD,.rd y65],[y65,y3],fq,none⟩
def oY:FS:=⟨[.rd jD],[y65],fa,none⟩
def qI:FS:=⟨[.rd ab3,.rd ab3],[ab3,ab3],xC,none⟩
def qJ:FS:=⟨[.rd ab2,.rd ab2],[ab2,ab2],qq,none⟩
def sE:FS:=⟨[.rd ab0,.rd ab0],[ab0,ab0],sB,none⟩
def fY:FS:=⟨[.rd y65,.rd y3],[y65],cV,none⟩
def Di:FS:=⟨[],[jD],xD,none⟩
def lC:FS:=⟨[.rd y65,.rd y3],[y3],gk,none⟩
def mJ:FS:=⟨[.rd y3,.cap 65 y65],[y3],bg,none⟩
def mK:FS:=⟨[.rd y3,.cap 113 jD,.capf 305 [y3] [y3]],[y4],dI,none⟩
def j3:FS:=⟨[.rd jD,.rd y3,.rd y3],[y3],cm,none⟩
def mL:FS:=⟨[.rd y3,.rd y3,.cap 113 jD,.capf 305 [y3] [y3],.cap 65 y65],[y3,y4],dJ,none⟩
def nO:FS:=⟨[.rd jD],[jD],du,none⟩
def Je:FS:=⟨[.rd jD],[jD,y4],C6,none⟩
def vh:FS:=⟨[.rd y44],[jD,y4],kK,none⟩
def ep:FS:=⟨[.rd y27,.fn [jD] [y4]],[y3],bK,none⟩
def Bg:FS:=⟨[.rd jD,.cap 113 jD],[y4],oT,none⟩
def FJ:FS:=⟨[.rd y28],[y30,y4],we,none⟩
def jB:FS:=⟨[.rd y30],[y4],cx,none⟩
def lA:FS:=⟨[.rd y26],[y3],cZ,none⟩
def dO:FS:=⟨[.rd y28,.fn [y46] [y4]],[y3],cq,none⟩
def vi:FS:=⟨[.rd y46,.cap 3 y3],[y4],nj,none⟩
def pL:FS:=⟨[.rd y30,.rd y3],[y3],gP,none⟩
def iY:FS:=⟨[.rd y33],[y4],dK,none⟩
def rk:FS:=⟨[.rd y65],[y65],kL,none⟩
def tI:FS:=⟨[.rd y80],[y80],jw,none⟩
def qK:FS:=⟨[.rd y26],[y26],kM,none⟩
def oe:FS:=⟨[.rd jD],[jD],iU,none⟩
def ua:FS:=⟨[.rd y30],[y30],l7,none⟩
def rT:FS:=⟨[.rd y33],[y33],lR,none⟩
def xO:FS:=⟨[.rd y26,.rd y3],[y80,y4],mw,none⟩
def rl:FS:=⟨[.rd y26,.rd y3],[y26,y4],jX,none⟩
def sF:FS:=⟨[.rd y33,.rd y3],[y33,y4],lq,none⟩
def dt:FS:=⟨[.rd y24,.rd y24,.fn [y80,y80] [y4]],[y4],bU,none⟩
def j4:FS:=⟨[.rd y78,.rd y78],[y4],dL,none⟩
def vj:FS:=⟨[.rd y80,.rd y80],[y4],kN,none⟩
def rp:FS:=⟨[.rd y26,.rd y26],[y4],jY,none⟩
def eN:FS:=⟨[.rd y31,.rd y31],[y4],bO,none⟩
def ub:FS:=⟨[.rd y33,.rd y33],[y4],l9,none⟩
def rq:FS:=⟨[.rd y30,.rd y3],[jD,y4],gR,none⟩
def pz:FS:=⟨[.rd jD],[y4],cE,none⟩
def Av:FS:=⟨[.rd y80,.rd jD,.rd y65],[y4],dw,none⟩
def FK:FS:=⟨[.rd ZM,.rd y65],[y65],wg,none⟩
def tJ:FS:=⟨[.rd y3],[y65],kO,none⟩
def Jf:FS:=⟨[.rd C7,.rd y4],[y3],uN,none⟩
def MW:FS:=⟨[.rd y80],[afc],yL,none⟩
def xP:FS:=⟨[.rd jD,.rd y3,.rd y3],[y3],mx,none⟩
def Jg:FS:=⟨[.rd jD,.rd y3,.rd y3,.rd y3],[y3],uO,none⟩
def uc:FS:=⟨[.rd y80,.rd jD],[ZM],gC,none⟩
def sG:FS:=⟨[.rd y80,.rd jD,.rd y3],[y65],iV,some (0,7)⟩
def yY:FS:=⟨[.rd jD,.rd y3,.rd y3],[y4],np,none⟩
def lU:FS:=⟨[.ow (.sl 3 y3)],[],ir,none⟩
def j5:FS:=⟨[.eat (.sl 3 y3)],[.sl 3 y3],dM,none⟩
def yZ:FS:=⟨[.rd y65],[y65],nr,none⟩
def vk:FS:=⟨[.rd y80,.rd jD,.rd y3],[y65],kQ,none⟩
def xb:FS:=⟨[.rd y80,.rd jD],[y39],iu,none⟩
def pf:FS:=⟨[.rd y30,.rd y80,.rd y3],[y39,y4],fm,none⟩
def y6:FS:=⟨[.rd y33],[.fro y80],tz,none⟩
def sH:FS:=⟨[.rd y33,.rd y3],[y39,y4],lr,none⟩
def sI:FS:=⟨[.rd y33,.rd y3],[y39,y4],eJ,none⟩
def xc:FS:=⟨[.rd y39,.rd y39],[y4],lT,none⟩
def dP:FS:=⟨[.rd y31,.fn [y55] [y4]],[y3],aU,none⟩
def ud:FS:=⟨[.rd y55,.cap 3 y3],[y4],mb,none⟩
def xd:FS:=⟨[.rd y33,.rd y3],[y3],rN,none⟩
def Dj:FS:=⟨[.rd y26,.rd y30,.rd y55],[y4],qv,none⟩
def y7:FS:=⟨[.rd y26,.rd y30,.rd y3,.rd y3],[y39,y4],jy,none⟩
def ix:FS:=⟨[.rd y39,.fn [y83] [y4]],[y3],bZ,none⟩
def gU:FS:=⟨[.eat (.sl 83 y83),.fn [y83] [y4]],[.sl 83 y83],cK,none⟩
def iZ:FS:=⟨[.ow (.sl 83 y83),.fk 264],[],eK,none⟩
def vl:FS:=⟨[.rd y3,.rd y3],[y3],qw,none⟩
def ue:FS:=⟨[.rd y83,.rd y83],[y3],BD,none⟩
def jk:FS:=⟨[.eat (.sl 83 y83)],[.sl 83 y83],dm,none⟩
def Dk:FS:=⟨[.rd y39],[y39],tC,none⟩
def j6:FS:=⟨[.rd y39,.rd y83],[y3],dN,none⟩
def ja:FS:=⟨[.rd y39,.rd y83],[y4],db,none⟩
def qL:FS:=⟨[.rd y83,.cap 39 y39],[y4],my,none⟩
def sJ:FS:=⟨[.rd y39,.rd y39],[y39],iX,none⟩
def uf:FS:=⟨[.rd y39,.rd y39],[y49],mc,none⟩
def Dl:FS:=⟨[.rd y26,.rd y30,.rd y55,.rd y3],[y51,y55,y4],qx,none⟩
def vm:FS:=⟨[.rd y26,.rd y30,.rd y55],[y51,y55,y4],kR,none⟩
def xe:FS:=⟨[.rd y33,.rd y3],[y33,y51,y4],oH,none⟩
def BE:FS:=⟨[.rd y22],[y4],me,none⟩
theorem ZO:FOk Tryz.prog 4 RB:=fk [] trivial Tryz.func4 .no
theorem RC:FOk Tryz.prog 14 I9:=ZF (T:=92) (abY (V:=⟨tt,[],[],32,[]⟩) Ot trivial mixed Tryz.func14 rfl rfl (enters_of Tryz.func14 (by kernel_rfl) rfl) (bB rfl) (.t (.t (.two (.t (.loop [.s 3,.s 4] .no)) .no))) (fun a=>by kernel_rfl)) rfl
theorem Ou:FOk Tryz.prog 44 Ft:=fk [] trivial Tryz.func44 (.t (.t (.t (.two (.t (.at [.s 3,.cur 0] .no)) .no))))
theorem cW:FOk Tryz.prog 17 cF:=fk [(44,Ft)] ⟨Ou,trivial⟩ Tryz.func17 .no
theorem mM:FOk Tryz.prog 105 lx:=fk [] trivial Tryz.func105 .no
theorem Aw:FOk Tryz.prog 53 wh:=fk [(105,lx)] ⟨mM,trivial⟩ Tryz.func53 (.t (.t (.two (.t (.loop [.s 4,.box 3 [(.num .i64),(.own 80 y80)]] .no)) .no)))
theorem Dm:FOk Tryz.prog 106 xE:=fk [] trivial Tryz.func106 (.t (.t (.two (.t (.loop [.s 4,.box 3 [(.num .i64),(.own 4 y4),(.own 65 y65)]] .no)) .no)))
theorem Ax:FOk Tryz.prog 107 wi:=fk [] trivial Tryz.func107 .no
theorem Dn:FOk Tryz.prog 54 xF:=fk [(106,xE),(107,wi)] ⟨Dm,Ax,trivial⟩ Tryz.func54 (.t (.t (.two (.t (.loop [.s 4,.box 3 [(.own 113 jD),(.own 46 y46)]] .no)) (.two (.t (.loop [.s 5,.box 3 [(.own 113 jD),(.own 46 y46)]] .no)) .no))))
theorem qM:FOk Tryz.prog 22 nW:=fk [(53,wh),(54,xF)] ⟨Aw,Dn,trivial⟩ Tryz.func22 .no
theorem j7:FOk Tryz.prog 55 jz:=fk [] trivial Tryz.func55 .no
theorem FL:FOk Tryz.prog 123 Ar:=fk [(55,jz)] ⟨j7,trivial⟩ Tryz.func123 .no
theorem gF:FOk Tryz.prog 71 fo:=fk [(55,jz),(123,Ar)] ⟨j7,FL,trivial⟩ Tryz.func71 (.t (.two (.t (.loop [.s 3] .no)) (.two (.t (.loop [.s 4] .no)) .no)))
theorem Do:FOk Tryz.prog 94 yN:=fk [] trivial Tryz.func94 (.t (.two (.t (.loop [.s 5] .no)) .no))
theorem ej:FOk Tryz.prog 43 dn:=fk [(55,jz),(71,fo),(94,yN)] ⟨j7,gF,Do,trivial⟩ Tryz.func43 (.t (.two (.t (.loop [.s 3] .no)) .no))
theorem de:FOk Tryz.prog 16 cD:=fk [(43,dn)] ⟨ej,trivial⟩ Tryz.func16 .no
theorem y8:FOk Tryz.prog 23 q9:=fk [(16,cD),(43,dn),(53,wh),(55,jz)] ⟨de,ej,Aw,j7,trivial⟩ Tryz.func23 .no (an:=[(28,.bool)])
theorem Bh:FOk Tryz.prog 252 uP:=fk [(55,jz)] ⟨j7,trivial⟩ Tryz.func252 .no
theorem Dq:FOk Tryz.prog 280 xG:=fk [(55,jz),(252,uP)] ⟨j7,Bh,trivial⟩ Tryz.func280 (.t (.two (.t (.join [.slot 5 .boo] .no (.t (.t (.t (.join [.slot 37 .boo] .no .no)))))) .no))
theorem Ov:FOk Tryz.prog 223 Fu:=fk [(280,xG)] ⟨Dq,trivial⟩ Tryz.func223 (.t (.t (.two (.t (.loop [.s 3,.s 4] .no)) .no)))
theorem vn:FOk Tryz.prog 175 qy:=fk [(223,Fu)] ⟨Ov,trivial⟩ Tryz.func175 .no
theorem xQ:FOk Tryz.prog 228 tD:=fk [(280,xG)] ⟨Dq,trivial⟩ Tryz.func228 (.t (.t (.t (.two (.loop [.s 3,.s 4] .no) .no))))
theorem Dr: ∀n,FOk Tryz.prog 226 (tE n)
 | 0=>lX (f:=tE 0) (enters_of Tryz.func226 (by kernel_rfl) rfl) rfl (fun d=>rfl)
 | n+1=>by
  have ih:=Dr n
  exact fk [(226,(tE n)),(228,tD)] ⟨ih,xQ,trivial⟩ Tryz.func226 (.t (.t (.t (.two (.t (.two (.t (.at [.slot 15 .boo] .no)) .no)) .no))))
theorem Ay:FOk Tryz.prog 232 wj:=fk [(107,wi)] ⟨Ax,trivial⟩ Tryz.func232 .no
theorem FM:FOk Tryz.prog 230 As:=fk [] trivial Tryz.func230 .no
theorem Bi: ∀n,FOk Tryz.prog 282 (ra n)
 | 0=>lX (f:=ra 0) (enters_of Tryz.func282 (by kernel_rfl) rfl) rfl (fun d=>rfl)
 | n+1=>by
  have ih:=Bi n
  exact fk [(230,As),(232,wj),(282,(ra n))] ⟨FM,Ay,ih,trivial⟩ Tryz.func282 .no
theorem za: ∀n,FOk Tryz.prog 227 (pK n)
 | 0=>lX (f:=pK 0) (enters_of Tryz.func227 (by kernel_rfl) rfl) rfl (fun d=>rfl)
 | n+1=>by
  have ih:=za n
  exact fk [(227,(pK n)),(228,tD),(232,wj),(282,(ra gj))] ⟨ih,xQ,Ay,(Bi gj),trivial⟩ Tryz.func227 (.t (.t (.t (.two (.t (.two (.t (.at [.slot 15 .boo] .no)) .no)) .no))))
theorem EA:FOk Tryz.prog 182 wN:=fk [(175,qy),(226,(tE gj)),(227,(pK gj))] ⟨vn,(Dr gj),(za gj),trivial⟩ Tryz.func182 .no
theorem KT:FOk Tryz.prog 229 C8:=fk [] trivial Tryz.func229 (.t (.loop [.s 6,.par 4 [3] 3 y3] (.t (.two (.at [.par 4 [3] 3 y3] .no) .no))))
theorem Bj: ∀n,FOk Tryz.prog 183 (rb n)
 | 0=>lX (f:=rb 0) (enters_of Tryz.func183 (by kernel_rfl) rfl) rfl (fun d=>rfl)
 | n+1=>by
  have ih:=Bj n
  exact fk [(183,(rb n)),(228,tD),(229,C8)] ⟨ih,xQ,KT,trivial⟩ Tryz.func183 (.t (.t (.t (.two (.t (.t (.t (.t (.t (.t (.two (.t (.t (.t (.t (.t (.two (.t (.at [.box 11 [.boo,(.num .i64),(.num .i64)]] .no)) (.two (.t (.at [.box 11 [.boo,(.num .i64),(.num .i64)]] .no)) .no))))))) .no))))))) .no))))
theorem rr:FOk Tryz.prog 141 nt:=fk [(182,wN),(183,(rb gj))] ⟨EA,(Bj gj),trivial⟩ Tryz.func141 (.t (.t (.t (.t (.two (.t (.loop [.s 6,.s 7] (.t (.two (.at [.s 6] .no) .no)))) .no)))))
theorem Jh:FOk Tryz.prog 185 Ba:=fk [] trivial Tryz.func185 (.t (.t (.join [.s 7] .no (.two (.t (.loop [.s 7,.s 8] (.t (.join [.s 7] .no .no)))) (.t (.two (.t (.loop [.s 9,.s 10] (.t (.join [.s 9] .no .no)))) .no))))))
theorem Ds:FOk Tryz.prog 186 xH:=fk [] trivial Tryz.func186 (.t (.two (.t (.loop [.s 5] .no)) .no))
theorem EB:FOk Tryz.prog 187 wO:=fk [] trivial Tryz.func187 .no
end R
end Go.Proofs.YtphjdcoponilmaaGreatDoor
