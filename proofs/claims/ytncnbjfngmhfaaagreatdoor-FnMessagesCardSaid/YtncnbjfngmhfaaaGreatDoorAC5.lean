/- FnMessages: for every input the law returns true and changes nothing that was there. Part 6 of 9. -/
import Derived.Test.YtncnbjfngmhfaaaGreatDoorAC4
set_option synthInstance.maxSize 20000
set_option synthInstance.maxHeartbeats 2000000
set_option linter.unusedVariables false
set_option linter.unusedSimpArgs false
set_option linter.unnecessarySimpa false
set_option linter.unusedSectionVars false
set_option maxRecDepth 1000000
namespace Go.Proofs.YtncnbjfngmhfaaaGreatDoor
open Go.IntKind (i64)
namespace D
open Go.RowKit
abbrev Yq1:Type:=(Int×Int×Int×Int)
abbrev Yq2:Type:=(Int×(List Bool)×(List (List Int)))
abbrev Yq3:Type:=(Int×((List Yq1))×Int)
abbrev Yq4:Type:=(List (Int×Int))
abbrev Yq5:Type:=((List Int)×(List Yq1))
abbrev Yq6:Type:=(Int×(List Bool)×List (List Int))
abbrev Yq7:Type:=((Int×Bool)×Int×Int)
abbrev Yq8:Type:=((List Int)×List Yq1)
abbrev Yq9:Type:=((List Int)×Int×Int×(List Int)×Bool)
abbrev MN:Type:=(Bool×Int×Int×Int×Int)
abbrev IJ:Type:=(Int×(List Yq1)×Int)
abbrev MO:Type:=(Int×Bool×(Yq4×Yq4))
abbrev QR:Type:=(Out (List Int) ((List Int)×Int))
abbrev UB:Type:=(Int×(List Yq2)×(List Yq3))
abbrev HO:Type:=(Int×Int×Int)
abbrev SP:Type:=((List Yq2)×(List Yq3))
abbrev XZ:Type:=(Int×Bool×Yq4×List (Int×Int))
abbrev MP:Type:=(Out Int (Int×Int))
def IK (a:List Int):Option Bool:=
 some (decide ((a.length:Int)>1048576))
def dj (a:Int) (b:Int) (c:Int):Option Bool:=
 if decide (a≥b) then (some (decide (a<=c))) else (some false)
def tT (b:(List Int)×(List Yq1)) (a:Int×Int×Int×Int):Option Bool:=
 (dj a.1 1 99).bind fun c=>if c then ((dj a.2.1 0 (i64.wrap ((b.1.length:Int) - 1))).bind fun d=>if d then ((dj a.2.2.1 0 (i64.wrap ((b.1.length:Int) - 1))).bind fun e=>if e then ((dj a.2.2.2 0 2).bind fun f=>some f) else (some false)) else (some false)) else (some false)
def oS (b:(List Int)×(List Yq1)) (a:Int):Option (Out Bool Int):=
 if decide (a<(b.1.length:Int)) then ((aP b.1 a).bind fun c=>(dj c 0 2).bind fun d=>if d then (some (.nxt (i64.wrap (a+1)))) else (some (.ret false))) else (some (.brk a))
def kO (b:(List Int)×(List Yq1)) (a:Int):Option (Out Bool Int):=
 if decide (a<(b.2.length:Int)) then ((aP b.2 a).bind fun c=>(tT (b.1,b.2) (c.1,c.2.1,c.2.2.1,c.2.2.2)).bind fun d=>if d then (if decide (a>0) then ((aP b.2 (i64.wrap (a - 1))).bind fun e=>(aP b.2 a).bind fun f=>if decide (e.1≥f.1) then (some (.ret false)) else (some (.nxt (i64.wrap (a+1))))) else (some (.nxt (i64.wrap (a+1))))) else (some (.ret false))) else (some (.brk a))
def a6 (a:(List Int)×(List Yq1)):Option Bool:=
 aN (aq (oS a) aT 0) (fun r=>some r) (fun c=>aN (aq (kO a) aT 0) (fun r=>some r) (fun d=>(dj (a.1.length:Int) 1 5).bind fun b=>if b then (some (decide ((a.2.length:Int)<=12))) else (some false)))
def pJ (b:List Int) (c:List Int) (a:Int):Option (Out Int Int):=
 if decide (a<(b.length:Int)) then (if decide (a<(c.length:Int)) then ((aP b a).bind fun d=>(aP c a).bind fun e=>if decide (d<e) then (some (.ret (-1))) else ((aP b a).bind fun f=>(aP c a).bind fun g=>if decide (f>g) then (some (.ret 1)) else (some (.nxt (i64.wrap (a+1)))))) else (some (.brk a))) else (some (.brk a))
def oT (a:List Int) (b:List Int):Option Int:=
 aN (aq (pJ a b) aT 0) (fun r=>some r) (fun c=>if decide ((a.length:Int)<(b.length:Int)) then (some (-1)) else (if decide ((a.length:Int)>(b.length:Int)) then (some 1) else (some 0)))
def cy (b:Int×(List Yq5)) (a:Int):Option (Out Bool Int):=
 if decide (a<(b.2.length:Int)) then ((aP b.2 a).bind fun c=>(a6 (c.1,c.2)).bind fun d=>if d then ((aP b.2 a).bind fun e=>(aP b.2 0).bind fun f=>(oT e.1 f.1).bind fun g=>if g !=0 then (some (.ret false)) else (some (.nxt (i64.wrap (a+1))))) else (some (.ret false))) else (some (.brk a))
def aX (a:Int×(List Yq5)):Option Bool:=
 aN (aq (cy a) aT 0) (fun r=>some r) (fun d=>(dj (a.2.length:Int) 1 8).bind fun b=>if b then ((dj a.1 1 (i64.wrap ((i64.wrap (999 - (a.2.length:Int)))+1))).bind fun c=>some c) else (some false))
def aR (a:Int×(List Yq5)):Option Int:=
 (aX (a.1,a.2)).bind fun b=>if b then (some (i64.wrap ((i64.wrap (a.1+(a.2.length:Int))) - 1))) else (some 0)
def kZ (a:(List Int)×Int×Int):Option HO:=
 Option.bind ((if decide (a.2.1<(a.1.length:Int)) then ((aP a.1 a.2.1).bind fun c=>some (qp (i64.wrap ((qp (Z5 (n9 (i64.wrap ((i64.wrap (a.2.2*6364136223846793005))+1442695040888963407)) 33) (n9 (i64.wrap ((i64.wrap (a.2.2*6364136223846793005))+1442695040888963407)) 45)) 255)+(i64.wrap c))) 255,i64.wrap (a.2.1+1),i64.wrap ((i64.wrap (a.2.2*6364136223846793005))+1442695040888963407))) else (some (qp (Z5 (n9 (i64.wrap ((i64.wrap (a.2.2*6364136223846793005))+1442695040888963407)) 33) (n9 (i64.wrap ((i64.wrap (a.2.2*6364136223846793005))+1442695040888963407)) 45)) 255,a.2.1,i64.wrap ((i64.wrap (a.2.2*6364136223846793005))+1442695040888963407))):Option HO)) (fun b=>some (b.1,b.2.1,b.2.2))
def aK (a:(List Int)×Int×Int) (b:Int):Option HO:=
 if decide (b<=0) then (some (0,a.2.1,a.2.2)) else (if decide (b<=256) then ((kZ (a.1,a.2.1,a.2.2)).bind fun c=>(chk (b≠0)).bind fun _=>some (Int.tmod c.1 b,c.2.1,c.2.2)) else ((kZ (a.1,a.2.1,a.2.2)).bind fun d=>(kZ (a.1,d.2.1,d.2.2)).bind fun e=>(kZ (a.1,e.2.1,e.2.2)).bind fun f=>(kZ (a.1,f.2.1,f.2.2)).bind fun g=>(chk (b≠0)).bind fun _=>some (Int.tmod (i64.wrap ((i64.wrap ((i64.wrap ((i64.wrap (d.1*16777216))+(i64.wrap (e.1*65536))))+(i64.wrap (f.1*256))))+g.1)) b,g.2.1,g.2.2)))
def bh (a:(List Int)×Int×Int) (c:List Int):Option HO:=
 (aK (a.1,a.2.1,a.2.2) (c.length:Int)).bind fun b=>(aP c b.1).bind fun d=>some (d,b.2.1,b.2.2)
def bZ (a:(List Int)×(List Yq1)):Option Yq5:=
 (bM 8 ([] :List Int) a.1).bind fun b=>(bM 32 ([] :List Yq1) a.2).bind fun c=>some (b,c)
def j6 (b:(List Int)×(List Yq1)) (c:Int):Option ((Int×(List Yq5))×Bool):=
 (bZ (b.1,b.2)).bind fun a=>(aX (c,[(a.1,a.2)])).bind fun d=>if d then (some ((c,[(a.1,a.2)]),true)) else (some ((0,[]),false))
def dW (c:(List Int)×Int×Int) (a:Int×Int×Int×(List Int)×List Yq1):Option (Out (Yq8×Int×Int) (Int×Int×Int×(List Int)×List Yq1)):=
 if decide (a.1>0) then ((aK (c.1,a.2.1,a.2.2.1) 3).bind fun b=>(bM 8 a.2.2.2.1 ([b.1])).bind fun d=>some (.nxt (i64.wrap (a.1 - 1),b.2.1,b.2.2,d,a.2.2.2.2))) else (some (.brk (a.1,a.2.1,a.2.2.1,a.2.2.2.1,a.2.2.2.2)))
def gk (b:(List Int)×Int×Int) (a:Int×Int×Int×Int×(List Int)×List Yq1):Option (Out (Yq8×Int×Int) (Int×Int×Int×Int×(List Int)×List Yq1)):=
 if decide (a.2.1>0) then ((aK (b.1,a.2.2.1,a.2.2.2.1) 3).bind fun c=>(aK (b.1,c.2.1,c.2.2) (a.2.2.2.2.1.length:Int)).bind fun d=>(aK (b.1,d.2.1,d.2.2) (a.2.2.2.2.1.length:Int)).bind fun e=>(bh (b.1,e.2.1,e.2.2) ([0,0,1,2])).bind fun f=>(bM 32 a.2.2.2.2.2 ([(i64.wrap ((i64.wrap (a.1+1))+c.1),d.1,e.1,f.1)])).bind fun g=>some (.nxt (i64.wrap ((i64.wrap (a.1+1))+c.1),i64.wrap (a.2.1 - 1),f.2.1,f.2.2,a.2.2.2.2.1,g))) else (some (.brk (a.1,a.2.1,a.2.2.1,a.2.2.2.1,a.2.2.2.2.1,a.2.2.2.2.2)))
def kP (a:(List Int)×Int×Int):Option (Yq8×Int×Int):=
 (bh (a.1,a.2.1,a.2.2) ([2,3,4,4,5])).bind fun d=>aN (aq (dW a) aT (d.1,d.2.1,d.2.2,([] :List Int),([] :List Yq1))) (fun g=>some g) (fun b=>(bh (a.1,b.2.1,b.2.2.1) ([4,8,11])).bind fun e=>(aK (a.1,e.2.1,e.2.2) e.1).bind fun f=>aN (aq (gk a) aT (0,f.1,f.2.1,f.2.2,b.2.2.2.1,b.2.2.2.2)) (fun h=>some h) (fun c=>some ((c.2.2.2.2.1,c.2.2.2.2.2),c.2.2.1,c.2.2.2.1)))
def lI (b:Int×(List Yq5)) (a:Int×Int×(List Yq5)):Option (Out (Int×(List Yq5)) (Int×Int×(List Yq5))):=
 if decide (a.1<(b.2.length:Int)) then ((aP b.2 a.1).bind fun c=>(bZ (c.1,c.2)).bind fun d=>(bM 48 a.2.2 ([(d.1,d.2)])).bind fun e=>some (.nxt (i64.wrap (a.1+1),a.2.1,e))) else (some (.brk (a.1,a.2.1,a.2.2)))
def qx (a:Int×(List Yq5)):Option (Int×(List Yq5)):=
 aN (aq (lI a) aT (0,a.1,[])) (fun r=>some r) (fun b=>some (b.2.1,b.2.2))
def fK (b:(List Int)×(List Yq1)) (c:Int) (a:Int):Option (Out Int Int):=
 if decide (a<(b.2.length:Int)) then ((aP b.2 a).bind fun d=>if d.1==c then (some (.ret a)) else (some (.nxt (i64.wrap (a+1))))) else (some (.brk a))
def dw (a:(List Int)×(List Yq1)) (b:Int):Option Int:=
 aN (aq (fK a b) aT 0) (fun r=>some r) (fun c=>some (-1))
def jL (b:(List Int)×(List Yq1)) (c:Int×Int×Int×Int) (a:Int):Option (Out (Yq5×Bool) Int):=
 if decide (a<(b.2.length:Int)) then ((aP b.2 a).bind fun d=>if decide (d.1<c.1) then (some (.nxt (i64.wrap (a+1)))) else (some (.brk a))) else (some (.brk a))
def mT (a:(List Int)×(List Yq1)) (b:Int×Int×Int×Int):Option (Yq5×Bool):=
 (a6 (a.1,a.2)).bind fun h=>if h then ((tT (a.1,a.2) (b.1,b.2.1,b.2.2.1,b.2.2.2)).bind fun i=>if i then ((dw (a.1,a.2) b.1).bind fun j=>if decide (j≥0) then ((bZ (a.1,a.2)).bind fun d=>some ((d.1,d.2),false)) else (if (a.2.length:Int)==12 then ((bZ (a.1,a.2)).bind fun e=>some ((e.1,e.2),false)) else (aN (aq (jL a b) aT 0) (fun r=>some r) (fun c=>(bM 8 ([] :List Int) a.1).bind fun k=>(chk (0<=c/\c<=(a.2.length:Int))).bind fun _=>(bM 32 ([] :List Yq1) (a.2.take c.toNat)).bind fun l=>(bM 32 l ([(b.1,b.2.1,b.2.2.1,b.2.2.2)])).bind fun m=>(chk (0<=c/\c<=(a.2.length:Int))).bind fun _=>(bM 32 m (a.2.drop c.toNat)).bind fun n=>some ((k,n),true))))) else ((bZ (a.1,a.2)).bind fun f=>some ((f.1,f.2),false))) else ((bZ (a.1,a.2)).bind fun g=>some ((g.1,g.2),false))
def mU (a:(List Int)×(List Yq1)) (e:Int):Option (Yq5×Bool):=
 (dw (a.1,a.2) e).bind fun b=>(a6 (a.1,a.2)).bind fun f=>if f then (if decide (b<0) then ((bZ (a.1,a.2)).bind fun c=>some ((c.1,c.2),false)) else ((bM 8 ([] :List Int) a.1).bind fun g=>(chk (0<=b/\b<=(a.2.length:Int))).bind fun _=>(bM 32 ([] :List Yq1) (a.2.take b.toNat)).bind fun h=>(chk (0<=i64.wrap (b+1)/\i64.wrap (b+1)<=(a.2.length:Int))).bind fun _=>(bM 32 h (a.2.drop (i64.wrap (b+1)).toNat)).bind fun i=>some ((g,i),true))) else ((bZ (a.1,a.2)).bind fun d=>some ((d.1,d.2),false))
def qd (c:(List Int)×(List Yq1)) (e:(List (Bool×Yq1))) (a:Int×(List Int)×(List Yq1)):Option (Out (Yq5×Bool) (Int×(List Int)×(List Yq1))):=
 if decide (a.1<(e.length:Int)) then (if decide (a.1<=6) then (Cv (S:=(List Int)×(List Yq1)) ((aP e a.1).bind fun b=>(aP e a.1).bind fun n=>if n.1 then ((mT (a.2.1,a.2.2) (b.2.1,b.2.2.1,b.2.2.2.1,b.2.2.2.2)).bind fun f=>if f.2 then (some (.inr (f.1.1,f.1.2))) else ((bZ (c.1,c.2)).bind fun h=>some (.inl (.ret ((h.1,h.2),false))))) else ((dw (a.2.1,a.2.2) b.2.1).bind fun i=>if decide (i<0) then ((bZ (c.1,c.2)).bind fun j=>some (.inl (.ret ((j.1,j.2),false)))) else ((aP a.2.2 i).bind fun d=>if (d.1==b.2.1)&&((d.2.1==b.2.2.1)&&((d.2.2.1==b.2.2.2.1)&&((d.2.2.2==b.2.2.2.2)&&true))) then ((mU (a.2.1,a.2.2) b.2.1).bind fun g=>if g.2 then (some (.inr (g.1.1,g.1.2))) else ((bZ (c.1,c.2)).bind fun k=>some (.inl (.ret ((k.1,k.2),false))))) else ((bZ (c.1,c.2)).bind fun l=>some (.inl (.ret ((l.1,l.2),false))))))) (fun m=>some (.nxt (i64.wrap (a.1+1),m.1,m.2)))) else (some (.brk (a.1,a.2.1,a.2.2)))) else (some (.brk (a.1,a.2.1,a.2.2)))
def eN (a:(List Int)×(List Yq1)) (d:(List (Bool×Yq1))):Option (Yq5×Bool):=
 (bZ (a.1,a.2)).bind fun b=>aN (aq (qd a d) aT (0,b.1,b.2)) (fun r=>some r) (fun c=>some ((c.2.1,c.2.2),true))
def mV (a:(List Int)×(List Yq1)) (c:(List (Bool×Yq1))):Option (Yq5×Bool):=
 (a6 (a.1,a.2)).bind fun f=>if f then (if decide ((c.length:Int)>6) then ((bZ (a.1,a.2)).bind fun d=>some ((d.1,d.2),false)) else ((eN (a.1,a.2) c).bind fun b=>some ((b.1.1,b.1.2),b.2))) else ((bZ (a.1,a.2)).bind fun e=>some ((e.1,e.2),false))
def je (b:Int×List Yq8) (g:List MN):Option ((Int×List Yq8)×Bool):=
 (qx (b.1,b.2)).bind fun a=>(aX (b.1,b.2)).bind fun h=>if h then ((aR (b.1,b.2)).bind fun i=>if i==999 then (some ((a.1,a.2),false)) else ((aP b.2 (i64.wrap ((b.2.length:Int) - 1))).bind fun e=>(mV (e.1,e.2) g).bind fun d=>if d.2 then ((bM 48 a.2 ([(d.1.1,d.1.2)])).bind fun c=>Option.bind ((if decide ((c.length:Int)>8) then ((chk (And ((0:Int)<=1) (1<=(c.length:Int)))).bind fun _=>some (i64.wrap (a.1+1),c.drop 1)) else (some (a.1,c)):Option (Int×List Yq8))) (fun f=>some ((f.1,f.2),true))) else (some ((a.1,a.2),false)))) else (some ((a.1,a.2),false))
def cn (a:(List Int)×Int×Int) (c:Int):Option (Bool×Int×Int):=
 (aK (a.1,a.2.1,a.2.2) c).bind fun b=>some (b.1==0,b.2.1,b.2.2)
def qy (b:(List Int)×Int×Int) (k:(List Int)×List Yq1):Option (Yq1×Int×Int):=
 (aK (b.1,b.2.1,b.2.2) 40).bind fun e=>(aK (b.1,e.2.1,e.2.2) (Max.max 1 (k.1.length:Int))).bind fun c=>(aK (b.1,c.2.1,c.2.2) (Max.max 1 (k.1.length:Int))).bind fun f=>(aK (b.1,f.2.1,f.2.2) 3).bind fun g=>(aK (b.1,g.2.1,g.2.2) 16).bind fun a=>Option.bind ((if a.1==0 then ((bh (b.1,a.2.1,a.2.2) ([0,99,100])).bind fun h=>some (h.2.1,h.2.2,h.1,c.1,f.1,g.1)) else (if a.1==1 then ((bh (b.1,a.2.1,a.2.2) ([(-1),5])).bind fun i=>some (i.2.1,i.2.2,i64.wrap (1+e.1),c.1,i.1,g.1)) else (if a.1==2 then ((bh (b.1,a.2.1,a.2.2) ([(-1),3])).bind fun j=>some (j.2.1,j.2.2,i64.wrap (1+e.1),c.1,f.1,j.1)) else (some (a.2.1,a.2.2,i64.wrap (1+e.1),c.1,f.1,g.1)))):Option (Int×Int×Int×Int×Int×Int))) (fun d=>some ((d.2.2.1,d.2.2.2.1,d.2.2.2.2.1,d.2.2.2.2.2),d.1,d.2.1))
def iI (i:(List Int)×Int×Int) (a:Int×Int×Int×(List Int)×(List Yq1)×List MN):Option (Out ((List MN)×Int×Int) (Int×Int×Int×(List Int)×(List Yq1)×List MN)):=
 if decide (a.1>0) then (Option.bind (((qy (i.1,a.2.1,a.2.2.1) (a.2.2.2.1,a.2.2.2.2.1)).bind fun h=>if decide ((a.2.2.2.2.1.length:Int)>0) then ((cn (i.1,h.2.1,h.2.2) 2).bind fun j=>Option.bind ((if j.1 then ((aK (i.1,j.2.1,j.2.2) (a.2.2.2.2.1.length:Int)).bind fun y=>(aP a.2.2.2.2.1 y.1).bind fun x=>some (y.2.1,y.2.2,false,x.1,x.2.1,x.2.2.1,x.2.2.2)) else (some (j.2.1,j.2.2,true,h.1.1,h.1.2.1,h.1.2.2.1,h.1.2.2.2)):Option (Int×Int×Bool×Int×Int×Int×Int))) (fun b=>if decide ((a.2.2.2.2.2.length:Int)>0) then ((cn (i.1,b.1,b.2.1) 4).bind fun k=>Option.bind ((if k.1 then ((aP a.2.2.2.2.2 (i64.wrap ((a.2.2.2.2.2.length:Int) - 1))).bind fun l=>some (cond.match_1 (fun (H:Bool)=>Bool) l.1 (fun (I:Unit)=>false) (fun (J:Unit)=>true),l.2.1,l.2.2.1,l.2.2.2.1,l.2.2.2.2)) else (some (b.2.2.1,b.2.2.2.1,b.2.2.2.2.1,b.2.2.2.2.2.1,b.2.2.2.2.2.2)):Option MN)) (fun d=>(eN (a.2.2.2.1,a.2.2.2.2.1) ([(d.1,d.2.1,d.2.2.1,d.2.2.2.1,d.2.2.2.2)])).bind fun m=>if m.2 then ((bM 40 a.2.2.2.2.2 ([(d.1,d.2.1,d.2.2.1,d.2.2.2.1,d.2.2.2.2)])).bind fun z=>some (k.2.1,k.2.2,m.1.1,m.1.2,z)) else ((cn (i.1,k.2.1,k.2.2) 12).bind fun n=>if n.1 then ((bM 40 a.2.2.2.2.2 ([(d.1,d.2.1,d.2.2.1,d.2.2.2.1,d.2.2.2.2)])).bind fun A=>some (n.2.1,n.2.2,m.1.1,m.1.2,A)) else (some (n.2.1,n.2.2,a.2.2.2.1,a.2.2.2.2.1,a.2.2.2.2.2))))) else (Option.bind ((some (b.2.2.1,b.2.2.2.1,b.2.2.2.2.1,b.2.2.2.2.2.1,b.2.2.2.2.2.2):Option MN)) (fun e=>(eN (a.2.2.2.1,a.2.2.2.2.1) ([(e.1,e.2.1,e.2.2.1,e.2.2.2.1,e.2.2.2.2)])).bind fun o=>if o.2 then ((bM 40 a.2.2.2.2.2 ([(e.1,e.2.1,e.2.2.1,e.2.2.2.1,e.2.2.2.2)])).bind fun B=>some (b.1,b.2.1,o.1.1,o.1.2,B)) else ((cn (i.1,b.1,b.2.1) 12).bind fun p=>if p.1 then ((bM 40 a.2.2.2.2.2 ([(e.1,e.2.1,e.2.2.1,e.2.2.2.1,e.2.2.2.2)])).bind fun C=>some (p.2.1,p.2.2,o.1.1,o.1.2,C)) else (some (p.2.1,p.2.2,a.2.2.2.1,a.2.2.2.2.1,a.2.2.2.2.2))))))) else (Option.bind ((some (h.2.1,h.2.2,true,h.1.1,h.1.2.1,h.1.2.2.1,h.1.2.2.2):Option (Int×Int×Bool×Int×Int×Int×Int))) (fun c=>if decide ((a.2.2.2.2.2.length:Int)>0) then ((cn (i.1,c.1,c.2.1) 4).bind fun q=>Option.bind ((if q.1 then ((aP a.2.2.2.2.2 (i64.wrap ((a.2.2.2.2.2.length:Int) - 1))).bind fun r=>some (cond.match_1 (fun (K:Bool)=>Bool) r.1 (fun (L:Unit)=>false) (fun (M:Unit)=>true),r.2.1,r.2.2.1,r.2.2.2.1,r.2.2.2.2)) else (some (c.2.2.1,c.2.2.2.1,c.2.2.2.2.1,c.2.2.2.2.2.1,c.2.2.2.2.2.2)):Option MN)) (fun f=>(eN (a.2.2.2.1,a.2.2.2.2.1) ([(f.1,f.2.1,f.2.2.1,f.2.2.2.1,f.2.2.2.2)])).bind fun s=>if s.2 then ((bM 40 a.2.2.2.2.2 ([(f.1,f.2.1,f.2.2.1,f.2.2.2.1,f.2.2.2.2)])).bind fun D=>some (q.2.1,q.2.2,s.1.1,s.1.2,D)) else ((cn (i.1,q.2.1,q.2.2) 12).bind fun t=>if t.1 then ((bM 40 a.2.2.2.2.2 ([(f.1,f.2.1,f.2.2.1,f.2.2.2.1,f.2.2.2.2)])).bind fun E=>some (t.2.1,t.2.2,s.1.1,s.1.2,E)) else (some (t.2.1,t.2.2,a.2.2.2.1,a.2.2.2.2.1,a.2.2.2.2.2))))) else (Option.bind ((some (c.2.2.1,c.2.2.2.1,c.2.2.2.2.1,c.2.2.2.2.2.1,c.2.2.2.2.2.2):Option MN)) (fun g=>(eN (a.2.2.2.1,a.2.2.2.2.1) ([(g.1,g.2.1,g.2.2.1,g.2.2.2.1,g.2.2.2.2)])).bind fun u=>if u.2 then ((bM 40 a.2.2.2.2.2 ([(g.1,g.2.1,g.2.2.1,g.2.2.2.1,g.2.2.2.2)])).bind fun F=>some (c.1,c.2.1,u.1.1,u.1.2,F)) else ((cn (i.1,c.1,c.2.1) 12).bind fun v=>if v.1 then ((bM 40 a.2.2.2.2.2 ([(g.1,g.2.1,g.2.2.1,g.2.2.2.1,g.2.2.2.2)])).bind fun G=>some (v.2.1,v.2.2,u.1.1,u.1.2,G)) else (some (v.2.1,v.2.2,a.2.2.2.1,a.2.2.2.2.1,a.2.2.2.2.2))))))):Option (Int×Int×(List Int)×(List Yq1)×List MN))) (fun w=>some (.nxt (i64.wrap (a.1 - 1),w.1,w.2.1,w.2.2.1,w.2.2.2.1,w.2.2.2.2)))) else (some (.brk (a.1,a.2.1,a.2.2.1,a.2.2.2.1,a.2.2.2.2.1,a.2.2.2.2.2)))
def oU (a:(List Int)×Int×Int) (d:(List Int)×List Yq1) (f:Int):Option ((List MN)×Int×Int):=
 (bZ (d.1,d.2)).bind fun e=>(aK (a.1,a.2.1,a.2.2) (i64.wrap (f+1))).bind fun b=>aN (aq (iI a) aT (b.1,b.2.1,b.2.2,e.1,e.2,([] :List MN))) (fun g=>some g) (fun c=>some (c.2.2.2.2.2,c.2.1,c.2.2.1))
def fL (e:(List Int)×Int×Int) (a:Int×Int×Int×Int×List Yq8):Option (Out ((Int×List Yq8)×Int×Int) (Int×Int×Int×Int×List Yq8)):=
 if decide (a.1>0) then ((aP a.2.2.2.2 (i64.wrap ((a.2.2.2.2.length:Int) - 1))).bind fun c=>(oU (e.1,a.2.1,a.2.2.1) (c.1,c.2) 4).bind fun b=>(je (a.2.2.2.1,a.2.2.2.2) b.1).bind fun d=>some (.nxt (i64.wrap (a.1 - 1),b.2.1,b.2.2,d.1.1,d.1.2))) else (some (.brk (a.1,a.2.1,a.2.2.1,a.2.2.2.1,a.2.2.2.2)))
def lJ (a:(List Int)×Int×Int):Option ((Int×List Yq8)×Int×Int):=
 (kP (a.1,a.2.1,a.2.2)).bind fun b=>(aK (a.1,b.2.1,b.2.2) 4).bind fun d=>(j6 (b.1.1,b.1.2) (i64.wrap (1+d.1))).bind fun g=>(bh (a.1,d.2.1,d.2.2) ([3,5,10])).bind fun e=>(aK (a.1,e.2.1,e.2.2) e.1).bind fun f=>aN (aq (fL a) aT (f.1,f.2.1,f.2.2,g.1.1,g.1.2)) (fun h=>some h) (fun c=>some ((c.2.2.2.1,c.2.2.2.2),c.2.1,c.2.2.1))
def fM (b:(List Yq2)×(List Yq3)) (c:Int) (a:Int):Option (Out Int Int):=
 if decide (a<(b.2.length:Int)) then ((aP b.2 a).bind fun d=>if d.1==c then (some (.ret a)) else (some (.nxt (i64.wrap (a+1))))) else (some (.brk a))
def fS (a:(List Yq2)×(List Yq3)) (b:Int):Option Int:=
 aN (aq (fM a b) aT 0) (fun r=>some r) (fun c=>some (-1))
def nk (a:Int):Option Bool:=
 (dj a 0 8).bind fun b=>some b
def oV (a:Int×Int×Int×Int):Option Int:=
 Option.bind ((if a.1==1 then (some (a.1==1)) else (some (a.1==2)):Option Bool)) (fun b=>if b then (if a.2.1 !=0 then (some (-1)) else (if a.2.2.1 !=0 then (some (-1)) else (if a.2.2.2 !=0 then (some (-1)) else (some 0)))) else (if a.1==3 then ((nk a.2.1).bind fun c=>if c then (if a.2.2.1 !=0 then (some (-1)) else (if a.2.2.2 !=0 then (some (-1)) else (some 0))) else (some (-1))) else (Option.bind ((if a.1==4 then (some (a.1==4)) else (some (a.1==5)):Option Bool)) (fun d=>if d then (if a.2.1 !=0 then (some (-1)) else (if a.2.2.1 !=0 then (some (-1)) else (if a.2.2.2 !=0 then (some (-1)) else (some 2)))) else (if a.1==6 then (if a.2.1 !=0 then (some (-1)) else (if a.2.2.1 !=0 then (some (-1)) else (if a.2.2.2 !=0 then (some (-1)) else (some 1)))) else (if a.1==7 then (if a.2.1 !=0 then (some (-1)) else ((dj a.2.2.2 1 3).bind fun e=>if e then ((dj a.2.2.1 0 a.2.2.2).bind fun f=>if f then (some 1) else (some (-1))) else (some (-1)))) else (some (-1))))))))
def rr (d:(List Yq1)) (a:Int×Int):Option (Out Bool (Int×Int)):=
 if decide (a.2<(d.length:Int)) then ((aP d a.2).bind fun b=>(oV (b.1,b.2.1,b.2.2.1,b.2.2.2)).bind fun c=>if decide (c<0) then (some (.ret false)) else (if decide (c>a.1) then (some (.ret false)) else (some (.nxt (i64.wrap ((i64.wrap (a.1 - c))+1),i64.wrap (a.2+1)))))) else (some (.brk (a.1,a.2)))
def tU (a:(List Yq1)):Option Bool:=
 aN (aq (rr a) aT (0,0)) (fun r=>some r) (fun b=>some (b.1==1))
def jf (a:(List Yq1)):Option Bool:=
 if decide ((a.length:Int)<=24) then ((tU a).bind fun b=>some b) else (some false)
def mW (c:List Yq1) (a:Int×Int):Option MP:=
 if decide (a.1>0) then ((aP c (i64.wrap (a.2 - 1))).bind fun b=>(oV (b.1,b.2.1,b.2.2.1,b.2.2.2)).bind fun d=>some (.nxt (i64.wrap ((i64.wrap (a.1 - 1))+d),i64.wrap (a.2 - 1)))) else (some (.brk (a.1,a.2)))
def jg (a:List Yq1):Option Int:=
 aN (aq (mW a) aT (1,(a.length:Int))) (fun r=>some r) (fun b=>some b.2)
def fp:Nat->(List Yq1)->Option Int
 | 0,_=>none
 | n+1,p0l =>
  (aP p0l (i64.wrap ((p0l.length:Int) - 1))).bind fun a=>Option.bind ((if a.1==4 then (some (a.1==4)) else (some (a.1==5)):Option Bool)) (fun c=>if c then ((chk (And (0<=(i64.wrap ((p0l.length:Int) - 1))) ((i64.wrap ((p0l.length:Int) - 1))<=(p0l.length:Int)))).bind fun _=>(jg (p0l.take ((i64.wrap ((p0l.length:Int) - 1)).toNat))).bind fun b=>(chk (And (0<=b) (b<=(p0l.length:Int)))).bind fun _=>((fp n) (p0l.take b.toNat)).bind fun d=>(chk (And (0<=b) (And (b<=(i64.wrap ((p0l.length:Int) - 1))) ((i64.wrap ((p0l.length:Int) - 1))<=(p0l.length:Int))))).bind fun _=>((fp n) ((p0l.take ((i64.wrap ((p0l.length:Int) - 1)).toNat)).drop b.toNat)).bind fun e=>some (Min.min 100000 (i64.wrap ((i64.wrap (d+e))+1)))) else (if a.1==6 then ((chk (And (0<=(i64.wrap ((p0l.length:Int) - 1))) ((i64.wrap ((p0l.length:Int) - 1))<=(p0l.length:Int)))).bind fun _=>((fp n) (p0l.take ((i64.wrap ((p0l.length:Int) - 1)).toNat))).bind fun f=>some (Min.min 100000 (i64.wrap (f+1)))) else (if a.1==7 then ((chk (And (0<=(i64.wrap ((p0l.length:Int) - 1))) ((i64.wrap ((p0l.length:Int) - 1))<=(p0l.length:Int)))).bind fun _=>((fp n) (p0l.take ((i64.wrap ((p0l.length:Int) - 1)).toNat))).bind fun g=>some (Min.min 100000 (i64.wrap ((i64.wrap ((i64.wrap (g+3))*a.2.2.2))+1)))) else (some 1))))
def fN (a:List Yq1):Option (List Yq1):=
 (bM 32 ([] :List Yq1) a).bind fun b=>some b
def fj (b:(List Yq1)) (c:(List Yq1)) (a:Int×Int×Int×Int):Option (List Yq1):=
 (fN b).bind fun d=>(bM 32 d c).bind fun e=>(bM 32 e ([(a.1,a.2.1,a.2.2.1,a.2.2.2)])).bind fun f=>some f
def qz (a:Int):Option (List Yq1):=
 some ([(a,0,0,0)])
def nl:Nat->(List Yq1)->Int->Int->Option (List Yq1)
 | 0,_,_,_=>none
 | n+1,p0e,p1low,p2high =>
  if p2high==0 then ((qz 2).bind fun b=>some b) else (((nl n) p0e (Max.max 0 (i64.wrap (p1low - 1))) (i64.wrap (p2high - 1))).bind fun c=>(fj p0e c (4,0,0,0)).bind fun a=>if decide (p1low>0) then (some a) else ((qz 2).bind fun d=>(fj a d (5,0,0,0)).bind fun e=>some e))
def dx:Nat->(List Yq1)->Option (List Yq1)
 | 0,_=>none
 | n+1,p0l =>
  (aP p0l (i64.wrap ((p0l.length:Int) - 1))).bind fun a=>Option.bind ((if a.1==4 then (some (a.1==4)) else (some (a.1==5)):Option Bool)) (fun c=>if c then ((chk (And (0<=(i64.wrap ((p0l.length:Int) - 1))) ((i64.wrap ((p0l.length:Int) - 1))<=(p0l.length:Int)))).bind fun _=>(jg (p0l.take ((i64.wrap ((p0l.length:Int) - 1)).toNat))).bind fun b=>(chk (And (0<=b) (b<=(p0l.length:Int)))).bind fun _=>((dx n) (p0l.take b.toNat)).bind fun d=>(chk (And (0<=b) (And (b<=(i64.wrap ((p0l.length:Int) - 1))) ((i64.wrap ((p0l.length:Int) - 1))<=(p0l.length:Int))))).bind fun _=>((dx n) ((p0l.take ((i64.wrap ((p0l.length:Int) - 1)).toNat)).drop b.toNat)).bind fun e=>(fj d e (a.1,a.2.1,a.2.2.1,a.2.2.2)).bind fun f=>some f) else (if a.1==6 then ((chk (And (0<=(i64.wrap ((p0l.length:Int) - 1))) ((i64.wrap ((p0l.length:Int) - 1))<=(p0l.length:Int)))).bind fun _=>((dx n) (p0l.take ((i64.wrap ((p0l.length:Int) - 1)).toNat))).bind fun g=>(fj g ([] :List Yq1) (a.1,a.2.1,a.2.2.1,a.2.2.2)).bind fun h=>some h) else (if a.1==7 then ((chk (And (0<=(i64.wrap ((p0l.length:Int) - 1))) ((i64.wrap ((p0l.length:Int) - 1))<=(p0l.length:Int)))).bind fun _=>((dx n) (p0l.take ((i64.wrap ((p0l.length:Int) - 1)).toNat))).bind fun i=>(nl fH i a.2.2.1 a.2.2.2).bind fun j=>some j) else (some ([(a.1,a.2.1,a.2.2.1,a.2.2.2)])))))
def iJ (a:(List Yq1)):Option (((List Yq1))×Bool):=
 (jf a).bind fun c=>if c then ((fp fH a).bind fun d=>if decide (d>5000) then (some ([],false)) else ((dx fH a).bind fun b=>if decide ((b.length:Int)>400) then (some ([],false)) else (some (b,true)))) else (some ([],false))
def j7 (b:Int) (c:Int) (a:Int×List Int):Option (Out Yq9 (Int×List Int)):=
 if decide (a.1<(a.2.length:Int)) then (Option.bind (((chk (0<=a.1)).bind fun _=>if (qp (n9 b a.1) 1)==1 then ((aP a.2 a.1).bind fun d=>(aP a.2 a.1).bind fun f=>some (a.2.set a.1.toNat (orI d c))) else (some a.2):Option (List Int))) (fun e=>some (.nxt (i64.wrap (a.1+1),e)))) else (some (.brk (a.1,a.2)))
def oW (a:(List Int)×Int×Int×(List Int)×Bool) (b:Int) (c:Int):Option Yq9:=
 aN (aq (j7 b c) aT (0,a.2.2.2.1)) (fun d=>some d) (fun e=>some (a.1,a.2.1,a.2.2.1,e.2,a.2.2.2.2))
def cz:Nat->Yq9->(List Yq1)->Option ((Bool×Int×Int)×(List Int)×Int×Int×(List Int)×Bool)
 | 0,_,_=>none
 | n+1,p0,p1 =>
  (aP p1 (i64.wrap ((p1.length:Int) - 1))).bind fun g=>if g.1==2 then (some ((true,0,0),p0.1,p0.2.1,p0.2.2.1,p0.2.2.2.1,p0.2.2.2.2)) else (if g.1==3 then ((bM 8 p0.1 ([g.2.1])).bind fun p=>(bM 8 p0.2.2.2.1 ([0])).bind fun q=>some ((false,vZ 1 (p0.1.length:Int),vZ 1 (p0.1.length:Int)),p,p0.2.1,p0.2.2.1,q,p0.2.2.2.2)) else (if g.1==4 then ((chk (And (0<=(i64.wrap ((p1.length:Int) - 1))) ((i64.wrap ((p1.length:Int) - 1))<=(p1.length:Int)))).bind fun _=>(jg (p1.take ((i64.wrap ((p1.length:Int) - 1)).toNat))).bind fun h=>(chk (And (0<=h) (h<=(p1.length:Int)))).bind fun _=>((cz n) (p0.1,p0.2.1,p0.2.2.1,p0.2.2.2.1,p0.2.2.2.2) (p1.take h.toNat)).bind fun b=>(chk (And (0<=h) (And (h<=(i64.wrap ((p1.length:Int) - 1))) ((i64.wrap ((p1.length:Int) - 1))<=(p1.length:Int))))).bind fun _=>((cz n) (b.2.1,b.2.2.1,b.2.2.2.1,b.2.2.2.2.1,b.2.2.2.2.2) ((p1.take ((i64.wrap ((p1.length:Int) - 1)).toNat)).drop h.toNat)).bind fun a=>(oW (a.2.1,a.2.2.1,a.2.2.2.1,a.2.2.2.2.1,a.2.2.2.2.2) b.1.2.2 a.1.2.1).bind fun d=>if b.1.1 then (Option.bind ((if b.1.1 then (some (a.1.1,orI b.1.2.1 a.1.2.1,a.1.2.2)) else (some (a.1.1,b.1.2.1,a.1.2.2)):Option (Bool×Int×Int))) (fun j=>Option.bind ((if a.1.1 then (some (j.1,j.2.1,orI b.1.2.2 a.1.2.2)) else (some (j.1,j.2.1,j.2.2)):Option (Bool×Int×Int))) (fun m=>some ((m.1,m.2.1,m.2.2),d.1,d.2.1,d.2.2.1,d.2.2.2.1,d.2.2.2.2)))) else (Option.bind ((if b.1.1 then (some (false,orI b.1.2.1 a.1.2.1,a.1.2.2)) else (some (false,b.1.2.1,a.1.2.2)):Option (Bool×Int×Int))) (fun k=>Option.bind ((if a.1.1 then (some (k.1,k.2.1,orI b.1.2.2 a.1.2.2)) else (some (k.1,k.2.1,k.2.2)):Option (Bool×Int×Int))) (fun o=>some ((o.1,o.2.1,o.2.2),d.1,d.2.1,d.2.2.1,d.2.2.2.1,d.2.2.2.2))))) else (if g.1==5 then ((chk (And (0<=(i64.wrap ((p1.length:Int) - 1))) ((i64.wrap ((p1.length:Int) - 1))<=(p1.length:Int)))).bind fun _=>(jg (p1.take ((i64.wrap ((p1.length:Int) - 1)).toNat))).bind fun i=>(chk (And (0<=i) (i<=(p1.length:Int)))).bind fun _=>((cz n) (p0.1,p0.2.1,p0.2.2.1,p0.2.2.2.1,p0.2.2.2.2) (p1.take i.toNat)).bind fun e=>(chk (And (0<=i) (And (i<=(i64.wrap ((p1.length:Int) - 1))) ((i64.wrap ((p1.length:Int) - 1))<=(p1.length:Int))))).bind fun _=>((cz n) (e.2.1,e.2.2.1,e.2.2.2.1,e.2.2.2.2.1,e.2.2.2.2.2) ((p1.take ((i64.wrap ((p1.length:Int) - 1)).toNat)).drop i.toNat)).bind fun c=>if e.1.1 then (some ((true,orI e.1.2.1 c.1.2.1,orI e.1.2.2 c.1.2.2),c.2.1,c.2.2.1,c.2.2.2.1,c.2.2.2.2.1,c.2.2.2.2.2)) else (some ((c.1.1,orI e.1.2.1 c.1.2.1,orI e.1.2.2 c.1.2.2),c.2.1,c.2.2.1,c.2.2.2.1,c.2.2.2.2.1,c.2.2.2.2.2))) else (if g.1==6 then ((chk (And (0<=(i64.wrap ((p1.length:Int) - 1))) ((i64.wrap ((p1.length:Int) - 1))<=(p1.length:Int)))).bind fun _=>((cz n) (p0.1,p0.2.1,p0.2.2.1,p0.2.2.2.1,p0.2.2.2.2) (p1.take ((i64.wrap ((p1.length:Int) - 1)).toNat))).bind fun f=>(oW (f.2.1,f.2.2.1,f.2.2.2.1,f.2.2.2.2.1,f.2.2.2.2.2) f.1.2.2 f.1.2.1).bind fun l=>some ((true,f.1.2.1,f.1.2.2),l.1,l.2.1,l.2.2.1,l.2.2.2.1,l.2.2.2.2)) else (some ((false,0,0),p0.1,p0.2.1,p0.2.2.1,p0.2.2.2.1,p0.2.2.2.2))))))
def ep (b:(List Yq1)×Bool) (a:Int×Int):Option (Out (Yq9×Bool) (Int×Int)):=
 if decide (a.2<(b.1.length:Int)) then (Option.bind (((aP b.1 a.2).bind fun c=>if c.1==3 then (some (i64.wrap (a.1+1))) else (some a.1):Option Int)) (fun d=>some (.nxt (d,i64.wrap (a.2+1))))) else (some (.brk (a.1,a.2)))
def dy (c:List Yq1):Option (Yq9×Bool):=
 (iJ c).bind fun b=>if b.2 then (aN (aq (ep b) aT (0,0)) (fun d=>some d) (fun e=>if decide (e.1>20) then (some ((([] :List Int),0,0,([] :List Int),false),false)) else ((cz fH (([] :List Int),0,0,([] :List Int),false) b.1).bind fun a=>some ((a.2.1,a.1.2.1,a.1.2.2,a.2.2.2.2.1,a.1.1),true)))) else (some ((([] :List Int),0,0,([] :List Int),false),false))
def jh (b:(List Int)×Int×Int×(List Int)×Bool) (c:Int) (a:Int×Int):Option MP:=
 if decide (a.2<(b.1.length:Int)) then (Option.bind (((chk (0<=i64.wrap (a.2+1))).bind fun _=>if (qp (n9 c (i64.wrap (a.2+1))) 1)==1 then ((aP b.2.2.2.1 a.2).bind fun d=>some (orI a.1 d)) else (some a.1):Option Int)) (fun e=>some (.nxt (e,i64.wrap (a.2+1))))) else (some (.brk (a.1,a.2)))
def ji (b:(List Int)×Int×Int×(List Int)×Bool) (c:Int) (d:Int×Int) (a:Int×Int):Option MP:=
 if decide (a.2<(b.1.length:Int)) then (Option.bind (((chk (0<=a.2)).bind fun _=>if (qp (n9 d.1 a.2) 1)==1 then ((aP b.1 a.2).bind fun e=>if e==c then ((chk (0<=i64.wrap (a.2+1))).bind fun _=>some (orI a.1 (vZ 1 (i64.wrap (a.2+1))))) else (some a.1)) else (some a.1):Option Int)) (fun f=>some (.nxt (f,i64.wrap (a.2+1))))) else (some (.brk (a.1,a.2)))
def pK (a:(List Int)×Int×Int×(List Int)×Bool) (b:Int) (c:Int):Option Int:=
 Option.bind ((if (qp b 1)==1 then (some a.2.1) else (some 0):Option Int)) (fun d=>aN (aq (jh a b) aT (d,0)) (fun r=>some r) (fun e=>aN (aq (ji a c e) aT (0,0)) (fun r=>some r) (fun f=>some f.1)))
def qe (b:List Int) (c:Int) (a:Int):Option (Out Int Int):=
 if decide (a<(b.length:Int)) then ((aP b a).bind fun d=>if d==c then (some (.ret a)) else (some (.nxt (i64.wrap (a+1))))) else (some (.brk a))
def oX (a:List Int) (b:Int):Option Int:=
 aN (aq (qe a b) aT 0) (fun r=>some r) (fun c=>some (-1))
def mX (a:(List Int)×Int×Int×(List Int)×Bool) (b:Int):Option Bool:=
 if (qp b 1)==1 then (if a.2.2.2.2 then (some true) else (some ((qp (n9 b 1) a.2.2.1) !=0))) else (some ((qp (n9 b 1) a.2.2.1) !=0))
def jM (b:(List Int)×Int×Int×(List Int)×Bool) (f:(List Int)×Int×Int×(List Bool)×(List (List Int))) (a:(List Int)×(List Int)×Int):Option (Out (Yq2×Bool) ((List Int)×(List Int)×Int)):=
 if decide (a.2.2<9) then ((aP a.1 f.2.1).bind fun g=>(pK (b.1,b.2.1,b.2.2.1,b.2.2.2.1,b.2.2.2.2) g a.2.2).bind fun c=>Option.bind ((if c !=0 then ((oX a.1 c).bind fun d=>if decide (d<0) then ((bM 8 a.1 ([c])).bind fun h=>some (h,(a.1.length:Int))) else (some (a.1,d))) else (some (a.1,-1)):Option ((List Int)×Int))) (fun e=>(bM 8 a.2.1 ([e.2])).bind fun i=>some (.nxt (e.1,i,i64.wrap (a.2.2+1))))) else (some (.brk (a.1,a.2.1,a.2.2)))
def gE (b:(List Int)×Int×Int×(List Int)×Bool) (d:Int) (a:(List Int)×Int×Int×(List Bool)×(List (List Int))):Option (Out (Yq2×Bool) ((List Int)×Int×Int×(List Bool)×(List (List Int)))):=
 if decide (a.2.1<(a.1.length:Int)) then (aN (aq (jM b a) aT (a.1,([] :List Int),0)) (fun r=>some (.ret r)) (fun c=>if decide ((c.1.length:Int)>d) then (some (.ret ((0,[],[]),false))) else ((aP c.1 a.2.1).bind fun e=>(mX (b.1,b.2.1,b.2.2.1,b.2.2.2.1,b.2.2.2.2) e).bind fun f=>(bM 1 a.2.2.2.1 ([f])).bind fun g=>(bM 24 a.2.2.2.2 ([c.2.1])).bind fun h=>some (.nxt (c.1,i64.wrap (a.2.1+1),a.2.2.1,g,h))))) else (some (.brk (a.1,a.2.1,a.2.2.1,a.2.2.2.1,a.2.2.2.2)))
def fc (b:(List Int)×Int×Int×(List Int)×Bool) (c:Int):Option (Yq2×Bool):=
 aN (aq (gE b c) aT ([1],0,0,[],[])) (fun r=>some r) (fun a=>some ((a.2.2.1,a.2.2.2.1,a.2.2.2.2),true))
def ya (a:(List Int)×Int):Option (Out Yq2 ((List Int)×Int)):=
 if decide (a.2<9) then ((bM 8 a.1 ([-1])).bind fun b=>some (.nxt (b,i64.wrap (a.2+1)))) else (some (.brk (a.1,a.2)))
def qf:Option Yq2:=
 aN (aq (ya) aT (([] :List Int),0)) (fun r=>some r) (fun a=>some (0,[false],[a.1]))
def iC (f:Int×(List Bool)×(List (List Int))) (d:List Int) (g:List Bool) (h:(List Int)×(List Int)×Int×Int×(List Bool)×(List (List Int))) (a:(List Int)×(List Int)×(List Int)×Int):Option (Out Yq2 ((List Int)×(List Int)×(List Int)×Int)):=
 if decide (a.2.2.2<9) then ((aP a.2.1 h.2.2.1).bind fun i=>(aP f.2.2 i).bind fun j=>(aP j a.2.2.2).bind fun b=>Option.bind ((if decide (b≥0) then ((aP g b).bind fun k=>if k then ((aP d b).bind fun l=>(oX a.1 l).bind fun e=>if decide (e<0) then ((aP d b).bind fun m=>(bM 8 a.1 ([m])).bind fun n=>(bM 8 a.2.1 ([b])).bind fun o=>some (n,o,(a.1.length:Int))) else (some (a.1,a.2.1,e))) else (some (a.1,a.2.1,-1))) else (some (a.1,a.2.1,-1)):Option ((List Int)×(List Int)×Int))) (fun c=>(bM 8 a.2.2.1 ([c.2.2])).bind fun p=>some (.nxt (c.1,c.2.1,p,i64.wrap (a.2.2.2+1))))) else (some (.brk (a.1,a.2.1,a.2.2.1,a.2.2.2)))
def kD (c:Int×(List Bool)×(List (List Int))) (d:List Int) (e:List Bool) (a:(List Int)×(List Int)×Int×Int×(List Bool)×(List (List Int))):Option (Out Yq2 ((List Int)×(List Int)×Int×Int×(List Bool)×(List (List Int)))):=
 if decide (a.2.2.1<(a.1.length:Int)) then (aN (aq (iC c d e a) aT (a.1,a.2.1,([] :List Int),0)) (fun r=>some (.ret r)) (fun b=>(aP b.2.1 a.2.2.1).bind fun f=>(aP c.2.1 f).bind fun g=>(bM 1 a.2.2.2.2.1 ([g])).bind fun h=>(bM 24 a.2.2.2.2.2 ([b.2.2.1])).bind fun i=>some (.nxt (b.1,b.2.1,i64.wrap (a.2.2.1+1),a.2.2.2.1,h,i)))) else (some (.brk (a.1,a.2.1,a.2.2.1,a.2.2.2.1,a.2.2.2.2.1,a.2.2.2.2.2)))
def jN (a:Int×(List Bool)×(List (List Int))) (d:List Int) (e:List Bool):Option Yq2:=
 (aP e a.1).bind fun f=>if f then ((aP d a.1).bind fun g=>aN (aq (kD a d e) aT ([g],[a.1],0,0,[],[])) (fun r=>some r) (fun b=>some (b.2.2.2.1,b.2.2.2.2.1,b.2.2.2.2.2))) else ((qf).bind fun c=>some (c.1,c.2.1,c.2.2))
def mY (c:Int×(List Bool)×(List (List Int))) (b:(List Bool)×Int) (a:(List Bool)×Int):Option (Out (List Bool) ((List Bool)×Int)):=
 if decide (a.2<9) then (Option.bind (((aP c.2.2 b.2).bind fun d=>(aP d a.2).bind fun e=>if decide (e≥0) then ((aP c.2.2 b.2).bind fun f=>(aP f a.2).bind fun g=>(aP a.1 g).bind fun h=>if h then ((aP a.1 b.2).bind fun j=>some (a.1.set b.2.toNat true)) else (some a.1)) else (some a.1):Option (List Bool))) (fun i=>some (.nxt (i,i64.wrap (a.2+1))))) else (some (.brk (a.1,a.2)))
def j8 (b:Int×(List Bool)×(List (List Int))) (a:(List Bool)×Int):Option (Out (List Bool) ((List Bool)×Int)):=
 if decide (a.2<(b.2.1.length:Int)) then (aN (aq (mY b a) aT (a.1,0)) (fun r=>some (.ret r)) (fun c=>some (.nxt (c.1,i64.wrap (a.2+1))))) else (some (.brk (a.1,a.2)))
def mZ (b:Int×(List Bool)×(List (List Int))) (a:(List Bool)×Int):Option (Out (List Bool) ((List Bool)×Int)):=
 if decide (a.2<(b.2.1.length:Int)) then (aN (aq (j8 b) aT (a.1,0)) (fun r=>some (.ret r)) (fun c=>some (.nxt (c.1,i64.wrap (a.2+1))))) else (some (.brk (a.1,a.2)))
def mC (a:Int×(List Bool)×(List (List Int))):Option (List Bool):=
 (bM 1 ([] :List Bool) a.2.1).bind fun b=>aN (aq (mZ a) aT (b,0)) (fun r=>some r) (fun c=>some c.1)
def od (c:Int×(List Bool)×(List (List Int))) (d:List Int) (e:Int) (a:(List Int)×Int):Option QR:=
 if decide (a.2<9) then (Option.bind (((aP c.2.2 e).bind fun f=>(aP f a.2).bind fun b=>if decide (b<0) then ((bM 8 a.1 ([-1])).bind fun g=>some g) else ((aP d b).bind fun h=>(bM 8 a.1 ([h])).bind fun i=>some i):Option (List Int))) (fun j=>some (.nxt (j,i64.wrap (a.2+1))))) else (some (.brk (a.1,a.2)))
def qA (c:Int×(List Bool)×(List (List Int))) (a:List Int) (b:Int):Option (List Int):=
 (aP a b).bind fun d=>aN (aq (od c a b) aT ([d],0)) (fun r=>some r) (fun e=>some e.1)
def gF (b:Int×(List Bool)×List (List Int)) (c:List Bool) (a:(List Int)×Int):Option QR:=
 if decide (a.2<(b.2.1.length:Int)) then ((aP b.2.1 a.2).bind fun d=>Option.bind ((if d then (some 1) else (some 0):Option Int)) (fun e=>(aP c a.2).bind fun f=>Option.bind ((if f then (some e) else (some (-1)):Option Int)) (fun g=>(bM 8 a.1 ([g])).bind fun h=>some (.nxt (h,i64.wrap (a.2+1)))))) else (some (.brk (a.1,a.2)))
def gG (b:(List (List Int))×(List Int)×Int) (c:List Int) (a:Int×Int):Option (Out (List Int) (Int×Int)):=
 if decide (a.2<(b.1.length:Int)) then (Option.bind (((aP b.1 a.2).bind fun d=>(oT d c).bind fun e=>if e==0 then (some a.2) else (some a.1):Option Int)) (fun f=>some (.nxt (f,i64.wrap (a.2+1))))) else (some (.brk (a.1,a.2)))
def gH (b:Int×(List Bool)×List (List Int)) (c:(List Int)×Int) (a:(List (List Int))×(List Int)×Int):Option (Out (List Int) ((List (List Int))×(List Int)×Int)):=
 if decide (a.2.2<(b.2.1.length:Int)) then (Option.bind (((aP c.1 a.2.2).bind fun h=>if decide (h<0) then ((bM 8 a.2.1 ([(-1)])).bind fun i=>some (a.1,i)) else ((qA (b.1,b.2.1,b.2.2) c.1 a.2.2).bind fun d=>aN (aq (gG a d) aT ((-1),0)) (fun l=>none) (fun e=>Option.bind ((if decide (e.1<0) then ((bM 24 a.1 ([d])).bind fun j=>some (j,(a.1.length:Int))) else (some (a.1,e.1)):Option ((List (List Int))×Int))) (fun f=>(bM 8 a.2.1 ([f.2])).bind fun k=>some (f.1,k)))):Option ((List (List Int))×List Int))) (fun g=>some (.nxt (g.1,g.2,i64.wrap (a.2.2+1))))) else (some (.brk (a.1,a.2.1,a.2.2)))
def mD (b:Int×(List Bool)×List (List Int)) (a:(List Int)×Int):Option QR:=
 if decide (a.2<=(b.2.1.length:Int)) then (aN (aq (gH b a) aT (([] :List (List Int)),([] :List Int),0)) (fun d=>some (.ret d)) (fun c=>(oT c.2.1 a.1).bind fun e=>if e==0 then (some (.ret a.1)) else (some (.nxt (c.2.1,i64.wrap (a.2+1)))))) else (some (.brk (a.1,a.2)))
def j9 (a:Int×(List Bool)×List (List Int)):Option (List Int):=
 (mC (a.1,a.2.1,a.2.2)).bind fun b=>aN (aq (gF a b) aT (([] :List Int),0)) (fun c=>some c) (fun d=>aN (aq (mD a) aT (d.1,0)) (fun e=>some e) (fun f=>some f.1))
def gI (a:Int×(List Bool)×(List (List Int))):Option Yq2:=
 (j9 (a.1,a.2.1,a.2.2)).bind fun c=>(mC (a.1,a.2.1,a.2.2)).bind fun d=>(jN (a.1,a.2.1,a.2.2) c d).bind fun b=>some (b.1,b.2.1,b.2.2)
def m_s_CompileExpr (d:(List Yq1)):Option (Yq2×Bool):=
 (dy d).bind fun a=>if a.2 then ((fc (a.1.1,a.1.2.1,a.1.2.2.1,a.1.2.2.2.1,a.1.2.2.2.2) 200).bind fun b=>if b.2 then ((gI (b.1.1,b.1.2.1,b.1.2.2)).bind fun c=>if decide ((c.2.1.length:Int)>12) then (some ((0,[],[]),false)) else (some ((c.1,c.2.1,c.2.2),true))) else (some ((0,[],[]),false))) else (some ((0,[],[]),false))
def gz (b:Int×(List Bool)×(List (List Int))) (c:Int×(List Bool)×(List (List Int))) (a:Int):Option (Out Bool Int):=
 if decide (a<(b.2.1.length:Int)) then ((aP b.2.1 a).bind fun d=>(aP c.2.1 a).bind fun e=>if d !=e then (some (.ret false)) else (some (.nxt (i64.wrap (a+1))))) else (some (.brk a))
def gA (b:Int×(List Bool)×(List (List Int))) (c:Int×(List Bool)×(List (List Int))) (a:Int):Option (Out Bool Int):=
 if decide (a<(b.2.2.length:Int)) then ((aP b.2.2 a).bind fun d=>(aP c.2.2 a).bind fun e=>(oT d e).bind fun f=>if f !=0 then (some (.ret false)) else (some (.nxt (i64.wrap (a+1))))) else (some (.brk a))
def gJ (a:Int×(List Bool)×(List (List Int))) (b:Int×(List Bool)×(List (List Int))):Option Bool:=
 if a.1 !=b.1 then (some false) else (if (a.2.1.length:Int) !=(b.2.1.length:Int) then (some false) else (if (a.2.2.length:Int) !=(b.2.2.length:Int) then (some false) else (aN (aq (gz a b) aT 0) (fun r=>some r) (fun c=>aN (aq (gA a b) aT 0) (fun r=>some r) (fun d=>some true)))))
def eu (d:List Yq2) (b:Int×(List Bool)×(List (List Int))) (a:Int):Option (Out Int Int):=
 if decide (a<(d.length:Int)) then ((aP d a).bind fun c=>(gJ (c.1,c.2.1,c.2.2) (b.1,b.2.1,b.2.2)).bind fun e=>if e then (some (.ret a)) else (some (.nxt (i64.wrap (a+1))))) else (some (.brk a))
def fT (a:List Yq2) (b:Int×(List Bool)×(List (List Int))):Option Int:=
 aN (aq (eu a b) aT 0) (fun r=>some r) (fun c=>some (-1))
def br (c:List Yq3) (a:Int×(List Yq2)×(List Yq3)):Option (Out (SP×Bool) UB):=
 if decide (a.1<(c.length:Int)) then ((aP c a.1).bind fun h=>(m_s_CompileExpr h.2.1).bind fun b=>if b.2 then ((aP c a.1).bind fun i=>(dj i.1 1 99).bind fun j=>if j then (if decide (a.1>0) then ((aP c (i64.wrap (a.1 - 1))).bind fun k=>(aP c a.1).bind fun l=>if decide (k.1≥l.1) then (some (.ret (([],[]),false))) else ((fT a.2.1 (b.1.1,b.1.2.1,b.1.2.2)).bind fun f=>Option.bind ((if decide (f<0) then ((bM 56 a.2.1 ([(b.1.1,b.1.2.1,b.1.2.2)])).bind fun m=>some ((a.2.1.length:Int),m,a.2.2)) else (some (f,a.2.1,a.2.2)):Option UB)) (fun d=>(aP c a.1).bind fun n=>(aP c a.1).bind fun o=>(fN o.2.1).bind fun p=>(bM 40 d.2.2 ([(n.1,p,d.1)])).bind fun q=>some (.nxt (i64.wrap (a.1+1),d.2.1,q))))) else ((fT a.2.1 (b.1.1,b.1.2.1,b.1.2.2)).bind fun g=>Option.bind ((if decide (g<0) then ((bM 56 a.2.1 ([(b.1.1,b.1.2.1,b.1.2.2)])).bind fun r=>some ((a.2.1.length:Int),r,a.2.2)) else (some (g,a.2.1,a.2.2)):Option UB)) (fun e=>(aP c a.1).bind fun s=>(aP c a.1).bind fun t=>(fN t.2.1).bind fun u=>(bM 40 e.2.2 ([(s.1,u,e.1)])).bind fun v=>some (.nxt (i64.wrap (a.1+1),e.2.1,v))))) else (some (.ret (([],[]),false)))) else (some (.ret (([],[]),false)))) else (some (.brk (a.1,a.2.1,a.2.2)))
def cA (a:List Yq3):Option (SP×Bool):=
 if decide ((a.length:Int)>4) then (some (([],[]),false)) else (aN (aq (br a) aT (0,[],[])) (fun r=>some r) (fun b=>some ((b.2.1,b.2.2),true)))
def jO (d:(List Yq1)) (e:(List Yq1)) (a:Int):Option (Out Bool Int):=
 if decide (a<(d.length:Int)) then ((aP d a).bind fun b=>(aP e a).bind fun c=>if (b.1==c.1)&&((b.2.1==c.2.1)&&((b.2.2.1==c.2.2.1)&&((b.2.2.2==c.2.2.2)&&true))) then (some (.nxt (i64.wrap (a+1)))) else (some (.ret false))) else (some (.brk a))
def qg (a:(List Yq1)) (b:(List Yq1)):Option Bool:=
 if (a.length:Int) !=(b.length:Int) then (some false) else (aN (aq (jO a b) aT 0) (fun r=>some r) (fun c=>some true))
def fD (d:(List Yq2)×(List Yq3)) (e:(List Yq2)×(List Yq3)) (a:Int):Option (Out Bool Int):=
 if decide (a<(d.1.length:Int)) then ((aP d.1 a).bind fun b=>(aP e.1 a).bind fun c=>(gJ (b.1,b.2.1,b.2.2) (c.1,c.2.1,c.2.2)).bind fun f=>if f then (some (.nxt (i64.wrap (a+1)))) else (some (.ret false))) else (some (.brk a))
def fE (b:(List Yq2)×(List Yq3)) (c:(List Yq2)×(List Yq3)) (a:Int):Option (Out Bool Int):=
 if decide (a<(b.2.length:Int)) then ((aP b.2 a).bind fun d=>(aP c.2 a).bind fun e=>if d.1 !=e.1 then (some (.ret false)) else ((aP b.2 a).bind fun f=>(aP c.2 a).bind fun g=>(qg f.2.1 g.2.1).bind fun h=>if h then ((aP b.2 a).bind fun i=>(aP c.2 a).bind fun j=>if i.2.2 !=j.2.2 then (some (.ret false)) else (some (.nxt (i64.wrap (a+1))))) else (some (.ret false)))) else (some (.brk a))
def il (a:(List Yq2)×(List Yq3)) (b:(List Yq2)×(List Yq3)):Option Bool:=
 if (a.1.length:Int) !=(b.1.length:Int) then (some false) else (if (a.2.length:Int) !=(b.2.length:Int) then (some false) else (aN (aq (fD a b) aT 0) (fun r=>some r) (fun c=>aN (aq (fE a b) aT 0) (fun r=>some r) (fun d=>some true))))
def bI (a:(List Yq2)×(List Yq3)):Option Bool:=
 (cA a.2).bind fun b=>if b.2 then ((il (b.1.1,b.1.2) (a.1,a.2)).bind fun c=>some c) else (some false)
def ke (b:Int×(List Bool)×(List (List Int))) (a:Int×Int×(List Bool)×(List (List Int))):Option (Out Yq2 (Int×Int×(List Bool)×(List (List Int)))):=
 if decide (a.1<(b.2.2.length:Int)) then ((aP b.2.2 a.1).bind fun c=>(bM 8 ([] :List Int) c).bind fun d=>(bM 24 a.2.2.2 ([d])).bind fun e=>some (.nxt (i64.wrap (a.1+1),a.2.1,a.2.2.1,e))) else (some (.brk (a.1,a.2.1,a.2.2.1,a.2.2.2)))
def oY (a:Int×(List Bool)×(List (List Int))):Option Yq2:=
 (bM 1 ([] :List Bool) a.2.1).bind fun c=>aN (aq (ke a) aT (0,a.1,c,[])) (fun r=>some r) (fun b=>some (b.2.1,b.2.2.1,b.2.2.2))
def kg (d:(List Yq2)×(List Yq3)) (a:Int×(List Yq2)×(List Yq3)):Option (Out SP UB):=
 if decide (a.1<(d.1.length:Int)) then ((aP d.1 a.1).bind fun b=>(oY (b.1,b.2.1,b.2.2)).bind fun c=>(bM 56 a.2.1 ([(c.1,c.2.1,c.2.2)])).bind fun e=>some (.nxt (i64.wrap (a.1+1),e,a.2.2))) else (some (.brk (a.1,a.2.1,a.2.2)))
def kh (c:(List Yq2)×(List Yq3)) (a:Int×(List Yq2)×(List Yq3)):Option (Out SP UB):=
 if decide (a.1<(c.2.length:Int)) then ((aP c.2 a.1).bind fun b=>(fN b.2.1).bind fun d=>(bM 40 a.2.2 ([(b.1,d,b.2.2)])).bind fun e=>some (.nxt (i64.wrap (a.1+1),a.2.1,e))) else (some (.brk (a.1,a.2.1,a.2.2)))
def mE (a:(List Yq2)×(List Yq3)):Option SP:=
 aN (aq (kg a) aT (0,[],[])) (fun r=>some r) (fun b=>aN (aq (kh a) aT (0,b.2.1,b.2.2)) (fun r=>some r) (fun c=>some (c.2.1,c.2.2)))
def nV (b:(List Yq2)×(List Yq3)) (c:Int) (a:Int):Option (Out (SP×Bool) Int):=
 if decide (a<(b.2.length:Int)) then ((aP b.2 a).bind fun d=>if decide (d.1<c) then (some (.nxt (i64.wrap (a+1)))) else (some (.brk a))) else (some (.brk a))
def jP (a:(List Yq2)×(List Yq3)) (c:Int) (h:(List Yq1)):Option (SP×Bool):=
 (bI (a.1,a.2)).bind fun i=>if i then ((fS (a.1,a.2) c).bind fun j=>if decide (j≥0) then ((mE (a.1,a.2)).bind fun e=>some ((e.1,e.2),false)) else (aN (aq (nV a c) aT 0) (fun r=>some r) (fun b=>(chk (0<=b/\b<=(a.2.length:Int))).bind fun _=>(bM 40 ([] :List Yq3) (a.2.take b.toNat)).bind fun k=>(bM 40 k ([(c,h,0)])).bind fun l=>(chk (0<=b/\b<=(a.2.length:Int))).bind fun _=>(bM 40 l (a.2.drop b.toNat)).bind fun m=>(cA m).bind fun d=>if d.2 then (some ((d.1.1,d.1.2),true)) else ((mE (a.1,a.2)).bind fun f=>some ((f.1,f.2),false))))) else ((mE (a.1,a.2)).bind fun g=>some ((g.1,g.2),false))
def GT (b:ByteArray) (d:Int) (a:(List ByteArray)×Int×Int):Option (Out (List ByteArray) ((List ByteArray)×Int×Int)):=
 if decide (a.2.2<((b.size:Nat):Int)) then (Option.bind (((Iq b a.2.2).bind fun e=>if e==d then ((Wm b a.2.1 a.2.2).bind fun f=>(bM 16 a.1 ([f])).bind fun g=>some (g,i64.wrap (a.2.2+1))) else (some (a.1,a.2.1)):Option ((List ByteArray)×Int))) (fun c=>some (.nxt (c.1,c.2,i64.wrap (a.2.2+1))))) else (some (.brk (a.1,a.2.1,a.2.2)))
def GU (a:ByteArray) (c:Int):Option (List ByteArray):=
 aN (aq (GT a c) aT (([] :List ByteArray),0,0)) (fun d=>some d) (fun b=>(Wm a b.2.1 ((a.size:Nat):Int)).bind fun e=>(bM 16 b.1 ([e])).bind fun f=>some f)
def eO (a:Int×ByteArray):Option (Out ByteArray (Int×ByteArray)):=
 if a.1 !=0 then (Option.bind ((if decide ((Int.tmod a.1 10)<0) then (some (i64.wrap (-(Int.tmod a.1 10)))) else (some (Int.tmod a.1 10)):Option Int)) (fun b=>(sv (yV ([IntKind.u8.wrap (i64.wrap (48+b))])) a.2).bind fun c=>some (.nxt (FD a.1 10,c)))) else (some (.brk (a.1,a.2)))
def eX (a:Int):Option ByteArray:=
 if a==0 then (some (⟨#[48]⟩)) else (aN (aq (eO) aT (a,(⟨#[]⟩:ByteArray))) (fun c=>some c) (fun b=>if decide (a<0) then ((sv (⟨#[45]⟩) b.2).bind fun d=>some d) else (some b.2)))
def nK (a:Int):Option ByteArray:=
 (nk a).bind fun b=>if b then ((aP ([(⟨#[97]⟩:ByteArray),(⟨#[97,45]⟩:ByteArray),(⟨#[98]⟩:ByteArray),(⟨#[98,45]⟩:ByteArray),(⟨#[99]⟩:ByteArray),(⟨#[99,45]⟩:ByteArray),(⟨#[48]⟩:ByteArray),(⟨#[49]⟩:ByteArray),(⟨#[50]⟩:ByteArray)]) a).bind fun c=>some c) else (some (⟨#[]⟩:ByteArray))
def A9 (a:Int×Int×Int×Int):Option ByteArray:=
 if a.1==1 then (some (⟨#[33]⟩)) else (if a.1==2 then (some (⟨#[40,41]⟩)) else (if a.1==3 then ((nK a.2.1).bind fun b=>some b) else (if a.1==4 then (some (⟨#[46]⟩)) else (if a.1==5 then (some (⟨#[124]⟩)) else (if a.1==6 then (some (⟨#[42]⟩)) else ((eX a.2.2.1).bind fun c=>(sv (⟨#[123]⟩) c).bind fun d=>(sv d (⟨#[44]⟩)).bind fun e=>(eX a.2.2.2).bind fun f=>(sv e f).bind fun g=>(sv g (⟨#[125]⟩)).bind fun h=>some h))))))
def wK (b:ByteArray) (a:Int):Option (Out (Int×Bool) Int):=
 if decide (a<9) then ((nK a).bind fun c=>if c==b then (some (.ret (a,true))) else (some (.nxt (i64.wrap (a+1))))) else (some (.brk a))
def sM (a:ByteArray):Option (Int×Bool):=
 aN (aq (wK a) aT 0) (fun r=>some r) (fun b=>some (0,false))
def EO (b:ByteArray) (a:Int):Option (Out Yq1 Int):=
 if decide (a<=6) then (if a !=3 then ((A9 (a,0,0,0)).bind fun c=>if c==b then (some (.ret (a,0,0,0))) else (some (.nxt (i64.wrap (a+1))))) else (some (.nxt (i64.wrap (a+1))))) else (some (.brk a))
def Dq (a:ByteArray):Option Yq1:=
 aN (aq (EO a) aT 1) (fun c=>some c) (fun i=>(sM a).bind fun b=>if b.2 then (some (3,b.1,0,0)) else (if ((a.size:Nat):Int)==5 then ((Iq a 0).bind fun d=>if d==123 then ((Iq a 2).bind fun e=>if e==44 then ((Iq a 4).bind fun f=>if f==125 then ((Iq a 1).bind fun g=>(Iq a 3).bind fun h=>some (7,0,i64.wrap ((i64.wrap g) - 48),i64.wrap ((i64.wrap h) - 48))) else (some (0,0,0,0))) else (some (0,0,0,0))) else (some (0,0,0,0))) else (some (0,0,0,0))))
def zB (c:List ByteArray) (a:Int×(List Yq1)):Option (Out (((List Yq1))×Bool) (Int×(List Yq1))):=
 if decide (a.1<(c.length:Int)) then (if decide (a.1<=24) then ((aP c a.1).bind fun d=>(Dq d).bind fun b=>(bM 32 a.2 ([(b.1,b.2.1,b.2.2.1,b.2.2.2)])).bind fun e=>some (.nxt (i64.wrap (a.1+1),e))) else (some (.brk (a.1,a.2)))) else (some (.brk (a.1,a.2)))
def jQ (b:ByteArray):Option (((List Yq1))×Bool):=
 (GU b 32).bind fun c=>aN (aq (zB c) aT (0,[])) (fun r=>some r) (fun a=>(jf a.2).bind fun d=>if d then (some (a.2,true)) else (some ([],false)))
def tV (a:(List Int)×Int×Int) (c:List ByteArray):Option (ByteArray×Int×Int):=
 (aK (a.1,a.2.1,a.2.2) (c.length:Int)).bind fun b=>(aP c b.1).bind fun d=>some (d,b.2.1,b.2.2)
def oZ (a:(List Int)×Int×Int):Option ((List Yq1)×Int×Int):=
 (tV (a.1,a.2.1,a.2.2) ([⟨#[97]⟩,⟨#[97,32,98,32,46]⟩,⟨#[97,32,42]⟩,⟨#[97,32,98,32,124,32,42]⟩,⟨#[97,32,97,45,32,46]⟩,⟨#[97,32,42,32,98,32,46]⟩,⟨#[97,32,98,32,42,32,46,32,99,32,46]⟩,⟨#[97,32,97,32,124,32,42]⟩,⟨#[97,32,98,32,46,32,42]⟩,⟨#[48,32,97,32,46,32,42]⟩,⟨#[97,32,49,32,46,32,98,32,46]⟩,⟨#[97,32,123,48,44,50,125]⟩,⟨#[97,32,98,32,124,32,123,49,44,51,125]⟩,⟨#[40,41]⟩,⟨#[33]⟩,⟨#[97,45,32,42,32,97,32,46]⟩,⟨#[97,32,98,45,32,46,32,42,32,99,32,124]⟩,⟨#[97,32,42,32,97,32,42,32,46]⟩,⟨#[97,32,48,32,124,32,42,32,98,32,46]⟩,⟨#[97,32,97,32,46,32,42]⟩,⟨#[97,32,98,32,46,32,98,32,97,32,46,32,124,32,42]⟩])).bind fun b=>(jQ b.1).bind fun c=>some (c.1,b.2.1,b.2.2)
def iQ (d:(List Int)×Int×Int) (a:Int×Int×Int×(List Yq6)×List IJ):Option (Out (((List Yq6)×List IJ)×Int×Int) (Int×Int×Int×(List Yq6)×List IJ)):=
 if decide (a.1>0) then ((aK (d.1,a.2.1,a.2.2.1) 6).bind fun b=>(oZ (d.1,b.2.1,b.2.2)).bind fun c=>(jP (a.2.2.2.1,a.2.2.2.2) (i64.wrap (1+b.1)) c.1).bind fun e=>some (.nxt (i64.wrap (a.1 - 1),c.2.1,c.2.2,e.1.1,e.1.2))) else (some (.brk (a.1,a.2.1,a.2.2.1,a.2.2.2.1,a.2.2.2.2)))
def jj (a:(List Int)×Int×Int):Option (((List Yq6)×List IJ)×Int×Int):=
 (aK (a.1,a.2.1,a.2.2) 3).bind fun c=>aN (aq (iQ a) aT (i64.wrap (1+c.1),c.2.1,c.2.2,([] :List Yq6),([] :List IJ))) (fun d=>some d) (fun b=>some ((b.2.2.2.1,b.2.2.2.2),b.2.1,b.2.2.1))
def fU (a:Int×List Yq8) (c:Int):Option ((Int×List Yq8)×Bool):=
 (qx (a.1,a.2)).bind fun b=>(aX (a.1,a.2)).bind fun d=>if d then ((aR (a.1,a.2)).bind fun e=>(dj c a.1 e).bind fun f=>if f then ((chk (And (0<=(i64.wrap (c - a.1))) ((i64.wrap (c - a.1))<=(b.2.length:Int)))).bind fun _=>some ((c,b.2.drop ((i64.wrap (c - a.1)).toNat)),true)) else (some ((b.1,b.2),false))) else (some ((b.1,b.2),false))
def qB (a:(List Int)×Int×Int) (c:(List Yq6)×List IJ):Option HO:=
 if decide ((c.2.length:Int)>0) then ((cn (a.1,a.2.1,a.2.2) 4).bind fun b=>if b.1 then ((bh (a.1,b.2.1,b.2.2) ([0,1,2,3,4,99,100])).bind fun d=>some (d.1,d.2.1,d.2.2)) else ((aK (a.1,b.2.1,b.2.2) (c.2.length:Int)).bind fun e=>(aP c.2 e.1).bind fun g=>some (g.1,e.2.1,e.2.2))) else ((bh (a.1,a.2.1,a.2.2) ([0,1,2,3,4,99,100])).bind fun f=>some (f.1,f.2.1,f.2.2))
def wL (c:(List Int)×Int×Int):Option (Yq8×Int×Int):=
 (kP (c.1,c.2.1,c.2.2)).bind fun b=>(aK (c.1,b.2.1,b.2.2) 14).bind fun a=>Option.bind ((if a.1==0 then ((bh (c.1,a.2.1,a.2.2) ([(-1),3,2])).bind fun e=>(aP b.1.1 0).bind fun k=>some (e.2.1,e.2.2,b.1.1.set 0 e.1,b.1.2)) else (if a.1==1 then ((bh (c.1,a.2.1,a.2.2) ([0,1,99,100])).bind fun f=>(aK (c.1,f.2.1,f.2.2) 6).bind fun g=>(aK (c.1,g.2.1,g.2.2) 6).bind fun h=>(aK (c.1,h.2.1,h.2.2) 4).bind fun i=>(bM 32 b.1.2 ([(f.1,g.1,h.1,i.1)])).bind fun j=>some (i.2.1,i.2.2,b.1.1,j)) else (if a.1==2 then (some (a.2.1,a.2.2,([] :List Int),b.1.2)) else (some (a.2.1,a.2.2,b.1.1,b.1.2)))):Option (Int×Int×(List Int)×List Yq1))) (fun d=>some ((d.2.2.1,d.2.2.2),d.1,d.2.1))
def qC (c:(List Int)×Int×Int):Option ((Int×List Yq8)×Int×Int):=
 (lJ (c.1,c.2.1,c.2.2)).bind fun a=>(aK (c.1,a.2.1,a.2.2) 14).bind fun b=>Option.bind ((if b.1==0 then ((bh (c.1,b.2.1,b.2.2) ([0,999,998,1000])).bind fun f=>some (f.2.1,f.2.2,f.1,a.1.2)) else (if b.1==1 then ((wL (c.1,b.2.1,b.2.2)).bind fun d=>(aP a.1.2 (i64.wrap ((a.1.2.length:Int) - 1))).bind fun g=>some (d.2.1,d.2.2,a.1.1,a.1.2.set ((i64.wrap ((a.1.2.length:Int) - 1)).toNat) (d.1.1,d.1.2))) else (if b.1==2 then (some (b.2.1,b.2.2,a.1.1,([] :List Yq8))) else (some (b.2.1,b.2.2,a.1.1,a.1.2)))):Option (Int×Int×Int×List Yq8))) (fun e=>some ((e.2.2.1,e.2.2.2),e.1,e.2.1))
def iD (e:(List Int)×Int×Int) (f:Int×Int×Int) (a:(List Int)×Int×Int×Int):Option (Out (Yq6×Int×Int) ((List Int)×Int×Int×Int)):=
 if decide (a.2.1<9) then ((cn (e.1,a.2.2.1,a.2.2.2) 3).bind fun b=>Option.bind ((if b.1 then (some ((-1),b.2.1,b.2.2)) else ((aK (e.1,b.2.1,b.2.2) (i64.wrap (1+f.1))).bind fun c=>some (c.1,c.2.1,c.2.2)):Option HO)) (fun d=>Option.bind ((if decide (a.2.1>3) then (some (-1)) else (some d.1):Option Int)) (fun g=>(bM 8 a.1 ([g])).bind fun h=>some (.nxt (h,i64.wrap (a.2.1+1),d.2.1,d.2.2))))) else (some (.brk (a.1,a.2.1,a.2.2.1,a.2.2.2)))
def kE (d:(List Int)×Int×Int) (e:Int×Int×Int) (a:Int×Int×(List Bool)×(List (List Int))×Int×Int):Option (Out (Yq6×Int×Int) (Int×Int×(List Bool)×(List (List Int))×Int×Int)):=
 if decide (a.1<(i64.wrap (1+e.1))) then (aN (aq (iD d e) aT (([] :List Int),0,a.2.2.2.2.1,a.2.2.2.2.2)) (fun f=>some (.ret f)) (fun b=>(cn (d.1,b.2.2.1,b.2.2.2) 3).bind fun c=>(bM 1 a.2.2.1 ([c.1])).bind fun g=>(bM 24 a.2.2.2.1 ([b.1])).bind fun h=>some (.nxt (i64.wrap (a.1+1),a.2.1,g,h,c.2.1,c.2.2)))) else (some (.brk (a.1,a.2.1,a.2.2.1,a.2.2.2.1,a.2.2.2.2.1,a.2.2.2.2.2)))
def lK (a:(List Int)×Int×Int):Option (Yq6×Int×Int):=
 (aK (a.1,a.2.1,a.2.2) 4).bind fun c=>(aK (a.1,c.2.1,c.2.2) (i64.wrap (1+c.1))).bind fun d=>aN (aq (kE a c) aT (0,d.1,([] :List Bool),([] :List (List Int)),d.2.1,d.2.2)) (fun e=>some e) (fun b=>some ((b.2.1,b.2.2.1,b.2.2.2.1),b.2.2.2.2.1,b.2.2.2.2.2))
def uA (a:Int):Option (List Yq1):=
 some ([(3,a,0,0)])
def eJ:Nat->((List Int)×Int×Int)->Int->Option ((List Yq1)×Int×Int)
 | 0,_,_=>none
 | n+1,p0,p1 =>
  if p1==0 then ((cn (p0.1,p0.2.1,p0.2.2) 12).bind fun b=>if b.1 then ((bh (p0.1,b.2.1,b.2.2) ([1,2])).bind fun d=>(qz d.1).bind fun m=>some (m,d.2.1,d.2.2)) else ((bh (p0.1,b.2.1,b.2.2) ([0,0,2,2,1,4,3,6,7])).bind fun e=>(uA e.1).bind fun o=>some (o,e.2.1,e.2.2))) else ((aK (p0.1,p0.2.1,p0.2.2) 6).bind fun a=>Option.bind ((if a.1==0 then (some (a.1==0)) else (some (a.1==1)):Option Bool)) (fun p=>if p then (((eJ n) (p0.1,a.2.1,a.2.2) (i64.wrap (p1 - 1))).bind fun f=>((eJ n) (p0.1,f.2.1,f.2.2) (i64.wrap (p1 - 1))).bind fun g=>(fj f.1 g.1 (4,0,0,0)).bind fun q=>some (q,g.2.1,g.2.2)) else (Option.bind ((if a.1==2 then (some (a.1==2)) else (some (a.1==3)):Option Bool)) (fun r=>if r then (((eJ n) (p0.1,a.2.1,a.2.2) (i64.wrap (p1 - 1))).bind fun h=>((eJ n) (p0.1,h.2.1,h.2.2) (i64.wrap (p1 - 1))).bind fun i=>(fj h.1 i.1 (5,0,0,0)).bind fun s=>some (s,i.2.1,i.2.2)) else (if a.1==4 then (((eJ n) (p0.1,a.2.1,a.2.2) (i64.wrap (p1 - 1))).bind fun j=>(fj j.1 ([] :List Yq1) (6,0,0,0)).bind fun t=>some (t,j.2.1,j.2.2)) else ((aK (p0.1,a.2.1,a.2.2) 3).bind fun c=>((eJ n) (p0.1,c.2.1,c.2.2) (i64.wrap (p1 - 1))).bind fun k=>(aK (p0.1,k.2.1,k.2.2) (i64.wrap ((i64.wrap (1+c.1))+1))).bind fun l=>(fj k.1 ([] :List Yq1) (7,0,l.1,i64.wrap (1+c.1))).bind fun u=>some (u,l.2.1,l.2.2)))))))
def tW (a:(List Int)×Int×Int):Option ((List Yq1)×Int×Int):=
 (cn (a.1,a.2.1,a.2.2) 2).bind fun b=>if b.1 then ((oZ (a.1,b.2.1,b.2.2)).bind fun c=>some (c.1,c.2.1,c.2.2)) else ((aK (a.1,b.2.1,b.2.2) 3).bind fun d=>(eJ fH (a.1,d.2.1,d.2.2) (i64.wrap (1+d.1))).bind fun e=>some (e.1,e.2.1,e.2.2))
def tX (a:(List Int)×Int×Int):Option (Yq6×Int×Int):=
 (cn (a.1,a.2.1,a.2.2) 3).bind fun b=>if b.1 then ((lK (a.1,b.2.1,b.2.2)).bind fun c=>some ((c.1.1,c.1.2.1,c.1.2.2),c.2.1,c.2.2)) else ((tW (a.1,b.2.1,b.2.2)).bind fun d=>(dy d.1).bind fun e=>(fc (e.1.1,e.1.2.1,e.1.2.2.1,e.1.2.2.2.1,e.1.2.2.2.2) 12).bind fun g=>if g.2 then (some ((g.1.1,g.1.2.1,g.1.2.2),d.2.1,d.2.2)) else ((lK (a.1,d.2.1,d.2.2)).bind fun f=>some ((f.1.1,f.1.2.1,f.1.2.2),f.2.1,f.2.2)))
def oC (c:(List Int)×Int×Int):Option (((List Yq6)×List IJ)×Int×Int):=
 (jj (c.1,c.2.1,c.2.2)).bind fun a=>(aK (c.1,a.2.1,a.2.2) 16).bind fun b=>Option.bind ((if b.1==0 then (if decide ((a.1.2.length:Int)>0) then ((aK (c.1,b.2.1,b.2.2) 3).bind fun f=>(aP a.1.2 0).bind fun h=>some (f.2.1,f.2.2,a.1.1,a.1.2.set 0 (h.1,h.2.1,f.1))) else (some (b.2.1,b.2.2,a.1.1,a.1.2))) else (if b.1==1 then (if decide ((a.1.2.length:Int)>0) then ((bh (c.1,b.2.1,b.2.2) ([0,100,99])).bind fun g=>(aP a.1.2 0).bind fun i=>some (g.2.1,g.2.2,a.1.1,a.1.2.set 0 (g.1,i.2))) else (some (b.2.1,b.2.2,a.1.1,a.1.2))) else (if b.1==2 then ((tX (c.1,b.2.1,b.2.2)).bind fun d=>(bM 56 a.1.1 ([(d.1.1,d.1.2.1,d.1.2.2)])).bind fun j=>some (d.2.1,d.2.2,j,a.1.2)) else (some (b.2.1,b.2.2,a.1.1,a.1.2)))):Option (Int×Int×(List Yq6)×List IJ))) (fun e=>some ((e.2.2.1,e.2.2.2),e.1,e.2.1))
def tY (a:(List Int)×Int×Int):Option ((Int×List Yq8)×((List Yq6)×List IJ)×HO×Int×Int):=
 (lJ (a.1,a.2.1,a.2.2)).bind fun c=>(jj (a.1,c.2.1,c.2.2)).bind fun b=>(cn (a.1,b.2.1,b.2.2) 3).bind fun j=>if j.1 then (Option.bind ((if decide ((c.1.2.length:Int)>2) then ((aK (a.1,j.2.1,j.2.2) (i64.wrap ((c.1.2.length:Int) - 1))).bind fun u=>(fU (c.1.1,c.1.2) (i64.wrap ((i64.wrap (c.1.1+1))+u.1))).bind fun x=>some (x.1.1,x.1.2,u.2.1,u.2.2)) else (some (c.1.1,c.1.2,j.2.1,j.2.2)):Option (Int×(List Yq8)×Int×Int))) (fun f=>(aK (a.1,f.2.2.1,f.2.2.2) 5).bind fun k=>(qB (a.1,k.2.1,k.2.2) (b.1.1,b.1.2)).bind fun l=>(aR (f.1,f.2.1)).bind fun y=>(aK (a.1,l.2.1,l.2.2) (Max.max 1 (i64.wrap (y+1)))).bind fun o=>(aK (a.1,o.2.1,o.2.2) 20).bind fun d=>Option.bind ((if d.1==0 then ((qC (a.1,d.2.1,d.2.2)).bind fun q=>some (q.2.1,q.2.2,i64.wrap (1+k.1),l.1,o.1,q.1.1,q.1.2,b.1.1,b.1.2)) else (if d.1==1 then ((oC (a.1,d.2.1,d.2.2)).bind fun r=>some (r.2.1,r.2.2,i64.wrap (1+k.1),l.1,o.1,f.1,f.2.1,r.1.1,r.1.2)) else (if d.1==2 then ((bh (a.1,d.2.1,d.2.2) ([(-1),1000])).bind fun v=>some (v.2.1,v.2.2,i64.wrap (1+k.1),l.1,v.1,f.1,f.2.1,b.1.1,b.1.2)) else (some (d.2.1,d.2.2,i64.wrap (1+k.1),l.1,o.1,f.1,f.2.1,b.1.1,b.1.2)))):Option (Int×Int×Int×Int×Int×Int×(List Yq8)×(List Yq6)×List IJ))) (fun h=>some ((h.2.2.2.2.2.1,h.2.2.2.2.2.2.1),(h.2.2.2.2.2.2.2.1,h.2.2.2.2.2.2.2.2),(h.2.2.1,h.2.2.2.1,h.2.2.2.2.1),h.1,h.2.1)))) else (Option.bind ((some (c.1.1,c.1.2,j.2.1,j.2.2):Option (Int×(List Yq8)×Int×Int))) (fun g=>(aK (a.1,g.2.2.1,g.2.2.2) 5).bind fun m=>(qB (a.1,m.2.1,m.2.2) (b.1.1,b.1.2)).bind fun n=>(aR (g.1,g.2.1)).bind fun z=>(aK (a.1,n.2.1,n.2.2) (Max.max 1 (i64.wrap (z+1)))).bind fun p=>(aK (a.1,p.2.1,p.2.2) 20).bind fun e=>Option.bind ((if e.1==0 then ((qC (a.1,e.2.1,e.2.2)).bind fun s=>some (s.2.1,s.2.2,i64.wrap (1+m.1),n.1,p.1,s.1.1,s.1.2,b.1.1,b.1.2)) else (if e.1==1 then ((oC (a.1,e.2.1,e.2.2)).bind fun t=>some (t.2.1,t.2.2,i64.wrap (1+m.1),n.1,p.1,g.1,g.2.1,t.1.1,t.1.2)) else (if e.1==2 then ((bh (a.1,e.2.1,e.2.2) ([(-1),1000])).bind fun w=>some (w.2.1,w.2.2,i64.wrap (1+m.1),n.1,w.1,g.1,g.2.1,b.1.1,b.1.2)) else (some (e.2.1,e.2.2,i64.wrap (1+m.1),n.1,p.1,g.1,g.2.1,b.1.1,b.1.2)))):Option (Int×Int×Int×Int×Int×Int×(List Yq8)×(List Yq6)×List IJ))) (fun i=>some ((i.2.2.2.2.2.1,i.2.2.2.2.2.2.1),(i.2.2.2.2.2.2.2.1,i.2.2.2.2.2.2.2.2),(i.2.2.1,i.2.2.2.1,i.2.2.2.2.1),i.1,i.2.1))))
def pL (b:List Int) (a:Int×Int):Option (Out (Int×Int) (Int×Int)):=
 if decide (a.2<(b.length:Int)) then (if decide (a.2<4000) then ((aP b a.2).bind fun c=>some (.nxt (qp (i64.wrap ((i64.wrap ((i64.wrap (a.1*131))+(i64.wrap c)))+7)) 1073741823,i64.wrap (a.2+1)))) else (some (.brk (a.1,a.2)))) else (some (.brk (a.1,a.2)))
def wM (a:List Int):Option (Int×Int):=
 aN (aq (pL a) aT (i64.wrap (10101+(a.length:Int)),0)) (fun b=>some b) (fun c=>some (0,c.1))
def fV (b:List Int):Option ((Int×List Yq8)×((List Yq6)×List IJ)×Int×Int×Int):=
 (wM b).bind fun c=>(tY (b,c.1,c.2)).bind fun a=>some ((a.1.1,a.1.2),(a.2.1.1,a.2.1.2),a.2.2.1.1,a.2.2.1.2.1,a.2.2.1.2.2)
def bK (a:Int) (b:Int) (c:Int):Option Bool:=
 if decide (a≥b) then (some (decide (a<=c))) else (some false)
def oD (a:Int×Int×Int×Int) (b:Int):Option Bool:=
 (bK a.1 1 99).bind fun c=>if c then ((bK a.2.1 0 (i64.wrap (b - 1))).bind fun d=>if d then ((bK a.2.2.1 0 (i64.wrap (b - 1))).bind fun e=>if e then ((bK a.2.2.2 0 2).bind fun f=>some f) else (some false)) else (some false)) else (some false)
def fq (b:(List Int)×(List Yq1)) (a:Int):Option (Out Bool Int):=
 if decide (a<(b.1.length:Int)) then ((aP b.1 a).bind fun c=>(bK c 0 2).bind fun d=>if d then (some (.nxt (i64.wrap (a+1)))) else (some (.ret false))) else (some (.brk a))
def dK (c:(List Int)×(List Yq1)) (a:Int):Option (Out Bool Int):=
 if decide (a<(c.2.length:Int)) then ((aP c.2 a).bind fun b=>(oD (b.1,b.2.1,b.2.2.1,b.2.2.2) (c.1.length:Int)).bind fun d=>if d then (if decide (a>0) then ((aP c.2 (i64.wrap (a - 1))).bind fun e=>if decide (e.1≥b.1) then (some (.ret false)) else (some (.nxt (i64.wrap (a+1))))) else (some (.nxt (i64.wrap (a+1))))) else (some (.ret false))) else (some (.brk a))
def a7 (a:(List Int)×(List Yq1)):Option Bool:=
 aN (aq (fq a) aT 0) (fun r=>some r) (fun c=>aN (aq (dK a) aT 0) (fun r=>some r) (fun d=>(bK (a.1.length:Int) 1 5).bind fun b=>if b then (some (decide ((a.2.length:Int)<=12))) else (some false)))
def c8 (b:List Int) (c:List Int) (a:Int):Option (Out Bool Int):=
 if decide (a<(b.length:Int)) then ((aP b a).bind fun d=>(aP c a).bind fun e=>if d !=e then (some (.ret false)) else (some (.nxt (i64.wrap (a+1))))) else (some (.brk a))
def cP (a:List Int) (b:List Int):Option Bool:=
 if (a.length:Int) !=(b.length:Int) then (some false) else (aN (aq (c8 a b) aT 0) (fun r=>some r) (fun c=>some true))
def fW (b:Int×(List Yq5)) (a:Int):Option (Out Bool Int):=
 if decide (a<(b.2.length:Int)) then ((aP b.2 a).bind fun c=>(a7 (c.1,c.2)).bind fun d=>if d then ((aP b.2 0).bind fun e=>(cP c.1 e.1).bind fun f=>if f then (some (.nxt (i64.wrap (a+1)))) else (some (.ret false))) else (some (.ret false))) else (some (.brk a))
def bf (a:Int×(List Yq5)):Option Bool:=
 (bK (a.2.length:Int) 1 8).bind fun b=>if b then ((bK a.1 1 (i64.wrap ((i64.wrap (999 - (a.2.length:Int)))+1))).bind fun c=>if c then (aN (aq (fW a) aT 0) (fun r=>some r) (fun d=>some true)) else (some false)) else (some false)
def cq (a:Int×(List Yq5)):Option Int:=
 (bf (a.1,a.2)).bind fun b=>if b then (some (i64.wrap ((i64.wrap (a.1+(a.2.length:Int))) - 1))) else (some 0)
def k9 (a:Int):Option Bool:=
 (bK a 0 8).bind fun b=>some b
def ru (a:Int×Int×Int×Int):Option Bool:=
 if a.1==3 then ((k9 a.2.1).bind fun b=>if b then (if a.2.2.1==0 then (some (a.2.2.2==0)) else (some false)) else (some false)) else (if a.1==7 then (if a.2.1==0 then ((bK a.2.2.1 0 a.2.2.2).bind fun c=>if c then ((bK a.2.2.2 1 3).bind fun d=>some d) else (some false)) else (some false)) else (Option.bind ((if a.1==1 then (some (a.1==1)) else (if a.1==2 then (some (a.1==2)) else (if a.1==4 then (some (a.1==4)) else (if a.1==5 then (some (a.1==5)) else (some (a.1==6))))):Option Bool)) (fun e=>if e then (some ((a.1==a.1)&&((a.2.1==0)&&((a.2.2.1==0)&&((a.2.2.2==0)&&true))))) else (some false))))
def rv (d:List Yq1) (a:(List (Tr Yq1))×Int):Option (Out (Tr Yq1) ((List (Tr Yq1))×Int)):=
 if decide (a.2<(d.length:Int)) then ((aP d a.2).bind fun b=>Option.bind ((Option.bind ((if b.1==4 then (some (b.1==4)) else (some (b.1==5)):Option Bool)) (fun e=>if e then (some 2) else (Option.bind ((if b.1==6 then (some (b.1==6)) else (some (b.1==7)):Option Bool)) (fun f=>if f then (some 1) else (some 0)))):Option Int)) (fun c=>(ru (b.1,b.2.1,b.2.2.1,b.2.2.2)).bind fun g=>if g then (if decide ((i64.wrap ((a.1.length:Int) - c))<0) then (some (.ret Tr.nil)) else ((chk (And (0<=(i64.wrap ((a.1.length:Int) - c))) ((i64.wrap ((a.1.length:Int) - c))<=(a.1.length:Int)))).bind fun _=>(bM 8 ([] :List (Tr Yq1)) (a.1.drop ((i64.wrap ((a.1.length:Int) - c)).toNat))).bind fun h=>(chk (And (0<=(i64.wrap ((a.1.length:Int) - c))) ((i64.wrap ((a.1.length:Int) - c))<=(a.1.length:Int)))).bind fun _=>(bM 8 (a.1.take ((i64.wrap ((a.1.length:Int) - c)).toNat)) ([Tr.node (b.1,b.2.1,b.2.2.1,b.2.2.2) h])).bind fun i=>some (.nxt (i,i64.wrap (a.2+1))))) else (some (.ret Tr.nil)))) else (some (.brk (a.1,a.2)))
def oE (b:List Yq1):Option (Tr Yq1):=
 aN (aq (rv b) aT (([] :List (Tr Yq1)),0)) (fun c=>some c) (fun a=>if (a.1.length:Int) !=1 then (some Tr.nil) else ((aP a.1 0).bind fun d=>some d))
def tZ (a:List Yq1):Option Bool:=
 (oE a).bind fun b=>some (cond.match_1 (fun (c:Bool)=>Bool) (Tr.isNil b) (fun (d:Unit)=>false) (fun (e:Unit)=>true))
def lL (a:(List Yq1)):Option Bool:=
 if decide ((a.length:Int)<=24) then ((tZ a).bind fun b=>some b) else (some false)
def dL (mrec:(Tr Yq1)->Option Int) (b:Tr Yq1) (c:Yq1×List (Tr Yq1)) (a:Int×Int):Option MP:=
 if decide (a.2<(c.2.length:Int)) then (Option.bind (((aP c.2 a.2).bind fun d=>(Tr.get b).bind fun j=>(Tr.get b).bind fun e=>if e.1.1==7 then ((mrec d).bind fun f=>(Tr.get b).bind fun k=>(Tr.get b).bind fun g=>some (i64.wrap (a.1+(i64.wrap ((i64.wrap (f+3))*g.1.2.2.2))))) else ((mrec d).bind fun h=>some (i64.wrap (a.1+h))):Option Int)) (fun i=>some (.nxt (i,i64.wrap (a.2+1))))) else (some (.brk (a.1,a.2)))
def cZ:Nat->(Tr Yq1)->Option Int
 | 0,_=>none
 | n+1,p0x =>
  (Tr.get p0x).bind fun d=>(Tr.get p0x).bind fun a=>aN (aq (dL (cZ n) p0x a) aT (1,0)) (fun b=>some b) (fun c=>some (Min.min c.1 100000))
def EP (a:Int):Option (Tr Yq1):=
 some (Tr.node (a,0,0,0) ([] :List (Tr Yq1)))
def nm:Nat->(Tr Yq1)->Int->Int->Option (Tr Yq1)
 | 0,_,_,_=>none
 | n+1,p0x,p1low,p2high =>
  if p2high==0 then ((EP 2).bind fun b=>some b) else (((nm n) p0x (Max.max 0 (i64.wrap (p1low - 1))) (i64.wrap (p2high - 1))).bind fun a=>if decide (p1low>0) then (some (Tr.node (4,0,0,0) ([p0x,a]))) else ((EP 2).bind fun c=>some (Tr.node (5,0,0,0) ([Tr.node (4,0,0,0) ([p0x,a]),c]))))
def eK (mrec:(Tr Yq1)->Option (Tr Yq1)) (b:Yq1×List (Tr Yq1)) (a:Int×Int×Int×Int×Int×List (Tr Yq1)):Option (Out (Tr Yq1) (Int×Int×Int×Int×Int×List (Tr Yq1))):=
 if decide (a.1<(b.2.length:Int)) then ((aP b.2 a.1).bind fun c=>(mrec c).bind fun d=>(bM 8 a.2.2.2.2.2 ([d])).bind fun e=>some (.nxt (i64.wrap (a.1+1),a.2.1,a.2.2.1,a.2.2.2.1,a.2.2.2.2.1,e))) else (some (.brk (a.1,a.2.1,a.2.2.1,a.2.2.2.1,a.2.2.2.2.1,a.2.2.2.2.2)))
def cB:Nat->(Tr Yq1)->Option (Tr Yq1)
 | 0,_=>none
 | n+1,p0x =>
  (Tr.get p0x).bind fun l=>(Tr.get p0x).bind fun c=>if c.1.1==7 then ((Tr.get p0x).bind fun m=>(Tr.get p0x).bind fun d=>(aP d.2 0).bind fun e=>((cB n) e).bind fun f=>(Tr.get p0x).bind fun o=>(Tr.get p0x).bind fun g=>(Tr.get p0x).bind fun p=>(Tr.get p0x).bind fun h=>(nm fH f g.1.2.2.1 h.1.2.2.2).bind fun i=>some i) else ((Tr.get p0x).bind fun q=>(Tr.get p0x).bind fun b=>(Tr.get p0x).bind fun r=>(Tr.get p0x).bind fun j=>aN (aq (eK (cB n) j) aT (0,b.1.1,b.1.2.1,b.1.2.2.1,b.1.2.2.2,([] :List (Tr Yq1)))) (fun k=>some k) (fun a=>some (Tr.node (a.2.1,a.2.2.1,a.2.2.2.1,a.2.2.2.2.1) a.2.2.2.2.2)))
def da (mrec:(Tr Yq1)->(List Yq1)->Option (List Yq1)) (b:Yq1×List (Tr Yq1)) (a:Int×List Yq1):Option (Out (List Yq1) (Int×List Yq1)):=
 if decide (a.1<(b.2.length:Int)) then ((aP b.2 a.1).bind fun c=>(mrec c a.2).bind fun d=>some (.nxt (i64.wrap (a.1+1),d))) else (some (.brk (a.1,a.2)))
def cd:Nat->(Tr Yq1)->(List Yq1)->Option (List Yq1)
 | 0,_,_=>none
 | n+1,p0x,p1out =>
  (Tr.get p0x).bind fun f=>(Tr.get p0x).bind fun b=>aN (aq (da (cd n) b) aT (0,p1out)) (fun c=>some c) (fun d=>(Tr.get p0x).bind fun g=>(Tr.get p0x).bind fun a=>(bM 32 d.2 ([(a.1.1,a.1.2.1,a.1.2.2.1,a.1.2.2.2)])).bind fun e=>some e)
def ry (a:Tr Yq1):Option (List Yq1):=
 (cd fH a ([] :List Yq1)).bind fun b=>some b
def na (a:List Yq1):Option ((List Yq1)×Bool):=
 (lL a).bind fun d=>if d then ((oE a).bind fun b=>(cZ fH b).bind fun e=>if decide (e>5000) then (some (([] :List Yq1),false)) else ((cB fH b).bind fun f=>(ry f).bind fun c=>if decide ((c.length:Int)>400) then (some (([] :List Yq1),false)) else (some (c,true)))) else (some (([] :List Yq1),false))
def dz (b:(List Int)×Int×Int×(List Int)×Bool) (c:Int) (d:Int) (a:Int×List Int):Option (Out Yq9 (Int×List Int)):=
 if decide (a.1<(b.2.2.2.1.length:Int)) then (Option.bind (((chk (0<=a.1)).bind fun _=>if (qp (n9 c a.1) 1)==1 then ((aP a.2 a.1).bind fun e=>(aP a.2 a.1).bind fun g=>some (a.2.set a.1.toNat (orI e d))) else (some a.2):Option (List Int))) (fun f=>some (.nxt (i64.wrap (a.1+1),f)))) else (some (.brk (a.1,a.2)))
def eT (a:(List Int)×Int×Int×(List Int)×Bool) (b:Int) (c:Int):Option Yq9:=
 aN (aq (dz a b c) aT (0,a.2.2.2.1)) (fun d=>some d) (fun e=>some (a.1,a.2.1,a.2.2.1,e.2,a.2.2.2.2))
def bB:Nat->Yq9->(Tr Yq1)->Option ((Int×Int×Bool)×(List Int)×Int×Int×(List Int)×Bool)
 | 0,_,_=>none
 | n+1,p0,p1 =>
  (Tr.get p1).bind fun A=>(Tr.get p1).bind fun i=>if i.1.1==2 then (some ((0,0,true),p0.1,p0.2.1,p0.2.2.1,p0.2.2.2.1,p0.2.2.2.2)) else (if i.1.1==3 then ((Tr.get p1).bind fun B=>(Tr.get p1).bind fun m=>(bM 8 p0.1 ([m.1.2.1])).bind fun o=>(bM 8 p0.2.2.2.1 ([0])).bind fun p=>some ((vZ 1 (p0.1.length:Int),vZ 1 (p0.1.length:Int),false),o,p0.2.1,p0.2.2.1,p,p0.2.2.2.2)) else (if i.1.1==5 then ((Tr.get p1).bind fun C=>(Tr.get p1).bind fun q=>(aP q.2 0).bind fun r=>((bB n) (p0.1,p0.2.1,p0.2.2.1,p0.2.2.2.1,p0.2.2.2.2) r).bind fun f=>(Tr.get p1).bind fun D=>(Tr.get p1).bind fun s=>(aP s.2 1).bind fun t=>((bB n) f.2 t).bind fun b=>if f.1.2.2 then (some ((orI f.1.1 b.1.1,orI f.1.2.1 b.1.2.1,true),b.2.1,b.2.2.1,b.2.2.2.1,b.2.2.2.2.1,b.2.2.2.2.2)) else (some ((orI f.1.1 b.1.1,orI f.1.2.1 b.1.2.1,b.1.2.2),b.2.1,b.2.2.1,b.2.2.2.1,b.2.2.2.2.1,b.2.2.2.2.2))) else (if i.1.1==4 then ((Tr.get p1).bind fun E=>(Tr.get p1).bind fun u=>(aP u.2 0).bind fun v=>((bB n) (p0.1,p0.2.1,p0.2.2.1,p0.2.2.2.1,p0.2.2.2.2) v).bind fun c=>(Tr.get p1).bind fun F=>(Tr.get p1).bind fun w=>(aP w.2 1).bind fun x=>((bB n) c.2 x).bind fun a=>(eT (a.2.1,a.2.2.1,a.2.2.2.1,a.2.2.2.2.1,a.2.2.2.2.2) c.1.2.1 a.1.1).bind fun d=>if c.1.2.2 then (Option.bind ((if c.1.2.2 then (some (orI c.1.1 a.1.1,a.1.2.1,a.1.2.2)) else (some (c.1.1,a.1.2.1,a.1.2.2)):Option (Int×Int×Bool))) (fun g=>Option.bind ((if a.1.2.2 then (some (g.1,orI g.2.1 c.1.2.1,g.2.2)) else (some (g.1,g.2.1,g.2.2)):Option (Int×Int×Bool))) (fun k=>some ((k.1,k.2.1,k.2.2),d.1,d.2.1,d.2.2.1,d.2.2.2.1,d.2.2.2.2)))) else (Option.bind ((if c.1.2.2 then (some (orI c.1.1 a.1.1,a.1.2.1,false)) else (some (c.1.1,a.1.2.1,false)):Option (Int×Int×Bool))) (fun h=>Option.bind ((if a.1.2.2 then (some (h.1,orI h.2.1 c.1.2.1,h.2.2)) else (some (h.1,h.2.1,h.2.2)):Option (Int×Int×Bool))) (fun l=>some ((l.1,l.2.1,l.2.2),d.1,d.2.1,d.2.2.1,d.2.2.2.1,d.2.2.2.2))))) else (if i.1.1==6 then ((Tr.get p1).bind fun G=>(Tr.get p1).bind fun y=>(aP y.2 0).bind fun z=>((bB n) (p0.1,p0.2.1,p0.2.2.1,p0.2.2.2.1,p0.2.2.2.2) z).bind fun e=>(eT (e.2.1,e.2.2.1,e.2.2.2.1,e.2.2.2.2.1,e.2.2.2.2.2) e.1.2.1 e.1.1).bind fun j=>some ((e.1.1,e.1.2.1,true),j.1,j.2.1,j.2.2.1,j.2.2.2.1,j.2.2.2.2)) else (some ((0,0,false),p0.1,p0.2.1,p0.2.2.1,p0.2.2.2.1,p0.2.2.2.2))))))
def eA (b:(List Yq1)×Bool) (a:Int×Int):Option (Out (Yq9×Bool) (Int×Int)):=
 if decide (a.2<(b.1.length:Int)) then (Option.bind (((aP b.1 a.2).bind fun c=>if c.1==3 then (some (i64.wrap (a.1+1))) else (some a.1):Option Int)) (fun d=>some (.nxt (d,i64.wrap (a.2+1))))) else (some (.brk (a.1,a.2)))
def iR (c:List Yq1):Option (Yq9×Bool):=
 (na c).bind fun b=>if b.2 then (aN (aq (eA b) aT (0,0)) (fun d=>some d) (fun e=>if decide (e.1>20) then (some ((([] :List Int),0,0,([] :List Int),false),false)) else ((oE b.1).bind fun f=>(bB fH (([] :List Int),0,0,([] :List Int),false) f).bind fun a=>some ((a.2.1,a.1.1,a.1.2.1,a.2.2.2.2.1,a.1.2.2),true)))) else (some ((([] :List Int),0,0,([] :List Int),false),false))
def fu (e:Int->Int->Option (Int×Bool)) (f:(List Int)×Yq4×Int×Int×(List Bool)×(List (List Int))) (a:(List Int)×Yq4×(List Int)×Int):Option (Out (Yq2×Bool) ((List Int)×Yq4×(List Int)×Int)):=
 if decide (a.2.2.2<9) then (Option.bind (((aP a.1 f.2.2.1).bind fun g=>(e g a.2.2.2).bind fun b=>if b.2 then ((chk (iOk b.1=true)).bind fun _=>Option.bind ((if (lkM a.2.1 b.1).isSome then (some (a.1,a.2.1,(lkM a.2.1 b.1).getD 0)) else ((QK a.2.1 iOk iOk b.1 (a.1.length:Int)).bind fun m37=>(bM 8 a.1 ([b.1])).bind fun h=>some (h,m37,(a.1.length:Int))):Option ((List Int)×Yq4×Int))) (fun c=>(bM 8 a.2.2.1 ([c.2.2])).bind fun i=>some (c.1,c.2.1,i))) else ((bM 8 a.2.2.1 ([-1])).bind fun j=>some (a.1,a.2.1,j)):Option ((List Int)×Yq4×(List Int)))) (fun d=>some (.nxt (d.1,d.2.1,d.2.2,i64.wrap (a.2.2.2+1))))) else (some (.brk (a.1,a.2.1,a.2.2.1,a.2.2.2)))
def cC (c:Int) (d:Int->Option Bool) (e:Int->Int->Option (Int×Bool)) (a:(List Int)×Yq4×Int×Int×(List Bool)×(List (List Int))):Option (Out (Yq2×Bool) ((List Int)×Yq4×Int×Int×(List Bool)×(List (List Int)))):=
 if decide (a.2.2.1<(a.1.length:Int)) then (aN (aq (fu e a) aT (a.1,a.2.1,([] :List Int),0)) (fun r=>some (.ret r)) (fun b=>if decide ((b.1.length:Int)>c) then (some (.ret ((0,[],[]),false))) else ((aP b.1 a.2.2.1).bind fun f=>(d f).bind fun g=>(bM 1 a.2.2.2.2.1 ([g])).bind fun h=>(bM 24 a.2.2.2.2.2 ([b.2.2.1])).bind fun i=>some (.nxt (b.1,b.2.1,i64.wrap (a.2.2.1+1),a.2.2.2.1,h,i))))) else (some (.brk (a.1,a.2.1,a.2.2.1,a.2.2.2.1,a.2.2.2.2.1,a.2.2.2.2.2)))
def fO (b:Int) (c:Int) (d:Int->Option Bool) (e:Int->Int->Option (Int×Bool)):Option (Yq2×Bool):=
 (QK ([] :List (Int×Int)) iOk iOk b 0).bind fun m1=>aN (aq (cC c d e) aT ([b],m1,0,0,[],[])) (fun r=>some r) (fun a=>some ((a.2.2.2.1,a.2.2.2.2.1,a.2.2.2.2.2),true))
def eB (a:(List Int)×Int×Int×(List Int)×Bool) (b:Int):Option Bool:=
 if (qp b 1)==1 then (if a.2.2.2.2 then (some true) else (some ((qp (n9 b 1) a.2.2.1) !=0))) else (some ((qp (n9 b 1) a.2.2.1) !=0))
def dI (b:(List Int)×Int×Int×(List Int)×Bool) (c:Int) (a:Int×Int):Option MP:=
 if decide (a.2<(b.2.2.2.1.length:Int)) then (Option.bind (((aP b.2.2.2.1 a.2).bind fun d=>(chk (0<=i64.wrap (a.2+1))).bind fun _=>if (qp (n9 c (i64.wrap (a.2+1))) 1)==1 then (some (orI a.1 d)) else (some a.1):Option Int)) (fun e=>some (.nxt (e,i64.wrap (a.2+1))))) else (some (.brk (a.1,a.2)))
def dJ (b:(List Int)×Int×Int×(List Int)×Bool) (c:Int) (d:Int×Int) (a:Int×Int):Option MP:=
 if decide (a.2<(b.1.length:Int)) then (Option.bind (((aP b.1 a.2).bind fun e=>if e==c then ((chk (0<=a.2)).bind fun _=>if (qp (n9 d.1 a.2) 1)==1 then ((chk (0<=i64.wrap (a.2+1))).bind fun _=>some (orI a.1 (vZ 1 (i64.wrap (a.2+1))))) else (some a.1)) else (some a.1):Option Int)) (fun f=>some (.nxt (f,i64.wrap (a.2+1))))) else (some (.brk (a.1,a.2)))
def im (a:(List Int)×Int×Int×(List Int)×Bool) (b:Int) (c:Int):Option Int:=
 Option.bind ((if (qp b 1)==1 then (some a.2.1) else (some 0):Option Int)) (fun d=>aN (aq (dI a b) aT (d,0)) (fun r=>some r) (fun e=>aN (aq (dJ a c e) aT (0,0)) (fun r=>some r) (fun f=>some f.1)))
def dM (b:Int) (c:Int) (q0:(List Int)×Int×Int×(List Int)×Bool):Option (Int×Bool):=
 (im (q0.1,q0.2.1,q0.2.2.1,q0.2.2.2.1,q0.2.2.2.2) b c).bind fun a=>some (a,a !=0)
def jk (a:(List Int)×Int×Int×(List Int)×Bool) (c:Int):Option (Yq2×Bool):=
 (fO 1 c (fun a0=>eB (a.1,a.2.1,a.2.2.1,a.2.2.2.1,a.2.2.2.2) a0) (fun a0 a1=>dM a0 a1 (a.1,a.2.1,a.2.2.1,a.2.2.2.1,a.2.2.2.2))).bind fun b=>some ((b.1.1,b.1.2.1,b.1.2.2),b.2)
def eC (b:Bool×Int×List Bool) (c:List Int) (a:Bool×Int×List Bool):Option (Out (List Bool) (Bool×Int×List Bool)):=
 if decide (a.2.1<(c.length:Int)) then (Option.bind (((aP c a.2.1).bind fun d=>if decide (d≥0) then ((aP a.2.2 d).bind fun f=>if f then ((aP a.2.2 b.2.1).bind fun g=>if g then (some (a.1,a.2.2)) else ((aP a.2.2 b.2.1).bind fun h=>some (true,a.2.2.set b.2.1.toNat true))) else (some (a.1,a.2.2))) else (some (a.1,a.2.2)):Option (Bool×List Bool))) (fun e=>some (.nxt (e.1,i64.wrap (a.2.1+1),e.2)))) else (some (.brk (a.1,a.2.1,a.2.2)))
def eD (b:Int×(List Bool)×List (List Int)) (a:Bool×Int×List Bool):Option (Out (List Bool) (Bool×Int×List Bool)):=
 if decide (a.2.1<(b.2.2.length:Int)) then ((aP b.2.2 a.2.1).bind fun d=>aN (aq (eC a d) aT (a.1,0,a.2.2)) (fun e=>some (.ret e)) (fun c=>some (.nxt (c.1,i64.wrap (a.2.1+1),c.2.2)))) else (some (.brk (a.1,a.2.1,a.2.2)))
def jl (c:Int×(List Bool)×List (List Int)) (a:Bool×List Bool):Option (Out (List Bool) (Bool×List Bool)):=
 if a.1 then (aN (aq (eD c) aT (false,0,a.2)) (fun d=>some (.ret d)) (fun b=>some (.nxt (b.1,b.2.2)))) else (some (.brk (a.1,a.2)))
def fX (a:Int×(List Bool)×List (List Int)):Option (List Bool):=
 (bM 1 ([] :List Bool) a.2.1).bind fun b=>aN (aq (jl a) aT (true,b)) (fun c=>some c) (fun d=>some d.2)
def cQ (b:List (List Int)) (c:(List Int)->Option Bool) (a:Int):Option (Out Int Int):=
 if decide (a<(b.length:Int)) then ((aP b a).bind fun d=>(c d).bind fun e=>if e then (some (.ret a)) else (some (.nxt (i64.wrap (a+1))))) else (some (.brk a))
def cm (a:List (List Int)) (b:(List Int)->Option Bool):Option Int:=
 aN (aq (cQ a b) aT 0) (fun r=>some r) (fun c=>some (-1))
def iN (a:List Int) (q0:List Int):Option Bool:=
 (cP a q0).bind fun b=>some b
def dA (d:List Int) (c:List Int) (a:Int×(List Int)):Option (Out ((List Int)×Int) (Int×(List Int))):=
 if decide (a.1<(c.length:Int)) then ((aP c a.1).bind fun b=>Option.bind ((if decide (b≥0) then ((aP d b).bind fun e=>some e) else (some b):Option Int)) (fun f=>(bM 8 a.2 ([f])).bind fun g=>some (.nxt (i64.wrap (a.1+1),g)))) else (some (.brk (a.1,a.2)))
def eY (h:Int×(List Bool)×(List (List Int))) (b:List Int) (a:(List (List Int))×(List Int)×Int):Option (Out ((List Int)×Int) ((List (List Int))×(List Int)×Int)):=
 if decide (a.2.2<(b.length:Int)) then (Option.bind (((aP b a.2.2).bind fun c=>if decide (c<0) then ((bM 8 a.2.1 ([-1])).bind fun i=>some (a.1,i)) else ((aP h.2.2 a.2.2).bind fun j=>aN (aq (dA b j) aT (0,[c])) (fun _=>none) (fun d=>(cm a.1 (fun a0=>iN a0 d.2)).bind fun e=>Option.bind ((if decide (e<0) then ((bM 24 a.1 ([d.2])).bind fun k=>some (k,(a.1.length:Int))) else (some (a.1,e)):Option ((List (List Int))×Int))) (fun f=>(bM 8 a.2.1 ([f.2])).bind fun l=>some (f.1,l)))):Option ((List (List Int))×(List Int)))) (fun g=>some (.nxt (g.1,g.2,i64.wrap (a.2.2+1))))) else (some (.brk (a.1,a.2.1,a.2.2)))
def eU (b:Int×(List Bool)×(List (List Int))) (c:List Int):Option ((List Int)×Int):=
 aN (aq (eY b c) aT (([] :List (List Int)),([] :List Int),0)) (fun r=>some r) (fun a=>some (a.2.1,(a.1.length:Int)))
def df (c:Int×(List Bool)×(List (List Int))) (b:List Bool) (a:(List Int)×Int):Option QR:=
 if decide (a.2<(b.length:Int)) then (Option.bind (((aP b a.2).bind fun d=>if d then ((aP c.2.1 a.2).bind fun e=>if e then ((bM 8 a.1 ([1])).bind fun f=>some f) else ((bM 8 a.1 ([0])).bind fun g=>some g)) else ((bM 8 a.1 ([-1])).bind fun h=>some h):Option (List Int))) (fun i=>some (.nxt (i,i64.wrap (a.2+1))))) else (some (.brk (a.1,a.2)))
def gK (b:Int×(List Bool)×(List (List Int))) (c:(List Int)×Int):Option QR:=
 (eU (b.1,b.2.1,b.2.2) c.1).bind fun a=>if a.2==c.2 then (some (.ret a.1)) else (some (.nxt (a.1,a.2)))
def eE (a:Int×(List Bool)×(List (List Int))):Option (List Int):=
 (fX (a.1,a.2.1,a.2.2)).bind fun b=>aN (aq (df a b) aT (([] :List Int),0)) (fun r=>some r) (fun c=>aN (aq (gK a) aT (c.1,-1)) (fun r=>some r) (fun d=>none))
def vr (a:Int) (b:Int):Option (Int×Int):=
 some (IntKind.u32.wrap (n9 (IntKind.u64.wrap ((IntKind.u64.wrap a)*(IntKind.u64.wrap b))) 32),IntKind.u32.wrap (IntKind.u64.wrap ((IntKind.u64.wrap a)*(IntKind.u64.wrap b))))
def o0 (a:Int) (b:Int):Option (Int×Int):=
 some (IntKind.u64.wrap ((IntKind.u64.wrap ((IntKind.u64.wrap ((n9 a 32)*(n9 b 32)))+(n9 (IntKind.u64.wrap ((IntKind.u64.wrap ((n9 a 32)*(QL b 4294967295)))+(n9 (IntKind.u64.wrap ((QL a 4294967295)*(QL b 4294967295))) 32))) 32)))+(n9 (IntKind.u64.wrap ((QL (IntKind.u64.wrap ((IntKind.u64.wrap ((n9 a 32)*(QL b 4294967295)))+(n9 (IntKind.u64.wrap ((QL a 4294967295)*(QL b 4294967295))) 32))) 4294967295)+(IntKind.u64.wrap ((QL a 4294967295)*(n9 b 32))))) 32)),IntKind.u64.wrap (a*b))
def qD (b:Int) (c:Int):Option (Int×Int):=
 (o0 b c).bind fun a=>some (a.1,a.2)
def np (a:Int×List Int):Option (Out (List Int) (Int×List Int)):=
 if decide (a.1<(a.2.length:Int)) then ((chk (And (0<=a.1) (a.1<=(a.2.length:Int)))).bind fun _=>(chk (And (0<=a.1) (a.1<=(a.2.length:Int)))).bind fun _=>(chk (And (0<=a.1) (a.1<=(a.2.length:Int)))).bind fun _=>(chk (And (0<=a.1) (a.1<=(a.2.length:Int)))).bind fun _=>some (.nxt (i64.wrap (a.1+((Min.min ((a.2.take a.1.toNat).length) (a.2.length - a.1.toNat):Nat):Int)),Fz a.2 a.1.toNat (a.2.take a.1.toNat)))) else (some (.brk (a.1,a.2)))
def cD (a:List Int) (c:Int):Option (List Int):=
 if decide (c<0) then (none) else ((qD (IntKind.u64.wrap (a.length:Int)) (IntKind.u64.wrap c)).bind fun b=>if decide (b.1>0) then (none) else (if decide (b.2>9223372036854775807) then (none) else ((mkI 8 (i64.wrap b.2) 0).bind fun d=>aN (aq (np) aT (((Min.min a.length (d.length - 0):Nat):Int),Fz d 0 a)) (fun e=>some e) (fun f=>some f.2))))
def vt:Option Yq2:=
 (cD ([-1]) 9).bind fun a=>some (0,[false],[a])
def eP (b:List Int) (c:Int) (a:Int):Option (Out Int Int):=
 if decide (a<(b.length:Int)) then ((aP b a).bind fun d=>if c==d then (some (.ret a)) else (some (.nxt (i64.wrap (a+1))))) else (some (.brk a))
def fI (a:List Int) (b:Int):Option Int:=
 aN (aq (eP a b) aT 0) (fun r=>some r) (fun c=>some (-1))
def be (a:Int) (q0:List Int):Option Int:=
 (fI q0 a).bind fun b=>some b
def dh (a:Int) (q0:Int×(List Bool)×(List (List Int))) (q1:Int->Option Int):Option Bool:=
 (q1 a).bind fun b=>(aP q0.2.1 b).bind fun c=>some c
def bV (c:Int×(List Bool)×(List (List Int))) (a:Int) (b:Int):Option Int:=
 if decide (a<0) then (some (-1)) else ((k9 b).bind fun d=>if d then ((aP c.2.2 a).bind fun e=>(aP e b).bind fun f=>some f) else (some (-1)))
def di (b:Int) (c:Int) (q0:Int×(List Bool)×(List (List Int))) (q1:Int->Option Int) (q2:List Int):Option (Int×Bool):=
 (q1 b).bind fun d=>(bV (q0.1,q0.2.1,q0.2.2) d c).bind fun a=>if decide (a<0) then (some (0,false)) else ((aP q2 a).bind fun e=>if decide (e<0) then (some (0,false)) else ((aP q2 a).bind fun f=>some (f,true)))
def cX (a:Int×(List Bool)×(List (List Int))):Option Yq2:=
 (eE (a.1,a.2.1,a.2.2)).bind fun b=>(aP b a.1).bind fun e=>if decide (e<0) then ((vt).bind fun c=>some (c.1,c.2.1,c.2.2)) else ((aP b a.1).bind fun f=>(fO f (b.length:Int) (fun a0=>dh a0 (a.1,a.2.1,a.2.2) (fun a0=>be a0 b)) (fun a0 a1=>di a0 a1 (a.1,a.2.1,a.2.2) (fun a0=>be a0 b) b)).bind fun d=>some (d.1.1,d.1.2.1,d.1.2.2))
def Ba (b:Int×(List Bool)×(List (List Int))):Option (Yq2×Bool):=
 (cX (b.1,b.2.1,b.2.2)).bind fun a=>if decide ((a.2.1.length:Int)>12) then (some ((0,[],[]),false)) else (some ((a.1,a.2.1,a.2.2),true))
def jm (d:(List Yq1)):Option (Yq2×Bool):=
 (iR d).bind fun a=>if a.2 then ((jk (a.1.1,a.1.2.1,a.1.2.2.1,a.1.2.2.2.1,a.1.2.2.2.2) 200).bind fun b=>if b.2 then ((Ba (b.1.1,b.1.2.1,b.1.2.2)).bind fun c=>some ((c.1.1,c.1.2.1,c.1.2.2),c.2)) else (some ((0,[],[]),false))) else (some ((0,[],[]),false))
def bQ (c:List Yq2) (d:Yq2->Option Bool) (a:Int):Option (Out Int Int):=
 if decide (a<(c.length:Int)) then ((aP c a).bind fun b=>(d (b.1,b.2.1,b.2.2)).bind fun e=>if e then (some (.ret a)) else (some (.nxt (i64.wrap (a+1))))) else (some (.brk a))
def bw (a:List Yq2) (b:Yq2->Option Bool):Option Int:=
 aN (aq (bQ a b) aT 0) (fun r=>some r) (fun c=>some (-1))
def cJ (b:List Bool) (c:List Bool) (a:Int):Option (Out Bool Int):=
 if decide (a<(b.length:Int)) then ((aP b a).bind fun d=>(aP c a).bind fun e=>if d !=e then (some (.ret false)) else (some (.nxt (i64.wrap (a+1))))) else (some (.brk a))
def eZ (a:List Bool) (b:List Bool):Option Bool:=
 if (a.length:Int) !=(b.length:Int) then (some false) else (aN (aq (cJ a b) aT 0) (fun r=>some r) (fun c=>some true))
def bc (b:List (List Int)) (c:List (List Int)) (d:(List Int)->(List Int)->Option Bool) (a:Int):Option (Out Bool Int):=
 if decide (a<(b.length:Int)) then ((aP b a).bind fun e=>(aP c a).bind fun f=>(d e f).bind fun g=>if g then (some (.nxt (i64.wrap (a+1)))) else (some (.ret false))) else (some (.brk a))
def bG (a:List (List Int)) (b:List (List Int)) (c:(List Int)->(List Int)->Option Bool):Option Bool:=
 if (a.length:Int) !=(b.length:Int) then (some false) else (aN (aq (bc a b c) aT 0) (fun r=>some r) (fun d=>some true))
def iq (a:List Int) (b:List Int):Option Bool:=
 (cP a b).bind fun c=>some c
def fl (a:Int×(List Bool)×(List (List Int))) (b:Int×(List Bool)×(List (List Int))):Option Bool:=
 if a.1==b.1 then ((eZ a.2.1 b.2.1).bind fun c=>if c then ((bG a.2.2 b.2.2 (fun a0 a1=>iq a0 a1)).bind fun d=>some d) else (some false)) else (some false)
def nq (a:Int×(List Bool)×(List (List Int))) (q0:Int×(List Bool)×(List (List Int))):Option Bool:=
 (fl (q0.1,q0.2.1,q0.2.2) (a.1,a.2.1,a.2.2)).bind fun b=>some b
def nr (a:(List Yq1)):Option (List Yq1):=
 (bM 32 ([] :List Yq1) a).bind fun b=>some b
def lM (d:List Yq3) (a:Int×(List Yq2)×(List Yq3)):Option (Out (SP×Bool) UB):=
 if decide (a.1<(d.length:Int)) then ((aP d a.1).bind fun c=>(jm c.2.1).bind fun b=>if b.2 then ((bK c.1 1 99).bind fun i=>if i then (if decide (a.1>0) then ((aP d (i64.wrap (a.1 - 1))).bind fun j=>if decide (j.1≥c.1) then (some (.ret (([],[]),false))) else ((bw a.2.1 (fun a0=>nq a0 (b.1.1,b.1.2.1,b.1.2.2))).bind fun g=>Option.bind ((if decide (g<0) then ((bM 56 a.2.1 ([(b.1.1,b.1.2.1,b.1.2.2)])).bind fun k=>some ((a.2.1.length:Int),k,a.2.2)) else (some (g,a.2.1,a.2.2)):Option UB)) (fun e=>(nr c.2.1).bind fun l=>(bM 40 e.2.2 ([(c.1,l,e.1)])).bind fun m=>some (.nxt (i64.wrap (a.1+1),e.2.1,m))))) else ((bw a.2.1 (fun a0=>nq a0 (b.1.1,b.1.2.1,b.1.2.2))).bind fun h=>Option.bind ((if decide (h<0) then ((bM 56 a.2.1 ([(b.1.1,b.1.2.1,b.1.2.2)])).bind fun n=>some ((a.2.1.length:Int),n,a.2.2)) else (some (h,a.2.1,a.2.2)):Option UB)) (fun f=>(nr c.2.1).bind fun o=>(bM 40 f.2.2 ([(c.1,o,f.1)])).bind fun p=>some (.nxt (i64.wrap (a.1+1),f.2.1,p))))) else (some (.ret (([],[]),false)))) else (some (.ret (([],[]),false)))) else (some (.brk (a.1,a.2.1,a.2.2)))
def ua (a:List Yq3):Option (SP×Bool):=
 aN (aq (lM a) aT (0,[],[])) (fun r=>some r) (fun b=>some ((b.2.1,b.2.2),decide ((a.length:Int)<=4)))
def aQ (d:List Yq2) (e:List Yq2) (f:Yq2->Yq2->Option Bool) (a:Int):Option (Out Bool Int):=
 if decide (a<(d.length:Int)) then ((aP d a).bind fun b=>(aP e a).bind fun c=>(f (b.1,b.2.1,b.2.2) (c.1,c.2.1,c.2.2)).bind fun g=>if g then (some (.nxt (i64.wrap (a+1)))) else (some (.ret false))) else (some (.brk a))
def a8 (a:List Yq2) (b:List Yq2) (c:Yq2->Yq2->Option Bool):Option Bool:=
 if (a.length:Int) !=(b.length:Int) then (some false) else (aN (aq (aQ a b c) aT 0) (fun r=>some r) (fun d=>some true))
def aM (d:List Yq3) (e:List Yq3) (f:Yq3->Yq3->Option Bool) (a:Int):Option (Out Bool Int):=
 if decide (a<(d.length:Int)) then ((aP d a).bind fun b=>(aP e a).bind fun c=>(f (b.1,b.2.1,b.2.2) (c.1,c.2.1,c.2.2)).bind fun g=>if g then (some (.nxt (i64.wrap (a+1)))) else (some (.ret false))) else (some (.brk a))
def aY (a:List Yq3) (b:List Yq3) (c:Yq3->Yq3->Option Bool):Option Bool:=
 if (a.length:Int) !=(b.length:Int) then (some false) else (aN (aq (aM a b c) aT 0) (fun r=>some r) (fun d=>some true))
def ct (d:List Yq1) (e:List Yq1) (a:Int):Option (Out Bool Int):=
 if decide (a<(d.length:Int)) then ((aP d a).bind fun b=>(aP e a).bind fun c=>if (b.1==c.1)&&((b.2.1==c.2.1)&&((b.2.2.1==c.2.2.1)&&((b.2.2.2==c.2.2.2)&&true))) then (some (.nxt (i64.wrap (a+1)))) else (some (.ret false))) else (some (.brk a))
def eF (a:List Yq1) (b:List Yq1):Option Bool:=
 if (a.length:Int) !=(b.length:Int) then (some false) else (aN (aq (ct a b) aT 0) (fun r=>some r) (fun c=>some true))
def nc (a:(List Yq1)) (b:(List Yq1)):Option Bool:=
 (eF a b).bind fun c=>some c
def iE (a:Int×((List Yq1))×Int) (b:Int×((List Yq1))×Int):Option Bool:=
 if a.1==b.1 then ((nc a.2.1 b.2.1).bind fun c=>if c then (some (a.2.2==b.2.2)) else (some false)) else (some false)
def ir (a:(List Yq2)×(List Yq3)) (b:(List Yq2)×(List Yq3)):Option Bool:=
 (a8 a.1 b.1 (fun a0 a1=>fl a0 a1)).bind fun c=>if c then ((aY a.2 b.2 (fun a0 a1=>iE a0 a1)).bind fun d=>some d) else (some false)
def cE (a:(List Yq2)×(List Yq3)):Option Bool:=
 (ua a.2).bind fun b=>if b.2 then ((ir (b.1.1,b.1.2) (a.1,a.2)).bind fun c=>some c) else (some false)
def bj (c:List Yq3) (d:Yq3->Option Bool) (a:Int):Option (Out Int Int):=
 if decide (a<(c.length:Int)) then ((aP c a).bind fun b=>(d (b.1,b.2.1,b.2.2)).bind fun e=>if e then (some (.ret a)) else (some (.nxt (i64.wrap (a+1))))) else (some (.brk a))
def bX (a:List Yq3) (b:Yq3->Option Bool):Option Int:=
 aN (aq (bj a b) aT 0) (fun r=>some r) (fun c=>some (-1))
def lN (a:Int×((List Yq1))×Int) (q0:Int):Option Bool:=
 some (a.1==q0)
def jR (a:(List Yq2)×(List Yq3)) (b:Int):Option Int:=
 (bX a.2 (fun a0=>lN a0 b)).bind fun c=>some c
def kQ (a:Int×(List Yq5)) (b:(List Yq2)×(List Yq3)) (c:Int×Int×Int):Option Bool:=
 (bf (a.1,a.2)).bind fun d=>if d then ((cE (b.1,b.2)).bind fun e=>if e then ((jR (b.1,b.2) c.2.1).bind fun f=>if decide (f≥0) then (if decide (c.2.2≥0) then ((cq (a.1,a.2)).bind fun g=>some (decide (c.2.2<g))) else (some false)) else (some false)) else (some false)) else (some false)
def jn (a:List Int):Option (List Int):=
 (bM 8 ([] :List Int) a).bind fun b=>some b
def lO (a:(List Int)×(List Yq1)):Option Yq5:=
 (jn a.1).bind fun b=>(bM 32 ([] :List Yq1) a.2).bind fun c=>some (b,c)
def o6 (a:Int×(List Yq5)) (b:Int):Option (Yq5×Bool):=
 (bf (a.1,a.2)).bind fun e=>if e then ((cq (a.1,a.2)).bind fun f=>(bK b a.1 f).bind fun g=>if g then ((aP a.2 (i64.wrap (b - a.1))).bind fun c=>(lO (c.1,c.2)).bind fun d=>some ((d.1,d.2),true)) else (some (([],[]),false))) else (some (([],[]),false))
def eV (b:Int×(List Bool)×(List (List Int))) (a:Int×Int×(List Bool)×(List (List Int))):Option (Out Yq2 (Int×Int×(List Bool)×(List (List Int)))):=
 if decide (a.1<(b.2.2.length:Int)) then ((aP b.2.2 a.1).bind fun c=>(jn c).bind fun d=>(bM 24 a.2.2.2 ([d])).bind fun e=>some (.nxt (i64.wrap (a.1+1),a.2.1,a.2.2.1,e))) else (some (.brk (a.1,a.2.1,a.2.2.1,a.2.2.2)))
def jS (a:Int×(List Bool)×(List (List Int))):Option Yq2:=
 (bM 1 ([] :List Bool) a.2.1).bind fun c=>aN (aq (eV a) aT (0,a.1,c,[])) (fun r=>some r) (fun b=>some (b.2.1,b.2.2.1,b.2.2.2))
def fY (a:(List Yq2)×(List Yq3)) (e:Int):Option (Yq2×Bool):=
 (jR (a.1,a.2) e).bind fun d=>if decide (d<0) then (some ((0,[],[]),false)) else ((cE (a.1,a.2)).bind fun f=>if f then ((aP a.2 d).bind fun g=>(aP a.1 g.2.2).bind fun b=>(jS (b.1,b.2.1,b.2.2)).bind fun c=>some ((c.1,c.2.1,c.2.2),true)) else (some ((0,[],[]),false)))
def cK (c:Int×(List Bool)×(List (List Int))) (b:List Int) (a:Int):Option (Out Bool Int):=
 if decide (a<(b.length:Int)) then ((aP b a).bind fun d=>(bK d (-1) (i64.wrap ((c.2.1.length:Int) - 1))).bind fun e=>if e then (some (.nxt (i64.wrap (a+1)))) else (some (.ret false))) else (some (.brk a))
def fa (b:Int×(List Bool)×(List (List Int))) (a:Int):Option (Out Bool Int):=
 if decide (a<(b.2.2.length:Int)) then ((aP b.2.2 a).bind fun c=>aN (aq (cK b c) aT 0) (fun r=>some (.ret r)) (fun d=>if (c.length:Int) !=9 then (some (.ret false)) else (some (.nxt (i64.wrap (a+1)))))) else (some (.brk a))
def cr (a:Int×(List Bool)×(List (List Int))):Option Bool:=
 (bK (a.2.1.length:Int) 1 12).bind fun b=>if b then ((bK a.1 0 (i64.wrap ((a.2.1.length:Int) - 1))).bind fun c=>if c then (if (a.2.2.length:Int) !=(a.2.1.length:Int) then (some false) else (aN (aq (fa a) aT 0) (fun r=>some r) (fun d=>some true))) else (some false)) else (some false)
def dX (c:(List Int)×(List Yq1)) (b:List Int) (a:Int):Option (Out Bool Int):=
 if decide (a<(b.length:Int)) then ((aP b a).bind fun d=>(bK d 0 (i64.wrap ((c.1.length:Int) - 1))).bind fun e=>if e then (some (.nxt (i64.wrap (a+1)))) else (some (.ret false))) else (some (.brk a))
def cY (a:(List Int)×(List Yq1)) (b:Int×(List Bool)×(List (List Int))) (c:List Int):Option Bool:=
 aN (aq (dX a c) aT 0) (fun r=>some r) (fun f=>(a7 (a.1,a.2)).bind fun d=>if d then ((cr (b.1,b.2.1,b.2.2)).bind fun e=>some e) else (some false))
def lP (c:List Int) (a:(List Int)×Int×List Int):Option (Out (List Int) ((List Int)×Int×List Int)):=
 if decide (a.2.1<(c.length:Int)) then ((aP c a.2.1).bind fun b=>(aP a.2.2 b).bind fun e=>(bM 8 a.1 ([b])).bind fun d=>some (.nxt (d,i64.wrap (a.2.1+1),a.2.2.set b.toNat 0))) else (some (.brk (a.1,a.2.1,a.2.2)))
def lQ (c:List Int) (a:(List Int)×Int×List Int):Option (Out (List Int) ((List Int)×Int×List Int)):=
 if decide (a.2.1<(c.length:Int)) then (Option.bind (((aP c a.2.1).bind fun b=>(aP a.2.2 b).bind fun e=>if decide (e<0) then ((aP a.1 0).bind fun f=>(aP a.2.2 f).bind fun g=>(aP a.2.2 b).bind fun i=>(bM 8 a.1 ([b])).bind fun h=>some (h,a.2.2.set b.toNat (i64.wrap (g+1)))) else (some (a.1,a.2.2)):Option ((List Int)×List Int))) (fun d=>some (.nxt (d.1,i64.wrap (a.2.1+1),d.2)))) else (some (.brk (a.1,a.2.1,a.2.2)))
def lR (c:List (List Int)) (a:(List Int)×List Int):Option (Out (List Int) ((List Int)×List Int)):=
 if decide ((a.1.length:Int)>0) then ((aP a.1 0).bind fun d=>(aP c d).bind fun e=>aN (aq (lQ e) aT (a.1,0,a.2)) (fun f=>some (.ret f)) (fun b=>(chk (And ((0:Int)<=1) (1<=(b.1.length:Int)))).bind fun _=>some (.nxt (b.1.drop 1,b.2.2)))) else (some (.brk (a.1,a.2)))
def ub (a:List (List Int)) (c:List Int):Option (List Int):=
 (cD ([(-1)]) (a.length:Int)).bind fun d=>aN (aq (lP c) aT (([] :List Int),0,d)) (fun e=>some e) (fun b=>aN (aq (lR a) aT (b.1,b.2.2)) (fun f=>some f) (fun g=>some g.2))
def qi (b:Int) (a:(List Int)×Int):Option QR:=
 (chk (0<=a.2)).bind fun _=>if (n9 b a.2) !=0 then (Option.bind (((chk (0<=a.2)).bind fun _=>if (qp (n9 b a.2) 1)==1 then ((bM 8 a.1 ([a.2])).bind fun c=>some c) else (some a.1):Option (List Int))) (fun d=>some (.nxt (d,i64.wrap (a.2+1))))) else (some (.brk (a.1,a.2)))
def jo (a:Int):Option (List Int):=
 aN (aq (qi a) aT (([] :List Int),0)) (fun r=>some r) (fun b=>some b.1)
def sN (a:Int×Int×Int×Int) (b:Bool):Option Int:=
 if b then (some (i64.wrap ((i64.wrap (2*a.2.2.2))+1))) else (some (i64.wrap (2*a.2.2.2)))
def o7 (d:(List Int)×List Yq1) (b:Int×List (List Yq7)):Option (Out (List (List Yq7)) (Int×List (List Yq7))):=
 if decide (b.1<(d.2.length:Int)) then ((aP d.2 b.1).bind fun a=>(aP b.2 a.2.1).bind fun e=>(sN (a.1,a.2.1,a.2.2.1,a.2.2.2) false).bind fun f=>(bM 32 e ([((a.1,false),f,a.2.2.1)])).bind fun c=>(aP b.2 a.2.1).bind fun j=>(chk (a.2.1<((b.2.set a.2.1.toNat ([] :List Yq7)).length:Int))).bind fun _=>(chk (a.2.1=a.2.1)).bind fun _=>(aP (b.2.set a.2.1.toNat c) a.2.2.1).bind fun g=>(sN (a.1,a.2.1,a.2.2.1,a.2.2.2) true).bind fun h=>(bM 32 g ([((a.1,true),h,a.2.1)])).bind fun i=>(aP (b.2.set a.2.1.toNat c) a.2.2.1).bind fun k=>(chk (a.2.2.1<(((b.2.set a.2.1.toNat c).set a.2.2.1.toNat ([] :List Yq7)).length:Int))).bind fun _=>(chk (a.2.2.1=a.2.2.1)).bind fun _=>some (.nxt (i64.wrap (b.1+1),(b.2.set a.2.1.toNat c).set a.2.2.1.toNat i))) else (some (.brk (b.1,b.2)))
def wN (a:(List Int)×List Yq1):Option (List (List Yq7)):=
 (mkI 24 (a.1.length:Int) ([] :List Yq7)).bind fun b=>aN (aq (o7 a) aT (0,b)) (fun c=>some c) (fun d=>some d.2)
def kj (b:Int×(List Bool)×(List (List Int))) (c:Int) (a:Int×Int):Option MP:=
 if decide (a.2≥0) then ((chk (0<=a.2)).bind fun _=>if (qp (n9 a.1 a.2) 1)==0 then ((chk (0<=a.2)).bind fun _=>(bV (b.1,b.2.1,b.2.2) a.2 (i64.wrap (6+c))).bind fun d=>some (.nxt (orI a.1 (vZ 1 a.2),d))) else (some (.brk (a.1,a.2)))) else (some (.brk (a.1,a.2)))
def kR (a:Int×(List Bool)×(List (List Int))) (b:Int) (c:Int):Option Int:=
 aN (aq (kj a c) aT (0,b)) (fun r=>some r) (fun d=>some d.1)
def nt (b:Int×(List Bool)×(List (List Int))) (e:Int) (d:List Int) (a:Int×Int):Option MP:=
 if decide (a.2<(d.length:Int)) then (Option.bind (((aP d a.2).bind fun f=>(bV (b.1,b.2.1,b.2.2) f e).bind fun c=>if decide (c≥0) then ((chk (0<=c)).bind fun _=>some (orI a.1 (vZ 1 c))) else (some a.1):Option Int)) (fun g=>some (.nxt (g,i64.wrap (a.2+1))))) else (some (.brk (a.1,a.2)))
def jq (b:Int×(List Bool)×(List (List Int))) (d:Int) (e:Int) (c:List Int) (a:Int×Int):Option MP:=
 if decide (a.2<(c.length:Int)) then ((aP c a.2).bind fun f=>(kR (b.1,b.2.1,b.2.2) f d).bind fun g=>(jo g).bind fun h=>aN (aq (nt b e h) aT (a.1,0)) (fun r=>some (.ret r)) (fun i=>some (.nxt (i.1,i64.wrap (a.2+1))))) else (some (.brk (a.1,a.2)))
def sO (a:Int×(List Bool)×(List (List Int))) (b:Int) (c:Int) (d:Int):Option Int:=
 (jo b).bind fun e=>aN (aq (jq a c d e) aT (0,0)) (fun r=>some r) (fun f=>some f.1)
def dN (b:Int×(List Bool)×List (List Int)) (c:Int×List (List Int)) (d:Int×List (List Int)) (f:(Int×Bool)×Int×Int) (e:List Int) (a:Int×List (List Int)):Option (Out (List (List Int)) (Int×List (List Int))):=
 if decide (a.1<(e.length:Int)) then ((aP e a.1).bind fun g=>(aP a.2 (i64.wrap ((i64.wrap (c.1*(b.2.1.length:Int)))+d.1))).bind fun h=>(bM 8 h ([i64.wrap ((i64.wrap (f.2.2*(b.2.1.length:Int)))+g)])).bind fun i=>(aP a.2 (i64.wrap ((i64.wrap (c.1*(b.2.1.length:Int)))+d.1))).bind fun j=>(chk ((i64.wrap ((i64.wrap (c.1*(b.2.1.length:Int)))+d.1))<((a.2.set ((i64.wrap ((i64.wrap (c.1*(b.2.1.length:Int)))+d.1)).toNat) ([] :List Int)).length:Int))).bind fun _=>(chk ((i64.wrap ((i64.wrap (c.1*(b.2.1.length:Int)))+d.1))=(i64.wrap ((i64.wrap (c.1*(b.2.1.length:Int)))+d.1)))).bind fun _=>some (.nxt (i64.wrap (a.1+1),a.2.set ((i64.wrap ((i64.wrap (c.1*(b.2.1.length:Int)))+d.1)).toNat) i))) else (some (.brk (a.1,a.2)))
def fv (g:(List Int)×List Yq1) (b:Int×(List Bool)×List (List Int)) (d:Int×List (List Int)) (e:List Yq7) (c:Int×List (List Int)) (a:Int×List (List Int)):Option (Out (List (List Int)) (Int×List (List Int))):=
 if decide (a.1<(e.length:Int)) then ((aP e a.1).bind fun f=>(chk (0<=c.1)).bind fun _=>(aP g.1 d.1).bind fun h=>(sO (b.1,b.2.1,b.2.2) (vZ 1 c.1) h f.2.1).bind fun i=>(jo i).bind fun j=>aN (aq (dN b d c f j) aT (0,a.2)) (fun k=>some (.ret k)) (fun l=>some (.nxt (i64.wrap (a.1+1),l.2)))) else (some (.brk (a.1,a.2)))
def fw (c:(List Int)×List Yq1) (b:Int×(List Bool)×List (List Int)) (d:Int×List (List Int)) (e:List Yq7) (a:Int×List (List Int)):Option (Out (List (List Int)) (Int×List (List Int))):=
 if decide (a.1<(b.2.1.length:Int)) then (aN (aq (fv c b d e a) aT (0,a.2)) (fun f=>some (.ret f)) (fun g=>some (.nxt (i64.wrap (a.1+1),g.2)))) else (some (.brk (a.1,a.2)))
def iu (c:(List Int)×List Yq1) (d:Int×(List Bool)×List (List Int)) (b:List (List Yq7)) (a:Int×List (List Int)):Option (Out (List (List Int)) (Int×List (List Int))):=
 if decide (a.1<(b.length:Int)) then ((aP b a.1).bind fun e=>aN (aq (fw c d a e) aT (0,a.2)) (fun f=>some (.ret f)) (fun g=>some (.nxt (i64.wrap (a.1+1),g.2)))) else (some (.brk (a.1,a.2)))
def fP (a:(List Int)×List Yq1) (b:Int×(List Bool)×List (List Int)):Option (List (List Int)):=
 (mkI 24 (i64.wrap ((b.2.1.length:Int)*(a.1.length:Int))) ([] :List Int)).bind fun c=>(wN (a.1,a.2)).bind fun d=>aN (aq (iu a b d) aT (0,c)) (fun e=>some e) (fun f=>some f.2)
def gL (b:(List Int)×List Yq1) (a:Int×(List Bool)×List (List Int)) (c:Int):Option (List Int):=
 (cY (b.1,b.2) (a.1,a.2.1,a.2.2) ([c])).bind fun e=>if e then ((fP (b.1,b.2) (a.1,a.2.1,a.2.2)).bind fun f=>(ub f ([i64.wrap ((i64.wrap (c*(a.2.1.length:Int)))+a.1)])).bind fun d=>((chk (0<(d.length:Int))).bind fun _=>some d).bind fun g=>some g) else (some ([] :List Int))
def kF (c:Int×(List Bool)×(List (List Int))) (b:List Int) (a:Int):Option (Out Bool Int):=
 if decide (a<(b.length:Int)) then ((aP b a).bind fun d=>(aP c.2.1 d).bind fun e=>if e then (some (.ret true)) else (some (.nxt (i64.wrap (a+1))))) else (some (.brk a))
def fQ (a:Int×(List Bool)×(List (List Int))) (d:Int) (c:List Int) (b:Int):Option (Out Bool Int):=
 if decide (b<(c.length:Int)) then ((aP c b).bind fun e=>(kR (a.1,a.2.1,a.2.2) e d).bind fun f=>(jo f).bind fun g=>aN (aq (kF a g) aT 0) (fun r=>some (.ret r)) (fun h=>some (.nxt (i64.wrap (b+1))))) else (some (.brk b))
def lS (a:Int×(List Bool)×(List (List Int))) (b:Int) (c:Int):Option Bool:=
 (jo b).bind fun d=>aN (aq (fQ a c d) aT 0) (fun r=>some r) (fun e=>some false)
def gl (a:List Int):Option (List Int):=R.SI a
def cL (c:List Int) (b:Int) (a:Int×Int×List Int):Option (Out (List Int) (Int×Int×List Int)):=
 if decide (a.2.1<((0+((c.length:Int) - 0)) - (0+b))) then (Option.bind (((chk (And (0<=a.2.1) (a.2.1<((0+((c.length:Int) - 0)) - (0+b))))).bind fun _=>(aP a.2.2 ((0+b)+a.2.1)).bind fun e=>(chk (And (0<=(i64.wrap (a.2.1 - 1))) ((i64.wrap (a.2.1 - 1))<((0+((c.length:Int) - 0)) - (0+b))))).bind fun _=>(aP a.2.2 ((0+b)+(i64.wrap (a.2.1 - 1)))).bind fun f=>if e !=f then ((chk (And (0<=a.2.1) (a.2.1<((0+((c.length:Int) - 0)) - (0+b))))).bind fun _=>(aP a.2.2 ((0+b)+a.2.1)).bind fun g=>(aP a.2.2 a.1).bind fun h=>some (i64.wrap (a.1+1),a.2.2.set a.1.toNat g)) else (some (a.1,a.2.2)):Option (Int×List Int))) (fun d=>some (.nxt (d.1,i64.wrap (a.2.1+1),d.2)))) else (some (.brk (a.1,a.2.1,a.2.2)))
def bR (c:List Int) (b:Int):Option (Out (List Int) Int):=
 if decide (b<(c.length:Int)) then ((aP c b).bind fun d=>(aP c (i64.wrap (b - 1))).bind fun e=>if d==e then ((chk (And (0<=b) (And (b<=((c.length:Int) - 0)) ((0+((c.length:Int) - 0))<=(c.length:Int))))).bind fun _=>aN (aq (cL c b) aT (b,1,c)) (fun f=>some (.ret f)) (fun a=>(chk (And (0<=a.1) (And (a.1<=((a.2.2.length:Int) - 0)) ((0+((a.2.2.length:Int) - 0))<=(a.2.2.length:Int))))).bind fun _=>(chk (And ((0+a.1)<=(0+((a.2.2.length:Int) - 0))) ((0+((a.2.2.length:Int) - 0))<=(a.2.2.length:Int)))).bind fun _=>(chk (And ((0:Int)<=0) (And (0<=a.1) ((0+a.1)<=((rl a.2.2 ((0+a.1).toNat) ((0+((a.2.2.length:Int) - 0)).toNat) 0).length:Int))))).bind fun _=>some (.ret (((rl a.2.2 ((0+a.1).toNat) ((0+((a.2.2.length:Int) - 0)).toNat) 0).take ((0+a.1).toNat)).drop 0)))) else (some (.nxt (i64.wrap (b+1))))) else (some (.brk b))
def dk (a:List Int):Option (List Int):=
 if decide ((a.length:Int)<2) then (some a) else (aN (aq (bR a) aT 1) (fun b=>some b) (fun c=>some a))
def lT (a:List Int):Option (List Int):=
 (jn a).bind fun b=>(gl b).bind fun c=>(dk c).bind fun d=>some d
def wO (a:(List Int)×Int):Option QR:=
 if decide (a.2<((0:Nat):Int)) then (none) else (some (.brk (a.1,a.2)))
def fZ (d:(List Int)×List Yq1) (b:Int×(List Bool)×List (List Int)) (c:List Int) (a:(List Int)×Int):Option QR:=
 if decide (a.2<(c.length:Int)) then (Option.bind (((aP c a.2).bind fun e=>if decide (e≥0) then ((chk ((b.2.1.length:Int)≠0)).bind fun _=>(chk (0<=(Int.tmod a.2 (b.2.1.length:Int)))).bind fun _=>(chk ((b.2.1.length:Int)≠0)).bind fun _=>(aP d.1 (FD a.2 (b.2.1.length:Int))).bind fun f=>(lS (b.1,b.2.1,b.2.2) (vZ 1 (Int.tmod a.2 (b.2.1.length:Int))) f).bind fun g=>if g then ((chk ((b.2.1.length:Int)≠0)).bind fun _=>(bM 8 a.1 ([FD a.2 (b.2.1.length:Int)])).bind fun h=>some h) else (some a.1)) else (some a.1):Option (List Int))) (fun i=>some (.nxt (i,i64.wrap (a.2+1))))) else (some (.brk (a.1,a.2)))
def jr (b:(List Int)×List Yq1) (a:Int×(List Bool)×List (List Int)) (d:Int):Option (List Int):=
 (gL (b.1,b.2) (a.1,a.2.1,a.2.2) d).bind fun c=>if decide ((c.length:Int)=0) then (aN (aq (wO) aT (([] :List Int),0)) (fun e=>some e) (fun f=>(lT f.1).bind fun g=>some g)) else (aN (aq (fZ b a c) aT (([] :List Int),0)) (fun h=>some h) (fun i=>(lT i.1).bind fun j=>some j))
def mF (c:Yq4×Int) (b:List Int) (a:Yq4×Int):Option (Out Yq4 (Yq4×Int)):=
 if decide (a.2<(b.length:Int)) then ((aP b a.2).bind fun d=>(bM 16 a.1 ([(c.2,d)])).bind fun e=>some (.nxt (e,i64.wrap (a.2+1)))) else (some (.brk (a.1,a.2)))
def gM (b:(List Int)×(List Yq1)) (c:Int×(List Bool)×(List (List Int))) (a:Yq4×Int):Option (Out Yq4 (Yq4×Int)):=
 if decide (a.2<(b.1.length:Int)) then ((jr (b.1,b.2) (c.1,c.2.1,c.2.2) a.2).bind fun d=>aN (aq (mF a d) aT (a.1,0)) (fun r=>some (.ret r)) (fun e=>some (.nxt (e.1,i64.wrap (a.2+1))))) else (some (.brk (a.1,a.2)))
def gm (b:(List Int)×(List Yq1)) (a:Int×(List Bool)×(List (List Int))):Option Yq4:=
 (cY (b.1,b.2) (a.1,a.2.1,a.2.2) ([])).bind fun c=>if c then (aN (aq (gM b a) aT (([] :List (Int×Int)),0)) (fun r=>some r) (fun d=>some d.1)) else (some ([]))
def eQ (c:(List Yq2)×(List Yq3)) (a:(List Int)×(List Yq1)) (d:Int):Option (Yq4×Bool):=
 (fY (c.1,c.2) d).bind fun b=>if b.2 then ((a7 (a.1,a.2)).bind fun e=>if e then ((gm (a.1,a.2) (b.1.1,b.1.2.1,b.1.2.2)).bind fun f=>some (f,true)) else (some ([],false))) else (some ([],false))
def iw (b:Int×(List Yq5)) (c:(List Yq2)×(List Yq3)) (e:Int) (f:Int):Option (Yq4×Bool):=
 (o6 (b.1,b.2) f).bind fun a=>if a.2 then ((eQ (c.1,c.2) (a.1.1,a.1.2) e).bind fun d=>some (d.1,d.2)) else (some ([],false))
def b7 (b:List (Int×Int)) (d:(Int×Int)->Option Bool) (a:Int):Option (Out Int Int):=
 if decide (a<(b.length:Int)) then ((aP b a).bind fun c=>(d (c.1,c.2)).bind fun e=>if e then (some (.ret a)) else (some (.nxt (i64.wrap (a+1))))) else (some (.brk a))
def bs (a:List (Int×Int)) (b:(Int×Int)->Option Bool):Option Int:=
 aN (aq (b7 a b) aT 0) (fun r=>some r) (fun c=>some (-1))
def bW (d:(Int×Int)->Option Bool) (a:Int×Int×List (Int×Int)):Option (Out Yq4 (Int×Int×List (Int×Int))):=
 if decide (a.2.1<(a.2.2.length:Int)) then (Option.bind (((aP a.2.2 a.2.1).bind fun b=>(d (b.1,b.2)).bind fun e=>if e then (some (a.1,a.2.2)) else ((aP a.2.2 a.1).bind fun f=>some (i64.wrap (a.1+1),a.2.2.set a.1.toNat (b.1,b.2))):Option (Int×List (Int×Int)))) (fun c=>some (.nxt (c.1,i64.wrap (a.2.1+1),c.2)))) else (some (.brk (a.1,a.2.1,a.2.2)))
def cw (b:List (Int×Int)) (d:(Int×Int)->Option Bool):Option Yq4:=
 (bs b d).bind fun c=>if c==(-1) then (some b) else (aN (aq (bW d) aT (c,i64.wrap (c+1),b)) (fun e=>some e) (fun a=>(chk (And (0<=a.1) (And (a.1<=((a.2.2.length:Int) - 0)) ((0+((a.2.2.length:Int) - 0))<=(a.2.2.length:Int))))).bind fun _=>(chk (And ((0+a.1)<=(0+((a.2.2.length:Int) - 0))) ((0+((a.2.2.length:Int) - 0))<=(a.2.2.length:Int)))).bind fun _=>(chk (And ((0:Int)<=0) (And (0<=a.1) ((0+a.1)<=((rl a.2.2 ((0+a.1).toNat) ((0+((a.2.2.length:Int) - 0)).toNat) (0,0)).length:Int))))).bind fun _=>some (((rl a.2.2 ((0+a.1).toNat) ((0+((a.2.2.length:Int) - 0)).toNat) (0,0)).take ((0+a.1).toNat)).drop 0)))
def lU (a:Int) (b:Int):Option Int:=
 if decide (a<b) then (some (-1)) else (if decide (a>b) then (some 1) else (some 0))
def iF (a:Int×Int) (b:Int×Int):Option Int:=
 if a.1 !=b.1 then ((lU a.1 b.1).bind fun c=>some c) else ((lU a.2 b.2).bind fun d=>some d)
def dO (a:List (Int×Int)) (b:Unit):Option Yq4:=R.SF R.L6 a
def cx (c:List (Int×Int)) (b:Int) (a:Int×Int×List (Int×Int)):Option (Out Yq4 (Int×Int×List (Int×Int))):=
 if decide (a.2.1<((0+((c.length:Int) - 0)) - (0+b))) then (Option.bind (((chk (And (0<=a.2.1) (a.2.1<((0+((c.length:Int) - 0)) - (0+b))))).bind fun _=>(aP a.2.2 ((0+b)+a.2.1)).bind fun d=>(chk (And (0<=(i64.wrap (a.2.1 - 1))) ((i64.wrap (a.2.1 - 1))<((0+((c.length:Int) - 0)) - (0+b))))).bind fun _=>(aP a.2.2 ((0+b)+(i64.wrap (a.2.1 - 1)))).bind fun e=>if Bool.and.match_1 (fun (h:Bool)=>Bool) (d.1==e.1) (fun (i:Unit)=>false) (fun (j:Unit)=>Bool.and.match_1 (fun (k:Bool)=>Bool) (d.2==e.2) (fun (l:Unit)=>false) (fun (m:Unit)=>true)) then (some (a.1,a.2.2)) else ((chk (And (0<=a.2.1) (a.2.1<((0+((c.length:Int) - 0)) - (0+b))))).bind fun _=>(aP a.2.2 ((0+b)+a.2.1)).bind fun f=>(aP a.2.2 a.1).bind fun n=>some (i64.wrap (a.1+1),a.2.2.set a.1.toNat (f.1,f.2))):Option (Int×List (Int×Int)))) (fun g=>some (.nxt (g.1,i64.wrap (a.2.1+1),g.2)))) else (some (.brk (a.1,a.2.1,a.2.2)))
def bH (c:List (Int×Int)) (b:Int):Option (Out Yq4 Int):=
 if decide (b<(c.length:Int)) then ((aP c b).bind fun d=>(aP c (i64.wrap (b - 1))).bind fun e=>if Bool.and.match_1 (fun (g:Bool)=>Bool) (d.1==e.1) (fun (h:Unit)=>false) (fun (i:Unit)=>Bool.and.match_1 (fun (j:Bool)=>Bool) (d.2==e.2) (fun (k:Unit)=>false) (fun (l:Unit)=>true)) then ((chk (And (0<=b) (And (b<=((c.length:Int) - 0)) ((0+((c.length:Int) - 0))<=(c.length:Int))))).bind fun _=>aN (aq (cx c b) aT (b,1,c)) (fun f=>some (.ret f)) (fun a=>(chk (And (0<=a.1) (And (a.1<=((a.2.2.length:Int) - 0)) ((0+((a.2.2.length:Int) - 0))<=(a.2.2.length:Int))))).bind fun _=>(chk (And ((0+a.1)<=(0+((a.2.2.length:Int) - 0))) ((0+((a.2.2.length:Int) - 0))<=(a.2.2.length:Int)))).bind fun _=>(chk (And ((0:Int)<=0) (And (0<=a.1) ((0+a.1)<=((rl a.2.2 ((0+a.1).toNat) ((0+((a.2.2.length:Int) - 0)).toNat) (0,0)).length:Int))))).bind fun _=>some (.ret (((rl a.2.2 ((0+a.1).toNat) ((0+((a.2.2.length:Int) - 0)).toNat) (0,0)).take ((0+a.1).toNat)).drop 0)))) else (some (.nxt (i64.wrap (b+1))))) else (some (.brk b))
def cU (a:List (Int×Int)):Option Yq4:=
 if decide ((a.length:Int)<2) then (some a) else (aN (aq (bH a) aT 1) (fun b=>some b) (fun c=>some a))
def o8 (a:List (Int×Int)):Option Yq4:=
 (bM 16 ([] :List (Int×Int)) a).bind fun b=>(dO b ()).bind fun c=>(cU c).bind fun d=>some d
def cM (b:List (Int×Int)) (c:Int×Int) (a:Int):Option (Out Int Int):=
 if decide (a<(b.length:Int)) then ((aP b a).bind fun d=>if ((c.1==d.1)&&((c.2==d.2)&&true)) then (some (.ret a)) else (some (.nxt (i64.wrap (a+1))))) else (some (.brk a))
def dm (a:List (Int×Int)) (b:Int×Int):Option Int:=
 aN (aq (cM a b) aT 0) (fun r=>some r) (fun c=>some (-1))
def bS (b:List (Int×Int)) (a:Int×Int):Option Bool:=
 (dm b (a.1,a.2)).bind fun c=>some (decide (c≥0))
def kS (a:Int×Int) (q0:List (Int×Int)):Option Bool:=
 (bS q0 (a.1,a.2)).bind fun b=>some b
def dP (a:List (Int×Int)) (b:List (Int×Int)):Option Yq4:=
 (o8 a).bind fun c=>(cw c (fun (d:Int×Int)=>kS d b)).bind fun e=>some e
def kG (a:List (Int×Int)) (b:List (Int×Int)):Option (Yq4×Yq4):=
 (dP b a).bind fun c=>(dP a b).bind fun d=>some (c,d)
def kT (b:Int×List Yq8) (c:(List Yq6)×List IJ) (a:Int×Int×Int) (d:Int):Option (XZ×HO×Bool):=
 (iw (b.1,b.2) (c.1,c.2) a.2.1 d).bind fun f=>Option.bind ((if decide (a.2.2<b.1) then (some (d,true,f.1,([] :List (Int×Int)))) else ((iw (b.1,b.2) (c.1,c.2) a.2.1 a.2.2).bind fun h=>(kG h.1 f.1).bind fun g=>some (d,false,g.1,g.2)):Option XZ)) (fun e=>some ((e.1,e.2.1,e.2.2.1,e.2.2.2),(a.1,a.2.1,d),true))
def gN (c:Int×List Yq8) (d:(List Yq6)×List IJ) (a:Int×Int×Int):Option (XZ×HO×Bool):=
 (kQ (c.1,c.2) (d.1,d.2) (a.1,a.2.1,a.2.2)).bind fun e=>if e then ((kT (c.1,c.2) (d.1,d.2) (a.1,a.2.1,a.2.2) (Max.max c.1 (i64.wrap (a.2.2+1)))).bind fun b=>some ((b.1.1,b.1.2.1,b.1.2.2.1,b.1.2.2.2),(b.2.1.1,b.2.1.2.1,b.2.1.2.2),b.2.2)) else (some ((0,false,([] :List (Int×Int)),([] :List (Int×Int))),(a.1,a.2.1,a.2.2),false))
def j3 (c:Int×(List Yq5)) (d:(List Yq2)×(List Yq3)) (a:(List MO)×Int×Int×Int):Option (Out ((List MO)×HO) ((List MO)×Int×Int×Int)):=
 (gN (c.1,c.2) (d.1,d.2) (a.2.1,a.2.2.1,a.2.2.2)).bind fun b=>if b.2.2 then ((bM 64 a.1 ([(b.1.1,b.1.2.1,(b.1.2.2.1,b.1.2.2.2))])).bind fun e=>some (.nxt (e,b.2.1.1,b.2.1.2.1,b.2.1.2.2))) else (some (.ret (a.1,(a.2.1,a.2.2.1,a.2.2.2))))
def gO (b:Int×(List Yq5)) (c:(List Yq2)×(List Yq3)) (a:Int×Int×Int):Option ((List MO)×HO):=
 aN (aq (j3 b c) aT (([] :List MO),a.1,a.2.1,a.2.2)) (fun r=>some r) (fun d=>none)
def gp (a:Int×(List Yq5)) (b:(List Yq2)×(List Yq3)) (c:Int×Int×Int):Option Bool:=
 (aX (a.1,a.2)).bind fun d=>if d then ((bI (b.1,b.2)).bind fun e=>if e then ((fS (b.1,b.2) c.2.1).bind fun f=>if decide (f≥0) then (if decide (c.2.2≥0) then ((aR (a.1,a.2)).bind fun g=>some (decide (c.2.2<g))) else (some false)) else (some false)) else (some false)) else (some false)
def b8 (a:Int×(List Yq5)) (b:Int):Option (Yq5×Bool):=
 (aX (a.1,a.2)).bind fun e=>if e then ((aR (a.1,a.2)).bind fun f=>(dj b a.1 f).bind fun g=>if g then ((aP a.2 (i64.wrap (b - a.1))).bind fun c=>(bZ (c.1,c.2)).bind fun d=>some ((d.1,d.2),true)) else (some (([],[]),false))) else (some (([],[]),false))
def cV (a:(List Yq2)×(List Yq3)) (e:Int):Option (Yq2×Bool):=
 (fS (a.1,a.2) e).bind fun d=>(bI (a.1,a.2)).bind fun f=>if f then (if decide (d<0) then (some ((0,[],[]),false)) else ((aP a.2 d).bind fun g=>(aP a.1 g.2.2).bind fun b=>(oY (b.1,b.2.1,b.2.2)).bind fun c=>some ((c.1,c.2.1,c.2.2),true))) else (some ((0,[],[]),false))
def iK (b:Int×(List Bool)×(List (List Int))) (c:Int) (a:Int):Option (Out Bool Int):=
 if decide (a<9) then ((aP b.2.2 c).bind fun d=>(aP d a).bind fun e=>(dj e (-1) (i64.wrap ((b.2.1.length:Int) - 1))).bind fun f=>if f then (some (.nxt (i64.wrap (a+1)))) else (some (.ret false))) else (some (.brk a))
def nf (b:Int×(List Bool)×(List (List Int))) (a:Int):Option (Out Bool Int):=
 if decide (a<(b.2.1.length:Int)) then ((aP b.2.2 a).bind fun c=>if (c.length:Int) !=9 then (some (.ret false)) else (aN (aq (iK b a) aT 0) (fun r=>some (.ret r)) (fun d=>some (.nxt (i64.wrap (a+1)))))) else (some (.brk a))
def o9 (a:Int×(List Bool)×(List (List Int))):Option Bool:=
 (dj a.1 0 (i64.wrap ((a.2.1.length:Int) - 1))).bind fun b=>if b then (if (a.2.2.length:Int) !=(a.2.1.length:Int) then (some false) else (aN (aq (nf a) aT 0) (fun r=>some r) (fun c=>some true))) else (some false)
def cR (a:Int×(List Bool)×(List (List Int))):Option Bool:=
 if decide ((a.2.1.length:Int)<=12) then ((o9 (a.1,a.2.1,a.2.2)).bind fun b=>some b) else (some false)
def gq (b:(List Int)×(List Yq1)) (a:Int×(List Bool)×(List (List Int))) (c:Int) (d:Int):Option Bool:=
 (a6 (b.1,b.2)).bind fun e=>if e then ((cR (a.1,a.2.1,a.2.2)).bind fun f=>if f then ((dj c 0 (i64.wrap ((b.1.length:Int) - 1))).bind fun g=>if g then ((dj d 0 (i64.wrap ((a.2.1.length:Int) - 1))).bind fun h=>some h) else (some false)) else (some false)) else (some false)
def dQ (b:Int×(List Bool)×(List (List Int))) (c:Int) (a:Int×Int):Option MP:=
 if decide (a.1≥0) then ((chk (0<=a.1)).bind fun _=>if (qp (n9 a.2 a.1) 1)==0 then ((chk (0<=a.1)).bind fun _=>(aP b.2.2 a.1).bind fun d=>(aP d (i64.wrap (6+c))).bind fun e=>some (.nxt (e,orI a.2 (vZ 1 a.1)))) else (some (.brk (a.1,a.2)))) else (some (.brk (a.1,a.2)))
def c7 (a:Int×(List Bool)×(List (List Int))) (b:Int) (c:Int):Option Int:=
 aN (aq (dQ a c) aT (b,0)) (fun r=>some r) (fun d=>some d.2)
def lV (b:(List Int)×(List Yq1)) (c:Int) (a:(List (Int×Bool))×Int):Option (Out (List (Int×Bool)) ((List (Int×Bool))×Int)):=
 if decide (a.2<(b.2.length:Int)) then (Option.bind ((Option.bind (((aP b.2 a.2).bind fun e=>if e.2.1==c then ((aP b.2 a.2).bind fun f=>(bM 16 a.1 ([(f.1,false)])).bind fun g=>some g) else (some a.1):Option (List (Int×Bool)))) (fun d=>(aP b.2 a.2).bind fun h=>if h.2.2.1==c then ((aP b.2 a.2).bind fun i=>(bM 16 d ([(i.1,true)])).bind fun j=>some j) else (some d)):Option (List (Int×Bool)))) (fun k=>some (.nxt (k,i64.wrap (a.2+1))))) else (some (.brk (a.1,a.2)))
def qF (a:(List Int)×(List Yq1)) (b:Int):Option (List (Int×Bool)):=
 aN (aq (lV a b) aT (([] :List (Int×Bool)),0)) (fun r=>some r) (fun c=>some c.1)
def ix (a:Int×Int×Int×Int) (b:Bool):Option Int:=
 if b then (some (i64.wrap ((i64.wrap (2*a.2.2.2))+1))) else (some (i64.wrap (2*a.2.2.2)))
def pa (a:Int×Int×Int×Int) (b:Bool):Option Int:=
 if b then (some a.2.1) else (some a.2.2.1)
def jt (d:Int×(List Bool)×(List (List Int))) (e:Int) (f:List (Int×Bool)) (g:(List Yq7)×Int) (b:Int×Int×Int×Int) (a:Int×Int):Option (Out (List Yq7) (Int×Int)):=
 if decide (a.2<(d.2.1.length:Int)) then (Option.bind (((aP d.2.2 a.2).bind fun h=>(aP f g.2).bind fun i=>(ix (b.1,b.2.1,b.2.2.1,b.2.2.2) i.2).bind fun j=>(aP h j).bind fun c=>(chk (0<=a.2)).bind fun _=>if (qp (n9 e a.2) 1)==1 then (if decide (c≥0) then ((chk (0<=c)).bind fun _=>some (orI a.1 (vZ 1 c))) else (some a.1)) else (some a.1):Option Int)) (fun k=>some (.nxt (k,i64.wrap (a.2+1))))) else (some (.brk (a.1,a.2)))
def ju (f:Int×(List Bool)×(List (List Int))) (c:List (Int×Bool)) (d:(List Yq7)×Int) (b:Int×Int×Int×Int) (g:Int×Int) (a:(List Yq7)×Int):Option (Out (List Yq7) ((List Yq7)×Int)):=
 if decide (a.2<(f.2.1.length:Int)) then (Option.bind (((chk (0<=a.2)).bind fun _=>if (qp (n9 g.1 a.2) 1)==1 then ((aP c d.2).bind fun e=>(aP c d.2).bind fun h=>(pa (b.1,b.2.1,b.2.2.1,b.2.2.2) h.2).bind fun i=>(bM 32 a.1 ([((e.1,e.2),i,a.2)])).bind fun j=>some j) else (some a.1):Option (List Yq7))) (fun k=>some (.nxt (k,i64.wrap (a.2+1))))) else (some (.brk (a.1,a.2)))
def jv (c:(List Int)×(List Yq1)) (d:Int×(List Bool)×(List (List Int))) (f:Int) (b:List (Int×Bool)) (a:(List Yq7)×Int):Option (Out (List Yq7) ((List Yq7)×Int)):=
 if decide (a.2<(b.length:Int)) then ((aP b a.2).bind fun g=>(dw (c.1,c.2) g.1).bind fun h=>(aP c.2 h).bind fun e=>aN (aq (jt d f b a e) aT (0,0)) (fun r=>some (.ret r)) (fun i=>aN (aq (ju d b a e i) aT (a.1,0)) (fun r=>some (.ret r)) (fun j=>some (.nxt (j.1,i64.wrap (a.2+1)))))) else (some (.brk (a.1,a.2)))
def nv (a:(List Int)×(List Yq1)) (b:Int×(List Bool)×(List (List Int))) (c:Int) (d:Int):Option (List Yq7):=
 (aP a.1 c).bind fun e=>(c7 (b.1,b.2.1,b.2.2) d e).bind fun f=>(qF (a.1,a.2) c).bind fun g=>aN (aq (jv a b f g) aT (([] :List Yq7),0)) (fun r=>some r) (fun h=>some h.1)
def jw (b:(List Int)×(List Yq1)) (c:Int×(List Bool)×(List (List Int))) (a:(List Int)×Int):Option QR:=
 if decide (a.2<i64.wrap ((b.1.length:Int)*(c.2.1.length:Int))) then ((bM 8 a.1 ([-1])).bind fun d=>some (.nxt (d,i64.wrap (a.2+1)))) else (some (.brk (a.1,a.2)))
def jx (b:Int×(List Bool)×(List (List Int))) (g:(List Int)×(List Int)×Int) (e:List Yq7) (a:(List Int)×(List Int)×Int):Option (Out (List Int) ((List Int)×(List Int)×Int)):=
 if decide (a.2.2<(e.length:Int)) then (Option.bind (((aP e a.2.2).bind fun c=>(aP e a.2.2).bind fun d=>(aP a.1 (i64.wrap ((i64.wrap (c.2.1*(b.2.1.length:Int)))+d.2.2))).bind fun h=>if decide (h<0) then ((aP a.2.1 g.2.2).bind fun i=>(aP a.1 i).bind fun j=>(aP a.1 (i64.wrap ((i64.wrap (c.2.1*(b.2.1.length:Int)))+d.2.2))).bind fun l=>(bM 8 a.2.1 ([i64.wrap ((i64.wrap (c.2.1*(b.2.1.length:Int)))+d.2.2)])).bind fun k=>some (a.1.set (i64.wrap ((i64.wrap (c.2.1*(b.2.1.length:Int)))+d.2.2)).toNat (i64.wrap (j+1)),k)) else (some (a.1,a.2.1)):Option ((List Int)×(List Int)))) (fun f=>some (.nxt (f.1,f.2,i64.wrap (a.2.2+1))))) else (some (.brk (a.1,a.2.1,a.2.2)))
def jy (c:(List Int)×(List Yq1)) (b:Int×(List Bool)×(List (List Int))) (a:(List Int)×(List Int)×Int):Option (Out (List Int) ((List Int)×(List Int)×Int)):=
 if decide (a.2.2<(a.2.1.length:Int)) then ((aP a.2.1 a.2.2).bind fun e=>(chk ((b.2.1.length:Int)≠0)).bind fun _=>(aP a.2.1 a.2.2).bind fun f=>(chk ((b.2.1.length:Int)≠0)).bind fun _=>(nv (c.1,c.2) (b.1,b.2.1,b.2.2) (FD e (b.2.1.length:Int)) (Int.tmod f (b.2.1.length:Int))).bind fun g=>aN (aq (jx b a g) aT (a.1,a.2.1,0)) (fun r=>some (.ret r)) (fun d=>some (.nxt (d.1,d.2.1,i64.wrap (a.2.2+1))))) else (some (.brk (a.1,a.2.1,a.2.2)))
def nw (b:(List Int)×(List Yq1)) (a:Int×(List Bool)×(List (List Int))) (c:Int):Option (List Int):=
 aN (aq (jw b a) aT (([] :List Int),0)) (fun r=>some r) (fun d=>(aP ([i64.wrap ((i64.wrap (c*(a.2.1.length:Int)))+a.1)]) 0).bind fun e=>(aP d.1 e).bind fun g=>aN (aq (jy b a) aT (d.1.set e.toNat 0,[i64.wrap ((i64.wrap (c*(a.2.1.length:Int)))+a.1)],0)) (fun r=>some r) (fun f=>some f.1))
def gP (b:Int×(List Bool)×(List (List Int))) (c:Int) (a:Int):Option (Out Bool Int):=
 if decide (a<(b.2.1.length:Int)) then ((chk (0<=a)).bind fun _=>if (qp (n9 c a) 1)==1 then ((aP b.2.1 a).bind fun d=>if d then (some (.ret true)) else (some (.nxt (i64.wrap (a+1))))) else (some (.nxt (i64.wrap (a+1))))) else (some (.brk a))
def kl (b:(List Int)×(List Yq1)) (a:Int×(List Bool)×(List (List Int))) (c:Int) (d:Int):Option Bool:=
 (aP b.1 c).bind fun e=>(c7 (a.1,a.2.1,a.2.2) d e).bind fun f=>aN (aq (gP a f) aT 0) (fun r=>some r) (fun g=>some false)
def ny (b:Int) (a:(List Int)×Int):Option QR:=
 if decide (a.2<30) then (Option.bind (((chk (0<=a.2)).bind fun _=>if (qp (n9 b a.2) 1)==1 then ((bM 8 a.1 ([a.2])).bind fun c=>some c) else (some a.1):Option (List Int))) (fun d=>some (.nxt (d,i64.wrap (a.2+1))))) else (some (.brk (a.1,a.2)))
def wP (a:Int):Option (List Int):=
 aN (aq (ny a) aT (([] :List Int),0)) (fun r=>some r) (fun b=>some b.1)
def km (c:(List Int)×(List Yq1)) (b:Int×(List Bool)×(List (List Int))) (d:List Int) (a:Int×Int):Option (Out (List Int) (Int×Int)):=
 if decide (a.2<(d.length:Int)) then (Option.bind (((aP d a.2).bind fun e=>if decide (e≥0) then ((chk ((b.2.1.length:Int)≠0)).bind fun _=>(chk ((b.2.1.length:Int)≠0)).bind fun _=>(kl (c.1,c.2) (b.1,b.2.1,b.2.2) (FD a.2 (b.2.1.length:Int)) (Int.tmod a.2 (b.2.1.length:Int))).bind fun f=>if f then ((chk ((b.2.1.length:Int)≠0)).bind fun _=>(chk (0<=FD a.2 (b.2.1.length:Int))).bind fun _=>some (orI a.1 (vZ 1 (FD a.2 (b.2.1.length:Int))))) else (some a.1)) else (some a.1):Option Int)) (fun g=>some (.nxt (g,i64.wrap (a.2+1))))) else (some (.brk (a.1,a.2)))
def pb (b:(List Int)×(List Yq1)) (a:Int×(List Bool)×(List (List Int))) (c:Int):Option (List Int):=
 (nw (b.1,b.2) (a.1,a.2.1,a.2.2) c).bind fun d=>aN (aq (km b a d) aT (0,0)) (fun r=>some r) (fun e=>(wP e.1).bind fun f=>some f)
def gQ (c:Yq4×Int) (b:List Int) (a:Yq4×Int):Option (Out Yq4 (Yq4×Int)):=
 if decide (a.2<(b.length:Int)) then ((aP b a.2).bind fun d=>(bM 16 a.1 ([(c.2,d)])).bind fun e=>some (.nxt (e,i64.wrap (a.2+1)))) else (some (.brk (a.1,a.2)))
def bt (c:(List Int)×(List Yq1)) (b:Int×(List Bool)×(List (List Int))) (a:Yq4×Int):Option (Out Yq4 (Yq4×Int)):=
 if decide (a.2<(c.1.length:Int)) then ((gq (c.1,c.2) (b.1,b.2.1,b.2.2) 0 0).bind fun d=>if d then ((pb (c.1,c.2) (b.1,b.2.1,b.2.2) a.2).bind fun e=>aN (aq (gQ a e) aT (a.1,0)) (fun r=>some (.ret r)) (fun f=>some (.nxt (f.1,i64.wrap (a.2+1))))) else (some (.brk (a.1,a.2)))) else (some (.brk (a.1,a.2)))
def fe (a:(List Int)×(List Yq1)) (b:Int×(List Bool)×(List (List Int))):Option Yq4:=
 aN (aq (bt a b) aT (([] :List (Int×Int)),0)) (fun r=>some r) (fun c=>some c.1)
def aS (c:(List Yq2)×(List Yq3)) (a:(List Int)×(List Yq1)) (d:Int):Option (Yq4×Bool):=
 (cV (c.1,c.2) d).bind fun b=>if b.2 then ((a6 (a.1,a.2)).bind fun e=>if e then ((fe (a.1,a.2) (b.1.1,b.1.2.1,b.1.2.2)).bind fun f=>some (f,true)) else (some (([] :List (Int×Int)),false))) else (some (([] :List (Int×Int)),false))
def oe (b:List (Int×Int)) (c:Int×Int) (a:Int):Option (Out Bool Int):=
 if decide (a<(b.length:Int)) then ((aP b a).bind fun d=>if ((d.1==c.1)&&((d.2==c.2)&&true)) then (some (.ret true)) else (some (.nxt (i64.wrap (a+1))))) else (some (.brk a))
def qG (a:List (Int×Int)) (b:Int×Int):Option Bool:=
 aN (aq (oe a b) aT 0) (fun r=>some r) (fun c=>some false)
def mG (a:Int×Int) (b:Int×Int):Option Bool:=
 if decide (a.1<b.1) then (some true) else (if a.1==b.1 then (some (decide (a.2<b.2))) else (some false))
def oh (b:List (Int×Int)) (c:Int×Int) (a:Int):Option (Out Yq4 Int):=
 if decide (a<(b.length:Int)) then ((aP b a).bind fun d=>(mG (d.1,d.2) (c.1,c.2)).bind fun e=>if e then (some (.nxt (i64.wrap (a+1)))) else (some (.brk a))) else (some (.brk a))
def uc (a:List (Int×Int)) (c:Int×Int):Option Yq4:=
 aN (aq (oh a c) aT 0) (fun e=>some e) (fun b=>if decide (b<(a.length:Int)) then ((aP a b).bind fun d=>if Bool.and.match_1 (fun (l:Bool)=>Bool) (d.1==c.1) (fun (m:Unit)=>false) (fun (n:Unit)=>Bool.and.match_1 (fun (o:Bool)=>Bool) (d.2==c.2) (fun (p:Unit)=>false) (fun (q:Unit)=>true)) then (some a) else ((chk (And (0<=b) (b<=(a.length:Int)))).bind fun _=>(bM 16 ([] :List (Int×Int)) ((a.take b.toNat).drop 0)).bind fun f=>(bM 16 f ([(c.1,c.2)])).bind fun g=>(chk (And (0<=b) (b<=(a.length:Int)))).bind fun _=>(bM 16 g ((a.take a.length).drop b.toNat)).bind fun h=>some h)) else ((chk (And (0<=b) (b<=(a.length:Int)))).bind fun _=>(bM 16 ([] :List (Int×Int)) ((a.take b.toNat).drop 0)).bind fun i=>(bM 16 i ([(c.1,c.2)])).bind fun j=>(chk (And (0<=b) (b<=(a.length:Int)))).bind fun _=>(bM 16 j ((a.take a.length).drop b.toNat)).bind fun k=>some k))
def gB (b:List (Int×Int)) (e:List (Int×Int)) (a:Yq4×Int):Option (Out Yq4 (Yq4×Int)):=
 if decide (a.2<(b.length:Int)) then (Option.bind (((aP b a.2).bind fun c=>(qG e (c.1,c.2)).bind fun f=>if f then (some a.1) else ((aP b a.2).bind fun d=>(uc a.1 (d.1,d.2)).bind fun g=>some g):Option Yq4)) (fun h=>some (.nxt (h,i64.wrap (a.2+1))))) else (some (.brk (a.1,a.2)))
def gR (a:List (Int×Int)) (b:List (Int×Int)):Option Yq4:=
 aN (aq (gB a b) aT (([] :List (Int×Int)),0)) (fun r=>some r) (fun c=>some c.1)
def dE (a:List (Int×Int)) (b:List (Int×Int)):Option (Yq4×Yq4):=
 (gR b a).bind fun c=>(gR a b).bind fun d=>some (c,d)
def du (a:Int×(List Yq5)) (b:(List Yq2)×(List Yq3)) (c:Int×Int×Int) (d:Int):Option MO:=
 (b8 (a.1,a.2) d).bind fun e=>(aS (b.1,b.2) (e.1.1,e.1.2) c.2.1).bind fun f=>if decide (c.2.2<a.1) then (some (d,true,(f.1,[]))) else ((b8 (a.1,a.2) c.2.2).bind fun g=>(aS (b.1,b.2) (g.1.1,g.1.2) c.2.1).bind fun i=>(dE i.1 f.1).bind fun h=>some (d,false,(h.1,h.2)))
def cF (b:Int×List Yq8) (c:(List Yq6)×List IJ) (a:Int×Int×Int):Option (XZ×HO×Bool):=
 (gp (b.1,b.2) (c.1,c.2) (a.1,a.2.1,a.2.2)).bind fun e=>if e then ((du (b.1,b.2) (c.1,c.2) (a.1,a.2.1,a.2.2) (Max.max b.1 (i64.wrap (a.2.2+1)))).bind fun d=>some ((d.1,d.2.1,d.2.2.1,d.2.2.2),(a.1,a.2.1,Max.max b.1 (i64.wrap (a.2.2+1))),true)) else (some ((0,false,([] :List (Int×Int)),([] :List (Int×Int))),(a.1,a.2.1,a.2.2),false))
def dD (c:Int×(List Yq5)) (d:(List Yq2)×(List Yq3)) (a:(List MO)×Int×Int×Int×Int):Option (Out ((List MO)×HO) ((List MO)×Int×Int×Int×Int)):=
 if decide (a.2.1<=8) then ((cF (c.1,c.2) (d.1,d.2) (a.2.2.1,a.2.2.2.1,a.2.2.2.2)).bind fun b=>if b.2.2 then ((bM 64 a.1 ([(b.1.1,b.1.2.1,(b.1.2.2.1,b.1.2.2.2))])).bind fun e=>some (.nxt (e,i64.wrap (a.2.1+1),b.2.1.1,b.2.1.2.1,b.2.1.2.2))) else (some (.ret (a.1,(a.2.2.1,a.2.2.2.1,a.2.2.2.2))))) else (some (.brk (a.1,a.2.1,a.2.2.1,a.2.2.2.1,a.2.2.2.2)))
def dR (c:Int×(List Yq5)) (d:(List Yq2)×(List Yq3)) (b:Int×Int×Int):Option ((List MO)×HO):=
 aN (aq (dD c d) aT (([] :List MO),0,b.1,b.2.1,b.2.2)) (fun r=>some r) (fun a=>some (a.1,(a.2.2.1,a.2.2.2.1,a.2.2.2.2)))
def cO (b:List (Int×Int)) (e:List (Int×Int)) (a:Int):Option (Out Bool Int):=
 if decide (a<(b.length:Int)) then ((aP b a).bind fun c=>(aP e a).bind fun d=>if (c.1==d.1)&&((c.2==d.2)&&true) then (some (.nxt (i64.wrap (a+1)))) else (some (.ret false))) else (some (.brk a))
def dn (a:List (Int×Int)) (b:List (Int×Int)):Option Bool:=
 if (a.length:Int) !=(b.length:Int) then (some false) else (aN (aq (cO a b) aT 0) (fun r=>some r) (fun c=>some true))
def ko (a:List (Int×Int)) (b:List (Int×Int)):Option Bool:=
 (dn a b).bind fun c=>some c
def pc (a:Yq4×Yq4) (b:Yq4×Yq4):Option Bool:=
 (ko a.1 b.1).bind fun c=>if c then ((ko a.2 b.2).bind fun d=>some d) else (some false)
def gS (a:Int×Bool×(Yq4×Yq4)) (b:Int×Bool×(Yq4×Yq4)):Option Bool:=
 if a.1==b.1 then (if a.2.1==b.2.1 then ((pc (a.2.2.1,a.2.2.2) (b.2.2.1,b.2.2.2)).bind fun c=>some c) else (some false)) else (some false)
def jz (c:List (Int×Int)) (a:Int):Option (Out Bool Int):=
 if decide (a<(c.length:Int)) then ((aP c a).bind fun b=>(bK b.1 0 4).bind fun e=>if e then ((bK b.2 0 4).bind fun f=>if f then (if decide (a>0) then ((aP c (i64.wrap (a - 1))).bind fun d=>(iF (d.1,d.2) (b.1,b.2)).bind fun g=>if decide (g≥0) then (some (.ret false)) else (some (.nxt (i64.wrap (a+1))))) else (some (.nxt (i64.wrap (a+1))))) else (some (.ret false))) else (some (.ret false))) else (some (.brk a))
def ff (a:List (Int×Int)):Option Bool:=
 aN (aq (jz a) aT 0) (fun r=>some r) (fun b=>some true)
def db (a:List (Int×Int)) (b:(Int×Int)->Option Bool):Option Bool:=
 (bs a b).bind fun c=>some (decide (c≥0))
def kH (a:Int×Int) (q0:List (Int×Int)):Option Bool:=
 (bS q0 (a.1,a.2)).bind fun b=>some b
def kp (a:List (Int×Int)) (b:List (Int×Int)):Option Bool:=
 (db a (fun a0=>kH a0 b)).bind fun c=>some c
def mH (a:Yq4×Yq4):Option Bool:=
 (ff a.1).bind fun b=>if b then ((ff a.2).bind fun c=>if c then ((kp a.1 a.2).bind fun d=>some (!d)) else (some false)) else (some false)
def nL (a:Int):Option (ByteArray):=R.SK a
def iy (a:Int):Option ByteArray:=
 (nL a).bind fun b=>some b
def kI (a:List ByteArray) (b:ByteArray):Option (ByteArray):=R.SJ a b
def ga (b:List (Int×Int)) (a:(List ByteArray)×Int):Option (Out ByteArray ((List ByteArray)×Int)):=
 if decide (a.2<(b.length:Int)) then ((aP b a.2).bind fun c=>(iy c.1).bind fun d=>(iy c.2).bind fun e=>(sv d e).bind fun f=>(bM 16 a.1 ([f])).bind fun g=>some (.nxt (g,i64.wrap (a.2+1)))) else (some (.brk (a.1,a.2)))
def jA (a:List (Int×Int)):Option ByteArray:=
 (ff a).bind fun b=>if b then (if (a.length:Int)==0 then (some (⟨#[110,111,110,101]⟩)) else (aN (aq (ga a) aT (([] :List ByteArray),0)) (fun c=>some c) (fun d=>(kI d.1 (⟨#[32]⟩)).bind fun e=>some e))) else (some ((⟨#[]⟩:ByteArray)))
def lW (a:Yq4×List (Int×Int)):Option ByteArray:=
 (mH (a.1,a.2)).bind fun b=>if b then ((jA a.1).bind fun c=>(sv (⟨#[43]⟩) c).bind fun d=>(sv d (⟨#[32,45]⟩)).bind fun e=>(jA a.2).bind fun f=>(sv e f).bind fun g=>some g) else (some ((⟨#[]⟩:ByteArray)))
def gT (a:Int×Bool×Yq4×List (Int×Int)):Option ByteArray:=
 (lW (a.2.2.1,a.2.2.2)).bind fun b=>if b==((⟨#[]⟩:ByteArray)) then (some ((⟨#[]⟩:ByteArray))) else (if a.2.1 then ((iy a.1).bind fun c=>(sv c (⟨#[32,114,101,115,101,116,32]⟩)).bind fun d=>(sv d b).bind fun e=>some e) else ((iy a.1).bind fun f=>(sv f (⟨#[32]⟩)).bind fun g=>(sv g b).bind fun h=>some h))
def fx (b:List (Int×Int)) (a:Int):Option (Out Bool Int):=
 if decide (a<(b.length:Int)) then ((aP b a).bind fun e=>(dj e.1 0 4).bind fun f=>if f then ((aP b a).bind fun g=>(dj g.2 0 4).bind fun h=>if h then (if decide (a>0) then ((aP b (i64.wrap (a - 1))).bind fun c=>(aP b a).bind fun d=>(mG (c.1,c.2) (d.1,d.2)).bind fun i=>if i then (some (.nxt (i64.wrap (a+1)))) else (some (.ret false))) else (some (.nxt (i64.wrap (a+1))))) else (some (.ret false))) else (some (.ret false))) else (some (.brk a))
def hY (a:List (Int×Int)):Option Bool:=
 aN (aq (fx a) aT 0) (fun r=>some r) (fun b=>some true)
def fg (b:Yq4×Yq4) (a:Int):Option (Out Bool Int):=
 if decide (a<(b.1.length:Int)) then ((aP b.1 a).bind fun c=>(qG b.2 (c.1,c.2)).bind fun d=>if d then (some (.ret false)) else (some (.nxt (i64.wrap (a+1))))) else (some (.brk a))
def mI (a:Yq4×Yq4):Option Bool:=
 aN (aq (fg a) aT 0) (fun r=>some r) (fun d=>(hY a.1).bind fun b=>if b then ((hY a.2).bind fun c=>some c) else (some false))
def gb (b:List (Int×Int)) (a:ByteArray×Int):Option (Out ByteArray (ByteArray×Int)):=
 if decide (a.2<(b.length:Int)) then (Option.bind ((if decide (a.2>0) then ((sv a.1 (⟨#[32]⟩)).bind fun c=>some c) else (some a.1):Option ByteArray)) (fun d=>(aP b a.2).bind fun e=>(eX e.1).bind fun f=>(sv d f).bind fun g=>(aP b a.2).bind fun h=>(eX h.2).bind fun i=>(sv g i).bind fun j=>some (.nxt (j,i64.wrap (a.2+1))))) else (some (.brk (a.1,a.2)))
def jB (a:List (Int×Int)):Option ByteArray:=
 (hY a).bind fun b=>if b then (if (a.length:Int)==0 then (some (⟨#[110,111,110,101]⟩)) else (aN (aq (gb a) aT ((⟨#[]⟩:ByteArray),0)) (fun c=>some c) (fun d=>some d.1))) else (some ((⟨#[]⟩:ByteArray)))
def lX (a:Yq4×List (Int×Int)):Option ByteArray:=
 (mI (a.1,a.2)).bind fun b=>if b then ((jB a.1).bind fun c=>(sv (⟨#[43]⟩) c).bind fun d=>(sv d (⟨#[32,45]⟩)).bind fun e=>(jB a.2).bind fun f=>(sv e f).bind fun g=>some g) else (some ((⟨#[]⟩:ByteArray)))
def gU (a:Int×Bool×Yq4×List (Int×Int)):Option ByteArray:=
 (lX (a.2.2.1,a.2.2.2)).bind fun b=>if b==((⟨#[]⟩:ByteArray)) then (some ((⟨#[]⟩:ByteArray))) else (if a.2.1 then ((eX a.1).bind fun c=>(sv c (⟨#[32,114,101,115,101,116,32]⟩)).bind fun d=>(sv d b).bind fun e=>some e) else ((eX a.1).bind fun f=>(sv f (⟨#[32]⟩)).bind fun g=>(sv g b).bind fun h=>some h))
def dY (a:List (Int×Int)):Option Yq4:=
 (bM 16 ([] :List (Int×Int)) a).bind fun b=>some b
def ng (a:List (Int×Int)) (b:List (Int×Int)):Option Yq4:=
 (bM 16 ([] :List (Int×Int)) a).bind fun c=>(bM 16 c b).bind fun d=>(o8 d).bind fun e=>some e
def kt (a:List (Int×Int)) (b:Yq4×Yq4):Option (Yq4×Bool):=
 (mH (b.1,b.2)).bind fun c=>if c then ((ff a).bind fun d=>if d then ((kp a b.1).bind fun e=>if e then ((dY a).bind fun f=>some (f,false)) else ((dP b.2 a).bind fun g=>if decide ((g.length:Int)>0) then ((dY a).bind fun h=>some (h,false)) else ((dP a b.2).bind fun i=>(ng i b.1).bind fun j=>some (j,true)))) else ((dY a).bind fun k=>some (k,false))) else ((dY a).bind fun l=>some (l,false))
def aV (b:List (Int×Int)) (a:Int×Bool×(Yq4×Yq4)):Option (Yq4×Bool):=
 if a.2.1 then ((ff a.2.2.1).bind fun d=>if d then (if decide ((a.2.2.2.length:Int)>0) then ((dY b).bind fun e=>some (e,false)) else ((dY a.2.2.1).bind fun f=>some (f,true))) else ((dY b).bind fun g=>some (g,false))) else ((kt b (a.2.2.1,a.2.2.2)).bind fun c=>some (c.1,c.2))
def jC (c:Int×(List Yq5)) (d:(List Yq2)×(List Yq3)) (a:Int×Int×Int):Option (MO×HO×Bool):=
 (kQ (c.1,c.2) (d.1,d.2) (a.1,a.2.1,a.2.2)).bind fun e=>if e then ((cq (c.1,c.2)).bind fun f=>(kT (c.1,c.2) (d.1,d.2) (a.1,a.2.1,a.2.2) f).bind fun b=>some ((b.1.1,b.1.2.1,(b.1.2.2.1,b.1.2.2.2)),(b.2.1.1,b.2.1.2.1,b.2.1.2.2),b.2.2)) else (some ((0,false,([],[])),(a.1,a.2.1,a.2.2),false))
def jT (b:List (Int×Int)) (e:List (Int×Int)) (a:Int):Option (Out Bool Int):=
 if decide (a<(b.length:Int)) then ((aP b a).bind fun c=>(aP e a).bind fun d=>if (c.1==d.1)&&((c.2==d.2)&&true) then (some (.nxt (i64.wrap (a+1)))) else (some (.ret false))) else (some (.brk a))
def ku (a:List (Int×Int)) (b:List (Int×Int)):Option Bool:=
 if (a.length:Int) !=(b.length:Int) then (some false) else (aN (aq (jT a b) aT 0) (fun r=>some r) (fun c=>some true))
def jU (b:(List XZ)×Int×Int×Int) (h:(List XZ)×Int×Int×Int) (a:Yq4×Int):Option (Out Bool (Yq4×Int)):=
 if decide (a.2<(b.1.length:Int)) then ((aP b.1 a.2).bind fun c=>(aP h.1 a.2).bind fun d=>(gS (c.1,c.2.1,c.2.2.1,c.2.2.2) (d.1,d.2.1,d.2.2.1,d.2.2.2)).bind fun j=>if j then ((aP b.1 a.2).bind fun e=>(gT (e.1,e.2.1,e.2.2.1,e.2.2.2)).bind fun k=>(aP h.1 a.2).bind fun f=>(gU (f.1,f.2.1,f.2.2.1,f.2.2.2)).bind fun l=>if k !=l then (some (.ret false)) else ((aP b.1 a.2).bind fun g=>(aV a.1 (g.1,g.2.1,g.2.2.1,g.2.2.2)).bind fun i=>if i.2 then (some (.nxt (i.1,i64.wrap (a.2+1)))) else (some (.ret false)))) else (some (.ret false))) else (some (.brk (a.1,a.2)))
def nh (e:List Int):Option Bool:=
 (IK e).bind fun i=>if i then (some true) else ((fV e).bind fun a=>(gO (a.1.1,a.1.2) (a.2.1.1,a.2.1.2) (a.2.2.1,a.2.2.2.1,a.2.2.2.2)).bind fun c=>(dR (a.1.1,a.1.2) (a.2.1.1,a.2.1.2) (a.2.2.1,a.2.2.2.1,a.2.2.2.2)).bind fun d=>if (c.1.length:Int) !=(d.1.length:Int) then (some false) else (if Bool.and.match_1 (fun (n:Bool)=>Bool) (c.2.1==d.2.1) (fun (o:Unit)=>false) (fun (p:Unit)=>Bool.and.match_1 (fun (q:Bool)=>Bool) (c.2.2.1==d.2.2.1) (fun (r:Unit)=>false) (fun (s:Unit)=>Bool.and.match_1 (fun (t:Bool)=>Bool) (c.2.2.2==d.2.2.2) (fun (u:Unit)=>false) (fun (v:Unit)=>true))) then ((b8 (a.1.1,a.1.2) a.2.2.2.2).bind fun f=>(aS (a.2.1.1,a.2.1.2) (f.1.1,f.1.2) a.2.2.2.1).bind fun g=>aN (aq (jU c d) aT (g.1,0)) (fun j=>some j) (fun k=>(jC (a.1.1,a.1.2) (a.2.1.1,a.2.1.2) (a.2.2.1,a.2.2.2.1,a.2.2.2.2)).bind fun b=>if b.2.2 !=(decide ((c.1.length:Int)>0)) then (some false) else (if b.2.2 then ((aV g.1 (b.1.1,b.1.2.1,b.1.2.2.1,b.1.2.2.2)).bind fun h=>if h.2 then ((ku h.1 k.1).bind fun l=>if l then ((aR (a.1.1,a.1.2)).bind fun m=>if b.2.1.2.2==m then (some (Bool.and.match_1 (fun (w:Bool)=>Bool) (c.2.1==b.2.1.1) (fun (x:Unit)=>false) (fun (y:Unit)=>Bool.and.match_1 (fun (z:Bool)=>Bool) (c.2.2.1==b.2.1.2.1) (fun (A:Unit)=>false) (fun (B:Unit)=>Bool.and.match_1 (fun (C:Bool)=>Bool) (c.2.2.2==b.2.1.2.2) (fun (E:Unit)=>false) (fun (F:Unit)=>true))))) else (some false)) else (some false)) else (some false)) else (some (Bool.and.match_1 (fun (G:Bool)=>Bool) (b.2.1.1==a.2.2.1) (fun (H:Unit)=>false) (fun (I:Unit)=>Bool.and.match_1 (fun (J:Bool)=>Bool) (b.2.1.2.1==a.2.2.2.1) (fun (K:Unit)=>false) (fun (L:Unit)=>Bool.and.match_1 (fun (M:Bool)=>Bool) (b.2.1.2.2==a.2.2.2.2) (fun (N:Unit)=>false) (fun (O:Unit)=>true)))))))) else (some false)))
end D
namespace R
open Go.RowKit
open D
abbrev y3:Ty:=.int .i64
abbrev Ad:Ty:=.prod y3 (.prod y3 (.prod y3 y3))
abbrev t251:Ty:=.tree 272 251 Ad
abbrev y97:Ty:=.sl 191 Ad
abbrev y99:Ty:=.wr y97
abbrev ER:Ty:=.prod y3 (.prod y99 y3)
abbrev GV:Ty:=.prod y3 (.prod y3 (.prod y3 y3))
abbrev y4:Ty:=.bool
abbrev aao:Ty:=.prod y4 GV
abbrev abQ:Ty:=.sl 143 aao
abbrev Y2:Ty:=.wr abQ
abbrev y9:Ty:=.str
abbrev aap:Ty:=.sl 9 y9
abbrev Y3:Ty:=.int .u64
abbrev y38:Ty:=.sl 3 y3
abbrev Kr:Ty:=.prod y38 (.prod y3 (.prod y3 (.prod y38 y4)))
abbrev WX:Ty:=.prod y3 y4
abbrev Y4:Ty:=.prod WX (.prod y3 y3)
abbrev abR:Ty:=.sl 164 Y4
abbrev abS:Ty:=.prod y4 (.prod y3 y3)
abbrev abT:Ty:=.sl 162 WX
abbrev Y5:Ty:=.int .u64
abbrev y5:Ty:=.int .u8
abbrev y22:Ty:=.sl 5 y5
abbrev Y6:Ty:=.int .u32
abbrev y39:Ty:=.sl 104 GV
abbrev y41:Ty:=.prod y38 y39
abbrev y24:Ty:=.sl 41 y41
abbrev abU:Ty:=.prod y3 (.prod y3 y4)
abbrev aaY:Ty:=.fro t251
abbrev y26:Ty:=.prod y3 y24
abbrev y64:Ty:=.sl 4 y4
abbrev y65:Ty:=.sl 38 y38
abbrev y67:Ty:=.prod y3 (.prod y64 y65)
abbrev y27:Ty:=.sl 67 y67
abbrev aaq:Ty:=.sl 251 aaY
abbrev acd:Ty:=.prod Ad aaq
abbrev y28:Ty:=.sl 101 ER
abbrev abV:Ty:=.prod WX (.prod y3 y3)
abbrev aaZ:Ty:=.sl 297 abV
abbrev abW:Ty:=.sl 295 aaZ
abbrev y30:Ty:=.prod y27 y28
abbrev y32:Ty:=.prod y3 (.prod y3 y3)
abbrev y81:Ty:=.prod y3 y3
abbrev y44:Ty:=.sl 81 y81
abbrev y49:Ty:=.prod y44 y44
abbrev y51:Ty:=.prod y3 (.prod y4 y49)
abbrev y35:Ty:=.sl 51 y51
abbrev y91:Ty:=.prod y22 (.prod y3 y3)
theorem ti3:TI Tryz.prog 3 false 1:=⟨⟨_,Tryz.underlying3,rfl⟩,by kernel_rfl⟩
theorem Y7 (f:Int) (g:Int) (a:Int) (d:Int) (h:Int) (e:Int) (c:Int) (b:Int) (w:World):EqT Tryz.prog 104 (.agg #[.int .i64 f,.int .i64 g,.int .i64 a,.int .i64 d]) (.agg #[.int .i64 h,.int .i64 e,.int .i64 c,.int .i64 b]) ((f==h)&&((g==e)&&((a==c)&&((d==b)&&true)))) w:=Jw w Tryz.underlying104 (by kernel_rfl) (by kernel_rfl) (jG rfl (gZ ti3 rfl) (gZ ti3 rfl) (run_equalIn_int w 9998 3 _ _ _ _ Tryz.underlying3) (jG rfl (gZ ti3 rfl) (gZ ti3 rfl) (run_equalIn_int w 9998 3 _ _ _ _ Tryz.underlying3) (jG rfl (gZ ti3 rfl) (gZ ti3 rfl) (run_equalIn_int w 9998 3 _ _ _ _ Tryz.underlying3) (jG rfl (gZ ti3 rfl) (gZ ti3 rfl) (run_equalIn_int w 9998 3 _ _ _ _ Tryz.underlying3) (D5 w)))))
theorem Y8 (f:Int) (g:Int) (a:Int) (d:Int) (h:Int) (e:Int) (c:Int) (b:Int) (w:World):EqT Tryz.prog 191 (.agg #[.int .i64 f,.int .i64 g,.int .i64 a,.int .i64 d]) (.agg #[.int .i64 h,.int .i64 e,.int .i64 c,.int .i64 b]) ((f==h)&&((g==e)&&((a==c)&&((d==b)&&true)))) w:=Jw w Tryz.underlying191 (by kernel_rfl) (by kernel_rfl) (jG rfl (gZ ti3 rfl) (gZ ti3 rfl) (run_equalIn_int w 9998 3 _ _ _ _ Tryz.underlying3) (jG rfl (gZ ti3 rfl) (gZ ti3 rfl) (run_equalIn_int w 9998 3 _ _ _ _ Tryz.underlying3) (jG rfl (gZ ti3 rfl) (gZ ti3 rfl) (run_equalIn_int w 9998 3 _ _ _ _ Tryz.underlying3) (jG rfl (gZ ti3 rfl) (gZ ti3 rfl) (run_equalIn_int w 9998 3 _ _ _ _ Tryz.underlying3) (D5 w)))))
theorem aa0 (d:Int) (e:Int) (a:Int) (f:Int) (c:Int) (b:Int) (w:World):EqT Tryz.prog 32 (.agg #[.int .i64 d,.int .i64 e,.int .i64 a]) (.agg #[.int .i64 f,.int .i64 c,.int .i64 b]) ((d==f)&&((e==c)&&((a==b)&&true))) w:=Jw w Tryz.underlying32 (by kernel_rfl) (by kernel_rfl) (jG rfl (gZ ti3 rfl) (gZ ti3 rfl) (run_equalIn_int w 9998 3 _ _ _ _ Tryz.underlying3) (jG rfl (gZ ti3 rfl) (gZ ti3 rfl) (run_equalIn_int w 9998 3 _ _ _ _ Tryz.underlying3) (jG rfl (gZ ti3 rfl) (gZ ti3 rfl) (run_equalIn_int w 9998 3 _ _ _ _ Tryz.underlying3) (D5 w))))
theorem aa1 (b:Int) (c:Int) (d:Int) (a:Int) (w:World):EqT Tryz.prog 81 (.agg #[.int .i64 b,.int .i64 c]) (.agg #[.int .i64 d,.int .i64 a]) ((b==d)&&((c==a)&&true)) w:=Jw w Tryz.underlying81 (by kernel_rfl) (by kernel_rfl) (jG rfl (gZ ti3 rfl) (gZ ti3 rfl) (run_equalIn_int w 9998 3 _ _ _ _ Tryz.underlying3) (jG rfl (gZ ti3 rfl) (gZ ti3 rfl) (run_equalIn_int w 9998 3 _ _ _ _ Tryz.underlying3) (D5 w)))
theorem mz3 (w:World):(zeroValue 3).run Tryz.prog w= .ok (.int .i64 0) w:=by kernel_rfl
theorem kk3:KeyOk Tryz.prog 3 (fun n:Int=>Value.int .i64 n) VB iOk:=Yf Tryz.underlying3
theorem ek3:EltOk Tryz.prog 3 (fun n:Int=>Value.int .i64 n) VB iOk 0:=Yg Tryz.underlying3 mz3
def tt:TT:=[(3,⟨false,1,none,y3,[],some 8,none,false,none,none,some (some .i64),false,none⟩),
 (4,⟨false,1,none,y4,[],some 1,none,true,none,none,none,false,none⟩),
 (5,⟨false,1,none,y5,[],some 1,none,false,none,none,some (some .u8),false,none⟩),
 (9,⟨false,1,none,y9,[],some 16,none,false,none,none,some none,false,none⟩),
 (22,⟨false,1,some 5,y22,[],some 24,none,false,none,none,none,false,none⟩),
 (24,⟨false,1,some 41,y24,[],some 24,none,false,none,none,none,false,none⟩),
 (26,⟨true,2,none,y26,[(0,0),(1,0)],some 32,some [(0,1),(1,1)],false,none,none,none,false,none⟩),
 (27,⟨false,1,some 67,y27,[],some 24,none,false,none,none,none,false,none⟩),
 (28,⟨false,1,some 101,y28,[],some 24,none,false,none,none,none,false,none⟩),
 (30,⟨true,2,none,y30,[(0,0),(1,0)],some 48,some [(0,1),(1,1)],false,none,none,none,false,none⟩),
 (32,⟨true,3,none,y32,[(0,0),(1,0),(2,0)],some 24,some [(0,1),(1,1),(2,1)],false,some [some .i64,some .i64,some .i64],none,none,false,none⟩),
 (35,⟨false,1,some 51,y35,[],some 24,none,false,none,none,none,false,none⟩),
 (38,⟨false,1,some 3,y38,[],some 24,none,false,none,none,none,false,none⟩),
 (39,⟨false,1,some 104,y39,[],some 24,none,false,none,none,none,false,none⟩),
 (41,⟨true,2,none,y41,[(0,0),(1,0)],some 48,some [(0,1),(1,1)],false,none,none,none,false,none⟩),
 (44,⟨false,1,some 81,y44,[],some 24,none,false,none,none,none,false,none⟩),
 (49,⟨true,2,none,y49,[(0,0),(1,0)],some 48,some [(0,1),(1,1)],false,none,none,none,false,none⟩),
 (51,⟨true,4,none,y51,[(0,0),(1,0),(2,1)],some 64,some [(0,1),(1,1),(2,2)],false,none,none,none,false,none⟩),
 (64,⟨false,1,some 4,y64,[],some 24,none,false,none,none,none,false,none⟩),
 (65,⟨false,1,some 38,y65,[],some 24,none,false,none,none,none,false,none⟩),
 (67,⟨true,3,none,y67,[(0,0),(1,0),(2,0)],some 56,some [(0,1),(1,1),(2,1)],false,none,none,none,false,none⟩),
 (81,⟨true,2,none,y81,[(0,0),(1,0)],some 16,some [(0,1),(1,1)],false,some [some .i64,some .i64],none,none,false,none⟩),
 (91,⟨true,3,none,y91,[(0,0),(1,0),(2,0)],some 40,some [(0,1),(1,1),(2,1)],false,none,none,none,false,none⟩),
 (97,⟨false,1,some 191,y97,[],some 24,none,false,none,none,none,false,none⟩),
 (99,⟨true,1,none,y99,[(0,0)],some 24,some [(0,1)],false,none,none,none,false,none⟩),
 (101,⟨true,3,none,ER,[(0,0),(1,0),(2,0)],some 40,some [(0,1),(1,1),(2,1)],false,none,none,none,false,none⟩),
 (104,⟨true,4,none,GV,[(0,0),(1,0),(2,0),(3,0)],some 32,some [(0,1),(1,1),(2,1),(3,1)],false,some [some .i64,some .i64,some .i64,some .i64],none,none,false,none⟩),
 (110,⟨false,1,none,.bool,[],none,none,false,none,none,none,true,none⟩),
 (116,⟨false,1,some 143,abQ,[],some 24,none,false,none,none,none,false,none⟩),
 (118,⟨true,1,none,Y2,[(0,0)],some 24,some [(0,1)],false,none,none,none,false,none⟩),
 (128,⟨false,1,none,.bool,[],none,none,false,none,none,none,true,none⟩),
 (130,⟨false,1,some 9,aap,[],some 24,none,false,none,none,none,false,none⟩),
 (134,⟨false,1,none,.bool,[],none,none,false,none,none,none,true,none⟩),
 (137,⟨false,1,none,.bool,[],none,none,false,none,none,none,true,none⟩),
 (139,⟨false,1,none,.bool,[],none,none,false,none,none,none,true,none⟩),
 (143,⟨true,5,none,aao,[(0,0),(1,3)],some 40,some [(0,1),(1,4)],false,none,none,none,false,none⟩),
 (148,⟨false,1,none,Y3,[],some 8,none,false,none,none,some (some .u64),false,none⟩),
 (150,⟨true,5,none,Kr,[(0,0),(1,0),(2,0),(3,0),(4,0)],some 72,some [(0,1),(1,1),(2,1),(3,1),(4,1)],false,none,none,none,false,none⟩),
 (157,⟨false,1,none,.bool,[],none,none,false,none,none,none,true,none⟩),
 (159,⟨false,1,some 164,abR,[],some 24,none,false,none,none,none,false,none⟩),
 (162,⟨true,2,none,WX,[(0,0),(1,0)],some 16,some [(0,1),(1,1)],false,none,none,none,false,none⟩),
 (164,⟨true,4,none,Y4,[(0,1),(2,0),(3,0)],some 32,some [(0,2),(2,1),(3,1)],false,none,none,none,false,none⟩),
 (185,⟨false,1,none,.bool,[],none,none,false,none,none,none,true,none⟩),
 (191,⟨true,4,none,Ad,[(0,0),(1,0),(2,0),(3,0)],some 32,some [(0,1),(1,1),(2,1),(3,1)],false,some [some .i64,some .i64,some .i64,some .i64],none,none,false,none⟩),
 (196,⟨true,3,none,abS,[(0,0),(1,0),(2,0)],some 24,some [(0,1),(1,1),(2,1)],false,none,none,none,false,none⟩),
 (204,⟨false,1,some 162,abT,[],some 24,none,false,none,none,none,false,none⟩),
 (209,⟨false,1,none,Y5,[],some 8,none,false,none,none,some (some .u64),false,none⟩),
 (234,⟨false,1,none,.bool,[],none,none,false,none,none,none,true,none⟩),
 (237,⟨false,1,none,Y6,[],some 4,none,false,none,none,some (some .u32),false,none⟩),
 (239,⟨false,1,none,.bool,[],none,none,false,none,none,none,true,none⟩),
 (249,⟨true,3,none,abU,[(0,0),(1,0),(2,0)],some 24,some [(0,1),(1,1),(2,1)],false,none,none,none,false,none⟩),
 (251,⟨false,1,none,aaY,[],some 8,none,false,none,none,none,false,some 272⟩),
 (254,⟨false,1,none,.bool,[],none,none,false,none,none,none,true,none⟩),
 (270,⟨false,1,some 251,aaq,[],some 24,none,false,none,none,none,false,none⟩),
 (272,⟨true,5,none,acd,[(0,3),(4,0)],some 56,some [(0,4),(4,1)],false,none,none,none,false,none⟩),
 (276,⟨false,1,none,.bool,[],none,none,false,none,some ⟨3,3,.int,.int⟩,none,false,none⟩),
 (293,⟨false,1,some 295,abW,[],some 24,none,false,none,none,none,false,none⟩),
 (295,⟨false,1,some 297,aaZ,[],some 24,none,false,none,none,none,false,none⟩),
 (297,⟨true,4,none,abV,[(0,1),(2,0),(3,0)],some 32,some [(0,2),(2,1),(3,1)],false,none,none,none,false,none⟩),
 (303,⟨false,1,none,.bool,[],none,none,false,none,none,none,true,none⟩)]
theorem Pd:TTok Tryz.prog tt:=⟨vq (n:=1) (z:=.int .i64 0) ⟨⟨_,Tryz.underlying3,rfl⟩,by kernel_rfl⟩ rfl (by unfold TZ;kernel_rfl) rfl (bu rfl) (fun h=>by cases h) (fun k h=>by obtain rfl:=ae h;exact Tryz.underlying3),
 vq (n:=1) (z:=.bool false) ⟨⟨_,Tryz.underlying4,rfl⟩,by kernel_rfl⟩ rfl (by unfold TZ;kernel_rfl) rfl (bu rfl) (fun h=>Tryz.underlying4) (fun k h=>by cases h),
 vq (n:=1) (z:=.int .u8 0) ⟨⟨_,Tryz.underlying5,rfl⟩,by kernel_rfl⟩ rfl (by unfold TZ;kernel_rfl) rfl (bu rfl) (fun h=>by cases h) (fun k h=>by obtain rfl:=ae h;exact Tryz.underlying5),
 vq (n:=1) (z:=.string ⟨#[]⟩) ⟨⟨_,Tryz.underlying9,rfl⟩,by kernel_rfl⟩ rfl (by unfold TZ;kernel_rfl) rfl (bu rfl) (fun h=>by cases h) (fun k h=>by obtain rfl:=ae h;exact Tryz.underlying9),
 sn ⟨⟨_,Tryz.underlying22,rfl⟩,by kernel_rfl⟩ Tryz.underlying22 (by unfold TZ;kernel_rfl),
 sn ⟨⟨_,Tryz.underlying24,rfl⟩,by kernel_rfl⟩ Tryz.underlying24 (by unfold TZ;kernel_rfl),
 pD (z:=.agg #[.int .i64 0,.slice none 0 0]) ⟨⟨_,Tryz.underlying26,rfl⟩,by kernel_rfl⟩ rfl ⟨⟨_,_,Tryz.underlying26,rfl,rfl,by kernel_rfl⟩,⟨_,_,Tryz.underlying26,rfl,rfl,by kernel_rfl⟩,trivial⟩ (by unfold TZ;kernel_rfl) rfl (bu rfl) ⟨_,Tryz.underlying26,by kernel_rfl⟩ (fun a h=>by cases h),
 sn ⟨⟨_,Tryz.underlying27,rfl⟩,by kernel_rfl⟩ Tryz.underlying27 (by unfold TZ;kernel_rfl),
 sn ⟨⟨_,Tryz.underlying28,rfl⟩,by kernel_rfl⟩ Tryz.underlying28 (by unfold TZ;kernel_rfl),
 pD (z:=.agg #[.slice none 0 0,.slice none 0 0]) ⟨⟨_,Tryz.underlying30,rfl⟩,by kernel_rfl⟩ rfl ⟨⟨_,_,Tryz.underlying30,rfl,rfl,by kernel_rfl⟩,⟨_,_,Tryz.underlying30,rfl,rfl,by kernel_rfl⟩,trivial⟩ (by unfold TZ;kernel_rfl) rfl (bu rfl) ⟨_,Tryz.underlying30,by kernel_rfl⟩ (fun a h=>by cases h),
 pD (z:=.agg #[.int .i64 0,.int .i64 0,.int .i64 0]) ⟨⟨_,Tryz.underlying32,rfl⟩,by kernel_rfl⟩ rfl ⟨⟨_,_,Tryz.underlying32,rfl,rfl,by kernel_rfl⟩,⟨_,_,Tryz.underlying32,rfl,rfl,by kernel_rfl⟩,⟨_,_,Tryz.underlying32,rfl,rfl,by kernel_rfl⟩,trivial⟩ (by unfold TZ;kernel_rfl) rfl (bu rfl) ⟨_,Tryz.underlying32,by kernel_rfl⟩ (fun a h=>by obtain rfl:=ae h;exact fun w d g f c i j=>aa0 d f i g c j w),
 sn ⟨⟨_,Tryz.underlying35,rfl⟩,by kernel_rfl⟩ Tryz.underlying35 (by unfold TZ;kernel_rfl),
 sn ⟨⟨_,Tryz.underlying38,rfl⟩,by kernel_rfl⟩ Tryz.underlying38 (by unfold TZ;kernel_rfl),
 sn ⟨⟨_,Tryz.underlying39,rfl⟩,by kernel_rfl⟩ Tryz.underlying39 (by unfold TZ;kernel_rfl),
 pD (z:=.agg #[.slice none 0 0,.slice none 0 0]) ⟨⟨_,Tryz.underlying41,rfl⟩,by kernel_rfl⟩ rfl ⟨⟨_,_,Tryz.underlying41,rfl,rfl,by kernel_rfl⟩,⟨_,_,Tryz.underlying41,rfl,rfl,by kernel_rfl⟩,trivial⟩ (by unfold TZ;kernel_rfl) rfl (bu rfl) ⟨_,Tryz.underlying41,by kernel_rfl⟩ (fun a h=>by cases h),
 sn ⟨⟨_,Tryz.underlying44,rfl⟩,by kernel_rfl⟩ Tryz.underlying44 (by unfold TZ;kernel_rfl),
 pD (z:=.agg #[.slice none 0 0,.slice none 0 0]) ⟨⟨_,Tryz.underlying49,rfl⟩,by kernel_rfl⟩ rfl ⟨⟨_,_,Tryz.underlying49,rfl,rfl,by kernel_rfl⟩,⟨_,_,Tryz.underlying49,rfl,rfl,by kernel_rfl⟩,trivial⟩ (by unfold TZ;kernel_rfl) rfl (bu rfl) ⟨_,Tryz.underlying49,by kernel_rfl⟩ (fun a h=>by cases h),
 pD (z:=.agg #[.int .i64 0,.bool false,.slice none 0 0,.slice none 0 0]) ⟨⟨_,Tryz.underlying51,rfl⟩,by kernel_rfl⟩ rfl ⟨⟨_,_,Tryz.underlying51,rfl,rfl,by kernel_rfl⟩,⟨_,_,Tryz.underlying51,rfl,rfl,by kernel_rfl⟩,⟨_,_,Tryz.underlying51,rfl,rfl,by kernel_rfl⟩,trivial⟩ (by unfold TZ;kernel_rfl) rfl (bu rfl) ⟨_,Tryz.underlying51,by kernel_rfl⟩ (fun a h=>by cases h),
 sn ⟨⟨_,Tryz.underlying64,rfl⟩,by kernel_rfl⟩ Tryz.underlying64 (by unfold TZ;kernel_rfl),
 sn ⟨⟨_,Tryz.underlying65,rfl⟩,by kernel_rfl⟩ Tryz.underlying65 (by unfold TZ;kernel_rfl),
 pD (z:=.agg #[.int .i64 0,.slice none 0 0,.slice none 0 0]) ⟨⟨_,Tryz.underlying67,rfl⟩,by kernel_rfl⟩ rfl ⟨⟨_,_,Tryz.underlying67,rfl,rfl,by kernel_rfl⟩,⟨_,_,Tryz.underlying67,rfl,rfl,by kernel_rfl⟩,⟨_,_,Tryz.underlying67,rfl,rfl,by kernel_rfl⟩,trivial⟩ (by unfold TZ;kernel_rfl) rfl (bu rfl) ⟨_,Tryz.underlying67,by kernel_rfl⟩ (fun a h=>by cases h),
 pD (z:=.agg #[.int .i64 0,.int .i64 0]) ⟨⟨_,Tryz.underlying81,rfl⟩,by kernel_rfl⟩ rfl ⟨⟨_,_,Tryz.underlying81,rfl,rfl,by kernel_rfl⟩,⟨_,_,Tryz.underlying81,rfl,rfl,by kernel_rfl⟩,trivial⟩ (by unfold TZ;kernel_rfl) rfl (bu rfl) ⟨_,Tryz.underlying81,by kernel_rfl⟩ (fun a h=>by obtain rfl:=ae h;exact fun w d g f c=>aa1 d f g c w),
 pD (z:=.agg #[.slice none 0 0,.int .i64 0,.int .i64 0]) ⟨⟨_,Tryz.underlying91,rfl⟩,by kernel_rfl⟩ rfl ⟨⟨_,_,Tryz.underlying91,rfl,rfl,by kernel_rfl⟩,⟨_,_,Tryz.underlying91,rfl,rfl,by kernel_rfl⟩,⟨_,_,Tryz.underlying91,rfl,rfl,by kernel_rfl⟩,trivial⟩ (by unfold TZ;kernel_rfl) rfl (bu rfl) ⟨_,Tryz.underlying91,by kernel_rfl⟩ (fun a h=>by cases h),
 sn ⟨⟨_,Tryz.underlying97,rfl⟩,by kernel_rfl⟩ Tryz.underlying97 (by unfold TZ;kernel_rfl),
 pD (z:=.agg #[.slice none 0 0]) ⟨⟨_,Tryz.underlying99,rfl⟩,by kernel_rfl⟩ rfl ⟨⟨_,_,Tryz.underlying99,rfl,rfl,by kernel_rfl⟩,trivial⟩ (by unfold TZ;kernel_rfl) rfl (bu rfl) ⟨_,Tryz.underlying99,by kernel_rfl⟩ (fun a h=>by cases h),
 pD (z:=.agg #[.int .i64 0,.slice none 0 0,.int .i64 0]) ⟨⟨_,Tryz.underlying101,rfl⟩,by kernel_rfl⟩ rfl ⟨⟨_,_,Tryz.underlying101,rfl,rfl,by kernel_rfl⟩,⟨_,_,Tryz.underlying101,rfl,rfl,by kernel_rfl⟩,⟨_,_,Tryz.underlying101,rfl,rfl,by kernel_rfl⟩,trivial⟩ (by unfold TZ;kernel_rfl) rfl (bu rfl) ⟨_,Tryz.underlying101,by kernel_rfl⟩ (fun a h=>by cases h),
 pD (z:=.agg #[.int .i64 0,.int .i64 0,.int .i64 0,.int .i64 0]) ⟨⟨_,Tryz.underlying104,rfl⟩,by kernel_rfl⟩ rfl ⟨⟨_,_,Tryz.underlying104,rfl,rfl,by kernel_rfl⟩,⟨_,_,Tryz.underlying104,rfl,rfl,by kernel_rfl⟩,⟨_,_,Tryz.underlying104,rfl,rfl,by kernel_rfl⟩,⟨_,_,Tryz.underlying104,rfl,rfl,by kernel_rfl⟩,trivial⟩ (by unfold TZ;kernel_rfl) rfl (bu rfl) ⟨_,Tryz.underlying104,by kernel_rfl⟩ (fun a h=>by obtain rfl:=ae h;exact fun w d g f c i j o l=>Y7 d f i o g c j l w),
 A8 (ty:=.bool) (b:=8) ⟨⟨_,Tryz.underlying110,rfl⟩,by kernel_rfl⟩ rfl (by unfold TZ;kernel_rfl),
 sn ⟨⟨_,Tryz.underlying116,rfl⟩,by kernel_rfl⟩ Tryz.underlying116 (by unfold TZ;kernel_rfl),
 pD (z:=.agg #[.slice none 0 0]) ⟨⟨_,Tryz.underlying118,rfl⟩,by kernel_rfl⟩ rfl ⟨⟨_,_,Tryz.underlying118,rfl,rfl,by kernel_rfl⟩,trivial⟩ (by unfold TZ;kernel_rfl) rfl (bu rfl) ⟨_,Tryz.underlying118,by kernel_rfl⟩ (fun a h=>by cases h),
 A8 (ty:=.bool) (b:=8) ⟨⟨_,Tryz.underlying128,rfl⟩,by kernel_rfl⟩ rfl (by unfold TZ;kernel_rfl),
 sn ⟨⟨_,Tryz.underlying130,rfl⟩,by kernel_rfl⟩ Tryz.underlying130 (by unfold TZ;kernel_rfl),
 A8 (ty:=.bool) (b:=8) ⟨⟨_,Tryz.underlying134,rfl⟩,by kernel_rfl⟩ rfl (by unfold TZ;kernel_rfl),
 A8 (ty:=.bool) (b:=8) ⟨⟨_,Tryz.underlying137,rfl⟩,by kernel_rfl⟩ rfl (by unfold TZ;kernel_rfl),
 A8 (ty:=.bool) (b:=8) ⟨⟨_,Tryz.underlying139,rfl⟩,by kernel_rfl⟩ rfl (by unfold TZ;kernel_rfl),
 pD (z:=.agg #[.bool false,.int .i64 0,.int .i64 0,.int .i64 0,.int .i64 0]) ⟨⟨_,Tryz.underlying143,rfl⟩,by kernel_rfl⟩ rfl ⟨⟨_,_,Tryz.underlying143,rfl,rfl,by kernel_rfl⟩,⟨_,_,Tryz.underlying143,rfl,rfl,by kernel_rfl⟩,trivial⟩ (by unfold TZ;kernel_rfl) rfl (bu rfl) ⟨_,Tryz.underlying143,by kernel_rfl⟩ (fun a h=>by cases h),
 vq (n:=1) (z:=.int .u64 0) ⟨⟨_,Tryz.underlying148,rfl⟩,by kernel_rfl⟩ rfl (by unfold TZ;kernel_rfl) rfl (bu rfl) (fun h=>by cases h) (fun k h=>by obtain rfl:=ae h;exact Tryz.underlying148),
 pD (z:=.agg #[.slice none 0 0,.int .i64 0,.int .i64 0,.slice none 0 0,.bool false]) ⟨⟨_,Tryz.underlying150,rfl⟩,by kernel_rfl⟩ rfl ⟨⟨_,_,Tryz.underlying150,rfl,rfl,by kernel_rfl⟩,⟨_,_,Tryz.underlying150,rfl,rfl,by kernel_rfl⟩,⟨_,_,Tryz.underlying150,rfl,rfl,by kernel_rfl⟩,⟨_,_,Tryz.underlying150,rfl,rfl,by kernel_rfl⟩,⟨_,_,Tryz.underlying150,rfl,rfl,by kernel_rfl⟩,trivial⟩ (by unfold TZ;kernel_rfl) rfl (bu rfl) ⟨_,Tryz.underlying150,by kernel_rfl⟩ (fun a h=>by cases h),
 A8 (ty:=.bool) (b:=8) ⟨⟨_,Tryz.underlying157,rfl⟩,by kernel_rfl⟩ rfl (by unfold TZ;kernel_rfl),
 sn ⟨⟨_,Tryz.underlying159,rfl⟩,by kernel_rfl⟩ Tryz.underlying159 (by unfold TZ;kernel_rfl),
 pD (z:=.agg #[.int .i64 0,.bool false]) ⟨⟨_,Tryz.underlying162,rfl⟩,by kernel_rfl⟩ rfl ⟨⟨_,_,Tryz.underlying162,rfl,rfl,by kernel_rfl⟩,⟨_,_,Tryz.underlying162,rfl,rfl,by kernel_rfl⟩,trivial⟩ (by unfold TZ;kernel_rfl) rfl (bu rfl) ⟨_,Tryz.underlying162,by kernel_rfl⟩ (fun a h=>by cases h),
 pD (z:=.agg #[.int .i64 0,.bool false,.int .i64 0,.int .i64 0]) ⟨⟨_,Tryz.underlying164,rfl⟩,by kernel_rfl⟩ rfl ⟨⟨_,_,Tryz.underlying164,rfl,rfl,by kernel_rfl⟩,⟨_,_,Tryz.underlying164,rfl,rfl,by kernel_rfl⟩,⟨_,_,Tryz.underlying164,rfl,rfl,by kernel_rfl⟩,trivial⟩ (by unfold TZ;kernel_rfl) rfl (bu rfl) ⟨_,Tryz.underlying164,by kernel_rfl⟩ (fun a h=>by cases h),
 A8 (ty:=.bool) (b:=8) ⟨⟨_,Tryz.underlying185,rfl⟩,by kernel_rfl⟩ rfl (by unfold TZ;kernel_rfl),
 pD (z:=.agg #[.int .i64 0,.int .i64 0,.int .i64 0,.int .i64 0]) ⟨⟨_,Tryz.underlying191,rfl⟩,by kernel_rfl⟩ rfl ⟨⟨_,_,Tryz.underlying191,rfl,rfl,by kernel_rfl⟩,⟨_,_,Tryz.underlying191,rfl,rfl,by kernel_rfl⟩,⟨_,_,Tryz.underlying191,rfl,rfl,by kernel_rfl⟩,⟨_,_,Tryz.underlying191,rfl,rfl,by kernel_rfl⟩,trivial⟩ (by unfold TZ;kernel_rfl) rfl (bu rfl) ⟨_,Tryz.underlying191,by kernel_rfl⟩ (fun a h=>by obtain rfl:=ae h;exact fun w d g f c i j o l=>Y8 d f i o g c j l w),
 pD (z:=.agg #[.bool false,.int .i64 0,.int .i64 0]) ⟨⟨_,Tryz.underlying196,rfl⟩,by kernel_rfl⟩ rfl ⟨⟨_,_,Tryz.underlying196,rfl,rfl,by kernel_rfl⟩,⟨_,_,Tryz.underlying196,rfl,rfl,by kernel_rfl⟩,⟨_,_,Tryz.underlying196,rfl,rfl,by kernel_rfl⟩,trivial⟩ (by unfold TZ;kernel_rfl) rfl (bu rfl) ⟨_,Tryz.underlying196,by kernel_rfl⟩ (fun a h=>by cases h),
 sn ⟨⟨_,Tryz.underlying204,rfl⟩,by kernel_rfl⟩ Tryz.underlying204 (by unfold TZ;kernel_rfl),
 vq (n:=1) (z:=.int .u64 0) ⟨⟨_,Tryz.underlying209,rfl⟩,by kernel_rfl⟩ rfl (by unfold TZ;kernel_rfl) rfl (bu rfl) (fun h=>by cases h) (fun k h=>by obtain rfl:=ae h;exact Tryz.underlying209),
 A8 (ty:=.bool) (b:=8) ⟨⟨_,Tryz.underlying234,rfl⟩,by kernel_rfl⟩ rfl (by unfold TZ;kernel_rfl),
 vq (n:=1) (z:=.int .u32 0) ⟨⟨_,Tryz.underlying237,rfl⟩,by kernel_rfl⟩ rfl (by unfold TZ;kernel_rfl) rfl (bu rfl) (fun h=>by cases h) (fun k h=>by obtain rfl:=ae h;exact Tryz.underlying237),
 A8 (ty:=.bool) (b:=8) ⟨⟨_,Tryz.underlying239,rfl⟩,by kernel_rfl⟩ rfl (by unfold TZ;kernel_rfl),
 pD (z:=.agg #[.int .i64 0,.int .i64 0,.bool false]) ⟨⟨_,Tryz.underlying249,rfl⟩,by kernel_rfl⟩ rfl ⟨⟨_,_,Tryz.underlying249,rfl,rfl,by kernel_rfl⟩,⟨_,_,Tryz.underlying249,rfl,rfl,by kernel_rfl⟩,⟨_,_,Tryz.underlying249,rfl,rfl,by kernel_rfl⟩,trivial⟩ (by unfold TZ;kernel_rfl) rfl (bu rfl) ⟨_,Tryz.underlying249,by kernel_rfl⟩ (fun a h=>by cases h),
 aaX (e:=272) (E:=251) (u:=Ad) ⟨⟨_,Tryz.underlying251,rfl⟩,by kernel_rfl⟩ Tryz.underlying251 (by unfold TZ;kernel_rfl),
 A8 (ty:=.bool) (b:=8) ⟨⟨_,Tryz.underlying254,rfl⟩,by kernel_rfl⟩ rfl (by unfold TZ;kernel_rfl),
 sn ⟨⟨_,Tryz.underlying270,rfl⟩,by kernel_rfl⟩ Tryz.underlying270 (by unfold TZ;kernel_rfl),
 pD (z:=.agg #[.int .i64 0,.int .i64 0,.int .i64 0,.int .i64 0,.slice none 0 0]) ⟨⟨_,Tryz.underlying272,rfl⟩,by kernel_rfl⟩ rfl ⟨⟨_,_,Tryz.underlying272,rfl,rfl,by kernel_rfl⟩,⟨_,_,Tryz.underlying272,rfl,rfl,by kernel_rfl⟩,trivial⟩ (by unfold TZ;kernel_rfl) rfl (bu rfl) ⟨_,Tryz.underlying272,by kernel_rfl⟩ (fun a h=>by cases h),
 aaW (m:=⟨3,3,.int,.int⟩) (ty:=.bool) ⟨⟨_,Tryz.underlying276,rfl⟩,by kernel_rfl⟩ rfl ⟨Tryz.underlying276,kk3,ek3⟩,
 sn ⟨⟨_,Tryz.underlying293,rfl⟩,by kernel_rfl⟩ Tryz.underlying293 (by unfold TZ;kernel_rfl),
 sn ⟨⟨_,Tryz.underlying295,rfl⟩,by kernel_rfl⟩ Tryz.underlying295 (by unfold TZ;kernel_rfl),
 pD (z:=.agg #[.int .i64 0,.bool false,.int .i64 0,.int .i64 0]) ⟨⟨_,Tryz.underlying297,rfl⟩,by kernel_rfl⟩ rfl ⟨⟨_,_,Tryz.underlying297,rfl,rfl,by kernel_rfl⟩,⟨_,_,Tryz.underlying297,rfl,rfl,by kernel_rfl⟩,⟨_,_,Tryz.underlying297,rfl,rfl,by kernel_rfl⟩,trivial⟩ (by unfold TZ;kernel_rfl) rfl (bu rfl) ⟨_,Tryz.underlying297,by kernel_rfl⟩ (fun a h=>by cases h),
 A8 (ty:=.bool) (b:=8) ⟨⟨_,Tryz.underlying303,rfl⟩,by kernel_rfl⟩ rfl (by unfold TZ;kernel_rfl),trivial⟩
theorem mixed:Tryz.prog.follows .mixedOrders=true:=by kernel_rfl
def UC (fn:Func):Code:=match fn.body with
 | some c=>c
 | none=>.skip
theorem fk {k:FuncId} {fn:Func} {f:FS} (ft:FT) (hF:FTok Tryz.prog ft) (hf:Tryz.prog.funcs[k]? =some fn) (ann:Ann) (an:List (Nat×Ty):=[]) (tr:Trs:=[]) (hb:fn.body=some (UC fn):=by rfl) (he:(fn.name == "runtime.NumGoroutine")=false:=by kernel_rfl) (hcl:f.cl=none:=by rfl) (hm:Nat.ble f.ps.length fn.ntmps=true:=by rfl) (hdp:(Ep f.rs&&wx f.ps)=true:=by rfl)
  (hmod: ∀d,appP f.ps f.m d=lH ⟨tt,ft,an,fn.ntmps,tr⟩ (LZ ⟨tt,ft,an,fn.ntmps,tr⟩ fn.results.toList f.rs f.ps d) (UC fn) ann (fun r=>some r) (fun _ _=>none) (LZ ⟨tt,ft,an,fn.ntmps,tr⟩ fn.results.toList f.rs f.ps d) (rj (yY f.ps d)):=by intro d;kernel_rfl):FOk Tryz.prog k f:=
 fok (V:=⟨tt,ft,an,fn.ntmps,tr⟩) Pd hF mixed hf hb rfl (enters_of hf he hb) hcl (bu hm) hdp ann hmod
def Pe:FS:=⟨[.rd y22],[y4],IK,none⟩
def kJ:FS:=⟨[.rd y3,.rd y3,.rd y3],[y4],dj,none⟩
def yc:FS:=⟨[.rd y41,.rd GV],[y4],tT,none⟩
def eR:FS:=⟨[.rd y41],[y4],a6,none⟩
def wQ:FS:=⟨[.rd y38,.rd y38],[y3],oT,none⟩
def dB:FS:=⟨[.rd y26],[y4],aX,none⟩
def dS:FS:=⟨[.rd y26],[y3],aR,none⟩
def Dr:FS:=⟨[.crs 91 5],[y3],kZ,none⟩
def cG:FS:=⟨[.crs 91 5,.rd y3],[y3],aK,none⟩
def dZ:FS:=⟨[.crs 91 5,.rd y38],[y3],bh,none⟩
def jV:FS:=⟨[.rd y41],[y41],bZ,none⟩
def uB:FS:=⟨[.rd y41,.rd y3],[y26,y4],j6,none⟩
def vu:FS:=⟨[.crs 91 5],[y41],kP,none⟩
def yd:FS:=⟨[.rd y26],[y26],qx,none⟩
def lY:FS:=⟨[.rd y41,.rd y3],[y3],dw,none⟩
def uC:FS:=⟨[.rd y41,.rd GV],[y41,y4],mT,none⟩
def uD:FS:=⟨[.rd y41,.rd y3],[y41,y4],mU,none⟩
def vv:FS:=⟨[.rd y41,.rd Y2],[y41,y4],eN,none⟩
def uE:FS:=⟨[.rd y41,.rd Y2],[y41,y4],mV,none⟩
def sP:FS:=⟨[.rd y26,.rd Y2],[y26,y4],je,none⟩
def lf:FS:=⟨[.crs 91 5,.rd y3],[y4],cn,none⟩
def Ds:FS:=⟨[.crs 91 5,.rd y41],[GV],qy,none⟩
def Bb:FS:=⟨[.crs 91 5,.rd y41,.rd y3],[Y2],oU,none⟩
def rz:FS:=⟨[.crs 91 5],[y26],lJ,none⟩
def oi:FS:=⟨[.rd y30,.rd y3],[y3],fS,none⟩
def sQ:FS:=⟨[.rd y3],[y4],nk,none⟩
def vx:FS:=⟨[.rd Ad],[y3],oV,none⟩
def Dt:FS:=⟨[.rd y99],[y4],tU,none⟩
def pd:FS:=⟨[.rd y99],[y4],jf,none⟩
def rA:FS:=⟨[.rd y97],[y3],jg,none⟩
def rB (n:Nat):FS:=⟨[.rd y97],[y3],fp n,none⟩
def ud:FS:=⟨[.rd y97],[y99],fN,none⟩
def ue:FS:=⟨[.rd y99,.rd y99,.rd Ad],[y99],fj,none⟩
def ye:FS:=⟨[.rd y3],[y99],qz,none⟩
def pM (n:Nat):FS:=⟨[.rd y99,.rd y3,.rd y3],[y99],nl n,none⟩
def oj (n:Nat):FS:=⟨[.rd y97],[y99],dx n,none⟩
def uF:FS:=⟨[.rd y99],[y99,y4],iJ,none⟩
def Bc:FS:=⟨[.ptr 150 Kr,.rd y3,.rd y3],[],oW,none⟩
def pN (n:Nat):FS:=⟨[.ptr 150 Kr,.rd y97],[abS],cz n,none⟩
def lZ:FS:=⟨[.rd y99],[Kr,y4],dy,none⟩
def y8:FS:=⟨[.rd Kr,.rd y3,.rd y3],[y3],pK,none⟩
def vy:FS:=⟨[.rd y38,.rd y3],[y3],oX,none⟩
def uG:FS:=⟨[.rd Kr,.rd y3],[y4],mX,none⟩
def qj:FS:=⟨[.rd Kr,.rd y3],[y67,y4],fc,none⟩
def uH:FS:=⟨[],[y67],qf,none⟩
def wR:FS:=⟨[.rd y67,.rd y38,.rd y64],[y67],jN,none⟩
def vz:FS:=⟨[.rd y67],[y64],mC,none⟩
def Du:FS:=⟨[.rd y67,.rd y38,.rd y3],[y38],qA,none⟩
def uI:FS:=⟨[.rd y67],[y38],j9,none⟩
def sR:FS:=⟨[.rd y67],[y67],gI,none⟩
def sS:FS:=⟨[.rd y99],[y67,y4],m_s_CompileExpr,none⟩
def mJ:FS:=⟨[.rd y67,.rd y67],[y4],gJ,none⟩
def za:FS:=⟨[.rd y27,.rd y67],[y3],fT,none⟩
def sU:FS:=⟨[.rd y28],[y30,y4],cA,none⟩
def uJ:FS:=⟨[.rd y99,.rd y99],[y4],qg,none⟩
def pe:FS:=⟨[.rd y30,.rd y30],[y4],il,none⟩
def iz:FS:=⟨[.rd y30],[y4],bI,none⟩
def vA:FS:=⟨[.rd y67],[y67],oY,none⟩
def Bd:FS:=⟨[.rd y30],[y30],mE,none⟩
def qH:FS:=⟨[.rd y30,.rd y3,.rd y99],[y30,y4],jP,none⟩
def GW:FS:=⟨[.rd y9,.rd y5],[aap],GU,none⟩
def om:FS:=⟨[.rd y3],[y9],eX,none⟩
def nM:FS:=⟨[.rd y3],[y9],nK,none⟩
def Be:FS:=⟨[.rd Ad],[y9],A9,none⟩
def sV:FS:=⟨[.rd y9],[y3,y4],sM,none⟩
def Dv:FS:=⟨[.rd y9],[Ad],Dq,none⟩
def wS:FS:=⟨[.rd y9],[y99,y4],jQ,none⟩
def Dw:FS:=⟨[.crs 91 5,.rd aap],[y9],tV,none⟩
def vB:FS:=⟨[.crs 91 5],[y99],oZ,none⟩
def pf:FS:=⟨[.crs 91 5],[y30],jj,none⟩
def pO:FS:=⟨[.rd y26,.rd y3],[y26,y4],fU,none⟩
def GX:FS:=⟨[.crs 91 5,.rd y30],[y3],qB,none⟩
def GY:FS:=⟨[.crs 91 5],[y41],wL,none⟩
def GZ:FS:=⟨[.crs 91 5],[y26],qC,none⟩
def wT:FS:=⟨[.crs 91 5],[y67],lK,none⟩
def uK:FS:=⟨[.rd y3],[y99],uA,none⟩
def uf (n:Nat):FS:=⟨[.crs 91 5,.rd y3],[y99],eJ n,none⟩
def Dx:FS:=⟨[.crs 91 5],[y99],tW,none⟩
def Dy:FS:=⟨[.crs 91 5],[y67],tX,none⟩
def Dz:FS:=⟨[.crs 91 5],[y30],oC,none⟩
def DA:FS:=⟨[.crs 91 5],[y26,y30,y32],tY,none⟩
def G0:FS:=⟨[.rd y22],[.int .i64,.int .i64],wM,some (91,9)⟩
def nz:FS:=⟨[.rd y22],[y26,y30,y32],fV,none⟩
def gV:FS:=⟨[.rd y3,.rd y3,.rd y3],[y4],bK,none⟩
def DB:FS:=⟨[.rd GV,.rd y3],[y4],oD,none⟩
def kK:FS:=⟨[.rd y41],[y4],a7,none⟩
def dH:FS:=⟨[.rd y38,.rd y38],[y4],cP,none⟩
def iS:FS:=⟨[.rd y26],[y4],bf,none⟩
def jW:FS:=⟨[.rd y26],[y3],cq,none⟩
def sW:FS:=⟨[.rd y3],[y4],k9,none⟩
def Bf:FS:=⟨[.rd Ad],[y4],ru,none⟩
def bD:FS:=⟨[.rd aaq],[aaq],fun _=>none,some (251,8)⟩
def ug:FS:=⟨[.rd y99],[t251],oE,none⟩
def DC:FS:=⟨[.rd y99],[y4],tZ,none⟩
def sX:FS:=⟨[.rd y99],[y4],lL,none⟩
def ni (n:Nat):FS:=⟨[.rd t251],[y3],cZ n,none⟩
def Ks:FS:=⟨[.rd y3],[t251],EP,none⟩
def pP (n:Nat):FS:=⟨[.eat t251,.rd y3,.rd y3],[t251],nm n,none⟩
def l5 (n:Nat):FS:=⟨[.rd t251],[t251],cB n,none⟩
def kL (n:Nat):FS:=⟨[.rd t251,.ptr 99 y99],[],cd n,none⟩
def wU:FS:=⟨[.rd t251],[y99],ry,none⟩
def uL:FS:=⟨[.rd y99],[y99,y4],na,none⟩
def nW:FS:=⟨[.ptr 150 Kr,.rd y3,.rd y3],[],eT,none⟩
def iA (n:Nat):FS:=⟨[.ptr 150 Kr,.rd t251],[abU],bB n,none⟩
def pQ:FS:=⟨[.rd y99],[Kr,y4],iR,none⟩
def nO:FS:=⟨[.rd y3,.rd y3,.fn [y3] [y4],.fn [y3,y3] [y3,y4]],[y67,y4],fO,none⟩
def nA:FS:=⟨[.rd Kr,.rd y3],[y4],eB,none⟩
def pg:FS:=⟨[.rd Kr,.rd y3,.rd y3],[y3],im,none⟩
def qI:FS:=⟨[.rd y3,.rd y3,.cap 150 Kr],[y3,y4],dM,none⟩
def sY:FS:=⟨[.rd Kr,.rd y3],[y67,y4],jk,none⟩
def bL:FS:=⟨[.rd y64],[y64],fun _=>none,some (4,1)⟩
def pR:FS:=⟨[.rd y67],[y64],fX,none⟩
def fG:FS:=⟨[.rd y65,.fn [y38] [y4]],[y3],cm,none⟩
def mq:FS:=⟨[.rd y38,.cap 38 y38],[y4],iN,none⟩
def nX:FS:=⟨[.rd y67,.rd y38],[y38,y3],eU,none⟩
def nB:FS:=⟨[.rd y67],[y38],eE,none⟩
def ph:FS:=⟨[.rd Y6,.rd Y6],[Y6,Y6],vr,none⟩
def pj:FS:=⟨[.rd Y5,.rd Y5],[Y5,Y5],o0,none⟩
def qJ:FS:=⟨[.rd Y3,.rd Y3],[Y3,Y3],qD,none⟩
def fy:FS:=⟨[.rd y38,.rd y3],[y38],cD,none⟩
def Bg:FS:=⟨[],[y67],vt,none⟩
def jZ:FS:=⟨[.rd y38,.rd y3],[y3],fI,none⟩
def lg:FS:=⟨[.rd y3,.cap 38 y38],[y3],be,none⟩
def lh:FS:=⟨[.rd y3,.cap 67 y67,.capf 234 [y3] [y3]],[y4],dh,none⟩
def iT:FS:=⟨[.rd y67,.rd y3,.rd y3],[y3],bV,none⟩
def lj:FS:=⟨[.rd y3,.rd y3,.cap 67 y67,.capf 234 [y3] [y3],.cap 38 y38],[y3,y4],di,none⟩
def mr:FS:=⟨[.rd y67],[y67],cX,none⟩
def G5:FS:=⟨[.rd y67],[y67,y4],Ba,none⟩
def sZ:FS:=⟨[.rd y99],[y67,y4],jm,none⟩
def dF:FS:=⟨[.rd y27,.fn [y67] [y4]],[y3],bw,none⟩
def iU:FS:=⟨[.rd y64,.rd y64],[y4],eZ,none⟩
def cW:FS:=⟨[.rd y65,.rd y65,.fn [y38,y38] [y4]],[y4],bG,none⟩
def pn:FS:=⟨[.rd y38,.rd y38],[y4],iq,none⟩
def mK:FS:=⟨[.rd y67,.rd y67],[y4],fl,none⟩
def zb:FS:=⟨[.rd y67,.cap 67 y67],[y4],nq,none⟩
def ze:FS:=⟨[.rd y99],[y99],nr,none⟩
def DD:FS:=⟨[.rd y28],[y30,y4],ua,none⟩
def bC:FS:=⟨[.rd y27,.rd y27,.fn [y67,y67] [y4]],[y4],a8,none⟩
def bz:FS:=⟨[.rd y28,.rd y28,.fn [ER,ER] [y4]],[y4],aY,none⟩
def hZ:FS:=⟨[.rd y97,.rd y97],[y4],eF,none⟩
def uM:FS:=⟨[.rd y99,.rd y99],[y4],nc,none⟩
def rP:FS:=⟨[.rd ER,.rd ER],[y4],iE,none⟩
def po:FS:=⟨[.rd y30,.rd y30],[y4],ir,none⟩
def kU:FS:=⟨[.rd y30],[y4],cE,none⟩
def dq:FS:=⟨[.rd y28,.fn [ER] [y4]],[y3],bX,none⟩
def ta:FS:=⟨[.rd ER,.cap 3 y3],[y4],lN,none⟩
def rC:FS:=⟨[.rd y30,.rd y3],[y3],jR,none⟩
def vC:FS:=⟨[.rd y26,.rd y30,.rd y32],[y4],kQ,none⟩
def pS:FS:=⟨[.rd y38],[y38],jn,none⟩
def wV:FS:=⟨[.rd y41],[y41],lO,none⟩
def Bh:FS:=⟨[.rd y26,.rd y3],[y41,y4],o6,none⟩
def qK:FS:=⟨[.rd y67],[y67],jS,none⟩
def pT:FS:=⟨[.rd y30,.rd y3],[y67,y4],fY,none⟩
def nY:FS:=⟨[.rd y67],[y4],cr,none⟩
def yf:FS:=⟨[.rd y41,.rd y67,.rd y38],[y4],cY,none⟩
def DE:FS:=⟨[.rd y65,.rd y38],[y38],ub,none⟩
def rD:FS:=⟨[.rd y3],[y38],jo,none⟩
def G6:FS:=⟨[.rd GV,.rd y4],[y3],sN,none⟩
def Kt:FS:=⟨[.rd y41],[abW],wN,none⟩
def vD:FS:=⟨[.rd y67,.rd y3,.rd y3],[y3],kR,none⟩
def G7:FS:=⟨[.rd y67,.rd y3,.rd y3,.rd y3],[y3],sO,none⟩
def rQ:FS:=⟨[.rd y41,.rd y67],[y65],fP,none⟩
def qL:FS:=⟨[.rd y41,.rd y67,.rd y3],[y38],gL,some (0,7)⟩
def wW:FS:=⟨[.rd y67,.rd y3,.rd y3],[y4],lS,none⟩
def ky:FS:=⟨[.ow (.sl 3 y3)],[],gl,none⟩
def iV:FS:=⟨[.eat (.sl 3 y3)],[.sl 3 y3],dk,none⟩
def wX:FS:=⟨[.rd y38],[y38],lT,none⟩
def tc:FS:=⟨[.rd y41,.rd y67,.rd y3],[y38],jr,none⟩
def uN:FS:=⟨[.rd y41,.rd y67],[y44],gm,none⟩
def rR:FS:=⟨[.rd y30,.rd y41,.rd y3],[y44,y4],eQ,none⟩
def wY:FS:=⟨[.rd y26,.rd y30,.rd y3,.rd y3],[y44,y4],iw,none⟩
def dG:FS:=⟨[.rd y44,.fn [y81] [y4]],[y3],bs,none⟩
def gf:FS:=⟨[.eat (.sl 81 y81),.fn [y81] [y4]],[.sl 81 y81],cw,none⟩
def te:FS:=⟨[.rd y3,.rd y3],[y3],lU,none⟩
def nP:FS:=⟨[.rd y81,.rd y81],[y3],iF,none⟩
def gW:FS:=⟨[.ow (.sl 81 y81),.fk 66],[],dO,none⟩
def ic:FS:=⟨[.eat (.sl 81 y81)],[.sl 81 y81],cU,none⟩
def vE:FS:=⟨[.rd y44],[y44],o8,none⟩
def iW:FS:=⟨[.rd y44,.rd y81],[y3],dm,none⟩
def dU:FS:=⟨[.rd y44,.rd y81],[y4],bS,none⟩
def pq:FS:=⟨[.rd y81,.cap 44 y44],[y4],kS,none⟩
def mL:FS:=⟨[.rd y44,.rd y44],[y44],dP,none⟩
def rS:FS:=⟨[.rd y44,.rd y44],[y49],kG,none⟩
def vF:FS:=⟨[.rd y26,.rd y30,.rd y32,.rd y3],[y51,y32,y4],kT,none⟩
def tf:FS:=⟨[.rd y26,.rd y30,.rd y32],[y51,y32,y4],gN,none⟩
def qM:FS:=⟨[.rd y26,.rd y30,.rd y32],[y35,y32],gO,none⟩
def Bi:FS:=⟨[.rd y26,.rd y30,.rd y32],[y4],gp,none⟩
def vG:FS:=⟨[.rd y26,.rd y3],[y41,y4],b8,none⟩
def pU:FS:=⟨[.rd y30,.rd y3],[y67,y4],cV,none⟩
def Bj:FS:=⟨[.rd y67],[y4],o9,none⟩
def nZ:FS:=⟨[.rd y67],[y4],cR,none⟩
def Bk:FS:=⟨[.rd y41,.rd y67,.rd y3,.rd y3],[y4],gq,none⟩
def qk:FS:=⟨[.rd y67,.rd y3,.rd y3],[y3],c7,none⟩
def DF:FS:=⟨[.rd y41,.rd y3],[abT],qF,none⟩
def wZ:FS:=⟨[.rd GV,.rd y4],[y3],ix,none⟩
def G8:FS:=⟨[.rd GV,.rd y4],[y3],pa,none⟩
def zf:FS:=⟨[.rd y41,.rd y67,.rd y3,.rd y3],[abR],nv,none⟩
def zg:FS:=⟨[.rd y41,.rd y67,.rd y3],[y38],nw,none⟩
def uO:FS:=⟨[.rd y41,.rd y67,.rd y3,.rd y3],[y4],kl,none⟩
def G9:FS:=⟨[.rd y3],[y38],wP,none⟩
def Bl:FS:=⟨[.rd y41,.rd y67,.rd y3],[y38],pb,none⟩
def uP:FS:=⟨[.rd y41,.rd y67],[y44],fe,none⟩
def nQ:FS:=⟨[.rd y30,.rd y41,.rd y3],[y44,y4],aS,none⟩
def yg:FS:=⟨[.rd y44,.rd y81],[y4],qG,none⟩
def vH:FS:=⟨[.rd y81,.rd y81],[y4],mG,none⟩
def DG:FS:=⟨[.eat (.sl 81 y81),.rd y81],[y44],uc,none⟩
def qN:FS:=⟨[.rd y44,.rd y44],[y44],gR,none⟩
def rT:FS:=⟨[.rd y44,.rd y44],[y49],dE,none⟩
def uQ:FS:=⟨[.rd y26,.rd y30,.rd y32,.rd y3],[y51],du,none⟩
def tg:FS:=⟨[.rd y26,.rd y30,.rd y32],[y51,y32,y4],cF,none⟩
def qO:FS:=⟨[.rd y26,.rd y30,.rd y32],[y35,y32],dR,none⟩
def iX:FS:=⟨[.rd y44,.rd y44],[y4],dn,none⟩
def uR:FS:=⟨[.rd y44,.rd y44],[y4],ko,none⟩
def th:FS:=⟨[.rd y49,.rd y49],[y4],pc,none⟩
def qP:FS:=⟨[.rd y51,.rd y51],[y4],gS,none⟩
def nC:FS:=⟨[.rd y44],[y4],ff,none⟩
def fA:FS:=⟨[.rd y44,.fn [y81] [y4]],[y4],db,none⟩
def rU:FS:=⟨[.rd y81,.cap 44 y44],[y4],kH,none⟩
def ql:FS:=⟨[.rd y44,.rd y44],[y4],kp,none⟩
def vI:FS:=⟨[.rd y49],[y4],mH,none⟩
def rV:FS:=⟨[.rd y3],[.str],nL,none⟩
def rE:FS:=⟨[.rd y3],[y9],iy,none⟩
def rW:FS:=⟨[.rd aap,.rd y9],[.str],kI,none⟩
def tj:FS:=⟨[.rd y44],[y9],jA,none⟩
def tk:FS:=⟨[.rd y49],[y9],lW,none⟩
def qQ:FS:=⟨[.rd y51],[y9],gT,none⟩
def tl:FS:=⟨[.rd y44],[y4],hY,none⟩
def Bm:FS:=⟨[.rd y49],[y4],mI,none⟩
def tm:FS:=⟨[.rd y44],[y9],jB,none⟩
def tn:FS:=⟨[.rd y49],[y9],lX,none⟩
def qR:FS:=⟨[.rd y51],[y9],gU,none⟩
def rF:FS:=⟨[.rd y44],[y44],dY,none⟩
def uS:FS:=⟨[.rd y44,.rd y44],[y44],ng,none⟩
def uT:FS:=⟨[.rd y44,.rd y49],[y44,y4],kt,none⟩
def rX:FS:=⟨[.rd y44,.rd y51],[y44,y4],aV,none⟩
def tp:FS:=⟨[.rd y26,.rd y30,.rd y32],[y51,y32,y4],jC,none⟩
def uU:FS:=⟨[.rd y44,.rd y44],[y4],ku,none⟩
def CC:FS:=⟨[.rd y22],[y4],nh,none⟩
theorem WY:FOk Tryz.prog 4 Pe:=fk [] trivial Tryz.func4 .no
theorem l6:FOk Tryz.prog 22 kJ:=fk [] trivial Tryz.func22 .no
theorem DH:FOk Tryz.prog 53 yc:=fk [(22,kJ)] ⟨l6,trivial⟩ Tryz.func53 .no
theorem fR:FOk Tryz.prog 25 eR:=fk [(22,kJ),(53,yc)] ⟨l6,DH,trivial⟩ Tryz.func25 (.t (.two (.t (.loop [.s 3] .no)) (.two (.t (.loop [.s 4] .no)) .no)))
theorem Bn:FOk Tryz.prog 49 wQ:=fk [] trivial Tryz.func49 (.t (.two (.t (.loop [.s 5] .no)) .no))
theorem eL:FOk Tryz.prog 21 dB:=fk [(22,kJ),(25,eR),(49,wQ)] ⟨l6,fR,Bn,trivial⟩ Tryz.func21 (.t (.two (.t (.loop [.s 3] .no)) .no))
theorem fm:FOk Tryz.prog 16 dS:=fk [(21,dB)] ⟨eL,trivial⟩ Tryz.func16 .no
theorem L7:FOk Tryz.prog 79 Dr:=fk [] trivial Tryz.func79 (.t (.t (.t (.two (.t (.at [.s 3,.cur 0] .no)) .no))))
theorem cT:FOk Tryz.prog 42 cG:=fk [(79,Dr)] ⟨L7,trivial⟩ Tryz.func42 .no
theorem fb:FOk Tryz.prog 46 dZ:=fk [(42,cG)] ⟨cT,trivial⟩ Tryz.func46 .no
theorem ln:FOk Tryz.prog 23 jV:=fk [] trivial Tryz.func23 .no
theorem CD:FOk Tryz.prog 72 uB:=fk [(21,dB),(23,jV)] ⟨eL,ln,trivial⟩ Tryz.func72 .no
theorem Bo:FOk Tryz.prog 73 vu:=fk [(42,cG),(46,dZ)] ⟨cT,fb,trivial⟩ Tryz.func73 (.t (.t (.two (.t (.loop [.s 4,.cur 0,.box 3 [(.own 3 (.int .i64)),(.own 104 GV)]] .no)) (.t (.two (.t (.loop [.s 5,.s 6,.cur 0,.box 3 [(.own 3 (.int .i64)),(.own 104 GV)]] .no)) .no)))))
theorem DI:FOk Tryz.prog 78 yd:=fk [(23,jV)] ⟨ln,trivial⟩ Tryz.func78 (.t (.t (.two (.t (.loop [.s 4,.box 3 [(.num .i64),(.own 41 y41)]] .no)) .no)))
theorem oo:FOk Tryz.prog 150 lY:=fk [] trivial Tryz.func150 (.t (.two (.t (.loop [.s 5] .no)) .no))
theorem CE:FOk Tryz.prog 149 uC:=fk [(23,jV),(25,eR),(53,yc),(150,lY)] ⟨ln,fR,DH,oo,trivial⟩ Tryz.func149 (.t (.t (.t (.two (.loop [.s 6] .no) .no))))
theorem CF:FOk Tryz.prog 151 uD:=fk [(23,jV),(25,eR),(150,lY)] ⟨ln,fR,oo,trivial⟩ Tryz.func151 .no
theorem Bp:FOk Tryz.prog 111 vv:=fk [(23,jV),(149,uC),(150,lY),(151,uD)] ⟨ln,CE,oo,CF,trivial⟩ Tryz.func111 (.t (.t (.two (.t (.loop [.s 7,.box 6 [(.own 3 y3),(.own 104 GV)]] (.t (.joinX [.box 6 [(.own 3 y3),(.own 104 GV)]] .no .no)))) .no)))
theorem CG:FOk Tryz.prog 109 uE:=fk [(23,jV),(25,eR),(111,vv)] ⟨ln,fR,Bp,trivial⟩ Tryz.func109 .no
theorem Bq:FOk Tryz.prog 74 sP:=fk [(16,dS),(21,dB),(78,yd),(109,uE)] ⟨fm,eL,DI,CG,trivial⟩ Tryz.func74 (.t (.t (.t (.t (.t (.t (.two (.t (.at [.box 6 [(.num .i64),(.own 41 y41)]] .no)) .no))))))) (an:=[(48,.bool)])
theorem mM:FOk Tryz.prog 40 lf:=fk [(42,cG)] ⟨cT,trivial⟩ Tryz.func40 .no
theorem L8:FOk Tryz.prog 110 Ds:=fk [(42,cG),(46,dZ)] ⟨cT,fb,trivial⟩ Tryz.func110 (.t (.t (.two (.t (.at [.cur 0,.box 5 [(.num .i64),(.num .i64),(.num .i64),(.num .i64)]] .no)) .no)))
theorem IL:FOk Tryz.prog 75 Bb:=fk [(23,jV),(40,lf),(42,cG),(110,Ds),(111,vv)] ⟨ln,mM,cT,L8,Bp,trivial⟩ Tryz.func75 (.t (.t (.t (.two (.t (.loop [.s 9,.cur 0,.box 8 [(.own 3 y3),(.own 104 GV)],.box 7 [(.own 143 aao)]] (.t (.two (.at [.cur 0,.box 8 [(.own 3 y3),(.own 104 GV)],.box 7 [(.own 143 aao)]] (.t (.two (.t (.at [.cur 0,.box 10 [.boo,(.num .i64),(.num .i64),(.num .i64),(.num .i64)]] .no)) (.two (.t (.at [.box 10 [.boo,(.num .i64),(.num .i64),(.num .i64),(.num .i64)]] .no)) .no)))) .no)))) .no))))
theorem w7:FOk Tryz.prog 38 rz:=fk [(42,cG),(46,dZ),(72,uB),(73,vu),(74,sP),(75,Bb)] ⟨cT,fb,CD,Bo,Bq,IL,trivial⟩ Tryz.func38 (.t (.t (.two (.t (.loop [.s 5,.cur 0,.box 3 [(.num .i64),(.own 41 y41)]] .no)) .no))) (tr:=[(41,0,.bool)])
theorem rG:FOk Tryz.prog 50 oi:=fk [] trivial Tryz.func50 (.t (.two (.t (.loop [.s 5] .no)) .no))
theorem zh:FOk Tryz.prog 259 sQ:=fk [(22,kJ)] ⟨l6,trivial⟩ Tryz.func259 .no
theorem Br:FOk Tryz.prog 228 vx:=fk [(22,kJ),(259,sQ)] ⟨l6,zh,trivial⟩ Tryz.func228 (.t (.two (.t (.join [.slot 5 .boo] .no (.t (.t (.t (.join [.slot 37 .boo] .no .no)))))) .no))
theorem L9:FOk Tryz.prog 187 Dt:=fk [(228,vx)] ⟨Br,trivial⟩ Tryz.func187 (.t (.t (.two (.t (.loop [.s 3,.s 4] .no)) .no)))
theorem tq:FOk Tryz.prog 154 pd:=fk [(187,Dt)] ⟨L9,trivial⟩ Tryz.func154 .no
theorem vJ:FOk Tryz.prog 190 rA:=fk [(228,vx)] ⟨Br,trivial⟩ Tryz.func190 (.t (.t (.t (.two (.loop [.s 3,.s 4] .no) .no))))
theorem Bs: ∀n,FOk Tryz.prog 188 (rB n)
 | 0=>kC (f:=rB 0) (enters_of Tryz.func188 (by kernel_rfl) rfl) rfl (fun d=>rfl)
 | n+1=>by
  have ih:=Bs n
  exact fk [(188,(rB n)),(190,rA)] ⟨ih,vJ,trivial⟩ Tryz.func188 (.t (.t (.t (.two (.t (.two (.t (.at [.slot 15 .boo] .no)) .no)) .no))))
theorem yh:FOk Tryz.prog 122 ud:=fk [] trivial Tryz.func122 .no
theorem yi:FOk Tryz.prog 194 ue:=fk [(122,ud)] ⟨yh,trivial⟩ Tryz.func194 .no
theorem DJ:FOk Tryz.prog 192 ye:=fk [] trivial Tryz.func192 .no
theorem zi: ∀n,FOk Tryz.prog 229 (pM n)
 | 0=>kC (f:=pM 0) (enters_of Tryz.func229 (by kernel_rfl) rfl) rfl (fun d=>rfl)
 | n+1=>by
  have ih:=zi n
  exact fk [(192,ye),(194,ue),(229,(pM n))] ⟨DJ,yi,ih,trivial⟩ Tryz.func229 .no
theorem w8: ∀n,FOk Tryz.prog 189 (oj n)
 | 0=>kC (f:=oj 0) (enters_of Tryz.func189 (by kernel_rfl) rfl) rfl (fun d=>rfl)
 | n+1=>by
  have ih:=w8 n
  exact fk [(189,(oj n)),(190,rA),(194,ue),(229,(pM fH))] ⟨ih,vJ,yi,(zi fH),trivial⟩ Tryz.func189 (.t (.t (.t (.two (.t (.two (.t (.at [.slot 15 .boo] .no)) .no)) .no))))
theorem CH:FOk Tryz.prog 155 uF:=fk [(154,pd),(188,(rB fH)),(189,(oj fH))] ⟨tq,(Bs fH),(w8 fH),trivial⟩ Tryz.func155 .no
theorem IM:FOk Tryz.prog 191 Bc:=fk [] trivial Tryz.func191 (.t (.loop [.s 6,.par 4 [3] 3 y3] (.t (.two (.at [.par 4 [3] 3 y3] .no) .no))))
theorem zj: ∀n,FOk Tryz.prog 156 (pN n)
 | 0=>kC (f:=pN 0) (enters_of Tryz.func156 (by kernel_rfl) rfl) rfl (fun d=>rfl)
 | n+1=>by
  have ih:=zj n
  exact fk [(156,(pN n)),(190,rA),(191,Bc)] ⟨ih,vJ,IM,trivial⟩ Tryz.func156 (.t (.t (.t (.two (.t (.t (.t (.t (.t (.t (.two (.t (.t (.t (.t (.t (.two (.t (.at [.box 11 [.boo,(.num .i64),(.num .i64)]] .no)) (.two (.t (.at [.box 11 [.boo,(.num .i64),(.num .i64)]] .no)) .no))))))) .no))))))) .no))))
theorem pV:FOk Tryz.prog 116 lZ:=fk [(155,uF),(156,(pN fH))] ⟨CH,(zj fH),trivial⟩ Tryz.func116 (.t (.t (.t (.t (.two (.t (.loop [.s 6,.s 7] (.t (.two (.at [.s 6] .no) .no)))) .no)))))
theorem Ha:FOk Tryz.prog 158 y8:=fk [] trivial Tryz.func158 (.t (.t (.join [.s 7] .no (.two (.t (.loop [.s 7,.s 8] (.t (.join [.s 7] .no .no)))) (.t (.two (.t (.loop [.s 9,.s 10] (.t (.join [.s 9] .no .no)))) .no))))))
theorem Bt:FOk Tryz.prog 159 vy:=fk [] trivial Tryz.func159 (.t (.two (.t (.loop [.s 5] .no)) .no))
theorem CI:FOk Tryz.prog 160 uG:=fk [] trivial Tryz.func160 .no
theorem uV:FOk Tryz.prog 118 qj:=fk [(158,y8),(159,vy),(160,uG)] ⟨Ha,Bt,CI,trivial⟩ Tryz.func118 (.t (.t (.t (.two (.t (.loop [.slot 7 (.own 3 y3),.s 8,.box 6 [(.num .i64),(.own 4 y4),(.own 38 y38)]] (.t (.two (.t (.two (.t (.loop [.slot 7 (.own 3 y3),.slot 9 (.own 3 y3),.s 10] (.t (.two (.t (.t (.join [.slot 7 (.own 3 y3),.s 12] .no .no))) .no)))) .no)) .no)))) .no))))
theorem CJ:FOk Tryz.prog 230 uH:=fk [] trivial Tryz.func230 (.t (.t (.two (.t (.loop [.slot 1 (.own 3 y3),.s 2] .no)) .no)))
theorem ES:FOk Tryz.prog 195 wR:=fk [(159,vy),(230,uH)] ⟨Bt,CJ,trivial⟩ Tryz.func195 (.t (.t (.t (.t (.t (.two (.t (.loop [.slot 8 (.own 3 y3),.slot 9 (.own 3 y3),.s 10,.box 7 [(.num .i64),(.own 4 y4),(.own 38 y38)]] (.t (.two (.t (.two (.t (.loop [.slot 8 (.own 3 y3),.slot 9 (.own 3 y3),.slot 11 (.own 3 y3),.s 12] (.t (.two (.t (.t (.join [.slot 8 (.own 3 y3),.slot 9 (.own 3 y3),.s 14] .no .no))) .no)))) .no)) .no)))) .no))))))
theorem Bu:FOk Tryz.prog 197 vz:=fk [] trivial Tryz.func197 (.t (.t (.two (.t (.loop [.row 3 4 y4,.s 4] (.t (.two (.t (.loop [.row 3 4 y4,.s 5] (.t (.two (.t (.loop [.row 3 4 y4,.s 6] (.t (.join [.row 3 4 y4] .no .no)))) .no)))) .no)))) .no)))
theorem Ma:FOk Tryz.prog 231 Du:=fk [] trivial Tryz.func231 (.t (.t (.two (.t (.loop [.slot 7 (.own 3 y3),.s 8] (.t (.join [.slot 7 (.own 3 y3)] .no .no)))) .no)))
theorem CK:FOk Tryz.prog 196 uI:=fk [(49,wQ),(197,vz),(231,Du)] ⟨Bn,Bu,Ma,trivial⟩ Tryz.func196 (.t (.t (.t (.two (.t (.loop [.slot 4 (.own 3 y3),.s 5] (.t (.two (.t (.two (.t (.at [.s 6] .no)) (.two (.t (.at [.s 6] .no)) .no))) .no)))) (.two (.t (.loop [.slot 4 (.own 3 y3),.s 7] (.t (.two (.t (.t (.two (.t (.loop [.slot 8 (.own 38 y38),.slot 9 (.own 3 y3),.s 10] (.t (.two (.at [.slot 8 (.own 38 y38),.slot 9 (.own 3 y3)] (.t (.t (.t (.two (.t (.loop [.s 12,.s 13] (.t (.two (.at [.s 12] .no) .no)))) (.two (.t (.at [.slot 8 (.own 38 y38),.s 12,.gone 11] .no)) .no)))))) .no)))) .no))) .no)))) .no)))))
theorem Bv:FOk Tryz.prog 162 sR:=fk [(195,wR),(196,uI),(197,vz)] ⟨ES,CK,Bu,trivial⟩ Tryz.func162 .no
theorem Bw:FOk Tryz.prog 120 sS:=fk [(116,lZ),(118,qj),(162,sR)] ⟨pV,uV,Bv,trivial⟩ Tryz.func120 .no
theorem qS:FOk Tryz.prog 123 mJ:=fk [(49,wQ)] ⟨Bn,trivial⟩ Tryz.func123 (.t (.t (.two (.t (.loop [.s 5] .no)) (.two (.t (.loop [.s 6] .no)) .no))))
theorem Hb:FOk Tryz.prog 121 za:=fk [(123,mJ)] ⟨qS,trivial⟩ Tryz.func121 (.t (.two (.t (.loop [.s 5] .no)) .no))
theorem zk:FOk Tryz.prog 83 sU:=fk [(22,kJ),(120,sS),(121,za),(122,ud)] ⟨l6,Bw,Hb,yh,trivial⟩ Tryz.func83 (.t (.t (.t (.two (.t (.loop [.s 5,.box 4 [(.own 67 y67),(.own 101 ER)]] (.t (.two (.t (.t (.t (.join [.s 8,.box 4 [(.own 67 y67),(.own 101 ER)],.gone 6] .no .no)))) .no)))) .no))))
theorem CL:FOk Tryz.prog 124 uJ:=fk [] trivial Tryz.func124 (.t (.t (.two (.t (.loop [.s 5] .no)) .no)))
theorem vK:FOk Tryz.prog 84 pe:=fk [(123,mJ),(124,uJ)] ⟨qS,CL,trivial⟩ Tryz.func84 (.t (.t (.two (.t (.loop [.s 5] .no)) (.two (.t (.loop [.s 6] .no)) .no))))
theorem kV:FOk Tryz.prog 51 iz:=fk [(83,sU),(84,pe)] ⟨zk,vK,trivial⟩ Tryz.func51 .no
theorem Bx:FOk Tryz.prog 52 vA:=fk [] trivial Tryz.func52 (.t (.t (.two (.t (.loop [.s 4,.box 3 [(.num .i64),(.own 4 y4),(.own 38 y38)]] .no)) .no)))
theorem IN:FOk Tryz.prog 112 Bd:=fk [(52,vA),(122,ud)] ⟨Bx,yh,trivial⟩ Tryz.func112 (.t (.t (.two (.t (.loop [.s 4,.box 3 [(.own 67 y67),(.own 101 ER)]] .no)) (.two (.t (.loop [.s 5,.box 3 [(.own 67 y67),(.own 101 ER)]] .no)) .no))))
theorem yj:FOk Tryz.prog 76 qH:=fk [(50,oi),(51,iz),(83,sU),(112,Bd)] ⟨rG,kV,zk,IN,trivial⟩ Tryz.func76 (.t (.t (.t (.two (.loop [.s 8] .no) .no)))) (an:=[(40,(.fro ER)),(49,(.fro ER))])
theorem Pf:FOk Tryz.prog 152 GW:=fk [] trivial Tryz.func152 (.t (.t (.t (.two (.t (.loop [.slot 5 (.own 9 y9),.s 6,.s 7] (.t (.two (.at [.slot 5 (.own 9 y9),.s 6] .no) .no)))) .no))))
theorem rH:FOk Tryz.prog 31 om:=fk [] trivial Tryz.func31 (.t (.t (.t (.t (.two (.loop [.s 0,.slot 3 .str] (.t (.t (.two (.t (.at [.s 5] .no)) .no)))) .no)))))
theorem rY:FOk Tryz.prog 227 nM:=fk [(259,sQ)] ⟨zh,trivial⟩ Tryz.func227 .no
theorem IP:FOk Tryz.prog 185 Be:=fk [(31,om),(227,nM)] ⟨rH,rY,trivial⟩ Tryz.func185 .no
theorem By:FOk Tryz.prog 186 sV:=fk [(227,nM)] ⟨rY,trivial⟩ Tryz.func186 (.t (.two (.t (.loop [.s 4] .no)) .no))
theorem Mb:FOk Tryz.prog 153 Dv:=fk [(185,Be),(186,sV)] ⟨IP,By,trivial⟩ Tryz.func153 (.t (.two (.t (.loop [.s 3] .no)) .no))
theorem ET:FOk Tryz.prog 113 wS:=fk [(152,GW),(153,Dv),(154,pd)] ⟨Pf,Mb,tq,trivial⟩ Tryz.func113 (.t (.t (.t (.two (.t (.loop [.s 6,.box 4 [(.own 191 Ad)]] .no)) .no))))
theorem Mc:FOk Tryz.prog 114 Dw:=fk [(42,cG)] ⟨cT,trivial⟩ Tryz.func114 .no
theorem Bz:FOk Tryz.prog 77 vB:=fk [(113,wS),(114,Dw)] ⟨ET,Mc,trivial⟩ Tryz.func77 .no
theorem tu:FOk Tryz.prog 39 pf:=fk [(42,cG),(76,qH),(77,vB)] ⟨cT,yj,Bz,trivial⟩ Tryz.func39 (.t (.t (.two (.t (.loop [.s 4,.cur 0,.box 3 [(.own 67 y67),(.own 101 ER)]] .no)) .no)))
theorem w9:FOk Tryz.prog 41 pO:=fk [(16,dS),(21,dB),(22,kJ),(78,yd)] ⟨fm,eL,l6,DI,trivial⟩ Tryz.func41 .no (an:=[(28,.bool)])
theorem Pg:FOk Tryz.prog 43 GX:=fk [(40,lf),(42,cG),(46,dZ)] ⟨mM,cT,fb,trivial⟩ Tryz.func43 .no
theorem Ph:FOk Tryz.prog 80 GY:=fk [(42,cG),(46,dZ),(73,vu)] ⟨cT,fb,Bo,trivial⟩ Tryz.func80 (.t (.t (.two (.t (.at [.cur 0,.box 3 [(.own 3 y3),(.own 104 GV)]] .no)) .no)))
theorem Pi:FOk Tryz.prog 44 GZ:=fk [(38,rz),(42,cG),(46,dZ),(80,GY)] ⟨w7,cT,fb,Ph,trivial⟩ Tryz.func44 (.t (.t (.two (.t (.at [.cur 0,.box 3 [(.num .i64),(.own 41 y41)]] .no)) .no)))
theorem EU:FOk Tryz.prog 115 wT:=fk [(40,lf),(42,cG)] ⟨mM,cT,trivial⟩ Tryz.func115 (.t (.t (.t (.two (.t (.loop [.s 5,.box 4 [(.num .i64),(.own 4 .bool),(.own 38 y38)],.cur 0] (.t (.two (.t (.two (.t (.loop [.slot 6 (.own 3 y3),.s 7,.cur 0] (.t (.two (.t (.two (.t (.at [.s 8,.cur 0] .no)) (.two (.t (.at [.s 8] .no)) .no))) .no)))) .no)) .no)))) .no))))
theorem CM:FOk Tryz.prog 193 uK:=fk [] trivial Tryz.func193 .no
theorem DK: ∀n,FOk Tryz.prog 157 (uf n)
 | 0=>kC (f:=uf 0) (enters_of Tryz.func157 (by kernel_rfl) rfl) rfl (fun d=>rfl)
 | n+1=>by
  have ih:=DK n
  exact fk [(40,lf),(42,cG),(46,dZ),(157,(uf n)),(192,ye),(193,uK),(194,ue)] ⟨mM,cT,fb,ih,DJ,CM,yi,trivial⟩ Tryz.func157 (.t (.t (.two (.t (.two (.t (.at [.slot 20 .boo] .no)) (.t (.two (.t (.at [.slot 33 .boo] .no)) .no)))) .no)))
theorem Md:FOk Tryz.prog 117 Dx:=fk [(40,lf),(42,cG),(77,vB),(157,(uf fH))] ⟨mM,cT,Bz,(DK fH),trivial⟩ Tryz.func117 .no
theorem Me:FOk Tryz.prog 81 Dy:=fk [(40,lf),(115,wT),(116,lZ),(117,Dx),(118,qj)] ⟨mM,EU,pV,Md,uV,trivial⟩ Tryz.func81 .no
theorem Mf:FOk Tryz.prog 45 Dz:=fk [(39,pf),(42,cG),(46,dZ),(81,Dy)] ⟨tu,cT,fb,Me,trivial⟩ Tryz.func45 (.t (.t (.two (.t (.at [.cur 0,.box 3 [(.own 67 y67),(.own 101 ER)]] .no)) .no)))
theorem Mg:FOk Tryz.prog 17 DA:=fk [(16,dS),(38,rz),(39,pf),(40,lf),(41,pO),(42,cG),(43,GX),(44,GZ),(45,Dz),(46,dZ)] ⟨fm,w7,tu,mM,w9,cT,Pg,Pi,Mf,fb,trivial⟩ Tryz.func17 (.t (.t (.t (.two (.t (.at [.box 5 [(.num .i64),(.own 41 y41)],.cur 0] .no)) (.t (.two (.t (.at [.cur 0,.box 7 [(.num .i64),(.num .i64),(.num .i64)],.box 5 [(.num .i64),(.own 41 y41)],.box 6 [(.own 67 y67),(.own 101 ER)]] .no)) .no))))))
theorem Pj:FOk Tryz.prog 18 G0:=WU (T:=91) (Y1 (V:=⟨tt,[],[],32,[]⟩) Pd trivial mixed Tryz.func18 rfl rfl (enters_of Tryz.func18 (by kernel_rfl) rfl) (bu rfl) (.t (.t (.two (.t (.loop [.s 3,.s 4] .no)) .no))) (fun a=>by kernel_rfl)) rfl
theorem tv:FOk Tryz.prog 5 nz:=fk [(17,DA),(18,G0)] ⟨Mg,Pj,trivial⟩ Tryz.func5 .no
theorem iL:FOk Tryz.prog 65 gV:=fk [] trivial Tryz.func65 .no
theorem Mh:FOk Tryz.prog 137 DB:=fk [(65,gV)] ⟨iL,trivial⟩ Tryz.func137 .no
theorem nR:FOk Tryz.prog 101 kK:=fk [(65,gV),(137,DB)] ⟨iL,Mh,trivial⟩ Tryz.func101 (.t (.t (.two (.t (.loop [.s 14] .no)) (.two (.t (.loop [.s 25] .no)) .no))))
theorem fJ:FOk Tryz.prog 102 dH:=fk [] trivial Tryz.func102 (.t (.t (.two (.t (.loop [.s 13] .no)) .no)))
theorem l7:FOk Tryz.prog 67 iS:=fk [(65,gV),(101,kK),(102,dH)] ⟨iL,nR,fJ,trivial⟩ Tryz.func67 (.t (.t (.t (.two (.t (.loop [.s 24] .no)) .no))))
theorem mN:FOk Tryz.prog 37 jW:=fk [(67,iS)] ⟨l7,trivial⟩ Tryz.func37 .no
theorem zm:FOk Tryz.prog 264 sW:=fk [(65,gV)] ⟨iL,trivial⟩ Tryz.func264 .no
theorem IQ:FOk Tryz.prog 244 Bf:=fk [(65,gV),(264,sW)] ⟨iL,zm,trivial⟩ Tryz.func244 (.t (.two (.t (.t (.t (.t (.t (.join [.slot 37 .boo] .no .no)))))) .no))
theorem nS:FOk Tryz.prog 245 bD:=GQ (f:=bD) (kC (f:=⟨bD.ps,bD.rs,bD.m,none⟩) (enters_of Tryz.func245 (by kernel_rfl) rfl) rfl (fun d=>rfl)) (Kp (V:=⟨tt,[],[(5,.raw)],8,[]⟩) Pd trivial mixed Tryz.func245 rfl rfl (enters_of Tryz.func245 (by kernel_rfl) rfl) (bu rfl) .no (fun E a b=>by cases a <;> kernel_rfl))
theorem yk:FOk Tryz.prog 216 ug:=fk [(244,Bf),(245,bD)] ⟨IQ,nS,trivial⟩ Tryz.func216 (.t (.t (.two (.t (.loop [.slot 3 (.own 251 aaY),.s 13] (.t (.t (.two (.t (.t (.two (.t (.at [.s 6] (.two (.t (.at [.slot 19 .boo] .no)) (.t (.two (.t (.at [.slot 22 .boo] .no)) .no))))) .no))) .no))))) .no))) (tr:=[(272,251,Ad)])
theorem Mi:FOk Tryz.prog 261 DC:=fk [(216,ug)] ⟨yk,trivial⟩ Tryz.func261 .no (tr:=[(272,251,Ad)])
theorem BA:FOk Tryz.prog 239 sX:=fk [(261,DC)] ⟨Mi,trivial⟩ Tryz.func239 .no
theorem uW: ∀n,FOk Tryz.prog 240 (ni n)
 | 0=>kC (f:=ni 0) (enters_of Tryz.func240 (by kernel_rfl) rfl) rfl (fun d=>rfl)
 | n+1=>by
  have ih:=uW n
  exact fk [(240,(ni n))] ⟨ih,trivial⟩ Tryz.func240 (.t (.t (.two (.t (.loop [.s 3,.s 11] (.t (.t (.two (.at [.s 3] .no) .no))))) .no))) (tr:=[(272,251,Ad)])
theorem SQ:FOk Tryz.prog 271 Ks:=fk [] trivial Tryz.func271 .no (tr:=[(272,251,Ad)])
theorem zn: ∀n,FOk Tryz.prog 262 (pP n)
 | 0=>kC (f:=pP 0) (enters_of Tryz.func262 (by kernel_rfl) rfl) rfl (fun d=>rfl)
 | n+1=>by
  have ih:=zn n
  exact fk [(262,(pP n)),(271,Ks)] ⟨ih,SQ,trivial⟩ Tryz.func262 .no (tr:=[(272,251,Ad)])
theorem tw: ∀n,FOk Tryz.prog 241 (l5 n)
 | 0=>kC (f:=l5 0) (enters_of Tryz.func241 (by kernel_rfl) rfl) rfl (fun d=>rfl)
 | n+1=>by
  have ih:=tw n
  exact fk [(241,(l5 n)),(262,(pP fH))] ⟨ih,(zn fH),trivial⟩ Tryz.func241 (.t (.t (.t (.two (.t (.loop [.s 41,.box 3 [(.num .i64),(.num .i64),(.num .i64),(.num .i64),(.own 251 (.tree 272 251 Ad))]] .no)) .no)))) (an:=[(52,t251)]) (tr:=[(272,251,Ad)])
theorem rZ: ∀n,FOk Tryz.prog 263 (kL n)
 | 0=>kC (f:=kL 0) (enters_of Tryz.func263 (by kernel_rfl) rfl) rfl (fun d=>rfl)
 | n+1=>by
  have ih:=rZ n
  exact fk [(263,(kL n))] ⟨ih,trivial⟩ Tryz.func263 (.two (.t (.loop [.s 11,.box 1 [(.own 191 Ad)]] .no)) .no) (tr:=[(272,251,Ad)])
theorem EV:FOk Tryz.prog 242 wU:=fk [(263,(kL fH))] ⟨(rZ fH),trivial⟩ Tryz.func242 .no (tr:=[(272,251,Ad)])
theorem CN:FOk Tryz.prog 214 uL:=fk [(216,ug),(239,sX),(240,(ni fH)),(241,(l5 fH)),(242,wU)] ⟨yk,BA,(uW fH),(tw fH),EV,trivial⟩ Tryz.func214 .no (tr:=[(272,251,Ad)])
theorem uu:FOk Tryz.prog 243 nW:=fk [] trivial Tryz.func243 (.t (.loop [.s 12,.par 4 [3] 3 y3] (.t (.t (.two (.at [.par 4 [3] 3 y3] .no) .no)))))
theorem pv: ∀n,FOk Tryz.prog 215 (iA n)
 | 0=>kC (f:=iA 0) (enters_of Tryz.func215 (by kernel_rfl) rfl) rfl (fun d=>rfl)
 | n+1=>by
  have a:=pv n;exact fk [(215,(iA n)),(243,nW)] ⟨a,uu,trivial⟩ Tryz.func215 (.t (.two (.t (.t (.t (.t (.t (.t (.t (.t (.two (.t (.t (.t (.two (.t (.at [.box 10 [(.num .i64),(.num .i64),.boo]] .no)) (.two (.t (.at [.box 10 [(.num .i64),(.num .i64),.boo]] .no)) .no))))) .no))))))))) .no)) (tr:=[(272,251,Ad)])
theorem xa:FOk Tryz.prog 174 pQ:=fk [(214,uL),(215,(iA fH)),(216,ug)] ⟨CN,(pv fH),yk,trivial⟩ Tryz.func174 (.t (.t (.t (.t (.two (.t (.loop [.s 6,.s 22] (.t (.t (.two (.at [.s 6] .no) .no))))) .no))))) (tr:=[(272,251,Ad)])
theorem sb:FOk Tryz.prog 217 nO:=fk [] trivial Tryz.func217 (.t (.t (.t (.t (.two (.t (.loop [.slot 10 (.own 3 y3),.slot 11 (.map ⟨3,3,.int,.int⟩),.s 13,.box 12 [(.num .i64),(.own 4 y4),(.own 38 y38)]] (.t (.two (.t (.two (.t (.loop [.slot 10 (.own 3 y3),.slot 11 (.map ⟨3,3,.int,.int⟩),.slot 14 (.own 3 y3),.s 15] (.t (.join [.slot 10 (.own 3 y3),.slot 11 (.map ⟨3,3,.int,.int⟩),.slot 14 (.own 3 y3)] (.t (.t (.t (.join [.slot 10 (.own 3 y3),.slot 11 (.map ⟨3,3,.int,.int⟩),.s 18] .no .no)))) .no)))) .no)) .no)))) .no)))))
theorem tx:FOk Tryz.prog 218 nA:=fk [] trivial Tryz.func218 .no
theorem vL:FOk Tryz.prog 220 pg:=fk [] trivial Tryz.func220 (.t (.t (.join [.s 7] .no (.two (.t (.loop [.s 7,.s 21] (.t (.t (.join [.s 7] .no .no))))) (.t (.two (.t (.loop [.s 10,.s 39] (.t (.t (.join [.s 10] .no .no))))) .no))))))
theorem ym:FOk Tryz.prog 219 qI:=fk [(220,pg)] ⟨vL,trivial⟩ Tryz.func219 .no
theorem BB:FOk Tryz.prog 175 sY:=fk [(217,nO),(218,nA),(219,qI)] ⟨sb,tx,ym,trivial⟩ Tryz.func175 .no
theorem oq:FOk Tryz.prog 272 bL:=GQ (f:=bL) (kC (f:=⟨bL.ps,bL.rs,bL.m,none⟩) (enters_of Tryz.func272 (by kernel_rfl) rfl) rfl (fun d=>rfl)) (Kp (V:=⟨tt,[],[(5,.raw)],8,[]⟩) Pd trivial mixed Tryz.func272 rfl rfl (enters_of Tryz.func272 (by kernel_rfl) rfl) (bu rfl) .no (fun E a b=>by cases a <;> kernel_rfl))
theorem xb:FOk Tryz.prog 265 pR:=fk [(272,bL)] ⟨oq,trivial⟩ Tryz.func265 (.t (.t (.two (.t (.loop [.slot 4 .boo,.row 3 4 y4] (.t (.t (.t (.loop [.slot 4 .boo,.s 16,.row 3 4 y4] (.t (.t (.two (.t (.t (.loop [.slot 4 .boo,.s 23,.row 3 4 y4] (.t (.t (.two (.at [.slot 4 .boo,.row 3 4 y4] .no) .no)))))) .no))))))))) .no)))
theorem lB:FOk Tryz.prog 273 fG:=fk [] trivial Tryz.func273 (.t (.two (.t (.loop [.s 8] .no)) .no))
theorem so:FOk Tryz.prog 274 mq:=fk [(102,dH)] ⟨fJ,trivial⟩ Tryz.func274 .no
theorem uv:FOk Tryz.prog 266 nX:=fk [(273,fG),(274,mq)] ⟨lB,so,trivial⟩ Tryz.func266 (.t (.t (.t (.two (.t (.loop [.slot 6 (.own 38 y38),.slot 7 (.own 3 y3),.s 18] (.t (.t (.join [.slot 6 (.own 38 y38),.slot 7 (.own 3 y3)] (.t (.t (.t (.two (.t (.loop [.s 36,.box 10 [(.own 3 y3)]] (.t (.t (.two (.t (.join [.s 12] .no .no)) .no))))) (.t (.join [.slot 6 (.own 38 y38),.s 13,.gone 10] .no .no)))))) .no))))) .no))))
theorem tz:FOk Tryz.prog 246 nB:=fk [(265,pR),(266,nX)] ⟨xb,uv,trivial⟩ Tryz.func246 (.t (.t (.two (.t (.loop [.slot 3 (.own 3 y3),.s 13] (.t (.t (.join [.slot 3 (.own 3 y3)] .no .no))))) (.t (.loop [.slot 3 (.own 3 y3),.s 6] .no)))))
theorem vM:FOk Tryz.prog 286 ph:=fk [] trivial Tryz.func286 .no
theorem vN:FOk Tryz.prog 287 pj:=fk [] trivial Tryz.func287 .no
theorem yn:FOk Tryz.prog 275 qJ:=fk [(286,ph),(287,pj)] ⟨vM,vN,trivial⟩ Tryz.func275 .no
theorem jD:FOk Tryz.prog 267 fy:=fk [(275,qJ)] ⟨yn,trivial⟩ Tryz.func267 (.t (.t (.t (.t (.t (.t (.two (.loop [.s 8,.row 7 3 (.int .i64)] .no) .no))))))) (an:=[(44,.bool)])
theorem IR:FOk Tryz.prog 247 Bg:=fk [(267,fy)] ⟨jD,trivial⟩ Tryz.func247 .no
theorem pE:FOk Tryz.prog 249 jZ:=fk [] trivial Tryz.func249 (.t (.two (.t (.loop [.s 8] .no)) .no))
theorem qT:FOk Tryz.prog 248 lg:=fk [(249,jZ)] ⟨pE,trivial⟩ Tryz.func248 .no
theorem qU:FOk Tryz.prog 250 lh:=fk [] trivial Tryz.func250 .no
theorem l9:FOk Tryz.prog 252 iT:=fk [(264,sW)] ⟨zm,trivial⟩ Tryz.func252 .no
theorem qV:FOk Tryz.prog 251 lj:=fk [(252,iT)] ⟨l9,trivial⟩ Tryz.func251 .no
theorem sp:FOk Tryz.prog 221 mr:=fk [(217,nO),(246,nB),(247,Bg),(248,lg),(250,lh),(251,lj)] ⟨sb,tz,IR,qT,qU,qV,trivial⟩ Tryz.func221 .no
theorem Pm:FOk Tryz.prog 176 G5:=fk [(221,mr)] ⟨sp,trivial⟩ Tryz.func176 .no
theorem BC:FOk Tryz.prog 138 sZ:=fk [(174,pQ),(175,sY),(176,G5)] ⟨xa,BB,Pm,trivial⟩ Tryz.func138 .no
theorem iG:FOk Tryz.prog 139 dF:=fk [] trivial Tryz.func139 (.t (.two (.t (.loop [.s 8] .no)) .no))
theorem ot:FOk Tryz.prog 177 iU:=fk [] trivial Tryz.func177 (.t (.t (.two (.t (.loop [.s 13] .no)) .no)))
theorem gg:FOk Tryz.prog 178 cW:=fk [] trivial Tryz.func178 (.t (.t (.two (.t (.loop [.s 17] .no)) .no)))
theorem vO:FOk Tryz.prog 179 pn:=fk [(102,dH)] ⟨fJ,trivial⟩ Tryz.func179 .no
theorem qW:FOk Tryz.prog 141 mK:=fk [(177,iU),(178,cW),(179,pn)] ⟨ot,gg,vO,trivial⟩ Tryz.func141 .no
theorem Hc:FOk Tryz.prog 140 zb:=fk [(141,mK)] ⟨qW,trivial⟩ Tryz.func140 .no
theorem He:FOk Tryz.prog 142 ze:=fk [] trivial Tryz.func142 .no
theorem Mj:FOk Tryz.prog 103 DD:=fk [(65,gV),(138,sZ),(139,dF),(140,zb),(142,ze)] ⟨iL,BC,iG,Hc,He,trivial⟩ Tryz.func103 (.t (.t (.two (.t (.loop [.s 13,.box 4 [(.own 67 y67),(.own 101 ER)]] (.t (.t (.two (.t (.t (.t (.t (.join [.s 9,.box 4 [(.own 67 y67),(.own 101 ER)],.gone 7] .no .no))))) .no))))) .no)))
theorem dt:FOk Tryz.prog 143 bC:=fk [] trivial Tryz.func143 (.t (.t (.two (.t (.loop [.s 17] .no)) .no)))
theorem c9:FOk Tryz.prog 144 bz:=fk [] trivial Tryz.func144 (.t (.t (.two (.t (.loop [.s 17] .no)) .no)))
theorem nD:FOk Tryz.prog 222 hZ:=fk [] trivial Tryz.func222 (.t (.t (.two (.t (.loop [.s 13] .no)) .no)))
theorem CO:FOk Tryz.prog 180 uM:=fk [(222,hZ)] ⟨nD,trivial⟩ Tryz.func180 .no
theorem zC:FOk Tryz.prog 145 rP:=fk [(180,uM)] ⟨CO,trivial⟩ Tryz.func145 .no
theorem vP:FOk Tryz.prog 104 po:=fk [(141,mK),(143,bC),(144,bz),(145,rP)] ⟨qW,dt,c9,zC,trivial⟩ Tryz.func104 .no
theorem pw:FOk Tryz.prog 68 kU:=fk [(103,DD),(104,po)] ⟨Mj,vP,trivial⟩ Tryz.func68 .no
theorem gY:FOk Tryz.prog 105 dq:=fk [] trivial Tryz.func105 (.t (.two (.t (.loop [.s 8] .no)) .no))
theorem BD:FOk Tryz.prog 106 ta:=fk [] trivial Tryz.func106 .no
theorem xc:FOk Tryz.prog 69 rC:=fk [(105,dq),(106,ta)] ⟨gY,BD,trivial⟩ Tryz.func69 .no
theorem BE:FOk Tryz.prog 35 vC:=fk [(37,jW),(67,iS),(68,kU),(69,rC)] ⟨mN,l7,pw,xc,trivial⟩ Tryz.func35 .no
theorem tC:FOk Tryz.prog 181 pS:=fk [] trivial Tryz.func181 .no
theorem EW:FOk Tryz.prog 146 wV:=fk [(181,pS)] ⟨tC,trivial⟩ Tryz.func146 .no
theorem IS:FOk Tryz.prog 107 Bh:=fk [(37,jW),(65,gV),(67,iS),(146,wV)] ⟨mN,iL,l7,EW,trivial⟩ Tryz.func107 .no
theorem yo:FOk Tryz.prog 182 qK:=fk [(181,pS)] ⟨tC,trivial⟩ Tryz.func182 (.t (.t (.two (.t (.loop [.s 16,.box 3 [(.num .i64),(.own 4 y4),(.own 38 y38)]] .no)) .no)))
theorem xd:FOk Tryz.prog 147 pT:=fk [(68,kU),(69,rC),(182,qK)] ⟨pw,xc,yo,trivial⟩ Tryz.func147 .no
theorem uw:FOk Tryz.prog 223 nY:=fk [(65,gV)] ⟨iL,trivial⟩ Tryz.func223 (.t (.t (.t (.two (.t (.loop [.s 32] (.t (.t (.two (.t (.two (.t (.loop [.s 38] .no)) .no)) .no))))) .no))))
theorem DL:FOk Tryz.prog 183 yf:=fk [(65,gV),(101,kK),(223,nY)] ⟨iL,nR,uw,trivial⟩ Tryz.func183 (.t (.two (.t (.loop [.s 11] .no)) .no))
theorem Mk:FOk Tryz.prog 253 DE:=fk [(267,fy)] ⟨jD,trivial⟩ Tryz.func253 (.t (.t (.t (.two (.t (.loop [.slot 6 (.own 3 (.int .i64)),.s 18,.row 5 3 y3] .no)) (.two (.loop [.slot 6 (.own 3 (.int .i64)),.row 5 3 y3] (.t (.two (.t (.loop [.slot 6 (.own 3 y3),.s 42,.row 5 3 y3] (.t (.t (.two (.at [.slot 6 (.own 3 y3),.row 5 3 y3] .no) .no))))) .no))) .no))))) (an:=[(34,.bool)])
theorem vQ:FOk Tryz.prog 255 rD:=fk [] trivial Tryz.func255 (.t (.t (.two (.t (.loop [.slot 3 (.own 3 y3),.s 4] (.t (.join [.slot 3 (.own 3 y3)] .no .no)))) .no)))
theorem Pn:FOk Tryz.prog 276 G6:=fk [] trivial Tryz.func276 .no
theorem SR:FOk Tryz.prog 268 Kt:=fk [(276,G6)] ⟨Pn,trivial⟩ Tryz.func268 (.t (.t (.two (.t (.loop [.s 13,.row 3 295 aaZ] .no)) .no)))
theorem BF:FOk Tryz.prog 256 vD:=fk [(252,iT)] ⟨l9,trivial⟩ Tryz.func256 (.t (.t (.two (.t (.loop [.s 7,.s 8] .no)) .no)))
theorem Po:FOk Tryz.prog 269 G7:=fk [(252,iT),(255,rD),(256,vD)] ⟨l9,vQ,BF,trivial⟩ Tryz.func269 (.t (.t (.two (.t (.loop [.s 9,.s 18] (.t (.t (.two (.t (.t (.loop [.s 9,.s 28] (.t (.t (.join [.s 9] .no .no)))))) .no))))) .no)))
theorem zD:FOk Tryz.prog 254 rQ:=fk [(255,rD),(268,Kt),(269,G7)] ⟨vQ,SR,Po,trivial⟩ Tryz.func254 (.t (.t (.t (.two (.t (.loop [.s 26,.row 6 38 y38] (.t (.t (.two (.t (.t (.loop [.s 9,.row 6 38 y38] (.t (.two (.t (.loop [.s 38,.row 6 38 y38] (.t (.t (.two (.t (.t (.loop [.s 55,.row 6 38 y38] .no))) .no))))) .no))))) .no))))) .no))))
theorem yp:FOk Tryz.prog 224 qL:=acb (V:=⟨tt,[(183,yf),(253,DE),(254,rQ)],[(1000000,.raw)],26,[]⟩) Pd ⟨DL,Mk,zD,trivial⟩ mixed Tryz.func224 rfl rfl (enters_of Tryz.func224 (by kernel_rfl) rfl) ⟨rfl,rfl⟩ (bu rfl) rfl .no (fun d=>by kernel_rfl)
theorem EX:FOk Tryz.prog 225 wW:=fk [(255,rD),(256,vD)] ⟨vQ,BF,trivial⟩ Tryz.func225 (.t (.two (.t (.loop [.s 14] (.t (.t (.two (.t (.t (.loop [.s 24] .no))) .no))))) .no))
theorem qm:FOk Tryz.prog 257 ky:=Pb II (enters_of Tryz.func257 (by kernel_rfl) rfl) 3
theorem ou:FOk Tryz.prog 258 iV:=fk [] trivial Tryz.func258 (.t (.t (.two (.t (.loop [.s 3] (.t (.two (.t (.two (.t (.two (.t (.loop [.s 3,.s 5,.row 0 3 y3] (.t (.two (.at [.s 3,.row 0 3 y3] .no) .no)))) .no)) .no)) .no)))) .no))) (an:=[(28,.raw),(56,.raw),(59,.raw)])
theorem EY:FOk Tryz.prog 226 wX:=fk [(181,pS),(257,ky),(258,iV)] ⟨tC,qm,ou,trivial⟩ Tryz.func226 .no
theorem BG:FOk Tryz.prog 184 tc:=fk [(224,qL),(225,wW),(226,wX)] ⟨yp,EX,EY,trivial⟩ Tryz.func184 (.t (.t (.t (.two (.t (.loop [.slot 7 (.own 3 y3),.s 20] (.t (.t (.two (.at [.slot 7 (.own 3 y3)] .no) .no))))) .no))))
theorem CP:FOk Tryz.prog 148 uN:=fk [(183,yf),(184,tc)] ⟨DL,BG,trivial⟩ Tryz.func148 (.t (.t (.t (.two (.t (.loop [.slot 5 (.own 81 y81),.s 17] (.t (.t (.two (.t (.t (.loop [.slot 5 (.own 81 y81),.s 25] .no))) .no))))) .no))))
theorem zF:FOk Tryz.prog 108 rR:=fk [(101,kK),(147,pT),(148,uN)] ⟨nR,xd,CP,trivial⟩ Tryz.func108 .no
end R
end Go.Proofs.YtncnbjfngmhfaaaGreatDoor
