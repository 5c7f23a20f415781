/- FnExactRecoverEngine: for every input the law returns true and changes nothing that was there. Part 7 of 9. -/
import Derived.Test.YtodbpnpbhpeepaaGreatDoorEC5
set_option linter.unusedVariables false
set_option linter.unusedSimpArgs false
set_option linter.unnecessarySimpa false
set_option linter.unusedSectionVars false
set_option maxRecDepth 1000000
namespace Go.Proofs.YtodbpnpbhpeepaaGreatDoor
open Go.IntKind (i64)
namespace D
open Go.RowKit
abbrev Yq1:Type:=(Int×Int×Int×Int)
abbrev Yq2:Type:=(Int×(List Bool)×(List (List Int)))
abbrev Yq3:Type:=(Int×((List Yq1))×Int)
abbrev Yq4:Type:=((List Int)×(List Yq1))
abbrev Yq5:Type:=(Bool×Int×Int×Int×Int)
abbrev Yq6:Type:=((List (Int×(List Bool)×List (List Int)))×List (Int×(List Yq1)×Int))
abbrev GB:Type:=(Int×Int×Int)
abbrev Yq7:Type:=(List GB)
abbrev Yq8:Type:=((List Yq2)×(List Yq3))
abbrev Yq9:Type:=(Int×List ((List Int)×List Yq1))
abbrev uj:Type:=(Int×(List Yq4))
abbrev Rn:Type:=((List Int)×Int×Int×(List Int)×Bool)
abbrev AC:Type:=(Out Int (Int×Int))
abbrev aby:Type:=(Int×Int×(List (List Yq5))×Int×(List ((List Int)×List Yq1))×(List (Int×(List Bool)×List (List Int)))×(List (Int×(List Yq1)×Int))×Yq7×ByteArray)
abbrev Ro:Type:=(Int×(List Yq2)×(List Yq3))
def cd (a:Int) (b:Int) (c:Int):Option Bool:=
 if decide (a≥b) then (some (decide (a<=c))) else (some false)
def fP (a:Int×Int×Int×Int) (b:Int):Option Bool:=
 (cd a.1 1 99).bind fun c=>if c then ((cd a.2.1 0 (i64.wrap (b - 1))).bind fun d=>if d then ((cd a.2.2.1 0 (i64.wrap (b - 1))).bind fun e=>if e then ((cd a.2.2.2 0 2).bind fun f=>some f) else (some false)) else (some false)) else (some false)
def eC (b:(List Int)×(List Yq1)) (a:Int):Option (Out Bool Int):=
 if decide (a<(b.1.length:Int)) then ((aQ b.1 a).bind fun c=>(cd c 0 2).bind fun d=>if d then (some (.nxt (i64.wrap (a+1)))) else (some (.ret false))) else (some (.brk a))
def dj (c:(List Int)×(List Yq1)) (a:Int):Option (Out Bool Int):=
 if decide (a<(c.2.length:Int)) then ((aQ c.2 a).bind fun b=>(fP (b.1,b.2.1,b.2.2.1,b.2.2.2) (c.1.length:Int)).bind fun d=>if d then (if decide (a>0) then ((aQ c.2 (i64.wrap (a - 1))).bind fun e=>if decide (e.1≥b.1) then (some (.ret false)) else (some (.nxt (i64.wrap (a+1))))) else (some (.nxt (i64.wrap (a+1))))) else (some (.ret false))) else (some (.brk a))
def bL (a:(List Int)×(List Yq1)):Option Bool:=
 aO (ax (eC a) aT 0) (fun r=>some r) (fun c=>aO (ax (dj a) aT 0) (fun r=>some r) (fun d=>(cd (a.1.length:Int) 1 5).bind fun b=>if b then (some (decide ((a.2.length:Int)<=12))) else (some false)))
def cG (b:List Int) (c:List Int) (a:Int):Option (Out Bool Int):=
 if decide (a<(b.length:Int)) then ((aQ b a).bind fun d=>(aQ c a).bind fun e=>if d !=e then (some (.ret false)) else (some (.nxt (i64.wrap (a+1))))) else (some (.brk a))
def cq (a:List Int) (b:List Int):Option Bool:=
 if (a.length:Int) !=(b.length:Int) then (some false) else (aO (ax (cG a b) aT 0) (fun r=>some r) (fun c=>some true))
def e8 (b:Int×(List Yq4)) (a:Int):Option (Out Bool Int):=
 if decide (a<(b.2.length:Int)) then ((aQ b.2 a).bind fun c=>(bL (c.1,c.2)).bind fun d=>if d then ((aQ b.2 0).bind fun e=>(cq c.1 e.1).bind fun f=>if f then (some (.nxt (i64.wrap (a+1)))) else (some (.ret false))) else (some (.ret false))) else (some (.brk a))
def m_i_IsValidHistory (a:Int×(List Yq4)):Option Bool:=
 (cd (a.2.length:Int) 1 8).bind fun b=>if b then ((cd a.1 1 (i64.wrap ((i64.wrap (999 - (a.2.length:Int)))+1))).bind fun c=>if c then (aO (ax (e8 a) aT 0) (fun r=>some r) (fun d=>some true)) else (some false)) else (some false)
def bS (a:Int×(List Yq4)):Option Int:=
 (m_i_IsValidHistory (a.1,a.2)).bind fun b=>if b then (some (i64.wrap ((i64.wrap (a.1+(a.2.length:Int))) - 1))) else (some 0)
def aP (d:List Yq2) (e:List Yq2) (f:Yq2->Yq2->Option Bool) (a:Int):Option (Out Bool Int):=
 if decide (a<(d.length:Int)) then ((aQ d a).bind fun b=>(aQ e a).bind fun c=>(f (b.1,b.2.1,b.2.2) (c.1,c.2.1,c.2.2)).bind fun g=>if g then (some (.nxt (i64.wrap (a+1)))) else (some (.ret false))) else (some (.brk a))
def aY (a:List Yq2) (b:List Yq2) (c:Yq2->Yq2->Option Bool):Option Bool:=
 if (a.length:Int) !=(b.length:Int) then (some false) else (aO (ax (aP a b c) aT 0) (fun r=>some r) (fun d=>some true))
def cf (b:List Bool) (c:List Bool) (a:Int):Option (Out Bool Int):=
 if decide (a<(b.length:Int)) then ((aQ b a).bind fun d=>(aQ c a).bind fun e=>if d !=e then (some (.ret false)) else (some (.nxt (i64.wrap (a+1))))) else (some (.brk a))
def dR (a:List Bool) (b:List Bool):Option Bool:=
 if (a.length:Int) !=(b.length:Int) then (some false) else (aO (ax (cf a b) aT 0) (fun r=>some r) (fun c=>some true))
def a7 (b:List (List Int)) (c:List (List Int)) (d:(List Int)->(List Int)->Option Bool) (a:Int):Option (Out Bool Int):=
 if decide (a<(b.length:Int)) then ((aQ b a).bind fun e=>(aQ c a).bind fun f=>(d e f).bind fun g=>if g then (some (.nxt (i64.wrap (a+1)))) else (some (.ret false))) else (some (.brk a))
def bP (a:List (List Int)) (b:List (List Int)) (c:(List Int)->(List Int)->Option Bool):Option Bool:=
 if (a.length:Int) !=(b.length:Int) then (some false) else (aO (ax (a7 a b c) aT 0) (fun r=>some r) (fun d=>some true))
def gz (a:List Int) (b:List Int):Option Bool:=
 (cq a b).bind fun c=>some c
def ez (a:Int×(List Bool)×(List (List Int))) (b:Int×(List Bool)×(List (List Int))):Option Bool:=
 if a.1==b.1 then ((dR a.2.1 b.2.1).bind fun c=>if c then ((bP a.2.2 b.2.2 (fun a0 a1=>gz a0 a1)).bind fun d=>some d) else (some false)) else (some false)
def aM (d:List Yq3) (e:List Yq3) (f:Yq3->Yq3->Option Bool) (a:Int):Option (Out Bool Int):=
 if decide (a<(d.length:Int)) then ((aQ d a).bind fun b=>(aQ e a).bind fun c=>(f (b.1,b.2.1,b.2.2) (c.1,c.2.1,c.2.2)).bind fun g=>if g then (some (.nxt (i64.wrap (a+1)))) else (some (.ret false))) else (some (.brk a))
def aU (a:List Yq3) (b:List Yq3) (c:Yq3->Yq3->Option Bool):Option Bool:=
 if (a.length:Int) !=(b.length:Int) then (some false) else (aO (ax (aM a b c) aT 0) (fun r=>some r) (fun d=>some true))
def b7 (d:List Yq1) (e:List Yq1) (a:Int):Option (Out Bool Int):=
 if decide (a<(d.length:Int)) then ((aQ d a).bind fun b=>(aQ e a).bind fun c=>if (b.1==c.1)&&((b.2.1==c.2.1)&&((b.2.2.1==c.2.2.1)&&((b.2.2.2==c.2.2.2)&&true))) then (some (.nxt (i64.wrap (a+1)))) else (some (.ret false))) else (some (.brk a))
def cx (a:List Yq1) (b:List Yq1):Option Bool:=
 if (a.length:Int) !=(b.length:Int) then (some false) else (aO (ax (b7 a b) aT 0) (fun r=>some r) (fun c=>some true))
def mj (a:(List Yq1)) (b:(List Yq1)):Option Bool:=
 (cx a b).bind fun c=>some c
def gT (a:Int×((List Yq1))×Int) (b:Int×((List Yq1))×Int):Option Bool:=
 if a.1==b.1 then ((mj a.2.1 b.2.1).bind fun c=>if c then (some (a.2.2==b.2.2)) else (some false)) else (some false)
def gA (a:(List Yq2)×(List Yq3)) (b:(List Yq2)×(List Yq3)):Option Bool:=
 (aY a.1 b.1 (fun a0 a1=>ez a0 a1)).bind fun c=>if c then ((aU a.2 b.2 (fun a0 a1=>gT a0 a1)).bind fun d=>some d) else (some false)
def gm (a:(List Yq1)):Option (List Yq1):=
 (cn 32 ([] :List Yq1) a).bind fun b=>some b
def kA (a:Int):Option Bool:=
 (cd a 0 8).bind fun b=>some b
def ra (a:Int×Int×Int×Int):Option Bool:=
 if a.1==3 then ((kA a.2.1).bind fun b=>if b then (if a.2.2.1==0 then (some (a.2.2.2==0)) else (some false)) else (some false)) else (if a.1==7 then (if a.2.1==0 then ((cd a.2.2.1 0 a.2.2.2).bind fun c=>if c then ((cd a.2.2.2 1 3).bind fun d=>some d) else (some false)) else (some false)) else (Option.bind ((if a.1==1 then (some (a.1==1)) else (if a.1==2 then (some (a.1==2)) else (if a.1==4 then (some (a.1==4)) else (if a.1==5 then (some (a.1==5)) else (some (a.1==6))))):Option Bool)) (fun e=>if e then (some ((a.1==a.1)&&((a.2.1==0)&&((a.2.2.1==0)&&((a.2.2.2==0)&&true))))) else (some false))))
def rb (d:List Yq1) (a:(List (Tr Yq1))×Int):Option (Out (Tr Yq1) ((List (Tr Yq1))×Int)):=
 if decide (a.2<(d.length:Int)) then ((aQ d a.2).bind fun b=>Option.bind ((Option.bind ((if b.1==4 then (some (b.1==4)) else (some (b.1==5)):Option Bool)) (fun e=>if e then (some 2) else (Option.bind ((if b.1==6 then (some (b.1==6)) else (some (b.1==7)):Option Bool)) (fun f=>if f then (some 1) else (some 0)))):Option Int)) (fun c=>(ra (b.1,b.2.1,b.2.2.1,b.2.2.2)).bind fun g=>if g then (if decide ((i64.wrap ((a.1.length:Int) - c))<0) then (some (.ret Tr.nil)) else ((chk (And (0<=(i64.wrap ((a.1.length:Int) - c))) ((i64.wrap ((a.1.length:Int) - c))<=(a.1.length:Int)))).bind fun _=>(cn 8 ([] :List (Tr Yq1)) (a.1.drop ((i64.wrap ((a.1.length:Int) - c)).toNat))).bind fun h=>(chk (And (0<=(i64.wrap ((a.1.length:Int) - c))) ((i64.wrap ((a.1.length:Int) - c))<=(a.1.length:Int)))).bind fun _=>(cn 8 (a.1.take ((i64.wrap ((a.1.length:Int) - c)).toNat)) ([Tr.node (b.1,b.2.1,b.2.2.1,b.2.2.2) h])).bind fun i=>some (.nxt (i,i64.wrap (a.2+1))))) else (some (.ret Tr.nil)))) else (some (.brk (a.1,a.2)))
def od (b:List Yq1):Option (Tr Yq1):=
 aO (ax (rb b) aT (([] :List (Tr Yq1)),0)) (fun c=>some c) (fun a=>if (a.1.length:Int) !=1 then (some Tr.nil) else ((aQ a.1 0).bind fun d=>some d))
def uk (a:List Yq1):Option Bool:=
 (od a).bind fun b=>some (cond.match_1 (fun (c:Bool)=>Bool) (Tr.isNil b) (fun (d:Unit)=>false) (fun (e:Unit)=>true))
def kY (a:(List Yq1)):Option Bool:=
 if decide ((a.length:Int)<=24) then ((uk a).bind fun b=>some b) else (some false)
def bM (mrec:(Tr Yq1)->Option Int) (b:Tr Yq1) (c:Yq1×List (Tr Yq1)) (a:Int×Int):Option AC:=
 if decide (a.2<(c.2.length:Int)) then (Option.bind (((aQ c.2 a.2).bind fun d=>(Tr.get b).bind fun j=>(Tr.get b).bind fun e=>if e.1.1==7 then ((mrec d).bind fun f=>(Tr.get b).bind fun k=>(Tr.get b).bind fun g=>some (i64.wrap (a.1+(i64.wrap ((i64.wrap (f+3))*g.1.2.2.2))))) else ((mrec d).bind fun h=>some (i64.wrap (a.1+h))):Option Int)) (fun i=>some (.nxt (i,i64.wrap (a.2+1))))) else (some (.brk (a.1,a.2)))
def bW:Nat->(Tr Yq1)->Option Int
 | 0,_=>none
 | n+1,p0x =>
  (Tr.get p0x).bind fun d=>(Tr.get p0x).bind fun a=>aO (ax (bM (bW n) p0x a) aT (1,0)) (fun b=>some b) (fun c=>some (Min.min c.1 100000))
def Fo (a:Int):Option (Tr Yq1):=
 some (Tr.node (a,0,0,0) ([] :List (Tr Yq1)))
def kB:Nat->(Tr Yq1)->Int->Int->Option (Tr Yq1)
 | 0,_,_,_=>none
 | n+1,p0x,p1low,p2high =>
  if p2high==0 then ((Fo 2).bind fun b=>some b) else (((kB n) p0x (Max.max 0 (i64.wrap (p1low - 1))) (i64.wrap (p2high - 1))).bind fun a=>if decide (p1low>0) then (some (Tr.node (4,0,0,0) ([p0x,a]))) else ((Fo 2).bind fun c=>some (Tr.node (5,0,0,0) ([Tr.node (4,0,0,0) ([p0x,a]),c]))))
def bt (mrec:(Tr Yq1)->Option (Tr Yq1)) (b:Yq1×List (Tr Yq1)) (a:Int×Int×Int×Int×Int×List (Tr Yq1)):Option (Out (Tr Yq1) (Int×Int×Int×Int×Int×List (Tr Yq1))):=
 if decide (a.1<(b.2.length:Int)) then ((aQ b.2 a.1).bind fun c=>(mrec c).bind fun d=>(cn 8 a.2.2.2.2.2 ([d])).bind fun e=>some (.nxt (i64.wrap (a.1+1),a.2.1,a.2.2.1,a.2.2.2.1,a.2.2.2.2.1,e))) else (some (.brk (a.1,a.2.1,a.2.2.1,a.2.2.2.1,a.2.2.2.2.1,a.2.2.2.2.2)))
def bG:Nat->(Tr Yq1)->Option (Tr Yq1)
 | 0,_=>none
 | n+1,p0x =>
  (Tr.get p0x).bind fun l=>(Tr.get p0x).bind fun c=>if c.1.1==7 then ((Tr.get p0x).bind fun m=>(Tr.get p0x).bind fun d=>(aQ d.2 0).bind fun e=>((bG n) e).bind fun f=>(Tr.get p0x).bind fun o=>(Tr.get p0x).bind fun g=>(Tr.get p0x).bind fun p=>(Tr.get p0x).bind fun h=>(kB gR f g.1.2.2.1 h.1.2.2.2).bind fun i=>some i) else ((Tr.get p0x).bind fun q=>(Tr.get p0x).bind fun b=>(Tr.get p0x).bind fun r=>(Tr.get p0x).bind fun j=>aO (ax (bt (bG n) j) aT (0,b.1.1,b.1.2.1,b.1.2.2.1,b.1.2.2.2,([] :List (Tr Yq1)))) (fun k=>some k) (fun a=>some (Tr.node (a.2.1,a.2.2.1,a.2.2.2.1,a.2.2.2.2.1) a.2.2.2.2.2)))
def be (mrec:(Tr Yq1)->(List Yq1)->Option (List Yq1)) (b:Yq1×List (Tr Yq1)) (a:Int×List Yq1):Option (Out (List Yq1) (Int×List Yq1)):=
 if decide (a.1<(b.2.length:Int)) then ((aQ b.2 a.1).bind fun c=>(mrec c a.2).bind fun d=>some (.nxt (i64.wrap (a.1+1),d))) else (some (.brk (a.1,a.2)))
def bD:Nat->(Tr Yq1)->(List Yq1)->Option (List Yq1)
 | 0,_,_=>none
 | n+1,p0x,p1out =>
  (Tr.get p0x).bind fun f=>(Tr.get p0x).bind fun b=>aO (ax (be (bD n) b) aT (0,p1out)) (fun c=>some c) (fun d=>(Tr.get p0x).bind fun g=>(Tr.get p0x).bind fun a=>(cn 32 d.2 ([(a.1.1,a.1.2.1,a.1.2.2.1,a.1.2.2.2)])).bind fun e=>some e)
def re (a:Tr Yq1):Option (List Yq1):=
 (bD gR a ([] :List Yq1)).bind fun b=>some b
def mn (a:List Yq1):Option ((List Yq1)×Bool):=
 (kY a).bind fun d=>if d then ((od a).bind fun b=>(bW gR b).bind fun e=>if decide (e>5000) then (some (([] :List Yq1),false)) else ((bG gR b).bind fun f=>(re f).bind fun c=>if decide ((c.length:Int)>400) then (some (([] :List Yq1),false)) else (some (c,true)))) else (some (([] :List Yq1),false))
def cW (b:(List Int)×Int×Int×(List Int)×Bool) (c:Int) (d:Int) (a:Int×List Int):Option (Out Rn (Int×List Int)):=
 if decide (a.1<(b.2.2.2.1.length:Int)) then (Option.bind (((chk (0<=a.1)).bind fun _=>if (AN (uQ c a.1) 1)==1 then ((aQ a.2 a.1).bind fun e=>(aQ a.2 a.1).bind fun g=>some (a.2.set a.1.toNat (orI e d))) else (some a.2):Option (List Int))) (fun f=>some (.nxt (i64.wrap (a.1+1),f)))) else (some (.brk (a.1,a.2)))
def dO (a:(List Int)×Int×Int×(List Int)×Bool) (b:Int) (c:Int):Option Rn:=
 aO (ax (cW a b c) aT (0,a.2.2.2.1)) (fun d=>some d) (fun e=>some (a.1,a.2.1,a.2.2.1,e.2,a.2.2.2.2))
def bH:Nat->Rn->(Tr Yq1)->Option ((Int×Int×Bool)×(List Int)×Int×Int×(List Int)×Bool)
 | 0,_,_=>none
 | n+1,p0,p1 =>
  (Tr.get p1).bind fun A=>(Tr.get p1).bind fun i=>if i.1.1==2 then (some ((0,0,true),p0.1,p0.2.1,p0.2.2.1,p0.2.2.2.1,p0.2.2.2.2)) else (if i.1.1==3 then ((Tr.get p1).bind fun B=>(Tr.get p1).bind fun m=>(cn 8 p0.1 ([m.1.2.1])).bind fun o=>(cn 8 p0.2.2.2.1 ([0])).bind fun p=>some ((Ko 1 (p0.1.length:Int),Ko 1 (p0.1.length:Int),false),o,p0.2.1,p0.2.2.1,p,p0.2.2.2.2)) else (if i.1.1==5 then ((Tr.get p1).bind fun C=>(Tr.get p1).bind fun q=>(aQ q.2 0).bind fun r=>((bH n) (p0.1,p0.2.1,p0.2.2.1,p0.2.2.2.1,p0.2.2.2.2) r).bind fun f=>(Tr.get p1).bind fun D=>(Tr.get p1).bind fun s=>(aQ s.2 1).bind fun t=>((bH n) f.2 t).bind fun b=>if f.1.2.2 then (some ((orI f.1.1 b.1.1,orI f.1.2.1 b.1.2.1,true),b.2.1,b.2.2.1,b.2.2.2.1,b.2.2.2.2.1,b.2.2.2.2.2)) else (some ((orI f.1.1 b.1.1,orI f.1.2.1 b.1.2.1,b.1.2.2),b.2.1,b.2.2.1,b.2.2.2.1,b.2.2.2.2.1,b.2.2.2.2.2))) else (if i.1.1==4 then ((Tr.get p1).bind fun E=>(Tr.get p1).bind fun u=>(aQ u.2 0).bind fun v=>((bH n) (p0.1,p0.2.1,p0.2.2.1,p0.2.2.2.1,p0.2.2.2.2) v).bind fun c=>(Tr.get p1).bind fun F=>(Tr.get p1).bind fun w=>(aQ w.2 1).bind fun x=>((bH n) c.2 x).bind fun a=>(dO (a.2.1,a.2.2.1,a.2.2.2.1,a.2.2.2.2.1,a.2.2.2.2.2) c.1.2.1 a.1.1).bind fun d=>if c.1.2.2 then (Option.bind ((if c.1.2.2 then (some (orI c.1.1 a.1.1,a.1.2.1,a.1.2.2)) else (some (c.1.1,a.1.2.1,a.1.2.2)):Option (Int×Int×Bool))) (fun g=>Option.bind ((if a.1.2.2 then (some (g.1,orI g.2.1 c.1.2.1,g.2.2)) else (some (g.1,g.2.1,g.2.2)):Option (Int×Int×Bool))) (fun k=>some ((k.1,k.2.1,k.2.2),d.1,d.2.1,d.2.2.1,d.2.2.2.1,d.2.2.2.2)))) else (Option.bind ((if c.1.2.2 then (some (orI c.1.1 a.1.1,a.1.2.1,false)) else (some (c.1.1,a.1.2.1,false)):Option (Int×Int×Bool))) (fun h=>Option.bind ((if a.1.2.2 then (some (h.1,orI h.2.1 c.1.2.1,h.2.2)) else (some (h.1,h.2.1,h.2.2)):Option (Int×Int×Bool))) (fun l=>some ((l.1,l.2.1,l.2.2),d.1,d.2.1,d.2.2.1,d.2.2.2.1,d.2.2.2.2))))) else (if i.1.1==6 then ((Tr.get p1).bind fun G=>(Tr.get p1).bind fun y=>(aQ y.2 0).bind fun z=>((bH n) (p0.1,p0.2.1,p0.2.2.1,p0.2.2.2.1,p0.2.2.2.2) z).bind fun e=>(dO (e.2.1,e.2.2.1,e.2.2.2.1,e.2.2.2.2.1,e.2.2.2.2.2) e.1.2.1 e.1.1).bind fun j=>some ((e.1.1,e.1.2.1,true),j.1,j.2.1,j.2.2.1,j.2.2.2.1,j.2.2.2.2)) else (some ((0,0,false),p0.1,p0.2.1,p0.2.2.1,p0.2.2.2.1,p0.2.2.2.2))))))
def du (b:(List Yq1)×Bool) (a:Int×Int):Option (Out (Rn×Bool) (Int×Int)):=
 if decide (a.2<(b.1.length:Int)) then (Option.bind (((aQ b.1 a.2).bind fun c=>if c.1==3 then (some (i64.wrap (a.1+1))) else (some a.1):Option Int)) (fun d=>some (.nxt (d,i64.wrap (a.2+1))))) else (some (.brk (a.1,a.2)))
def il (c:List Yq1):Option (Rn×Bool):=
 (mn c).bind fun b=>if b.2 then (aO (ax (du b) aT (0,0)) (fun d=>some d) (fun e=>if decide (e.1>20) then (some ((([] :List Int),0,0,([] :List Int),false),false)) else ((od b.1).bind fun f=>(bH gR (([] :List Int),0,0,([] :List Int),false) f).bind fun a=>some ((a.2.1,a.1.1,a.1.2.1,a.2.2.2.2.1,a.1.2.2),true)))) else (some ((([] :List Int),0,0,([] :List Int),false),false))
def eD (e:Int->Int->Option (Int×Bool)) (f:(List Int)×(List (Int×Int))×Int×Int×(List Bool)×(List (List Int))) (a:(List Int)×(List (Int×Int))×(List Int)×Int):Option (Out (Yq2×Bool) ((List Int)×(List (Int×Int))×(List Int)×Int)):=
 if decide (a.2.2.2<9) then (Option.bind (((aQ a.1 f.2.2.1).bind fun g=>(e g a.2.2.2).bind fun b=>if b.2 then ((chk (iOk b.1=true)).bind fun _=>Option.bind ((if (lkM a.2.1 b.1).isSome then (some (a.1,a.2.1,(lkM a.2.1 b.1).getD 0)) else ((NS a.2.1 iOk iOk b.1 (a.1.length:Int)).bind fun m37=>(cn 8 a.1 ([b.1])).bind fun h=>some (h,m37,(a.1.length:Int))):Option ((List Int)×(List (Int×Int))×Int))) (fun c=>(cn 8 a.2.2.1 ([c.2.2])).bind fun i=>some (c.1,c.2.1,i))) else ((cn 8 a.2.2.1 ([-1])).bind fun j=>some (a.1,a.2.1,j)):Option ((List Int)×(List (Int×Int))×(List Int)))) (fun d=>some (.nxt (d.1,d.2.1,d.2.2,i64.wrap (a.2.2.2+1))))) else (some (.brk (a.1,a.2.1,a.2.2.1,a.2.2.2)))
def b8 (c:Int) (d:Int->Option Bool) (e:Int->Int->Option (Int×Bool)) (a:(List Int)×(List (Int×Int))×Int×Int×(List Bool)×(List (List Int))):Option (Out (Yq2×Bool) ((List Int)×(List (Int×Int))×Int×Int×(List Bool)×(List (List Int)))):=
 if decide (a.2.2.1<(a.1.length:Int)) then (aO (ax (eD e a) aT (a.1,a.2.1,([] :List Int),0)) (fun r=>some (.ret r)) (fun b=>if decide ((b.1.length:Int)>c) then (some (.ret ((0,[],[]),false))) else ((aQ b.1 a.2.2.1).bind fun f=>(d f).bind fun g=>(cn 1 a.2.2.2.2.1 ([g])).bind fun h=>(cn 24 a.2.2.2.2.2 ([b.2.2.1])).bind fun i=>some (.nxt (b.1,b.2.1,i64.wrap (a.2.2.1+1),a.2.2.2.1,h,i))))) else (some (.brk (a.1,a.2.1,a.2.2.1,a.2.2.2.1,a.2.2.2.2.1,a.2.2.2.2.2)))
def eW (b:Int) (c:Int) (d:Int->Option Bool) (e:Int->Int->Option (Int×Bool)):Option (Yq2×Bool):=
 (NS ([] :List (Int×Int)) iOk iOk b 0).bind fun m1=>aO (ax (b8 c d e) aT ([b],m1,0,0,[],[])) (fun r=>some r) (fun a=>some ((a.2.2.2.1,a.2.2.2.2.1,a.2.2.2.2.2),true))
def dw (a:(List Int)×Int×Int×(List Int)×Bool) (b:Int):Option Bool:=
 if (AN b 1)==1 then (if a.2.2.2.2 then (some true) else (some ((AN (uQ b 1) a.2.2.1) !=0))) else (some ((AN (uQ b 1) a.2.2.1) !=0))
def dh (b:(List Int)×Int×Int×(List Int)×Bool) (c:Int) (a:Int×Int):Option AC:=
 if decide (a.2<(b.2.2.2.1.length:Int)) then (Option.bind (((aQ b.2.2.2.1 a.2).bind fun d=>(chk (0<=i64.wrap (a.2+1))).bind fun _=>if (AN (uQ c (i64.wrap (a.2+1))) 1)==1 then (some (orI a.1 d)) else (some a.1):Option Int)) (fun e=>some (.nxt (e,i64.wrap (a.2+1))))) else (some (.brk (a.1,a.2)))
def di (b:(List Int)×Int×Int×(List Int)×Bool) (c:Int) (d:Int×Int) (a:Int×Int):Option AC:=
 if decide (a.2<(b.1.length:Int)) then (Option.bind (((aQ b.1 a.2).bind fun e=>if e==c then ((chk (0<=a.2)).bind fun _=>if (AN (uQ d.1 a.2) 1)==1 then ((chk (0<=i64.wrap (a.2+1))).bind fun _=>some (orI a.1 (Ko 1 (i64.wrap (a.2+1))))) else (some a.1)) else (some a.1):Option Int)) (fun f=>some (.nxt (f,i64.wrap (a.2+1))))) else (some (.brk (a.1,a.2)))
def gB (a:(List Int)×Int×Int×(List Int)×Bool) (b:Int) (c:Int):Option Int:=
 Option.bind ((if (AN b 1)==1 then (some a.2.1) else (some 0):Option Int)) (fun d=>aO (ax (dh a b) aT (d,0)) (fun r=>some r) (fun e=>aO (ax (di a c e) aT (0,0)) (fun r=>some r) (fun f=>some f.1)))
def dk (b:Int) (c:Int) (q0:(List Int)×Int×Int×(List Int)×Bool):Option (Int×Bool):=
 (gB (q0.1,q0.2.1,q0.2.2.1,q0.2.2.2.1,q0.2.2.2.2) b c).bind fun a=>some (a,a !=0)
def iG (a:(List Int)×Int×Int×(List Int)×Bool) (c:Int):Option (Yq2×Bool):=
 (eW 1 c (fun a0=>dw (a.1,a.2.1,a.2.2.1,a.2.2.2.1,a.2.2.2.2) a0) (fun a0 a1=>dk a0 a1 (a.1,a.2.1,a.2.2.1,a.2.2.2.1,a.2.2.2.2))).bind fun b=>some ((b.1.1,b.1.2.1,b.1.2.2),b.2)
def dx (b:Bool×Int×List Bool) (c:List Int) (a:Bool×Int×List Bool):Option (Out (List Bool) (Bool×Int×List Bool)):=
 if decide (a.2.1<(c.length:Int)) then (Option.bind (((aQ c a.2.1).bind fun d=>if decide (d≥0) then ((aQ a.2.2 d).bind fun f=>if f then ((aQ a.2.2 b.2.1).bind fun g=>if g then (some (a.1,a.2.2)) else ((aQ a.2.2 b.2.1).bind fun h=>some (true,a.2.2.set b.2.1.toNat true))) else (some (a.1,a.2.2))) else (some (a.1,a.2.2)):Option (Bool×List Bool))) (fun e=>some (.nxt (e.1,i64.wrap (a.2.1+1),e.2)))) else (some (.brk (a.1,a.2.1,a.2.2)))
def dy (b:Int×(List Bool)×List (List Int)) (a:Bool×Int×List Bool):Option (Out (List Bool) (Bool×Int×List Bool)):=
 if decide (a.2.1<(b.2.2.length:Int)) then ((aQ b.2.2 a.2.1).bind fun d=>aO (ax (dx a d) aT (a.1,0,a.2.2)) (fun e=>some (.ret e)) (fun c=>some (.nxt (c.1,i64.wrap (a.2.1+1),c.2.2)))) else (some (.brk (a.1,a.2.1,a.2.2)))
def iH (c:Int×(List Bool)×List (List Int)) (a:Bool×List Bool):Option (Out (List Bool) (Bool×List Bool)):=
 if a.1 then (aO (ax (dy c) aT (false,0,a.2)) (fun d=>some (.ret d)) (fun b=>some (.nxt (b.1,b.2.2)))) else (some (.brk (a.1,a.2)))
def fa (a:Int×(List Bool)×List (List Int)):Option (List Bool):=
 (cn 1 ([] :List Bool) a.2.1).bind fun b=>aO (ax (iH a) aT (true,b)) (fun c=>some c) (fun d=>some d.2)
def ct (b:List (List Int)) (c:(List Int)->Option Bool) (a:Int):Option (Out Int Int):=
 if decide (a<(b.length:Int)) then ((aQ b a).bind fun d=>(c d).bind fun e=>if e then (some (.ret a)) else (some (.nxt (i64.wrap (a+1))))) else (some (.brk a))
def bY (a:List (List Int)) (b:(List Int)->Option Bool):Option Int:=
 aO (ax (ct a b) aT 0) (fun r=>some r) (fun c=>some (-1))
def ig (a:List Int) (q0:List Int):Option Bool:=
 (cq a q0).bind fun b=>some b
def cX (d:List Int) (c:List Int) (a:Int×(List Int)):Option (Out ((List Int)×Int) (Int×(List Int))):=
 if decide (a.1<(c.length:Int)) then ((aQ c a.1).bind fun b=>Option.bind ((if decide (b≥0) then ((aQ d b).bind fun e=>some e) else (some b):Option Int)) (fun f=>(cn 8 a.2 ([f])).bind fun g=>some (.nxt (i64.wrap (a.1+1),g)))) else (some (.brk (a.1,a.2)))
def dS (h:Int×(List Bool)×(List (List Int))) (b:List Int) (a:(List (List Int))×(List Int)×Int):Option (Out ((List Int)×Int) ((List (List Int))×(List Int)×Int)):=
 if decide (a.2.2<(b.length:Int)) then (Option.bind (((aQ b a.2.2).bind fun c=>if decide (c<0) then ((cn 8 a.2.1 ([-1])).bind fun i=>some (a.1,i)) else ((aQ h.2.2 a.2.2).bind fun j=>aO (ax (cX b j) aT (0,[c])) (fun _=>none) (fun d=>(bY a.1 (fun a0=>ig a0 d.2)).bind fun e=>Option.bind ((if decide (e<0) then ((cn 24 a.1 ([d.2])).bind fun k=>some (k,(a.1.length:Int))) else (some (a.1,e)):Option ((List (List Int))×Int))) (fun f=>(cn 8 a.2.1 ([f.2])).bind fun l=>some (f.1,l)))):Option ((List (List Int))×(List Int)))) (fun g=>some (.nxt (g.1,g.2,i64.wrap (a.2.2+1))))) else (some (.brk (a.1,a.2.1,a.2.2)))
def dP (b:Int×(List Bool)×(List (List Int))) (c:List Int):Option ((List Int)×Int):=
 aO (ax (dS b c) aT (([] :List (List Int)),([] :List Int),0)) (fun r=>some r) (fun a=>some (a.2.1,(a.1.length:Int)))
def cL (c:Int×(List Bool)×(List (List Int))) (b:List Bool) (a:(List Int)×Int):Option (Out (List Int) ((List Int)×Int)):=
 if decide (a.2<(b.length:Int)) then (Option.bind (((aQ b a.2).bind fun d=>if d then ((aQ c.2.1 a.2).bind fun e=>if e then ((cn 8 a.1 ([1])).bind fun f=>some f) else ((cn 8 a.1 ([0])).bind fun g=>some g)) else ((cn 8 a.1 ([-1])).bind fun h=>some h):Option (List Int))) (fun i=>some (.nxt (i,i64.wrap (a.2+1))))) else (some (.brk (a.1,a.2)))
def fQ (b:Int×(List Bool)×(List (List Int))) (c:(List Int)×Int):Option (Out (List Int) ((List Int)×Int)):=
 (dP (b.1,b.2.1,b.2.2) c.1).bind fun a=>if a.2==c.2 then (some (.ret a.1)) else (some (.nxt (a.1,a.2)))
def dz (a:Int×(List Bool)×(List (List Int))):Option (List Int):=
 (fa (a.1,a.2.1,a.2.2)).bind fun b=>aO (ax (cL a b) aT (([] :List Int),0)) (fun r=>some r) (fun c=>aO (ax (fQ a) aT (c.1,-1)) (fun r=>some r) (fun d=>none))
def vJ (a:Int) (b:Int):Option (Int×Int):=
 some (IntKind.u32.wrap (uQ (IntKind.u64.wrap ((IntKind.u64.wrap a)*(IntKind.u64.wrap b))) 32),IntKind.u32.wrap (IntKind.u64.wrap ((IntKind.u64.wrap a)*(IntKind.u64.wrap b))))
def oC (a:Int) (b:Int):Option (Int×Int):=
 some (IntKind.u64.wrap ((IntKind.u64.wrap ((IntKind.u64.wrap ((uQ a 32)*(uQ b 32)))+(uQ (IntKind.u64.wrap ((IntKind.u64.wrap ((uQ a 32)*(Rj b 4294967295)))+(uQ (IntKind.u64.wrap ((Rj a 4294967295)*(Rj b 4294967295))) 32))) 32)))+(uQ (IntKind.u64.wrap ((Rj (IntKind.u64.wrap ((IntKind.u64.wrap ((uQ a 32)*(Rj b 4294967295)))+(uQ (IntKind.u64.wrap ((Rj a 4294967295)*(Rj b 4294967295))) 32))) 4294967295)+(IntKind.u64.wrap ((Rj a 4294967295)*(uQ b 32))))) 32)),IntKind.u64.wrap (a*b))
def qi (b:Int) (c:Int):Option (Int×Int):=
 (oC b c).bind fun a=>some (a.1,a.2)
def mU (a:Int×List Int):Option (Out (List Int) (Int×List Int)):=
 if decide (a.1<(a.2.length:Int)) then ((chk (And (0<=a.1) (a.1<=(a.2.length:Int)))).bind fun _=>(chk (And (0<=a.1) (a.1<=(a.2.length:Int)))).bind fun _=>(chk (And (0<=a.1) (a.1<=(a.2.length:Int)))).bind fun _=>(chk (And (0<=a.1) (a.1<=(a.2.length:Int)))).bind fun _=>some (.nxt (i64.wrap (a.1+((Min.min ((a.2.take a.1.toNat).length) (a.2.length - a.1.toNat):Nat):Int)),Gz a.2 a.1.toNat (a.2.take a.1.toNat)))) else (some (.brk (a.1,a.2)))
def iI (a:List Int) (c:Int):Option (List Int):=
 if decide (c<0) then (none) else ((qi (IntKind.u64.wrap (a.length:Int)) (IntKind.u64.wrap c)).bind fun b=>if decide (b.1>0) then (none) else (if decide (b.2>9223372036854775807) then (none) else ((mkI 8 (i64.wrap b.2) 0).bind fun d=>aO (ax (mU) aT (((Min.min a.length (d.length - 0):Nat):Int),Gz d 0 a)) (fun e=>some e) (fun f=>some f.2))))
def vK:Option Yq2:=
 (iI ([-1]) 9).bind fun a=>some (0,[false],[a])
def dJ (b:List Int) (c:Int) (a:Int):Option (Out Int Int):=
 if decide (a<(b.length:Int)) then ((aQ b a).bind fun d=>if c==d then (some (.ret a)) else (some (.nxt (i64.wrap (a+1))))) else (some (.brk a))
def eU (a:List Int) (b:Int):Option Int:=
 aO (ax (dJ a b) aT 0) (fun r=>some r) (fun c=>some (-1))
def bc (a:Int) (q0:List Int):Option Int:=
 (eU q0 a).bind fun b=>some b
def cM (a:Int) (q0:Int×(List Bool)×(List (List Int))) (q1:Int->Option Int):Option Bool:=
 (q1 a).bind fun b=>(aQ q0.2.1 b).bind fun c=>some c
def fb (c:Int×(List Bool)×(List (List Int))) (a:Int) (b:Int):Option Int:=
 if decide (a<0) then (some (-1)) else ((kA b).bind fun d=>if d then ((aQ c.2.2 a).bind fun e=>(aQ e b).bind fun f=>some f) else (some (-1)))
def cN (b:Int) (c:Int) (q0:Int×(List Bool)×(List (List Int))) (q1:Int->Option Int) (q2:List Int):Option (Int×Bool):=
 (q1 b).bind fun d=>(fb (q0.1,q0.2.1,q0.2.2) d c).bind fun a=>if decide (a<0) then (some (0,false)) else ((aQ q2 a).bind fun e=>if decide (e<0) then (some (0,false)) else ((aQ q2 a).bind fun f=>some (f,true)))
def cA (a:Int×(List Bool)×(List (List Int))):Option Yq2:=
 (dz (a.1,a.2.1,a.2.2)).bind fun b=>(aQ b a.1).bind fun e=>if decide (e<0) then ((vK).bind fun c=>some (c.1,c.2.1,c.2.2)) else ((aQ b a.1).bind fun f=>(eW f (b.length:Int) (fun a0=>cM a0 (a.1,a.2.1,a.2.2) (fun a0=>bc a0 b)) (fun a0 a1=>cN a0 a1 (a.1,a.2.1,a.2.2) (fun a0=>bc a0 b) b)).bind fun d=>some (d.1.1,d.1.2.1,d.1.2.2))
def Bz (b:Int×(List Bool)×(List (List Int))):Option (Yq2×Bool):=
 (cA (b.1,b.2.1,b.2.2)).bind fun a=>if decide ((a.2.1.length:Int)>12) then (some ((0,[],[]),false)) else (some ((a.1,a.2.1,a.2.2),true))
def iJ (d:(List Yq1)):Option (Yq2×Bool):=
 (il d).bind fun a=>if a.2 then ((iG (a.1.1,a.1.2.1,a.1.2.2.1,a.1.2.2.2.1,a.1.2.2.2.2) 200).bind fun b=>if b.2 then ((Bz (b.1.1,b.1.2.1,b.1.2.2)).bind fun c=>some ((c.1.1,c.1.2.1,c.1.2.2),c.2)) else (some ((0,[],[]),false))) else (some ((0,[],[]),false))
def bT (c:List Yq2) (d:Yq2->Option Bool) (a:Int):Option (Out Int Int):=
 if decide (a<(c.length:Int)) then ((aQ c a).bind fun b=>(d (b.1,b.2.1,b.2.2)).bind fun e=>if e then (some (.ret a)) else (some (.nxt (i64.wrap (a+1))))) else (some (.brk a))
def ba (a:List Yq2) (b:Yq2->Option Bool):Option Int:=
 aO (ax (bT a b) aT 0) (fun r=>some r) (fun c=>some (-1))
def mV (a:Int×(List Bool)×(List (List Int))) (q0:Int×(List Bool)×(List (List Int))):Option Bool:=
 (ez (q0.1,q0.2.1,q0.2.2) (a.1,a.2.1,a.2.2)).bind fun b=>some b
def kZ (d:List Yq3) (a:Int×(List Yq2)×(List Yq3)):Option (Out (Yq8×Bool) Ro):=
 if decide (a.1<(d.length:Int)) then ((aQ d a.1).bind fun c=>(iJ c.2.1).bind fun b=>if b.2 then ((cd c.1 1 99).bind fun i=>if i then (if decide (a.1>0) then ((aQ d (i64.wrap (a.1 - 1))).bind fun j=>if decide (j.1≥c.1) then (some (.ret (([],[]),false))) else ((ba a.2.1 (fun a0=>mV a0 (b.1.1,b.1.2.1,b.1.2.2))).bind fun g=>Option.bind ((if decide (g<0) then ((cn 56 a.2.1 ([(b.1.1,b.1.2.1,b.1.2.2)])).bind fun k=>some ((a.2.1.length:Int),k,a.2.2)) else (some (g,a.2.1,a.2.2)):Option Ro)) (fun e=>(gm c.2.1).bind fun l=>(cn 40 e.2.2 ([(c.1,l,e.1)])).bind fun m=>some (.nxt (i64.wrap (a.1+1),e.2.1,m))))) else ((ba a.2.1 (fun a0=>mV a0 (b.1.1,b.1.2.1,b.1.2.2))).bind fun h=>Option.bind ((if decide (h<0) then ((cn 56 a.2.1 ([(b.1.1,b.1.2.1,b.1.2.2)])).bind fun n=>some ((a.2.1.length:Int),n,a.2.2)) else (some (h,a.2.1,a.2.2)):Option Ro)) (fun f=>(gm c.2.1).bind fun o=>(cn 40 f.2.2 ([(c.1,o,f.1)])).bind fun p=>some (.nxt (i64.wrap (a.1+1),f.2.1,p))))) else (some (.ret (([],[]),false)))) else (some (.ret (([],[]),false)))) else (some (.brk (a.1,a.2.1,a.2.2)))
def um (a:List Yq3):Option (Yq8×Bool):=
 aO (ax (kZ a) aT (0,[],[])) (fun r=>some r) (fun b=>some ((b.2.1,b.2.2),decide ((a.length:Int)<=4)))
def gC (a:(List Yq2)×(List Yq3)):Option Bool:=
 (um a.2).bind fun b=>if b.2 then ((gA (b.1.1,b.1.2) (a.1,a.2)).bind fun c=>some c) else (some false)
def bm (c:List Yq3) (d:Yq3->Option Bool) (a:Int):Option (Out Int Int):=
 if decide (a<(c.length:Int)) then ((aQ c a).bind fun b=>(d (b.1,b.2.1,b.2.2)).bind fun e=>if e then (some (.ret a)) else (some (.nxt (i64.wrap (a+1))))) else (some (.brk a))
def bX (a:List Yq3) (b:Yq3->Option Bool):Option Int:=
 aO (ax (bm a b) aT 0) (fun r=>some r) (fun c=>some (-1))
def k7 (a:Int×((List Yq1))×Int) (q0:Int):Option Bool:=
 some (a.1==q0)
def k8 (a:(List Yq2)×(List Yq3)) (b:Int):Option Int:=
 (bX a.2 (fun a0=>k7 a0 b)).bind fun c=>some c
def fc (a:ByteArray) (b:Int):Option Int:=R.yi a b
def nl (a:Int):Option (ByteArray):=R.Ti a
def dn (a:Int):Option ByteArray:=
 (nl a).bind fun b=>some b
def jC (a:Int×Int×Int×Int):Option ByteArray:=
 (fP (a.1,a.2.1,a.2.2.1,a.2.2.2) 5).bind fun b=>if b then ((dn a.1).bind fun c=>(mi c (⟨#[58]⟩)).bind fun d=>(dn a.2.1).bind fun e=>(mi d e).bind fun f=>(sp (⟨#[97,98,99]⟩) a.2.2.2 (i64.wrap (a.2.2.2+1))).bind fun g=>(mi f g).bind fun h=>(dn a.2.2.1).bind fun i=>(mi h i).bind fun j=>some j) else (some ((⟨#[]⟩:ByteArray)))
def jQ (a:List ByteArray) (b:ByteArray):Option (ByteArray):=R.Tg a b
def fe (d:List Yq5) (a:(List ByteArray)×Int):Option (Out ByteArray ((List ByteArray)×Int)):=
 if decide (a.2<(d.length:Int)) then (nj (S:=List ByteArray) ((aQ d a.2).bind fun b=>(jC (b.2.1,b.2.2.1,b.2.2.2.1,b.2.2.2.2)).bind fun c=>if c==((⟨#[]⟩:ByteArray)) then (some (.inl (.ret ((⟨#[]⟩:ByteArray))))) else (if b.1 then ((mi (⟨#[43]⟩) c).bind fun e=>(cn 16 a.1 ([e])).bind fun f=>some (.inr f)) else ((mi (⟨#[45]⟩) c).bind fun g=>(cn 16 a.1 ([g])).bind fun h=>some (.inr h)))) (fun i=>some (.nxt (i,i64.wrap (a.2+1))))) else (some (.brk (a.1,a.2)))
def eE (a:List Yq5):Option ByteArray:=
 if decide ((a.length:Int)>6) then (some ((⟨#[]⟩:ByteArray))) else (aO (ax (fe a) aT (([] :List ByteArray),0)) (fun b=>some b) (fun c=>(jQ c.1 (⟨#[32]⟩)).bind fun d=>some d))
def oD (b:ByteArray) (a:Int×Int):Option AC:=
 if decide (a.2<((b.size:Nat):Int)) then ((kp b a.2).bind fun c=>some (.nxt (Int.tmod (i64.wrap ((i64.wrap ((i64.wrap (257*a.1))+(i64.wrap c)))+1)) 9973,i64.wrap (a.2+1)))) else (some (.brk (a.1,a.2)))
def kC (a:ByteArray):Option Int:=
 aO (ax (oD a) aT (1,0)) (fun b=>some b) (fun c=>some c.1)
def eX (a:Int) (c:List Yq5):Option ByteArray:=
 (eE c).bind fun b=>(cd a 1 999).bind fun f=>if f then (if b==((⟨#[]⟩:ByteArray)) then (if decide ((c.length:Int)>0) then (some ((⟨#[]⟩:ByteArray))) else ((dn a).bind fun g=>(mi g (⟨#[59]⟩)).bind fun h=>(mi h b).bind fun i=>(mi i (⟨#[59]⟩)).bind fun d=>(kC d).bind fun j=>(dn j).bind fun k=>(mi d k).bind fun l=>(mi l (⟨#[10]⟩)).bind fun m=>some m)) else ((dn a).bind fun n=>(mi n (⟨#[59]⟩)).bind fun o=>(mi o b).bind fun p=>(mi p (⟨#[59]⟩)).bind fun e=>(kC e).bind fun q=>(dn q).bind fun r=>(mi e r).bind fun s=>(mi s (⟨#[10]⟩)).bind fun t=>some t)) else (some ((⟨#[]⟩:ByteArray)))
def cO (p0 p1:ByteArray):Option (List ByteArray):=R.Lr p0 p1
def gp (a:ByteArray):Option (Int×Bool):=R.sQ a
def cY (p0 p1:ByteArray):Option (ByteArray×ByteArray×Bool):=R.Y5 p0 p1
def gD (b:ByteArray):Option (Yq1×Bool):=
 (cY b (⟨#[58]⟩)).bind fun a=>if ((a.2.1.size:Nat):Int) !=3 then (some ((0,0,0,0),false)) else ((kp a.2.1 0).bind fun c=>(kp a.2.1 1).bind fun d=>(kp a.2.1 2).bind fun e=>(gp a.1).bind fun f=>(jC (f.1,i64.wrap ((i64.wrap c) - 48),i64.wrap ((i64.wrap e) - 48),i64.wrap ((i64.wrap d) - 97))).bind fun g=>if g !=b then (some ((0,0,0,0),false)) else (some ((f.1,i64.wrap ((i64.wrap c) - 48),i64.wrap ((i64.wrap e) - 48),i64.wrap ((i64.wrap d) - 97)),true)))
def cP (d:List ByteArray) (a:Int×List Yq5):Option (Out ((List Yq5)×Bool) (Int×List Yq5)):=
 if decide (a.1<(d.length:Int)) then ((aQ d a.1).bind fun c=>if c==((⟨#[]⟩:ByteArray)) then (some (.ret (([] :List Yq5),false))) else ((sp c 1 ((c.size:Nat):Int)).bind fun e=>(gD e).bind fun b=>if b.2 then ((kp c 0).bind fun f=>(cn 40 a.2 ([(f==43,b.1.1,b.1.2.1,b.1.2.2.1,b.1.2.2.2)])).bind fun g=>some (.nxt (i64.wrap (a.1+1),g))) else (some (.ret (([] :List Yq5),false))))) else (some (.brk (a.1,a.2)))
def dY (a:ByteArray):Option ((List Yq5)×Bool):=
 if a==((⟨#[]⟩:ByteArray)) then (some (([] :List Yq5),true)) else ((cO a (⟨#[32]⟩)).bind fun c=>aO (ax (cP c) aT (0,([] :List Yq5))) (fun d=>some d) (fun b=>(eE b.2).bind fun e=>if e !=a then (some (([] :List Yq5),false)) else (some (b.2,true))))
def jR (d:ByteArray):Option (Int×(List Yq5)×Bool):=
 (cO d (⟨#[59]⟩)).bind fun a=>if (a.length:Int) !=3 then (some (0,([] :List Yq5),false)) else ((aQ a 0).bind fun e=>(gp e).bind fun b=>(aQ a 1).bind fun f=>(dY f).bind fun c=>if b.2 then (if c.2 then ((eX b.1 c.1).bind fun g=>if g !=d then (some (0,([] :List Yq5),false)) else (some (b.1,c.1,true))) else (some (0,([] :List Yq5),false))) else (some (0,([] :List Yq5),false)))
def cE (c:ByteArray) (a:(List Int)×(List (List Yq5))×Int):Option (Out ((List Int)×(List (List Yq5))×Int) ((List Int)×(List (List Yq5))×Int)):=
 if decide (((c.size:Nat):Int)<=4000) then ((sp c a.2.2 ((c.size:Nat):Int)).bind fun e=>(fc e 10).bind fun d=>if decide (d<0) then (some (.brk (a.1,a.2.1,a.2.2))) else ((sp c a.2.2 (i64.wrap ((i64.wrap (a.2.2+d))+1))).bind fun f=>(jR f).bind fun b=>if b.2.2 then (if decide ((a.1.length:Int)>0) then ((aQ a.1 (i64.wrap ((a.1.length:Int) - 1))).bind fun g=>if b.1 !=(i64.wrap (g+1)) then (some (.brk (a.1,a.2.1,a.2.2))) else ((cn 8 a.1 ([b.1])).bind fun h=>(cn 24 a.2.1 ([b.2.1])).bind fun i=>some (.nxt (h,i,i64.wrap (a.2.2+(i64.wrap (d+1))))))) else ((cn 8 a.1 ([b.1])).bind fun j=>(cn 24 a.2.1 ([b.2.1])).bind fun k=>some (.nxt (j,k,i64.wrap (a.2.2+(i64.wrap (d+1))))))) else (some (.brk (a.1,a.2.1,a.2.2))))) else (some (.brk (a.1,a.2.1,a.2.2)))
def m_i_ScanLog (b:ByteArray):Option ((List Int)×(List (List Yq5))×Int):=
 aO (ax (cE b) aT (([] :List Int),([] :List (List Yq5)),0)) (fun c=>some c) (fun a=>some (a.1,a.2.1,a.2.2))
def cw (a:uj×Yq8×Yq7×ByteArray) (d:Int) (b:Int):Option (Out Bool Int):=
 if decide (b<(a.2.2.1.length:Int)) then ((aQ a.2.2.1 b).bind fun c=>(cd c.1 1 99).bind fun e=>if e then (if decide (b>0) then ((aQ a.2.2.1 (i64.wrap (b - 1))).bind fun f=>if decide (f.1≥c.1) then (some (.ret false)) else ((k8 (a.2.1.1,a.2.1.2) c.2.1).bind fun g=>if decide (g<0) then (some (.ret false)) else ((cd c.2.2 0 d).bind fun h=>if h then (some (.nxt (i64.wrap (b+1)))) else (some (.ret false))))) else ((k8 (a.2.1.1,a.2.1.2) c.2.1).bind fun i=>if decide (i<0) then (some (.ret false)) else ((cd c.2.2 0 d).bind fun j=>if j then (some (.nxt (i64.wrap (b+1)))) else (some (.ret false))))) else (some (.ret false))) else (some (.brk b))
def fR (a:uj×Yq8×Yq7×ByteArray):Option Bool:=
 (m_i_IsValidHistory (a.1.1,a.1.2)).bind fun d=>if d then ((gC (a.2.1.1,a.2.1.2)).bind fun e=>if e then (if decide ((a.2.2.1.length:Int)>4) then (some false) else (if decide ((a.2.2.2.size:Int)>4000) then (some false) else ((bS (a.1.1,a.1.2)).bind fun c=>aO (ax (cw a c) aT 0) (fun r=>some r) (fun g=>(m_i_ScanLog a.2.2.2).bind fun b=>if b.2.2==(a.2.2.2.size:Int) then (if (b.1.length:Int)==0 then (some true) else ((aQ b.1 (i64.wrap ((b.1.length:Int) - 1))).bind fun f=>some (f==c))) else (some false))))) else (some false)) else (some false)
def mW (a:List Int):Option (List Int):=
 (cn 8 ([] :List Int) a).bind fun b=>some b
def dU (a:(List Int)×(List Yq1)):Option Yq4:=
 (mW a.1).bind fun b=>(cn 32 ([] :List Yq1) a.2).bind fun c=>some (b,c)
def ff (b:Int×(List Yq4)) (a:Int×Int×(List Yq4)):Option (Out uj (Int×Int×(List Yq4))):=
 if decide (a.1<(b.2.length:Int)) then ((aQ b.2 a.1).bind fun c=>(dU (c.1,c.2)).bind fun d=>(cn 48 a.2.2 ([(d.1,d.2)])).bind fun e=>some (.nxt (i64.wrap (a.1+1),a.2.1,e))) else (some (.brk (a.1,a.2.1,a.2.2)))
def iK (a:Int×(List Yq4)):Option uj:=
 aO (ax (ff a) aT (0,a.1,[])) (fun r=>some r) (fun b=>some (b.2.1,b.2.2))
def dQ (b:Int×(List Bool)×(List (List Int))) (a:Int×Int×(List Bool)×(List (List Int))):Option (Out Yq2 (Int×Int×(List Bool)×(List (List Int)))):=
 if decide (a.1<(b.2.2.length:Int)) then ((aQ b.2.2 a.1).bind fun c=>(mW c).bind fun d=>(cn 24 a.2.2.2 ([d])).bind fun e=>some (.nxt (i64.wrap (a.1+1),a.2.1,a.2.2.1,e))) else (some (.brk (a.1,a.2.1,a.2.2.1,a.2.2.2)))
def jf (a:Int×(List Bool)×(List (List Int))):Option Yq2:=
 (cn 1 ([] :List Bool) a.2.1).bind fun c=>aO (ax (dQ a) aT (0,a.1,c,[])) (fun r=>some r) (fun b=>some (b.2.1,b.2.2.1,b.2.2.2))
def eF (d:(List Yq2)×(List Yq3)) (a:Int×(List Yq2)×(List Yq3)):Option (Out Yq8 Ro):=
 if decide (a.1<(d.1.length:Int)) then ((aQ d.1 a.1).bind fun b=>(jf (b.1,b.2.1,b.2.2)).bind fun c=>(cn 56 a.2.1 ([(c.1,c.2.1,c.2.2)])).bind fun e=>some (.nxt (i64.wrap (a.1+1),e,a.2.2))) else (some (.brk (a.1,a.2.1,a.2.2)))
def eG (c:(List Yq2)×(List Yq3)) (a:Int×(List Yq2)×(List Yq3)):Option (Out Yq8 Ro):=
 if decide (a.1<(c.2.length:Int)) then ((aQ c.2 a.1).bind fun b=>(gm b.2.1).bind fun d=>(cn 40 a.2.2 ([(b.1,d,b.2.2)])).bind fun e=>some (.nxt (i64.wrap (a.1+1),a.2.1,e))) else (some (.brk (a.1,a.2.1,a.2.2)))
def jS (a:(List Yq2)×(List Yq3)):Option Yq8:=
 aO (ax (eF a) aT (0,[],[])) (fun r=>some r) (fun b=>aO (ax (eG a) aT (0,b.2.1,b.2.2)) (fun r=>some r) (fun c=>some (c.2.1,c.2.2)))
def jD (a:uj×Yq8×Yq7×ByteArray):Option (uj×Yq8×Yq7×ByteArray):=
 (iK (a.1.1,a.1.2)).bind fun b=>(jS (a.2.1.1,a.2.1.2)).bind fun c=>(cn 24 ([] :List GB) a.2.2.1).bind fun d=>some ((b.1,b.2),(c.1,c.2),d,a.2.2.2)
def eH (a:Yq9×Yq6×Yq7×ByteArray):Option (Int×Yq9×Yq6×Yq7×ByteArray):=
 (bS (a.1.1,a.1.2)).bind fun b=>some (b,(a.1.1,a.1.2),(a.2.1.1,a.2.1.2),a.2.2.1,a.2.2.2)
def eI (c:List Yq1) (d:Yq1->Option Bool) (a:Int):Option (Out Int Int):=
 if decide (a<(c.length:Int)) then ((aQ c a).bind fun b=>(d (b.1,b.2.1,b.2.2.1,b.2.2.2)).bind fun e=>if e then (some (.ret a)) else (some (.nxt (i64.wrap (a+1))))) else (some (.brk a))
def de (a:List Yq1) (b:Yq1->Option Bool):Option Int:=
 aO (ax (eI a b) aT 0) (fun r=>some r) (fun c=>some (-1))
def oE (a:Int×Int×Int×Int) (q0:Int):Option Bool:=
 some (a.1==q0)
def k9 (a:(List Int)×(List Yq1)) (b:Int):Option Int:=
 (de a.2 (fun a0=>oE a0 b)).bind fun c=>some c
def cH (a:List Yq1) (b:Int) (c:List Yq1):Option ((List Yq1)×(List Yq1)):=R.Xp 32 a b c
def qj (c:Int×Int×Int×Int) (b:(List Int)×List Yq1) (a:Int):Option (Out (((List Int)×List Yq1)×Bool) Int):=
 if decide (a<(b.2.length:Int)) then ((aQ b.2 a).bind fun d=>if decide (d.1<c.1) then (some (.nxt (i64.wrap (a+1)))) else (some (.brk a))) else (some (.brk a))
def mo (c:(List Int)×List Yq1) (b:Int×Int×Int×Int):Option (((List Int)×List Yq1)×Bool):=
 (dU (c.1,c.2)).bind fun a=>(bL (c.1,c.2)).bind fun d=>if d then ((fP (b.1,b.2.1,b.2.2.1,b.2.2.2) (c.1.length:Int)).bind fun e=>if e then ((k9 (c.1,c.2) b.1).bind fun f=>if decide (f≥0) then (some ((a.1,a.2),false)) else (if (c.2.length:Int)==12 then (some ((a.1,a.2),false)) else (aO (ax (qj b a) aT 0) (fun g=>some g) (fun h=>(cH a.2 h ([(b.1,b.2.1,b.2.2.1,b.2.2.2)])).bind fun i=>some ((a.1,i.1),true))))) else (some ((a.1,a.2),false))) else (some ((a.1,a.2),false))
def bB (d:List Yq1) (b:Int×Int×Int×Int) (a:Int):Option (Out Int Int):=
 if decide (a<(d.length:Int)) then ((aQ d a).bind fun c=>if ((b.1==c.1)&&((b.2.1==c.2.1)&&((b.2.2.1==c.2.2.1)&&((b.2.2.2==c.2.2.2)&&true)))) then (some (.ret a)) else (some (.nxt (i64.wrap (a+1))))) else (some (.brk a))
def dV (a:List Yq1) (b:Int×Int×Int×Int):Option Int:=
 aO (ax (bB a b) aT 0) (fun r=>some r) (fun c=>some (-1))
def cg (b:List Yq1) (a:Int×Int×Int×Int):Option Bool:=
 (dV b (a.1,a.2.1,a.2.2.1,a.2.2.2)).bind fun c=>some (decide (c≥0))
def cJ (a:List Yq1) (p1 p2:Int):Option (List Yq1):=R.Z1 a p1 p2
def mq (a:(List Int)×List Yq1) (d:Int):Option (((List Int)×List Yq1)×Bool):=
 (dU (a.1,a.2)).bind fun b=>(k9 (a.1,a.2) d).bind fun c=>if decide (c<0) then (some ((b.1,b.2),false)) else ((bL (a.1,a.2)).bind fun e=>if e then ((cJ b.2 c (i64.wrap (c+1))).bind fun f=>some ((b.1,f),true)) else (some ((b.1,b.2),false)))
def bZ (f:(List Int)×(List Yq1)) (g:(List (Bool×Yq1))) (a:Int×(List Int)×(List Yq1)):Option (Out (Yq4×Bool) (Int×(List Int)×(List Yq1))):=
 if decide (a.1<(g.length:Int)) then ((aQ g a.1).bind fun b=>Option.bind ((if b.1 then ((mo (a.2.1,a.2.2) (b.2.1,b.2.2.1,b.2.2.2.1,b.2.2.2.2)).bind fun c=>some (c.2,c.1.1,c.1.2)) else ((cg a.2.2 (b.2.1,b.2.2.1,b.2.2.2.1,b.2.2.2.2)).bind fun i=>if i then ((mq (a.2.1,a.2.2) b.2.1).bind fun d=>some (d.2,d.1.1,d.1.2)) else (some (false,a.2.1,a.2.2))):Option (Bool×(List Int)×(List Yq1)))) (fun e=>if e.1 then (some (.nxt (i64.wrap (a.1+1),e.2.1,e.2.2))) else ((dU (f.1,f.2)).bind fun h=>some (.ret ((h.1,h.2),false))))) else (some (.brk (a.1,a.2.1,a.2.2)))
def jE (b:(List Int)×(List Yq1)) (c:(List (Bool×Yq1))):Option (Yq4×Bool):=
 (dU (b.1,b.2)).bind fun a=>(bL (b.1,b.2)).bind fun e=>if e then (if decide ((c.length:Int)>6) then (some ((a.1,a.2),false)) else (aO (ax (bZ b c) aT (0,a.1,a.2)) (fun r=>some r) (fun d=>some ((d.2.1,d.2.2),true)))) else (some ((a.1,a.2),false))
def iL (b:Int×List ((List Int)×List Yq1)) (h:List Yq5):Option (Yq9×Bool):=
 (iK (b.1,b.2)).bind fun a=>(bS (b.1,b.2)).bind fun e=>if e==0 then (some ((a.1,a.2),false)) else (if e==999 then (some ((a.1,a.2),false)) else ((aQ b.2 (i64.wrap ((b.2.length:Int) - 1))).bind fun f=>(jE (f.1,f.2) h).bind fun d=>if d.2 then ((cn 48 a.2 ([(d.1.1,d.1.2)])).bind fun c=>Option.bind ((if decide ((c.length:Int)>8) then ((chk (And ((0:Int)<=1) (1<=(c.length:Int)))).bind fun _=>some (i64.wrap (a.1+1),c.drop 1)) else (some (a.1,c)):Option Yq9)) (fun g=>some ((g.1,g.2),true))) else (some ((a.1,a.2),false))))
def iM (b:Yq9×Yq6×Yq7×ByteArray) (d:List Yq5):Option ((Yq9×Yq6×Yq7×ByteArray)×Bool):=
 (jD ((b.1.1,b.1.2),(b.2.1.1,b.2.1.2),b.2.2.1,b.2.2.2)).bind fun a=>(fR ((b.1.1,b.1.2),(b.2.1.1,b.2.1.2),b.2.2.1,b.2.2.2)).bind fun f=>if f then ((iL (b.1.1,b.1.2) d).bind fun c=>if c.2 then ((bS (c.1.1,c.1.2)).bind fun g=>(eX g d).bind fun h=>(mi b.2.2.2 h).bind fun e=>if decide (((e.size:Nat):Int)>4000) then (some (((a.1.1,a.1.2),(a.2.1.1,a.2.1.2),a.2.2.1,a.2.2.2),false)) else (some (((c.1.1,c.1.2),(a.2.1.1,a.2.1.2),a.2.2.1,e),true))) else (some (((a.1.1,a.1.2),(a.2.1.1,a.2.1.2),a.2.2.1,a.2.2.2),false))) else (some (((a.1.1,a.1.2),(a.2.1.1,a.2.1.2),a.2.2.1,a.2.2.2),false))
def gE (c:List Yq5) (b:Yq9×Yq6×Yq7×ByteArray):Option (Bool×Yq9×Yq6×Yq7×ByteArray):=
 (iM ((b.1.1,b.1.2),(b.2.1.1,b.2.1.2),b.2.2.1,b.2.2.2) c).bind fun a=>some (a.2,(a.1.1.1,a.1.1.2),(a.1.2.1.1,a.1.2.1.2),a.1.2.2.1,a.1.2.2.2)
def cj (f:(List Int)×(List (List Yq5))×Int) (a:Int×Int×(List (List Yq5))×Int×(List ((List Int)×List Yq1))×(List (Int×(List Bool)×List (List Int)))×(List (Int×(List Yq1)×Int))×Yq7×ByteArray):Option (Out (Int×Yq9×Yq6×Yq7×ByteArray) aby):=
 if decide (a.2.1<(f.1.length:Int)) then (nj (S:=Int×(List (List Yq5))×Int×(List ((List Int)×List Yq1))×(List (Int×(List Bool)×List (List Int)))×(List (Int×(List Yq1)×Int))×Yq7×ByteArray) ((aQ f.1 a.2.1).bind fun g=>(eH ((a.2.2.2.1,a.2.2.2.2.1),(a.2.2.2.2.2.1,a.2.2.2.2.2.2.1),a.2.2.2.2.2.2.2.1,a.2.2.2.2.2.2.2.2)).bind fun b=>if decide (g<=b.1) then (some (.inr (a.1,a.2.2.1,b.2.1.1,b.2.1.2,b.2.2.1.1,b.2.2.1.2,b.2.2.2.1,b.2.2.2.2))) else ((eH ((b.2.1.1,b.2.1.2),(b.2.2.1.1,b.2.2.1.2),b.2.2.2.1,b.2.2.2.2)).bind fun c=>if g !=(i64.wrap (c.1+1)) then (some (.inl (.brk (a.1,a.2.1,a.2.2.1,c.2.1.1,c.2.1.2,c.2.2.1.1,c.2.2.1.2,c.2.2.2.1,c.2.2.2.2)))) else ((aQ a.2.2.1 a.2.1).bind fun h=>(gE h ((c.2.1.1,c.2.1.2),(c.2.2.1.1,c.2.2.1.2),c.2.2.2.1,c.2.2.2.2)).bind fun d=>if d.1 then (some (.inr (i64.wrap (a.1+1),a.2.2.1,d.2.1.1,d.2.1.2,d.2.2.1.1,d.2.2.1.2,d.2.2.2.1,d.2.2.2.2))) else (some (.inl (.brk (a.1,a.2.1,a.2.2.1,d.2.1.1,d.2.1.2,d.2.2.1.1,d.2.2.1.2,d.2.2.2.1,d.2.2.2.2))))))) (fun e=>some (.nxt (e.1,i64.wrap (a.2.1+1),e.2.1,e.2.2.1,e.2.2.2.1,e.2.2.2.2.1,e.2.2.2.2.2.1,e.2.2.2.2.2.2.1,e.2.2.2.2.2.2.2)))) else (some (.brk (a.1,a.2.1,a.2.2.1,a.2.2.2.1,a.2.2.2.2.1,a.2.2.2.2.2.1,a.2.2.2.2.2.2.1,a.2.2.2.2.2.2.2.1,a.2.2.2.2.2.2.2.2)))
def yk (d:ByteArray) (b:Yq9×Yq6×Yq7×ByteArray) (f:Unit):Option (Int×Yq9×Yq6×Yq7×ByteArray):=
 (m_i_ScanLog d).bind fun c=>aO (ax (cj c) aT (0,0,c.2.1,b.1.1,b.1.2,b.2.1.1,b.2.1.2,b.2.2.1,b.2.2.2)) (fun e=>some e) (fun a=>some (a.1,(a.2.2.2.1,a.2.2.2.2.1),(a.2.2.2.2.2.1,a.2.2.2.2.2.2.1),a.2.2.2.2.2.2.2.1,a.2.2.2.2.2.2.2.2))
def fS (a:Yq9×Yq6×Yq7×ByteArray) (d:ByteArray):Option ((Yq9×Yq6×Yq7×ByteArray)×Int):=
 (jD ((a.1.1,a.1.2),(a.2.1.1,a.2.1.2),a.2.2.1,a.2.2.2)).bind fun b=>(fR ((a.1.1,a.1.2),(a.2.1.1,a.2.1.2),a.2.2.1,a.2.2.2)).bind fun e=>if e then ((yk d ((b.1.1,b.1.2),(b.2.1.1,b.2.1.2),b.2.2.1,b.2.2.2) ()).bind fun c=>some (((c.2.1.1,c.2.1.2),(c.2.2.1.1,c.2.2.1.2),c.2.2.2.1,c.2.2.2.2),c.1)) else (some (((b.1.1,b.1.2),(b.2.1.1,b.2.1.2),b.2.2.1,b.2.2.2),0))
def cZ (a:Int) (b:Int) (c:Int):Option Bool:=
 if decide (a≥b) then (some (decide (a<=c))) else (some false)
def qk (b:(List Int)×(List Yq1)) (a:Int×Int×Int×Int):Option Bool:=
 (cZ a.1 1 99).bind fun c=>if c then ((cZ a.2.1 0 (i64.wrap ((b.1.length:Int) - 1))).bind fun d=>if d then ((cZ a.2.2.1 0 (i64.wrap ((b.1.length:Int) - 1))).bind fun e=>if e then ((cZ a.2.2.2 0 2).bind fun f=>some f) else (some false)) else (some false)) else (some false)
def oF (b:(List Int)×(List Yq1)) (a:Int):Option (Out Bool Int):=
 if decide (a<(b.1.length:Int)) then ((aQ b.1 a).bind fun c=>(cZ c 0 2).bind fun d=>if d then (some (.nxt (i64.wrap (a+1)))) else (some (.ret false))) else (some (.brk a))
def kq (b:(List Int)×(List Yq1)) (a:Int):Option (Out Bool Int):=
 if decide (a<(b.2.length:Int)) then ((aQ b.2 a).bind fun c=>(qk (b.1,b.2) (c.1,c.2.1,c.2.2.1,c.2.2.2)).bind fun d=>if d then (if decide (a>0) then ((aQ b.2 (i64.wrap (a - 1))).bind fun e=>(aQ b.2 a).bind fun f=>if decide (e.1≥f.1) then (some (.ret false)) else (some (.nxt (i64.wrap (a+1))))) else (some (.nxt (i64.wrap (a+1))))) else (some (.ret false))) else (some (.brk a))
def da (a:(List Int)×(List Yq1)):Option Bool:=
 aO (ax (oF a) aT 0) (fun r=>some r) (fun c=>aO (ax (kq a) aT 0) (fun r=>some r) (fun d=>(cZ (a.1.length:Int) 1 5).bind fun b=>if b then (some (decide ((a.2.length:Int)<=12))) else (some false)))
def pA (b:List Int) (c:List Int) (a:Int):Option (Out Int Int):=
 if decide (a<(b.length:Int)) then (if decide (a<(c.length:Int)) then ((aQ b a).bind fun d=>(aQ c a).bind fun e=>if decide (d<e) then (some (.ret (-1))) else ((aQ b a).bind fun f=>(aQ c a).bind fun g=>if decide (f>g) then (some (.ret 1)) else (some (.nxt (i64.wrap (a+1)))))) else (some (.brk a))) else (some (.brk a))
def oG (a:List Int) (b:List Int):Option Int:=
 aO (ax (pA a b) aT 0) (fun r=>some r) (fun c=>if decide ((a.length:Int)<(b.length:Int)) then (some (-1)) else (if decide ((a.length:Int)>(b.length:Int)) then (some 1) else (some 0)))
def fg (b:Int×(List Yq4)) (a:Int):Option (Out Bool Int):=
 if decide (a<(b.2.length:Int)) then ((aQ b.2 a).bind fun c=>(da (c.1,c.2)).bind fun d=>if d then ((aQ b.2 a).bind fun e=>(aQ b.2 0).bind fun f=>(oG e.1 f.1).bind fun g=>if g !=0 then (some (.ret false)) else (some (.nxt (i64.wrap (a+1))))) else (some (.ret false))) else (some (.brk a))
def m_s_IsValidHistory (a:Int×(List Yq4)):Option Bool:=
 aO (ax (fg a) aT 0) (fun r=>some r) (fun d=>(cZ (a.2.length:Int) 1 8).bind fun b=>if b then ((cZ a.1 1 (i64.wrap ((i64.wrap (999 - (a.2.length:Int)))+1))).bind fun c=>some c) else (some false))
def hY (a:List Yq1):Option (List Yq1):=
 (cn 32 ([] :List Yq1) a).bind fun b=>some b
def mX (a:Int):Option Bool:=
 (cZ a 0 8).bind fun b=>some b
def oH (a:Int×Int×Int×Int):Option Int:=
 Option.bind ((if a.1==1 then (some (a.1==1)) else (some (a.1==2)):Option Bool)) (fun b=>if b then (if a.2.1 !=0 then (some (-1)) else (if a.2.2.1 !=0 then (some (-1)) else (if a.2.2.2 !=0 then (some (-1)) else (some 0)))) else (if a.1==3 then ((mX a.2.1).bind fun c=>if c then (if a.2.2.1 !=0 then (some (-1)) else (if a.2.2.2 !=0 then (some (-1)) else (some 0))) else (some (-1))) else (Option.bind ((if a.1==4 then (some (a.1==4)) else (some (a.1==5)):Option Bool)) (fun d=>if d then (if a.2.1 !=0 then (some (-1)) else (if a.2.2.1 !=0 then (some (-1)) else (if a.2.2.2 !=0 then (some (-1)) else (some 2)))) else (if a.1==6 then (if a.2.1 !=0 then (some (-1)) else (if a.2.2.1 !=0 then (some (-1)) else (if a.2.2.2 !=0 then (some (-1)) else (some 1)))) else (if a.1==7 then (if a.2.1 !=0 then (some (-1)) else ((cZ a.2.2.2 1 3).bind fun e=>if e then ((cZ a.2.2.1 0 a.2.2.2).bind fun f=>if f then (some 1) else (some (-1))) else (some (-1)))) else (some (-1))))))))
def rf (d:(List Yq1)) (a:Int×Int):Option (Out Bool (Int×Int)):=
 if decide (a.2<(d.length:Int)) then ((aQ d a.2).bind fun b=>(oH (b.1,b.2.1,b.2.2.1,b.2.2.2)).bind fun c=>if decide (c<0) then (some (.ret false)) else (if decide (c>a.1) then (some (.ret false)) else (some (.nxt (i64.wrap ((i64.wrap (a.1 - c))+1),i64.wrap (a.2+1)))))) else (some (.brk (a.1,a.2)))
def uo (a:(List Yq1)):Option Bool:=
 aO (ax (rf a) aT (0,0)) (fun r=>some r) (fun b=>some (b.1==1))
def ld (a:(List Yq1)):Option Bool:=
 if decide ((a.length:Int)<=24) then ((uo a).bind fun b=>some b) else (some false)
def mr (c:List Yq1) (a:Int×Int):Option AC:=
 if decide (a.1>0) then ((aQ c (i64.wrap (a.2 - 1))).bind fun b=>(oH (b.1,b.2.1,b.2.2.1,b.2.2.2)).bind fun d=>some (.nxt (i64.wrap ((i64.wrap (a.1 - 1))+d),i64.wrap (a.2 - 1)))) else (some (.brk (a.1,a.2)))
def iN (a:List Yq1):Option Int:=
 aO (ax (mr a) aT (1,(a.length:Int))) (fun r=>some r) (fun b=>some b.2)
def eJ:Nat->(List Yq1)->Option Int
 | 0,_=>none
 | n+1,p0l =>
  (aQ p0l (i64.wrap ((p0l.length:Int) - 1))).bind fun a=>Option.bind ((if a.1==4 then (some (a.1==4)) else (some (a.1==5)):Option Bool)) (fun c=>if c then ((chk (And (0<=(i64.wrap ((p0l.length:Int) - 1))) ((i64.wrap ((p0l.length:Int) - 1))<=(p0l.length:Int)))).bind fun _=>(iN (p0l.take ((i64.wrap ((p0l.length:Int) - 1)).toNat))).bind fun b=>(chk (And (0<=b) (b<=(p0l.length:Int)))).bind fun _=>((eJ n) (p0l.take b.toNat)).bind fun d=>(chk (And (0<=b) (And (b<=(i64.wrap ((p0l.length:Int) - 1))) ((i64.wrap ((p0l.length:Int) - 1))<=(p0l.length:Int))))).bind fun _=>((eJ n) ((p0l.take ((i64.wrap ((p0l.length:Int) - 1)).toNat)).drop b.toNat)).bind fun e=>some (Min.min 100000 (i64.wrap ((i64.wrap (d+e))+1)))) else (if a.1==6 then ((chk (And (0<=(i64.wrap ((p0l.length:Int) - 1))) ((i64.wrap ((p0l.length:Int) - 1))<=(p0l.length:Int)))).bind fun _=>((eJ n) (p0l.take ((i64.wrap ((p0l.length:Int) - 1)).toNat))).bind fun f=>some (Min.min 100000 (i64.wrap (f+1)))) else (if a.1==7 then ((chk (And (0<=(i64.wrap ((p0l.length:Int) - 1))) ((i64.wrap ((p0l.length:Int) - 1))<=(p0l.length:Int)))).bind fun _=>((eJ n) (p0l.take ((i64.wrap ((p0l.length:Int) - 1)).toNat))).bind fun g=>some (Min.min 100000 (i64.wrap ((i64.wrap ((i64.wrap (g+3))*a.2.2.2))+1)))) else (some 1))))
def lV (b:(List Yq1)) (c:(List Yq1)) (a:Int×Int×Int×Int):Option (List Yq1):=
 (hY b).bind fun d=>(cn 32 d c).bind fun e=>(cn 32 e ([(a.1,a.2.1,a.2.2.1,a.2.2.2)])).bind fun f=>some f
def ql (a:Int):Option (List Yq1):=
 some ([(a,0,0,0)])
def kD:Nat->(List Yq1)->Int->Int->Option (List Yq1)
 | 0,_,_,_=>none
 | n+1,p0e,p1low,p2high =>
  if p2high==0 then ((ql 2).bind fun b=>some b) else (((kD n) p0e (Max.max 0 (i64.wrap (p1low - 1))) (i64.wrap (p2high - 1))).bind fun c=>(lV p0e c (4,0,0,0)).bind fun a=>if decide (p1low>0) then (some a) else ((ql 2).bind fun d=>(lV a d (5,0,0,0)).bind fun e=>some e))
def c7:Nat->(List Yq1)->Option (List Yq1)
 | 0,_=>none
 | n+1,p0l =>
  (aQ p0l (i64.wrap ((p0l.length:Int) - 1))).bind fun a=>Option.bind ((if a.1==4 then (some (a.1==4)) else (some (a.1==5)):Option Bool)) (fun c=>if c then ((chk (And (0<=(i64.wrap ((p0l.length:Int) - 1))) ((i64.wrap ((p0l.length:Int) - 1))<=(p0l.length:Int)))).bind fun _=>(iN (p0l.take ((i64.wrap ((p0l.length:Int) - 1)).toNat))).bind fun b=>(chk (And (0<=b) (b<=(p0l.length:Int)))).bind fun _=>((c7 n) (p0l.take b.toNat)).bind fun d=>(chk (And (0<=b) (And (b<=(i64.wrap ((p0l.length:Int) - 1))) ((i64.wrap ((p0l.length:Int) - 1))<=(p0l.length:Int))))).bind fun _=>((c7 n) ((p0l.take ((i64.wrap ((p0l.length:Int) - 1)).toNat)).drop b.toNat)).bind fun e=>(lV d e (a.1,a.2.1,a.2.2.1,a.2.2.2)).bind fun f=>some f) else (if a.1==6 then ((chk (And (0<=(i64.wrap ((p0l.length:Int) - 1))) ((i64.wrap ((p0l.length:Int) - 1))<=(p0l.length:Int)))).bind fun _=>((c7 n) (p0l.take ((i64.wrap ((p0l.length:Int) - 1)).toNat))).bind fun g=>(lV g ([] :List Yq1) (a.1,a.2.1,a.2.2.1,a.2.2.2)).bind fun h=>some h) else (if a.1==7 then ((chk (And (0<=(i64.wrap ((p0l.length:Int) - 1))) ((i64.wrap ((p0l.length:Int) - 1))<=(p0l.length:Int)))).bind fun _=>((c7 n) (p0l.take ((i64.wrap ((p0l.length:Int) - 1)).toNat))).bind fun i=>(kD gR i a.2.2.1 a.2.2.2).bind fun j=>some j) else (some ([(a.1,a.2.1,a.2.2.1,a.2.2.2)])))))
def mu (a:(List Yq1)):Option (((List Yq1))×Bool):=
 (ld a).bind fun c=>if c then ((eJ gR a).bind fun d=>if decide (d>5000) then (some ([],false)) else ((c7 gR a).bind fun b=>if decide ((b.length:Int)>400) then (some ([],false)) else (some (b,true)))) else (some ([],false))
def jF (b:Int) (c:Int) (a:Int×List Int):Option (Out Rn (Int×List Int)):=
 if decide (a.1<(a.2.length:Int)) then (Option.bind (((chk (0<=a.1)).bind fun _=>if (AN (uQ b a.1) 1)==1 then ((aQ a.2 a.1).bind fun d=>(aQ a.2 a.1).bind fun f=>some (a.2.set a.1.toNat (orI d c))) else (some a.2):Option (List Int))) (fun e=>some (.nxt (i64.wrap (a.1+1),e)))) else (some (.brk (a.1,a.2)))
def oJ (a:(List Int)×Int×Int×(List Int)×Bool) (b:Int) (c:Int):Option Rn:=
 aO (ax (jF b c) aT (0,a.2.2.2.1)) (fun d=>some d) (fun e=>some (a.1,a.2.1,a.2.2.1,e.2,a.2.2.2.2))
def dA:Nat->Rn->(List Yq1)->Option ((Bool×Int×Int)×(List Int)×Int×Int×(List Int)×Bool)
 | 0,_,_=>none
 | n+1,p0,p1 =>
  (aQ p1 (i64.wrap ((p1.length:Int) - 1))).bind fun g=>if g.1==2 then (some ((true,0,0),p0.1,p0.2.1,p0.2.2.1,p0.2.2.2.1,p0.2.2.2.2)) else (if g.1==3 then ((cn 8 p0.1 ([g.2.1])).bind fun p=>(cn 8 p0.2.2.2.1 ([0])).bind fun q=>some ((false,Ko 1 (p0.1.length:Int),Ko 1 (p0.1.length:Int)),p,p0.2.1,p0.2.2.1,q,p0.2.2.2.2)) else (if g.1==4 then ((chk (And (0<=(i64.wrap ((p1.length:Int) - 1))) ((i64.wrap ((p1.length:Int) - 1))<=(p1.length:Int)))).bind fun _=>(iN (p1.take ((i64.wrap ((p1.length:Int) - 1)).toNat))).bind fun h=>(chk (And (0<=h) (h<=(p1.length:Int)))).bind fun _=>((dA n) (p0.1,p0.2.1,p0.2.2.1,p0.2.2.2.1,p0.2.2.2.2) (p1.take h.toNat)).bind fun b=>(chk (And (0<=h) (And (h<=(i64.wrap ((p1.length:Int) - 1))) ((i64.wrap ((p1.length:Int) - 1))<=(p1.length:Int))))).bind fun _=>((dA n) (b.2.1,b.2.2.1,b.2.2.2.1,b.2.2.2.2.1,b.2.2.2.2.2) ((p1.take ((i64.wrap ((p1.length:Int) - 1)).toNat)).drop h.toNat)).bind fun a=>(oJ (a.2.1,a.2.2.1,a.2.2.2.1,a.2.2.2.2.1,a.2.2.2.2.2) b.1.2.2 a.1.2.1).bind fun d=>if b.1.1 then (Option.bind ((if b.1.1 then (some (a.1.1,orI b.1.2.1 a.1.2.1,a.1.2.2)) else (some (a.1.1,b.1.2.1,a.1.2.2)):Option (Bool×Int×Int))) (fun j=>Option.bind ((if a.1.1 then (some (j.1,j.2.1,orI b.1.2.2 a.1.2.2)) else (some (j.1,j.2.1,j.2.2)):Option (Bool×Int×Int))) (fun m=>some ((m.1,m.2.1,m.2.2),d.1,d.2.1,d.2.2.1,d.2.2.2.1,d.2.2.2.2)))) else (Option.bind ((if b.1.1 then (some (false,orI b.1.2.1 a.1.2.1,a.1.2.2)) else (some (false,b.1.2.1,a.1.2.2)):Option (Bool×Int×Int))) (fun k=>Option.bind ((if a.1.1 then (some (k.1,k.2.1,orI b.1.2.2 a.1.2.2)) else (some (k.1,k.2.1,k.2.2)):Option (Bool×Int×Int))) (fun o=>some ((o.1,o.2.1,o.2.2),d.1,d.2.1,d.2.2.1,d.2.2.2.1,d.2.2.2.2))))) else (if g.1==5 then ((chk (And (0<=(i64.wrap ((p1.length:Int) - 1))) ((i64.wrap ((p1.length:Int) - 1))<=(p1.length:Int)))).bind fun _=>(iN (p1.take ((i64.wrap ((p1.length:Int) - 1)).toNat))).bind fun i=>(chk (And (0<=i) (i<=(p1.length:Int)))).bind fun _=>((dA n) (p0.1,p0.2.1,p0.2.2.1,p0.2.2.2.1,p0.2.2.2.2) (p1.take i.toNat)).bind fun e=>(chk (And (0<=i) (And (i<=(i64.wrap ((p1.length:Int) - 1))) ((i64.wrap ((p1.length:Int) - 1))<=(p1.length:Int))))).bind fun _=>((dA n) (e.2.1,e.2.2.1,e.2.2.2.1,e.2.2.2.2.1,e.2.2.2.2.2) ((p1.take ((i64.wrap ((p1.length:Int) - 1)).toNat)).drop i.toNat)).bind fun c=>if e.1.1 then (some ((true,orI e.1.2.1 c.1.2.1,orI e.1.2.2 c.1.2.2),c.2.1,c.2.2.1,c.2.2.2.1,c.2.2.2.2.1,c.2.2.2.2.2)) else (some ((c.1.1,orI e.1.2.1 c.1.2.1,orI e.1.2.2 c.1.2.2),c.2.1,c.2.2.1,c.2.2.2.1,c.2.2.2.2.1,c.2.2.2.2.2))) else (if g.1==6 then ((chk (And (0<=(i64.wrap ((p1.length:Int) - 1))) ((i64.wrap ((p1.length:Int) - 1))<=(p1.length:Int)))).bind fun _=>((dA n) (p0.1,p0.2.1,p0.2.2.1,p0.2.2.2.1,p0.2.2.2.2) (p1.take ((i64.wrap ((p1.length:Int) - 1)).toNat))).bind fun f=>(oJ (f.2.1,f.2.2.1,f.2.2.2.1,f.2.2.2.2.1,f.2.2.2.2.2) f.1.2.2 f.1.2.1).bind fun l=>some ((true,f.1.2.1,f.1.2.2),l.1,l.2.1,l.2.2.1,l.2.2.2.1,l.2.2.2.2)) else (some ((false,0,0),p0.1,p0.2.1,p0.2.2.1,p0.2.2.2.1,p0.2.2.2.2))))))
def dB (b:(List Yq1)×Bool) (a:Int×Int):Option (Out (Rn×Bool) (Int×Int)):=
 if decide (a.2<(b.1.length:Int)) then (Option.bind (((aQ b.1 a.2).bind fun c=>if c.1==3 then (some (i64.wrap (a.1+1))) else (some a.1):Option Int)) (fun d=>some (.nxt (d,i64.wrap (a.2+1))))) else (some (.brk (a.1,a.2)))
def im (c:List Yq1):Option (Rn×Bool):=
 (mu c).bind fun b=>if b.2 then (aO (ax (dB b) aT (0,0)) (fun d=>some d) (fun e=>if decide (e.1>20) then (some ((([] :List Int),0,0,([] :List Int),false),false)) else ((dA gR (([] :List Int),0,0,([] :List Int),false) b.1).bind fun a=>some ((a.2.1,a.1.2.1,a.1.2.2,a.2.2.2.2.1,a.1.1),true)))) else (some ((([] :List Int),0,0,([] :List Int),false),false))
def iO (b:(List Int)×Int×Int×(List Int)×Bool) (c:Int) (a:Int×Int):Option AC:=
 if decide (a.2<(b.1.length:Int)) then (Option.bind (((chk (0<=i64.wrap (a.2+1))).bind fun _=>if (AN (uQ c (i64.wrap (a.2+1))) 1)==1 then ((aQ b.2.2.2.1 a.2).bind fun d=>some (orI a.1 d)) else (some a.1):Option Int)) (fun e=>some (.nxt (e,i64.wrap (a.2+1))))) else (some (.brk (a.1,a.2)))
def iP (b:(List Int)×Int×Int×(List Int)×Bool) (c:Int) (d:Int×Int) (a:Int×Int):Option AC:=
 if decide (a.2<(b.1.length:Int)) then (Option.bind (((chk (0<=a.2)).bind fun _=>if (AN (uQ d.1 a.2) 1)==1 then ((aQ b.1 a.2).bind fun e=>if e==c then ((chk (0<=i64.wrap (a.2+1))).bind fun _=>some (orI a.1 (Ko 1 (i64.wrap (a.2+1))))) else (some a.1)) else (some a.1):Option Int)) (fun f=>some (.nxt (f,i64.wrap (a.2+1))))) else (some (.brk (a.1,a.2)))
def pB (a:(List Int)×Int×Int×(List Int)×Bool) (b:Int) (c:Int):Option Int:=
 Option.bind ((if (AN b 1)==1 then (some a.2.1) else (some 0):Option Int)) (fun d=>aO (ax (iO a b) aT (d,0)) (fun r=>some r) (fun e=>aO (ax (iP a c e) aT (0,0)) (fun r=>some r) (fun f=>some f.1)))
def pW (b:List Int) (c:Int) (a:Int):Option (Out Int Int):=
 if decide (a<(b.length:Int)) then ((aQ b a).bind fun d=>if d==c then (some (.ret a)) else (some (.nxt (i64.wrap (a+1))))) else (some (.brk a))
def oK (a:List Int) (b:Int):Option Int:=
 aO (ax (pW a b) aT 0) (fun r=>some r) (fun c=>some (-1))
def mw (a:(List Int)×Int×Int×(List Int)×Bool) (b:Int):Option Bool:=
 if (AN b 1)==1 then (if a.2.2.2.2 then (some true) else (some ((AN (uQ b 1) a.2.2.1) !=0))) else (some ((AN (uQ b 1) a.2.2.1) !=0))
def fT (b:(List Int)×Int×Int×(List Int)×Bool) (f:(List Int)×Int×Int×(List Bool)×(List (List Int))) (a:(List Int)×(List Int)×Int):Option (Out (Yq2×Bool) ((List Int)×(List Int)×Int)):=
 if decide (a.2.2<9) then ((aQ a.1 f.2.1).bind fun g=>(pB (b.1,b.2.1,b.2.2.1,b.2.2.2.1,b.2.2.2.2) g a.2.2).bind fun c=>Option.bind ((if c !=0 then ((oK a.1 c).bind fun d=>if decide (d<0) then ((cn 8 a.1 ([c])).bind fun h=>some (h,(a.1.length:Int))) else (some (a.1,d))) else (some (a.1,-1)):Option ((List Int)×Int))) (fun e=>(cn 8 a.2.1 ([e.2])).bind fun i=>some (.nxt (e.1,i,i64.wrap (a.2.2+1))))) else (some (.brk (a.1,a.2.1,a.2.2)))
def fU (b:(List Int)×Int×Int×(List Int)×Bool) (d:Int) (a:(List Int)×Int×Int×(List Bool)×(List (List Int))):Option (Out (Yq2×Bool) ((List Int)×Int×Int×(List Bool)×(List (List Int)))):=
 if decide (a.2.1<(a.1.length:Int)) then (aO (ax (fT b a) aT (a.1,([] :List Int),0)) (fun r=>some (.ret r)) (fun c=>if decide ((c.1.length:Int)>d) then (some (.ret ((0,[],[]),false))) else ((aQ c.1 a.2.1).bind fun e=>(mw (b.1,b.2.1,b.2.2.1,b.2.2.2.1,b.2.2.2.2) e).bind fun f=>(cn 1 a.2.2.2.1 ([f])).bind fun g=>(cn 24 a.2.2.2.2 ([c.2.1])).bind fun h=>some (.nxt (c.1,i64.wrap (a.2.1+1),a.2.2.1,g,h))))) else (some (.brk (a.1,a.2.1,a.2.2.1,a.2.2.2.1,a.2.2.2.2)))
def jG (b:(List Int)×Int×Int×(List Int)×Bool) (c:Int):Option (Yq2×Bool):=
 aO (ax (fU b c) aT ([1],0,0,[],[])) (fun r=>some r) (fun a=>some ((a.2.2.1,a.2.2.2.1,a.2.2.2.2),true))
def ym (a:(List Int)×Int):Option (Out Yq2 ((List Int)×Int)):=
 if decide (a.2<9) then ((cn 8 a.1 ([-1])).bind fun b=>some (.nxt (b,i64.wrap (a.2+1)))) else (some (.brk (a.1,a.2)))
def pX:Option Yq2:=
 aO (ax (ym) aT (([] :List Int),0)) (fun r=>some r) (fun a=>some (0,[false],[a.1]))
def gU (f:Int×(List Bool)×(List (List Int))) (d:List Int) (g:List Bool) (h:(List Int)×(List Int)×Int×Int×(List Bool)×(List (List Int))) (a:(List Int)×(List Int)×(List Int)×Int):Option (Out Yq2 ((List Int)×(List Int)×(List Int)×Int)):=
 if decide (a.2.2.2<9) then ((aQ a.2.1 h.2.2.1).bind fun i=>(aQ f.2.2 i).bind fun j=>(aQ j a.2.2.2).bind fun b=>Option.bind ((if decide (b≥0) then ((aQ g b).bind fun k=>if k then ((aQ d b).bind fun l=>(oK a.1 l).bind fun e=>if decide (e<0) then ((aQ d b).bind fun m=>(cn 8 a.1 ([m])).bind fun n=>(cn 8 a.2.1 ([b])).bind fun o=>some (n,o,(a.1.length:Int))) else (some (a.1,a.2.1,e))) else (some (a.1,a.2.1,-1))) else (some (a.1,a.2.1,-1)):Option ((List Int)×(List Int)×Int))) (fun c=>(cn 8 a.2.2.1 ([c.2.2])).bind fun p=>some (.nxt (c.1,c.2.1,p,i64.wrap (a.2.2.2+1))))) else (some (.brk (a.1,a.2.1,a.2.2.1,a.2.2.2)))
def jT (c:Int×(List Bool)×(List (List Int))) (d:List Int) (e:List Bool) (a:(List Int)×(List Int)×Int×Int×(List Bool)×(List (List Int))):Option (Out Yq2 ((List Int)×(List Int)×Int×Int×(List Bool)×(List (List Int)))):=
 if decide (a.2.2.1<(a.1.length:Int)) then (aO (ax (gU c d e a) aT (a.1,a.2.1,([] :List Int),0)) (fun r=>some (.ret r)) (fun b=>(aQ b.2.1 a.2.2.1).bind fun f=>(aQ c.2.1 f).bind fun g=>(cn 1 a.2.2.2.2.1 ([g])).bind fun h=>(cn 24 a.2.2.2.2.2 ([b.2.2.1])).bind fun i=>some (.nxt (b.1,b.2.1,i64.wrap (a.2.2.1+1),a.2.2.2.1,h,i)))) else (some (.brk (a.1,a.2.1,a.2.2.1,a.2.2.2.1,a.2.2.2.2.1,a.2.2.2.2.2)))
def jg (a:Int×(List Bool)×(List (List Int))) (d:List Int) (e:List Bool):Option Yq2:=
 (aQ e a.1).bind fun f=>if f then ((aQ d a.1).bind fun g=>aO (ax (jT a d e) aT ([g],[a.1],0,0,[],[])) (fun r=>some r) (fun b=>some (b.2.2.2.1,b.2.2.2.2.1,b.2.2.2.2.2))) else ((pX).bind fun c=>some (c.1,c.2.1,c.2.2))
def jH (c:Int×(List Bool)×(List (List Int))) (b:(List Bool)×Int) (a:(List Bool)×Int):Option (Out (List Bool) ((List Bool)×Int)):=
 if decide (a.2<9) then (Option.bind (((aQ c.2.2 b.2).bind fun d=>(aQ d a.2).bind fun e=>if decide (e≥0) then ((aQ c.2.2 b.2).bind fun f=>(aQ f a.2).bind fun g=>(aQ a.1 g).bind fun h=>if h then ((aQ a.1 b.2).bind fun j=>some (a.1.set b.2.toNat true)) else (some a.1)) else (some a.1):Option (List Bool))) (fun i=>some (.nxt (i,i64.wrap (a.2+1))))) else (some (.brk (a.1,a.2)))
def jI (b:Int×(List Bool)×(List (List Int))) (a:(List Bool)×Int):Option (Out (List Bool) ((List Bool)×Int)):=
 if decide (a.2<(b.2.1.length:Int)) then (aO (ax (jH b a) aT (a.1,0)) (fun r=>some (.ret r)) (fun c=>some (.nxt (c.1,i64.wrap (a.2+1))))) else (some (.brk (a.1,a.2)))
def my (b:Int×(List Bool)×(List (List Int))) (a:(List Bool)×Int):Option (Out (List Bool) ((List Bool)×Int)):=
 if decide (a.2<(b.2.1.length:Int)) then (aO (ax (jI b) aT (a.1,0)) (fun r=>some (.ret r)) (fun c=>some (.nxt (c.1,i64.wrap (a.2+1))))) else (some (.brk (a.1,a.2)))
def lW (a:Int×(List Bool)×(List (List Int))):Option (List Bool):=
 (cn 1 ([] :List Bool) a.2.1).bind fun b=>aO (ax (my a) aT (b,0)) (fun r=>some r) (fun c=>some c.1)
def nI (c:Int×(List Bool)×(List (List Int))) (d:List Int) (e:Int) (a:(List Int)×Int):Option (Out (List Int) ((List Int)×Int)):=
 if decide (a.2<9) then (Option.bind (((aQ c.2.2 e).bind fun f=>(aQ f a.2).bind fun b=>if decide (b<0) then ((cn 8 a.1 ([-1])).bind fun g=>some g) else ((aQ d b).bind fun h=>(cn 8 a.1 ([h])).bind fun i=>some i):Option (List Int))) (fun j=>some (.nxt (j,i64.wrap (a.2+1))))) else (some (.brk (a.1,a.2)))
def qm (c:Int×(List Bool)×(List (List Int))) (a:List Int) (b:Int):Option (List Int):=
 (aQ a b).bind fun d=>aO (ax (nI c a b) aT ([d],0)) (fun r=>some r) (fun e=>some e.1)
def fV (b:Int×(List Bool)×List (List Int)) (c:List Bool) (a:(List Int)×Int):Option (Out (List Int) ((List Int)×Int)):=
 if decide (a.2<(b.2.1.length:Int)) then ((aQ b.2.1 a.2).bind fun d=>Option.bind ((if d then (some 1) else (some 0):Option Int)) (fun e=>(aQ c a.2).bind fun f=>Option.bind ((if f then (some e) else (some (-1)):Option Int)) (fun g=>(cn 8 a.1 ([g])).bind fun h=>some (.nxt (h,i64.wrap (a.2+1)))))) else (some (.brk (a.1,a.2)))
def fW (b:(List (List Int))×(List Int)×Int) (c:List Int) (a:Int×Int):Option (Out (List Int) (Int×Int)):=
 if decide (a.2<(b.1.length:Int)) then (Option.bind (((aQ b.1 a.2).bind fun d=>(oG d c).bind fun e=>if e==0 then (some a.2) else (some a.1):Option Int)) (fun f=>some (.nxt (f,i64.wrap (a.2+1))))) else (some (.brk (a.1,a.2)))
def fX (b:Int×(List Bool)×List (List Int)) (c:(List Int)×Int) (a:(List (List Int))×(List Int)×Int):Option (Out (List Int) ((List (List Int))×(List Int)×Int)):=
 if decide (a.2.2<(b.2.1.length:Int)) then (Option.bind (((aQ c.1 a.2.2).bind fun h=>if decide (h<0) then ((cn 8 a.2.1 ([(-1)])).bind fun i=>some (a.1,i)) else ((qm (b.1,b.2.1,b.2.2) c.1 a.2.2).bind fun d=>aO (ax (fW a d) aT ((-1),0)) (fun l=>none) (fun e=>Option.bind ((if decide (e.1<0) then ((cn 24 a.1 ([d])).bind fun j=>some (j,(a.1.length:Int))) else (some (a.1,e.1)):Option ((List (List Int))×Int))) (fun f=>(cn 8 a.2.1 ([f.2])).bind fun k=>some (f.1,k)))):Option ((List (List Int))×List Int))) (fun g=>some (.nxt (g.1,g.2,i64.wrap (a.2.2+1))))) else (some (.brk (a.1,a.2.1,a.2.2)))
def lX (b:Int×(List Bool)×List (List Int)) (a:(List Int)×Int):Option (Out (List Int) ((List Int)×Int)):=
 if decide (a.2<=(b.2.1.length:Int)) then (aO (ax (fX b a) aT (([] :List (List Int)),([] :List Int),0)) (fun d=>some (.ret d)) (fun c=>(oG c.2.1 a.1).bind fun e=>if e==0 then (some (.ret a.1)) else (some (.nxt (c.2.1,i64.wrap (a.2+1)))))) else (some (.brk (a.1,a.2)))
def jJ (a:Int×(List Bool)×List (List Int)):Option (List Int):=
 (lW (a.1,a.2.1,a.2.2)).bind fun b=>aO (ax (fV a b) aT (([] :List Int),0)) (fun c=>some c) (fun d=>aO (ax (lX a) aT (d.1,0)) (fun e=>some e) (fun f=>some f.1))
def fY (a:Int×(List Bool)×(List (List Int))):Option Yq2:=
 (jJ (a.1,a.2.1,a.2.2)).bind fun c=>(lW (a.1,a.2.1,a.2.2)).bind fun d=>(jg (a.1,a.2.1,a.2.2) c d).bind fun b=>some (b.1,b.2.1,b.2.2)
def iQ (d:(List Yq1)):Option (Yq2×Bool):=
 (im d).bind fun a=>if a.2 then ((jG (a.1.1,a.1.2.1,a.1.2.2.1,a.1.2.2.2.1,a.1.2.2.2.2) 200).bind fun b=>if b.2 then ((fY (b.1.1,b.1.2.1,b.1.2.2)).bind fun c=>if decide ((c.2.1.length:Int)>12) then (some ((0,[],[]),false)) else (some ((c.1,c.2.1,c.2.2),true))) else (some ((0,[],[]),false))) else (some ((0,[],[]),false))
def fG (b:Int×(List Bool)×(List (List Int))) (c:Int×(List Bool)×(List (List Int))) (a:Int):Option (Out Bool Int):=
 if decide (a<(b.2.1.length:Int)) then ((aQ b.2.1 a).bind fun d=>(aQ c.2.1 a).bind fun e=>if d !=e then (some (.ret false)) else (some (.nxt (i64.wrap (a+1))))) else (some (.brk a))
def fH (b:Int×(List Bool)×(List (List Int))) (c:Int×(List Bool)×(List (List Int))) (a:Int):Option (Out Bool Int):=
 if decide (a<(b.2.2.length:Int)) then ((aQ b.2.2 a).bind fun d=>(aQ c.2.2 a).bind fun e=>(oG d e).bind fun f=>if f !=0 then (some (.ret false)) else (some (.nxt (i64.wrap (a+1))))) else (some (.brk a))
def fZ (a:Int×(List Bool)×(List (List Int))) (b:Int×(List Bool)×(List (List Int))):Option Bool:=
 if a.1 !=b.1 then (some false) else (if (a.2.1.length:Int) !=(b.2.1.length:Int) then (some false) else (if (a.2.2.length:Int) !=(b.2.2.length:Int) then (some false) else (aO (ax (fG a b) aT 0) (fun r=>some r) (fun c=>aO (ax (fH a b) aT 0) (fun r=>some r) (fun d=>some true)))))
def iR (d:List Yq2) (b:Int×(List Bool)×(List (List Int))) (a:Int):Option (Out Int Int):=
 if decide (a<(d.length:Int)) then ((aQ d a).bind fun c=>(fZ (c.1,c.2.1,c.2.2) (b.1,b.2.1,b.2.2)).bind fun e=>if e then (some (.ret a)) else (some (.nxt (i64.wrap (a+1))))) else (some (.brk a))
def mY (a:List Yq2) (b:Int×(List Bool)×(List (List Int))):Option Int:=
 aO (ax (iR a b) aT 0) (fun r=>some r) (fun c=>some (-1))
def dC (c:List Yq3) (a:Int×(List Yq2)×(List Yq3)):Option (Out (Yq8×Bool) Ro):=
 if decide (a.1<(c.length:Int)) then ((aQ c a.1).bind fun h=>(iQ h.2.1).bind fun b=>if b.2 then ((aQ c a.1).bind fun i=>(cZ i.1 1 99).bind fun j=>if j then (if decide (a.1>0) then ((aQ c (i64.wrap (a.1 - 1))).bind fun k=>(aQ c a.1).bind fun l=>if decide (k.1≥l.1) then (some (.ret (([],[]),false))) else ((mY a.2.1 (b.1.1,b.1.2.1,b.1.2.2)).bind fun f=>Option.bind ((if decide (f<0) then ((cn 56 a.2.1 ([(b.1.1,b.1.2.1,b.1.2.2)])).bind fun m=>some ((a.2.1.length:Int),m,a.2.2)) else (some (f,a.2.1,a.2.2)):Option Ro)) (fun d=>(aQ c a.1).bind fun n=>(aQ c a.1).bind fun o=>(hY o.2.1).bind fun p=>(cn 40 d.2.2 ([(n.1,p,d.1)])).bind fun q=>some (.nxt (i64.wrap (a.1+1),d.2.1,q))))) else ((mY a.2.1 (b.1.1,b.1.2.1,b.1.2.2)).bind fun g=>Option.bind ((if decide (g<0) then ((cn 56 a.2.1 ([(b.1.1,b.1.2.1,b.1.2.2)])).bind fun r=>some ((a.2.1.length:Int),r,a.2.2)) else (some (g,a.2.1,a.2.2)):Option Ro)) (fun e=>(aQ c a.1).bind fun s=>(aQ c a.1).bind fun t=>(hY t.2.1).bind fun u=>(cn 40 e.2.2 ([(s.1,u,e.1)])).bind fun v=>some (.nxt (i64.wrap (a.1+1),e.2.1,v))))) else (some (.ret (([],[]),false)))) else (some (.ret (([],[]),false)))) else (some (.brk (a.1,a.2.1,a.2.2)))
def pC (a:List Yq3):Option (Yq8×Bool):=
 if decide ((a.length:Int)>4) then (some (([],[]),false)) else (aO (ax (dC a) aT (0,[],[])) (fun r=>some r) (fun b=>some ((b.2.1,b.2.2),true)))
def jh (d:(List Yq1)) (e:(List Yq1)) (a:Int):Option (Out Bool Int):=
 if decide (a<(d.length:Int)) then ((aQ d a).bind fun b=>(aQ e a).bind fun c=>if (b.1==c.1)&&((b.2.1==c.2.1)&&((b.2.2.1==c.2.2.1)&&((b.2.2.2==c.2.2.2)&&true))) then (some (.nxt (i64.wrap (a+1)))) else (some (.ret false))) else (some (.brk a))
def mz (a:(List Yq1)) (b:(List Yq1)):Option Bool:=
 if (a.length:Int) !=(b.length:Int) then (some false) else (aO (ax (jh a b) aT 0) (fun r=>some r) (fun c=>some true))
def eM (d:(List Yq2)×(List Yq3)) (e:(List Yq2)×(List Yq3)) (a:Int):Option (Out Bool Int):=
 if decide (a<(d.1.length:Int)) then ((aQ d.1 a).bind fun b=>(aQ e.1 a).bind fun c=>(fZ (b.1,b.2.1,b.2.2) (c.1,c.2.1,c.2.2)).bind fun f=>if f then (some (.nxt (i64.wrap (a+1)))) else (some (.ret false))) else (some (.brk a))
def eN (b:(List Yq2)×(List Yq3)) (c:(List Yq2)×(List Yq3)) (a:Int):Option (Out Bool Int):=
 if decide (a<(b.2.length:Int)) then ((aQ b.2 a).bind fun d=>(aQ c.2 a).bind fun e=>if d.1 !=e.1 then (some (.ret false)) else ((aQ b.2 a).bind fun f=>(aQ c.2 a).bind fun g=>(mz f.2.1 g.2.1).bind fun h=>if h then ((aQ b.2 a).bind fun i=>(aQ c.2 a).bind fun j=>if i.2.2 !=j.2.2 then (some (.ret false)) else (some (.nxt (i64.wrap (a+1))))) else (some (.ret false)))) else (some (.brk a))
def gF (a:(List Yq2)×(List Yq3)) (b:(List Yq2)×(List Yq3)):Option Bool:=
 if (a.1.length:Int) !=(b.1.length:Int) then (some false) else (if (a.2.length:Int) !=(b.2.length:Int) then (some false) else (aO (ax (eM a b) aT 0) (fun r=>some r) (fun c=>aO (ax (eN a b) aT 0) (fun r=>some r) (fun d=>some true))))
def gG (a:(List Yq2)×(List Yq3)):Option Bool:=
 (pC a.2).bind fun b=>if b.2 then ((gF (b.1.1,b.1.2) (a.1,a.2)).bind fun c=>some c) else (some false)
def bf (a:Int×(List Yq4)):Option Int:=
 (m_s_IsValidHistory (a.1,a.2)).bind fun b=>if b then (some (i64.wrap ((i64.wrap (a.1+(a.2.length:Int))) - 1))) else (some 0)
def eY (b:(List Yq2)×(List Yq3)) (c:Int) (a:Int):Option (Out Int Int):=
 if decide (a<(b.2.length:Int)) then ((aQ b.2 a).bind fun d=>if d.1==c then (some (.ret a)) else (some (.nxt (i64.wrap (a+1))))) else (some (.brk a))
def lf (a:(List Yq2)×(List Yq3)) (b:Int):Option Int:=
 aO (ax (eY a b) aT 0) (fun r=>some r) (fun c=>some (-1))
def cV (a:uj×Yq8×Yq7×ByteArray) (b:Int):Option (Out Bool Int):=
 if decide (b<(a.2.2.1.length:Int)) then ((aQ a.2.2.1 b).bind fun c=>(cZ c.1 1 99).bind fun d=>if d then (if decide (b>0) then ((aQ a.2.2.1 (i64.wrap (b - 1))).bind fun e=>if decide (e.1≥c.1) then (some (.ret false)) else ((lf (a.2.1.1,a.2.1.2) c.2.1).bind fun f=>if decide (f<0) then (some (.ret false)) else ((bf (a.1.1,a.1.2)).bind fun g=>(cZ c.2.2 0 g).bind fun h=>if h then (some (.nxt (i64.wrap (b+1)))) else (some (.ret false))))) else ((lf (a.2.1.1,a.2.1.2) c.2.1).bind fun i=>if decide (i<0) then (some (.ret false)) else ((bf (a.1.1,a.1.2)).bind fun j=>(cZ c.2.2 0 j).bind fun k=>if k then (some (.nxt (i64.wrap (b+1)))) else (some (.ret false))))) else (some (.ret false))) else (some (.brk b))
def vL (a:uj×Yq8×Yq7×ByteArray):Option Bool:=
 aO (ax (cV a) aT 0) (fun r=>some r) (fun b=>some (decide ((a.2.2.1.length:Int)<=4)))
def dK (a:Int×ByteArray):Option (Out ByteArray (Int×ByteArray)):=
 if a.1 !=0 then (Option.bind ((if decide ((Int.tmod a.1 10)<0) then (some (i64.wrap (-(Int.tmod a.1 10)))) else (some (Int.tmod a.1 10)):Option Int)) (fun b=>(mi (y8 ([IntKind.u8.wrap (i64.wrap (48+b))])) a.2).bind fun c=>some (.nxt (Rr a.1 10,c)))) else (some (.brk (a.1,a.2)))
def cm (a:Int):Option ByteArray:=
 if a==0 then (some (⟨#[48]⟩)) else (aO (ax (dK) aT (a,(⟨#[]⟩:ByteArray))) (fun c=>some c) (fun b=>if decide (a<0) then ((mi (⟨#[45]⟩) b.2).bind fun d=>some d) else (some b.2)))
def eZ (a:Int):Option ByteArray:=
 (mX a).bind fun b=>if b then ((aQ ([(⟨#[97]⟩:ByteArray),(⟨#[97,45]⟩:ByteArray),(⟨#[98]⟩:ByteArray),(⟨#[98,45]⟩:ByteArray),(⟨#[99]⟩:ByteArray),(⟨#[99,45]⟩:ByteArray),(⟨#[48]⟩:ByteArray),(⟨#[49]⟩:ByteArray),(⟨#[50]⟩:ByteArray)]) a).bind fun c=>some c) else (some (⟨#[]⟩:ByteArray))
def jK (a:Int×Int×Int×Int):Option ByteArray:=
 (cZ a.1 1 99).bind fun b=>if b then ((cZ a.2.1 0 4).bind fun c=>if c then ((cZ a.2.2.1 0 4).bind fun d=>if d then ((cZ a.2.2.2 0 2).bind fun e=>if e then ((cm a.1).bind fun f=>(mi f (⟨#[58]⟩)).bind fun g=>(cm a.2.1).bind fun h=>(mi g h).bind fun i=>(eZ (i64.wrap (2*a.2.2.2))).bind fun j=>(mi i j).bind fun k=>(cm a.2.2.1).bind fun l=>(mi k l).bind fun m=>some m) else (some ((⟨#[]⟩:ByteArray)))) else (some ((⟨#[]⟩:ByteArray)))) else (some ((⟨#[]⟩:ByteArray)))) else (some ((⟨#[]⟩:ByteArray)))
def fh (c:List Yq5) (a:ByteArray×Int):Option (Out ByteArray (ByteArray×Int)):=
 if decide (a.2<(c.length:Int)) then (nj (S:=ByteArray) ((aQ c a.2).bind fun b=>(jK (b.2.1,b.2.2.1,b.2.2.2.1,b.2.2.2.2)).bind fun d=>if d==((⟨#[]⟩:ByteArray)) then (some (.inl (.ret ((⟨#[]⟩:ByteArray))))) else (Option.bind ((if decide (a.2>0) then ((mi a.1 (⟨#[32]⟩)).bind fun f=>some f) else (some a.1):Option ByteArray)) (fun e=>(aQ c a.2).bind fun g=>if g.1 then ((mi e (⟨#[43]⟩)).bind fun h=>(mi h d).bind fun i=>some (.inr i)) else ((mi e (⟨#[45]⟩)).bind fun j=>(mi j d).bind fun k=>some (.inr k))))) (fun l=>some (.nxt (l,i64.wrap (a.2+1))))) else (some (.brk (a.1,a.2)))
def c8 (a:List Yq5):Option ByteArray:=
 if decide ((a.length:Int)>6) then (some ((⟨#[]⟩:ByteArray))) else (aO (ax (fh a) aT ((⟨#[]⟩:ByteArray),0)) (fun b=>some b) (fun c=>some c.1))
def ga (b:ByteArray) (a:Int×Int):Option AC:=
 if decide (a.2<((b.size:Nat):Int)) then ((kp b a.2).bind fun c=>some (.nxt (Int.tmod (i64.wrap ((i64.wrap ((i64.wrap (a.1*257))+(i64.wrap c)))+1)) 9973,i64.wrap (a.2+1)))) else (some (.brk (a.1,a.2)))
def gq (a:ByteArray):Option Int:=
 aO (ax (ga a) aT (1,0)) (fun b=>some b) (fun c=>some c.1)
def dL (b:Int) (a:List Yq5):Option ByteArray:=
 (cZ b 1 999).bind fun e=>if e then (if decide ((a.length:Int)>0) then ((c8 a).bind fun f=>if f==((⟨#[]⟩:ByteArray)) then (some ((⟨#[]⟩:ByteArray))) else ((cm b).bind fun g=>(mi g (⟨#[59]⟩)).bind fun h=>(c8 a).bind fun i=>(mi h i).bind fun j=>(mi j (⟨#[59]⟩)).bind fun c=>(gq c).bind fun k=>(cm k).bind fun l=>(mi c l).bind fun m=>(mi m (⟨#[10]⟩)).bind fun n=>some n)) else ((cm b).bind fun o=>(mi o (⟨#[59]⟩)).bind fun p=>(c8 a).bind fun q=>(mi p q).bind fun r=>(mi r (⟨#[59]⟩)).bind fun d=>(gq d).bind fun s=>(cm s).bind fun t=>(mi d t).bind fun u=>(mi u (⟨#[10]⟩)).bind fun v=>some v)) else (some ((⟨#[]⟩:ByteArray)))
def pD (b:ByteArray) (d:Int) (a:(List ByteArray)×Int×Int):Option (Out (List ByteArray) ((List ByteArray)×Int×Int)):=
 if decide (a.2.2<((b.size:Nat):Int)) then (Option.bind (((kp b a.2.2).bind fun e=>if e==d then ((sp b a.2.1 a.2.2).bind fun f=>(cn 16 a.1 ([f])).bind fun g=>some (g,i64.wrap (a.2.2+1))) else (some (a.1,a.2.1)):Option ((List ByteArray)×Int))) (fun c=>some (.nxt (c.1,c.2,i64.wrap (a.2.2+1))))) else (some (.brk (a.1,a.2.1,a.2.2)))
def iS (a:ByteArray) (c:Int):Option (List ByteArray):=
 aO (ax (pD a c) aT (([] :List ByteArray),0,0)) (fun d=>some d) (fun b=>(sp a b.2.1 ((a.size:Nat):Int)).bind fun e=>(cn 16 b.1 ([e])).bind fun f=>some f)
def iT (b:ByteArray) (a:Int×Int×Int):Option (Out (Int×Bool) GB):=
 if decide (a.2.2<((b.size:Nat):Int)) then (if decide (a.2.2<11) then (Option.bind (((kp b a.2.2).bind fun d=>if decide (d≥48) then ((kp b a.2.2).bind fun e=>if decide (e<=57) then ((kp b a.2.2).bind fun f=>some (i64.wrap ((i64.wrap (a.1*10))+(i64.wrap (IntKind.u8.wrap (f - 48)))),i64.wrap (a.2.1+1))) else (some (a.1,a.2.1))) else (some (a.1,a.2.1)):Option (Int×Int))) (fun c=>some (.nxt (c.1,c.2,i64.wrap (a.2.2+1))))) else (some (.brk (a.1,a.2.1,a.2.2)))) else (some (.brk (a.1,a.2.1,a.2.2)))
def gr (a:ByteArray):Option (Int×Bool):=
 aO (ax (iT a) aT (0,0,0)) (fun e=>some e) (fun b=>if decide (((a.size:Nat):Int)>0) then ((kp a 0).bind fun f=>Option.bind ((if f==45 then (some (i64.wrap (-b.1))) else (some b.1):Option Int)) (fun c=>if decide (b.2.1>9) then (some (0,false)) else (if decide (((a.size:Nat):Int)>10) then (some (0,false)) else ((cm c).bind fun g=>if g !=a then (some (0,false)) else (some (c,true)))))) else (Option.bind ((some b.1:Option Int)) (fun d=>if decide (b.2.1>9) then (some (0,false)) else (if decide (((a.size:Nat):Int)>10) then (some (0,false)) else ((cm d).bind fun h=>if h !=a then (some (0,false)) else (some (d,true)))))))
def lh (b:ByteArray) (a:Int):Option (Out (Int×Bool) Int):=
 if decide (a<9) then ((eZ a).bind fun c=>if c==b then (some (.ret (a,true))) else (some (.nxt (i64.wrap (a+1))))) else (some (.brk a))
def gb (a:ByteArray):Option (Int×Bool):=
 aO (ax (lh a) aT 0) (fun r=>some r) (fun b=>some (0,false))
def gH (b:ByteArray):Option (Yq1×Bool):=
 (iS b 58).bind fun a=>if (a.length:Int) !=2 then (some ((0,0,0,0),false)) else ((aQ a 1).bind fun g=>if ((g.size:Nat):Int) !=3 then (some ((0,0,0,0),false)) else ((aQ a 0).bind fun h=>(gr h).bind fun c=>(aQ a 1).bind fun i=>(sp i 1 2).bind fun j=>(gb j).bind fun d=>(aQ a 1).bind fun k=>(kp k 0).bind fun e=>(aQ a 1).bind fun l=>(kp l 2).bind fun f=>(jK (c.1,i64.wrap ((i64.wrap e) - 48),i64.wrap ((i64.wrap f) - 48),Rr d.1 2)).bind fun m=>if m !=b then (some ((0,0,0,0),false)) else (some ((c.1,i64.wrap ((i64.wrap e) - 48),i64.wrap ((i64.wrap f) - 48),Rr d.1 2),true))))
def cQ (c:List ByteArray) (a:Int×List Yq5):Option (Out ((List Yq5)×Bool) (Int×List Yq5)):=
 if decide (a.1<(c.length:Int)) then (if decide (a.1<=6) then ((aQ c a.1).bind fun e=>if decide (((e.size:Nat):Int)<2) then (some (.ret (([] :List Yq5),false))) else ((aQ c a.1).bind fun d=>(sp d 1 ((d.size:Nat):Int)).bind fun f=>(gH f).bind fun b=>if b.2 then ((aQ c a.1).bind fun g=>(kp g 0).bind fun h=>(cn 40 a.2 ([(h==43,b.1.1,b.1.2.1,b.1.2.2.1,b.1.2.2.2)])).bind fun i=>some (.nxt (i64.wrap (a.1+1),i))) else (some (.ret (([] :List Yq5),false))))) else (some (.brk (a.1,a.2)))) else (some (.brk (a.1,a.2)))
def dZ (a:ByteArray):Option ((List Yq5)×Bool):=
 if a==((⟨#[]⟩:ByteArray)) then (some (([] :List Yq5),true)) else ((iS a 32).bind fun c=>aO (ax (cQ c) aT (0,([] :List Yq5))) (fun d=>some d) (fun b=>(c8 b.2).bind fun e=>if e !=a then (some (([] :List Yq5),false)) else (some (b.2,true))))
def jU (d:ByteArray):Option (Int×((List (Bool×Yq1)))×Bool):=
 (iS d 59).bind fun a=>if (a.length:Int) !=3 then (some (0,[],false)) else ((aQ a 0).bind fun e=>(gr e).bind fun b=>(aQ a 1).bind fun f=>(dZ f).bind fun c=>if b.2 then (if c.2 then ((dL b.1 c.1).bind fun g=>if g !=d then (some (0,[],false)) else (some (b.1,c.1,true))) else (some (0,[],false))) else (some (0,[],false)))
def bA (c:ByteArray) (a:(List Int)×(List (List Yq5))×Int×Int):Option (Out ((List Int)×(List (List Yq5))×Int) ((List Int)×(List (List Yq5))×Int×Int)):=
 if decide (a.2.2.2<((c.size:Nat):Int)) then (if decide (((c.size:Nat):Int)<=4000) then (nj (S:=(List Int)×(List (List Yq5))×Int) ((kp c a.2.2.2).bind fun e=>if e !=10 then (some (.inr (a.1,a.2.1,a.2.2.1))) else ((sp c a.2.2.1 (i64.wrap (a.2.2.2+1))).bind fun f=>(jU f).bind fun b=>if b.2.2 then (if decide ((a.1.length:Int)>0) then ((aQ a.1 (i64.wrap ((a.1.length:Int) - 1))).bind fun g=>if b.1 !=(i64.wrap (g+1)) then (some (.inl (.ret (a.1,a.2.1,a.2.2.1)))) else ((cn 8 a.1 ([b.1])).bind fun h=>(cn 24 a.2.1 ([b.2.1])).bind fun i=>some (.inr (h,i,i64.wrap (a.2.2.2+1))))) else ((cn 8 a.1 ([b.1])).bind fun j=>(cn 24 a.2.1 ([b.2.1])).bind fun k=>some (.inr (j,k,i64.wrap (a.2.2.2+1))))) else (some (.inl (.ret (a.1,a.2.1,a.2.2.1)))))) (fun d=>some (.nxt (d.1,d.2.1,d.2.2,i64.wrap (a.2.2.2+1))))) else (some (.brk (a.1,a.2.1,a.2.2.1,a.2.2.2)))) else (some (.brk (a.1,a.2.1,a.2.2.1,a.2.2.2)))
def m_s_ScanLog (b:ByteArray):Option ((List Int)×(List (List Yq5))×Int):=
 aO (ax (bA b) aT (([] :List Int),([] :List (List Yq5)),0,0)) (fun c=>some c) (fun a=>some (a.1,a.2.1,a.2.2.1))
def yn (a:uj×Yq8×Yq7×ByteArray):Option Bool:=
 (m_s_ScanLog a.2.2.2).bind fun b=>if b.2.2==(a.2.2.2.size:Int) then (if decide ((a.2.2.2.size:Int)<=4000) then (if (b.1.length:Int)==0 then (some true) else ((aQ b.1 (i64.wrap ((b.1.length:Int) - 1))).bind fun c=>(bf (a.1.1,a.1.2)).bind fun d=>some (c==d))) else (some false)) else (some false)
def gf (a:uj×Yq8×Yq7×ByteArray):Option Bool:=
 (m_s_IsValidHistory (a.1.1,a.1.2)).bind fun b=>if b then ((gG (a.2.1.1,a.2.1.2)).bind fun c=>if c then ((vL ((a.1.1,a.1.2),(a.2.1.1,a.2.1.2),a.2.2.1,a.2.2.2)).bind fun d=>if d then ((yn ((a.1.1,a.1.2),(a.2.1.1,a.2.1.2),a.2.2.1,a.2.2.2)).bind fun e=>some e) else (some false)) else (some false)) else (some false)
def cB (a:(List Int)×(List Yq1)):Option Yq4:=
 (cn 8 ([] :List Int) a.1).bind fun b=>(cn 32 ([] :List Yq1) a.2).bind fun c=>some (b,c)
def lj (b:Int×(List Yq4)) (a:Int×Int×(List Yq4)):Option (Out uj (Int×Int×(List Yq4))):=
 if decide (a.1<(b.2.length:Int)) then ((aQ b.2 a.1).bind fun c=>(cB (c.1,c.2)).bind fun d=>(cn 48 a.2.2 ([(d.1,d.2)])).bind fun e=>some (.nxt (i64.wrap (a.1+1),a.2.1,e))) else (some (.brk (a.1,a.2.1,a.2.2)))
def qn (a:Int×(List Yq4)):Option uj:=
 aO (ax (lj a) aT (0,a.1,[])) (fun r=>some r) (fun b=>some (b.2.1,b.2.2))
def jL (b:Int×(List Bool)×(List (List Int))) (a:Int×Int×(List Bool)×(List (List Int))):Option (Out Yq2 (Int×Int×(List Bool)×(List (List Int)))):=
 if decide (a.1<(b.2.2.length:Int)) then ((aQ b.2.2 a.1).bind fun c=>(cn 8 ([] :List Int) c).bind fun d=>(cn 24 a.2.2.2 ([d])).bind fun e=>some (.nxt (i64.wrap (a.1+1),a.2.1,a.2.2.1,e))) else (some (.brk (a.1,a.2.1,a.2.2.1,a.2.2.2)))
def rh (a:Int×(List Bool)×(List (List Int))):Option Yq2:=
 (cn 1 ([] :List Bool) a.2.1).bind fun c=>aO (ax (jL a) aT (0,a.1,c,[])) (fun r=>some r) (fun b=>some (b.2.1,b.2.2.1,b.2.2.2))
def jM (d:(List Yq2)×(List Yq3)) (a:Int×(List Yq2)×(List Yq3)):Option (Out Yq8 Ro):=
 if decide (a.1<(d.1.length:Int)) then ((aQ d.1 a.1).bind fun b=>(rh (b.1,b.2.1,b.2.2)).bind fun c=>(cn 56 a.2.1 ([(c.1,c.2.1,c.2.2)])).bind fun e=>some (.nxt (i64.wrap (a.1+1),e,a.2.2))) else (some (.brk (a.1,a.2.1,a.2.2)))
def jN (c:(List Yq2)×(List Yq3)) (a:Int×(List Yq2)×(List Yq3)):Option (Out Yq8 Ro):=
 if decide (a.1<(c.2.length:Int)) then ((aQ c.2 a.1).bind fun b=>(hY b.2.1).bind fun d=>(cn 40 a.2.2 ([(b.1,d,b.2.2)])).bind fun e=>some (.nxt (i64.wrap (a.1+1),a.2.1,e))) else (some (.brk (a.1,a.2.1,a.2.2)))
def ri (a:(List Yq2)×(List Yq3)):Option Yq8:=
 aO (ax (jM a) aT (0,[],[])) (fun r=>some r) (fun b=>aO (ax (jN a) aT (0,b.2.1,b.2.2)) (fun r=>some r) (fun c=>some (c.2.1,c.2.2)))
def oL (a:uj×Yq8×Yq7×ByteArray):Option (uj×Yq8×Yq7×ByteArray):=
 (qn (a.1.1,a.1.2)).bind fun b=>(ri (a.2.1.1,a.2.1.2)).bind fun c=>(cn 24 ([] :List GB) a.2.2.1).bind fun d=>some ((b.1,b.2),(c.1,c.2),d,a.2.2.2)
def gV (b:(List Int)×(List Yq1)) (c:Int) (a:Int):Option (Out Int Int):=
 if decide (a<(b.2.length:Int)) then ((aQ b.2 a).bind fun d=>if d.1==c then (some (.ret a)) else (some (.nxt (i64.wrap (a+1))))) else (some (.brk a))
def ji (a:(List Int)×(List Yq1)) (b:Int):Option Int:=
 aO (ax (gV a b) aT 0) (fun r=>some r) (fun c=>some (-1))
def jj (b:(List Int)×(List Yq1)) (c:Int×Int×Int×Int) (a:Int):Option (Out (Yq4×Bool) Int):=
 if decide (a<(b.2.length:Int)) then ((aQ b.2 a).bind fun d=>if decide (d.1<c.1) then (some (.nxt (i64.wrap (a+1)))) else (some (.brk a))) else (some (.brk a))
def mA (a:(List Int)×(List Yq1)) (b:Int×Int×Int×Int):Option (Yq4×Bool):=
 (da (a.1,a.2)).bind fun h=>if h then ((qk (a.1,a.2) (b.1,b.2.1,b.2.2.1,b.2.2.2)).bind fun i=>if i then ((ji (a.1,a.2) b.1).bind fun j=>if decide (j≥0) then ((cB (a.1,a.2)).bind fun d=>some ((d.1,d.2),false)) else (if (a.2.length:Int)==12 then ((cB (a.1,a.2)).bind fun e=>some ((e.1,e.2),false)) else (aO (ax (jj a b) aT 0) (fun r=>some r) (fun c=>(cn 8 ([] :List Int) a.1).bind fun k=>(chk (0<=c/\c<=(a.2.length:Int))).bind fun _=>(cn 32 ([] :List Yq1) (a.2.take c.toNat)).bind fun l=>(cn 32 l ([(b.1,b.2.1,b.2.2.1,b.2.2.2)])).bind fun m=>(chk (0<=c/\c<=(a.2.length:Int))).bind fun _=>(cn 32 m (a.2.drop c.toNat)).bind fun n=>some ((k,n),true))))) else ((cB (a.1,a.2)).bind fun f=>some ((f.1,f.2),false))) else ((cB (a.1,a.2)).bind fun g=>some ((g.1,g.2),false))
def mB (a:(List Int)×(List Yq1)) (e:Int):Option (Yq4×Bool):=
 (ji (a.1,a.2) e).bind fun b=>(da (a.1,a.2)).bind fun f=>if f then (if decide (b<0) then ((cB (a.1,a.2)).bind fun c=>some ((c.1,c.2),false)) else ((cn 8 ([] :List Int) a.1).bind fun g=>(chk (0<=b/\b<=(a.2.length:Int))).bind fun _=>(cn 32 ([] :List Yq1) (a.2.take b.toNat)).bind fun h=>(chk (0<=i64.wrap (b+1)/\i64.wrap (b+1)<=(a.2.length:Int))).bind fun _=>(cn 32 h (a.2.drop (i64.wrap (b+1)).toNat)).bind fun i=>some ((g,i),true))) else ((cB (a.1,a.2)).bind fun d=>some ((d.1,d.2),false))
def fw (c:(List Int)×(List Yq1)) (e:(List (Bool×Yq1))) (a:Int×(List Int)×(List Yq1)):Option (Out (Yq4×Bool) (Int×(List Int)×(List Yq1))):=
 if decide (a.1<(e.length:Int)) then (if decide (a.1<=6) then (nj (S:=(List Int)×(List Yq1)) ((aQ e a.1).bind fun b=>(aQ e a.1).bind fun n=>if n.1 then ((mA (a.2.1,a.2.2) (b.2.1,b.2.2.1,b.2.2.2.1,b.2.2.2.2)).bind fun f=>if f.2 then (some (.inr (f.1.1,f.1.2))) else ((cB (c.1,c.2)).bind fun h=>some (.inl (.ret ((h.1,h.2),false))))) else ((ji (a.2.1,a.2.2) b.2.1).bind fun i=>if decide (i<0) then ((cB (c.1,c.2)).bind fun j=>some (.inl (.ret ((j.1,j.2),false)))) else ((aQ a.2.2 i).bind fun d=>if (d.1==b.2.1)&&((d.2.1==b.2.2.1)&&((d.2.2.1==b.2.2.2.1)&&((d.2.2.2==b.2.2.2.2)&&true))) then ((mB (a.2.1,a.2.2) b.2.1).bind fun g=>if g.2 then (some (.inr (g.1.1,g.1.2))) else ((cB (c.1,c.2)).bind fun k=>some (.inl (.ret ((k.1,k.2),false))))) else ((cB (c.1,c.2)).bind fun l=>some (.inl (.ret ((l.1,l.2),false))))))) (fun m=>some (.nxt (i64.wrap (a.1+1),m.1,m.2)))) else (some (.brk (a.1,a.2.1,a.2.2)))) else (some (.brk (a.1,a.2.1,a.2.2)))
def vM (a:(List Int)×(List Yq1)) (d:(List (Bool×Yq1))):Option (Yq4×Bool):=
 (cB (a.1,a.2)).bind fun b=>aO (ax (fw a d) aT (0,b.1,b.2)) (fun r=>some r) (fun c=>some ((c.2.1,c.2.2),true))
def jO (a:(List Int)×(List Yq1)) (c:(List (Bool×Yq1))):Option (Yq4×Bool):=
 (da (a.1,a.2)).bind fun f=>if f then (if decide ((c.length:Int)>6) then ((cB (a.1,a.2)).bind fun d=>some ((d.1,d.2),false)) else ((vM (a.1,a.2) c).bind fun b=>some ((b.1.1,b.1.2),b.2))) else ((cB (a.1,a.2)).bind fun e=>some ((e.1,e.2),false))
def iU (b:Int×List ((List Int)×List Yq1)) (g:List Yq5):Option (Yq9×Bool):=
 (qn (b.1,b.2)).bind fun a=>(m_s_IsValidHistory (b.1,b.2)).bind fun h=>if h then ((bf (b.1,b.2)).bind fun i=>if i==999 then (some ((a.1,a.2),false)) else ((aQ b.2 (i64.wrap ((b.2.length:Int) - 1))).bind fun e=>(jO (e.1,e.2) g).bind fun d=>if d.2 then ((cn 48 a.2 ([(d.1.1,d.1.2)])).bind fun c=>Option.bind ((if decide ((c.length:Int)>8) then ((chk (And ((0:Int)<=1) (1<=(c.length:Int)))).bind fun _=>some (i64.wrap (a.1+1),c.drop 1)) else (some (a.1,c)):Option Yq9)) (fun f=>some ((f.1,f.2),true))) else (some ((a.1,a.2),false)))) else (some ((a.1,a.2),false))
def iV (b:Yq9×Yq6×Yq7×ByteArray) (d:List Yq5):Option ((Yq9×Yq6×Yq7×ByteArray)×Bool):=
 (oL ((b.1.1,b.1.2),(b.2.1.1,b.2.1.2),b.2.2.1,b.2.2.2)).bind fun a=>(gf ((b.1.1,b.1.2),(b.2.1.1,b.2.1.2),b.2.2.1,b.2.2.2)).bind fun f=>if f then ((iU (b.1.1,b.1.2) d).bind fun c=>if c.2 then ((bf (c.1.1,c.1.2)).bind fun g=>(dL g d).bind fun e=>if decide ((i64.wrap (((b.2.2.2.size:Nat):Int)+((e.size:Nat):Int)))>4000) then (some (((a.1.1,a.1.2),(a.2.1.1,a.2.1.2),a.2.2.1,a.2.2.2),false)) else ((mi b.2.2.2 e).bind fun h=>some (((c.1.1,c.1.2),(a.2.1.1,a.2.1.2),a.2.2.1,h),true))) else (some (((a.1.1,a.1.2),(a.2.1.1,a.2.1.2),a.2.2.1,a.2.2.2),false))) else (some (((a.1.1,a.1.2),(a.2.1.1,a.2.1.2),a.2.2.1,a.2.2.2),false))
def a8 (d:(List Int)×(List (List Yq5))×Int) (a:Int×Int×(List (List Yq5))×Int×(List ((List Int)×List Yq1))×(List (Int×(List Bool)×List (List Int)))×(List (Int×(List Yq1)×Int))×Yq7×ByteArray):Option (Out ((Yq9×Yq6×Yq7×ByteArray)×Int) aby):=
 if decide (a.2.1<(d.1.length:Int)) then (nj (S:=Int×(List (List Yq5))×Int×(List ((List Int)×List Yq1))×(List (Int×(List Bool)×List (List Int)))×(List (Int×(List Yq1)×Int))×Yq7×ByteArray) ((aQ d.1 a.2.1).bind fun e=>(bf (a.2.2.2.1,a.2.2.2.2.1)).bind fun f=>if decide (e<=f) then (some (.inr (a.1,a.2.2.1,a.2.2.2.1,a.2.2.2.2.1,a.2.2.2.2.2.1,a.2.2.2.2.2.2.1,a.2.2.2.2.2.2.2.1,a.2.2.2.2.2.2.2.2))) else ((aQ a.2.2.1 a.2.1).bind fun g=>(iV ((a.2.2.2.1,a.2.2.2.2.1),(a.2.2.2.2.2.1,a.2.2.2.2.2.2.1),a.2.2.2.2.2.2.2.1,a.2.2.2.2.2.2.2.2) g).bind fun c=>if c.2 then ((aQ d.1 a.2.1).bind fun h=>(bf (a.2.2.2.1,a.2.2.2.2.1)).bind fun i=>if h !=(i64.wrap (i+1)) then (some (.inl (.ret (((a.2.2.2.1,a.2.2.2.2.1),(a.2.2.2.2.2.1,a.2.2.2.2.2.2.1),a.2.2.2.2.2.2.2.1,a.2.2.2.2.2.2.2.2),a.1)))) else (some (.inr (i64.wrap (a.1+1),a.2.2.1,c.1.1.1,c.1.1.2,c.1.2.1.1,c.1.2.1.2,c.1.2.2.1,c.1.2.2.2)))) else (some (.inl (.ret (((a.2.2.2.1,a.2.2.2.2.1),(a.2.2.2.2.2.1,a.2.2.2.2.2.2.1),a.2.2.2.2.2.2.2.1,a.2.2.2.2.2.2.2.2),a.1)))))) (fun b=>some (.nxt (b.1,i64.wrap (a.2.1+1),b.2.1,b.2.2.1,b.2.2.2.1,b.2.2.2.2.1,b.2.2.2.2.2.1,b.2.2.2.2.2.2.1,b.2.2.2.2.2.2.2)))) else (some (.brk (a.1,a.2.1,a.2.2.1,a.2.2.2.1,a.2.2.2.2.1,a.2.2.2.2.2.1,a.2.2.2.2.2.2.1,a.2.2.2.2.2.2.2.1,a.2.2.2.2.2.2.2.2)))
def jk (a:Yq9×Yq6×Yq7×ByteArray) (e:ByteArray):Option ((Yq9×Yq6×Yq7×ByteArray)×Int):=
 (oL ((a.1.1,a.1.2),(a.2.1.1,a.2.1.2),a.2.2.1,a.2.2.2)).bind fun b=>(gf ((a.1.1,a.1.2),(a.2.1.1,a.2.1.2),a.2.2.1,a.2.2.2)).bind fun f=>if f then ((m_s_ScanLog e).bind fun d=>aO (ax (a8 d) aT (0,0,d.2.1,b.1.1,b.1.2,b.2.1.1,b.2.1.2,b.2.2.1,b.2.2.2)) (fun g=>some g) (fun c=>some (((c.2.2.2.1,c.2.2.2.2.1),(c.2.2.2.2.2.1,c.2.2.2.2.2.2.1),c.2.2.2.2.2.2.2.1,c.2.2.2.2.2.2.2.2),c.1))) else (some (((b.1.1,b.1.2),(b.2.1.1,b.2.1.2),b.2.2.1,b.2.2.2),0))
def uq (a:List Int) (b:Int):Option Int:=
 if decide (i64.wrap (b - (a.length:Int))<0) then (some (-1)) else (some (i64.wrap (b - (a.length:Int))))
def vN (a:List Yq1) (b:Int):Option Int:=
 if decide (i64.wrap (b - (a.length:Int))<0) then (some (-1)) else (some (i64.wrap (b - (a.length:Int))))
def rj (a:(List Int)×(List Yq1)) (d:Int):Option Int:=
 (uq a.1 d).bind fun b=>if decide (b<0) then (some (-1)) else ((vN a.2 b).bind fun c=>if decide (c<0) then (some (-1)) else (some c))
def ln (b:List Yq4) (a:Int×Int):Option AC:=
 if decide (a.2<(b.length:Int)) then ((aQ b a.2).bind fun c=>(rj (c.1,c.2) a.1).bind fun d=>if decide (d<0) then (some (.ret (-1))) else (some (.nxt (d,i64.wrap (a.2+1))))) else (some (.brk (a.1,a.2)))
def sR (a:List Yq4) (b:Int):Option Int:=
 if decide (i64.wrap (b - (a.length:Int))<0) then (some (-1)) else (aO (ax (ln a) aT (i64.wrap (b - (a.length:Int)),0)) (fun r=>some r) (fun c=>some c.1))
def nJ (b:Int×(List Yq4)) (c:Int):Option Int:=
 (sR b.2 c).bind fun a=>if decide (a<0) then (some (-1)) else (some a)
def vO (a:List Bool) (b:Int):Option Int:=
 if decide (i64.wrap (b - (a.length:Int))<0) then (some (-1)) else (some (i64.wrap (b - (a.length:Int))))
def mC (b:List (List Int)) (a:Int×Int):Option AC:=
 if decide (a.2<(b.length:Int)) then ((aQ b a.2).bind fun d=>(uq d a.1).bind fun c=>if decide (c<0) then (some (.ret (-1))) else (some (.nxt (c,i64.wrap (a.2+1))))) else (some (.brk (a.1,a.2)))
def vP (a:List (List Int)) (b:Int):Option Int:=
 if decide (i64.wrap (b - (a.length:Int))<0) then (some (-1)) else (aO (ax (mC a) aT (i64.wrap (b - (a.length:Int)),0)) (fun r=>some r) (fun c=>some c.1))
def lq (a:Int×(List Bool)×(List (List Int))) (d:Int):Option Int:=
 (vO a.2.1 d).bind fun b=>if decide (b<0) then (some (-1)) else ((vP a.2.2 b).bind fun c=>if decide (c<0) then (some (-1)) else (some c))
def gI (c:List Yq2) (a:Int×Int):Option AC:=
 if decide (a.2<(c.length:Int)) then ((aQ c a.2).bind fun b=>(lq (b.1,b.2.1,b.2.2) a.1).bind fun d=>if decide (d<0) then (some (.ret (-1))) else (some (.nxt (d,i64.wrap (a.2+1))))) else (some (.brk (a.1,a.2)))
def np (a:List Yq2) (b:Int):Option Int:=
 if decide (i64.wrap (b - (a.length:Int))<0) then (some (-1)) else (aO (ax (gI a) aT (i64.wrap (b - (a.length:Int)),0)) (fun r=>some r) (fun c=>some c.1))
def sS (a:List Yq1) (b:Int):Option Int:=
 if decide (i64.wrap (b - (a.length:Int))<0) then (some (-1)) else (some (i64.wrap (b - (a.length:Int))))
def ur (b:(List Yq1)) (c:Int):Option Int:=
 (sS b c).bind fun a=>if decide (a<0) then (some (-1)) else (some a)
def jV (b:Int×((List Yq1))×Int) (c:Int):Option Int:=
 (ur b.2.1 c).bind fun a=>if decide (a<0) then (some (-1)) else (some a)
def fI (c:List Yq3) (a:Int×Int):Option AC:=
 if decide (a.2<(c.length:Int)) then ((aQ c a.2).bind fun b=>(jV (b.1,b.2.1,b.2.2) a.1).bind fun d=>if decide (d<0) then (some (.ret (-1))) else (some (.nxt (d,i64.wrap (a.2+1))))) else (some (.brk (a.1,a.2)))
def lY (a:List Yq3) (b:Int):Option Int:=
 if decide (i64.wrap (b - (a.length:Int))<0) then (some (-1)) else (aO (ax (fI a) aT (i64.wrap (b - (a.length:Int)),0)) (fun r=>some r) (fun c=>some c.1))
def mD (a:(List Yq2)×(List Yq3)) (d:Int):Option Int:=
 (np a.1 d).bind fun b=>if decide (b<0) then (some (-1)) else ((lY a.2 b).bind fun c=>if decide (c<0) then (some (-1)) else (some c))
def lZ (a:List GB) (b:Int):Option Int:=
 if decide (i64.wrap (b - (a.length:Int))<0) then (some (-1)) else (some (i64.wrap (b - (a.length:Int))))
def pE (a:uj×Yq8×Yq7×ByteArray) (e:Int):Option Int:=
 (nJ (a.1.1,a.1.2) e).bind fun c=>if decide (c<0) then (some (-1)) else ((mD (a.2.1.1,a.2.1.2) c).bind fun d=>if decide (d<0) then (some (-1)) else ((lZ a.2.2.1 d).bind fun b=>if decide (b<0) then (some (-1)) else (if decide (i64.wrap (b - (a.2.2.2.size:Int))<0) then (some (-1)) else (some (i64.wrap (b - (a.2.2.2.size:Int)))))))
def nK (b:List Int) (a:(List Int)×Int):Option (Out (List Int) ((List Int)×Int)):=
 if decide (a.2<(b.length:Int)) then ((aQ b a.2).bind fun c=>(aQ a.1 a.2).bind fun d=>some (.nxt (a.1.set a.2.toNat c,i64.wrap (a.2+1)))) else (some (.brk (a.1,a.2)))
def qo (a:List Int):Option (List Int):=
 (mkI 8 (a.length:Int) (0:Int)).bind fun b=>aO (ax (nK a) aT (b,0)) (fun r=>some r) (fun c=>some c.1)
def uu (a:Int×Int×Int×Int):Option Yq1:=
 some (a.1,a.2.1,a.2.2.1,a.2.2.2)
def mE (d:List Yq1) (a:(List Yq1)×Int):Option (Out (List Yq1) ((List Yq1)×Int)):=
 if decide (a.2<(d.length:Int)) then ((aQ d a.2).bind fun b=>(uu (b.1,b.2.1,b.2.2.1,b.2.2.2)).bind fun c=>(aQ a.1 a.2).bind fun e=>some (.nxt (a.1.set a.2.toNat (c.1,c.2.1,c.2.2.1,c.2.2.2),i64.wrap (a.2+1)))) else (some (.brk (a.1,a.2)))
def rk (a:List Yq1):Option (List Yq1):=
 (mkI 32 (a.length:Int) ((0,0,0,0):Int×Int×Int×Int)).bind fun b=>aO (ax (mE a) aT (b,0)) (fun r=>some r) (fun c=>some c.1)
def rl (a:(List Int)×(List Yq1)):Option Yq4:=
 (qo a.1).bind fun b=>(rk a.2).bind fun c=>some (b,c)
def lr (b:List Yq4) (a:(List Yq4)×Int):Option (Out (List Yq4) ((List Yq4)×Int)):=
 if decide (a.2<(b.length:Int)) then ((aQ b a.2).bind fun c=>(rl (c.1,c.2)).bind fun d=>(aQ a.1 a.2).bind fun e=>some (.nxt (a.1.set a.2.toNat (d.1,d.2),i64.wrap (a.2+1)))) else (some (.brk (a.1,a.2)))
def pF (a:List Yq4):Option (List Yq4):=
 (mkI 48 (a.length:Int) (([],[]):(List Int)×(List Yq1))).bind fun b=>aO (ax (lr a) aT (b,0)) (fun r=>some r) (fun c=>some c.1)
def nL (a:Int×(List Yq4)):Option uj:=
 (pF a.2).bind fun b=>some (a.1,b)
def mF (b:List Bool) (a:(List Bool)×Int):Option (Out (List Bool) ((List Bool)×Int)):=
 if decide (a.2<(b.length:Int)) then ((aQ b a.2).bind fun c=>(aQ a.1 a.2).bind fun d=>some (.nxt (a.1.set a.2.toNat c,i64.wrap (a.2+1)))) else (some (.brk (a.1,a.2)))
def rm (a:List Bool):Option (List Bool):=
 (mkI 1 (a.length:Int) (false:Bool)).bind fun b=>aO (ax (mF a) aT (b,0)) (fun r=>some r) (fun c=>some c.1)
def mG (b:List (List Int)) (a:(List (List Int))×Int):Option (Out (List (List Int)) ((List (List Int))×Int)):=
 if decide (a.2<(b.length:Int)) then ((aQ b a.2).bind fun c=>(qo c).bind fun d=>(aQ a.1 a.2).bind fun e=>some (.nxt (a.1.set a.2.toNat d,i64.wrap (a.2+1)))) else (some (.brk (a.1,a.2)))
def rp (a:List (List Int)):Option (List (List Int)):=
 (mkI 24 (a.length:Int) ([] :List Int)).bind fun b=>aO (ax (mG a) aT (b,0)) (fun r=>some r) (fun c=>some c.1)
def lu (a:Int×(List Bool)×(List (List Int))):Option Yq2:=
 (rm a.2.1).bind fun b=>(rp a.2.2).bind fun c=>some (a.1,b,c)
def gJ (d:List Yq2) (a:(List Yq2)×Int):Option (Out (List Yq2) ((List Yq2)×Int)):=
 if decide (a.2<(d.length:Int)) then ((aQ d a.2).bind fun b=>(lu (b.1,b.2.1,b.2.2)).bind fun c=>(aQ a.1 a.2).bind fun e=>some (.nxt (a.1.set a.2.toNat (c.1,c.2.1,c.2.2),i64.wrap (a.2+1)))) else (some (.brk (a.1,a.2)))
def jW (a:List Yq2):Option (List Yq2):=
 (mkI 56 (a.length:Int) ((0,[],[]):Int×(List Bool)×(List (List Int)))).bind fun b=>aO (ax (gJ a) aT (b,0)) (fun r=>some r) (fun c=>some c.1)
def rq (a:Int×Int×Int×Int):Option Yq1:=
 some (a.1,a.2.1,a.2.2.1,a.2.2.2)
def lx (d:List Yq1) (a:(List Yq1)×Int):Option (Out (List Yq1) ((List Yq1)×Int)):=
 if decide (a.2<(d.length:Int)) then ((aQ d a.2).bind fun b=>(rq (b.1,b.2.1,b.2.2.1,b.2.2.2)).bind fun c=>(aQ a.1 a.2).bind fun e=>some (.nxt (a.1.set a.2.toNat (c.1,c.2.1,c.2.2.1,c.2.2.2),i64.wrap (a.2+1)))) else (some (.brk (a.1,a.2)))
def pG (a:List Yq1):Option (List Yq1):=
 (mkI 32 (a.length:Int) ((0,0,0,0):Int×Int×Int×Int)).bind fun b=>aO (ax (lx a) aT (b,0)) (fun r=>some r) (fun c=>some c.1)
def uv (a:(List Yq1)):Option (List Yq1):=
 (pG a).bind fun b=>some b
def jX (a:Int×((List Yq1))×Int):Option Yq3:=
 (uv a.2.1).bind fun b=>some (a.1,b,a.2.2)
def fJ (d:List Yq3) (a:(List Yq3)×Int):Option (Out (List Yq3) ((List Yq3)×Int)):=
 if decide (a.2<(d.length:Int)) then ((aQ d a.2).bind fun b=>(jX (b.1,b.2.1,b.2.2)).bind fun c=>(aQ a.1 a.2).bind fun e=>some (.nxt (a.1.set a.2.toNat (c.1,c.2.1,c.2.2),i64.wrap (a.2+1)))) else (some (.brk (a.1,a.2)))
def jl (a:List Yq3):Option (List Yq3):=
 (mkI 40 (a.length:Int) ((0,[],0):Int×((List Yq1))×Int)).bind fun b=>aO (ax (fJ a) aT (b,0)) (fun r=>some r) (fun c=>some c.1)
def mH (a:(List Yq2)×(List Yq3)):Option Yq8:=
 (jW a.1).bind fun b=>(jl a.2).bind fun c=>some (b,c)
def jY (a:Int×Int×Int):Option GB:=
 some (a.1,a.2.1,a.2.2)
def fK (d:List GB) (a:Yq7×Int):Option (Out Yq7 (Yq7×Int)):=
 if decide (a.2<(d.length:Int)) then ((aQ d a.2).bind fun b=>(jY (b.1,b.2.1,b.2.2)).bind fun c=>(aQ a.1 a.2).bind fun e=>some (.nxt (a.1.set a.2.toNat (c.1,c.2.1,c.2.2),i64.wrap (a.2+1)))) else (some (.brk (a.1,a.2)))
def jm (a:List GB):Option Yq7:=
 (mkI 24 (a.length:Int) ((0,0,0):Int×Int×Int)).bind fun b=>aO (ax (fK a) aT (b,0)) (fun r=>some r) (fun c=>some c.1)
def iW (a:uj×Yq8×Yq7×ByteArray):Option (uj×Yq8×Yq7×ByteArray):=
 (nL (a.1.1,a.1.2)).bind fun b=>(mH (a.2.1.1,a.2.1.2)).bind fun c=>(jm a.2.2.1).bind fun d=>some ((b.1,b.2),(c.1,c.2),d,a.2.2.2)
def nM (b:List Int) (c:List Int) (a:Int):Option (Out Bool Int):=
 if decide (a<(b.length:Int)) then ((aQ b a).bind fun d=>(aQ c a).bind fun e=>if d !=e then (some (.ret false)) else (some (.nxt (i64.wrap (a+1))))) else (some (.brk a))
def uw (a:List Int) (b:List Int):Option Bool:=
 if (a.length:Int) !=(b.length:Int) then (some false) else (aO (ax (nM a b) aT 0) (fun r=>some r) (fun c=>some true))
def uy (a:Int×Int×Int×Int) (b:Int×Int×Int×Int):Option Bool:=
 if a.1 !=b.1 then (some false) else (if a.2.1 !=b.2.1 then (some false) else (if a.2.2.1 !=b.2.2.1 then (some false) else (if a.2.2.2 !=b.2.2.2 then (some false) else (some true))))
def mI (d:List Yq1) (e:List Yq1) (a:Int):Option (Out Bool Int):=
 if decide (a<(d.length:Int)) then ((aQ d a).bind fun b=>(aQ e a).bind fun c=>(uy (b.1,b.2.1,b.2.2.1,b.2.2.2) (c.1,c.2.1,c.2.2.1,c.2.2.2)).bind fun f=>if f then (some (.nxt (i64.wrap (a+1)))) else (some (.ret false))) else (some (.brk a))
def vQ (a:List Yq1) (b:List Yq1):Option Bool:=
 if (a.length:Int) !=(b.length:Int) then (some false) else (aO (ax (mI a b) aT 0) (fun r=>some r) (fun c=>some true))
def rr (a:(List Int)×(List Yq1)) (b:(List Int)×(List Yq1)):Option Bool:=
 (uw a.1 b.1).bind fun c=>if c then ((vQ a.2 b.2).bind fun d=>if d then (some true) else (some false)) else (some false)
def lz (b:List Yq4) (e:List Yq4) (a:Int):Option (Out Bool Int):=
 if decide (a<(b.length:Int)) then ((aQ b a).bind fun c=>(aQ e a).bind fun d=>(rr (c.1,c.2) (d.1,d.2)).bind fun f=>if f then (some (.nxt (i64.wrap (a+1)))) else (some (.ret false))) else (some (.brk a))
def sU (a:List Yq4) (b:List Yq4):Option Bool:=
 if (a.length:Int) !=(b.length:Int) then (some false) else (aO (ax (lz a b) aT 0) (fun r=>some r) (fun c=>some true))
def nN (a:Int×(List Yq4)) (b:Int×(List Yq4)):Option Bool:=
 if a.1 !=b.1 then (some false) else ((sU a.2 b.2).bind fun c=>if c then (some true) else (some false))
def mJ (b:List Bool) (c:List Bool) (a:Int):Option (Out Bool Int):=
 if decide (a<(b.length:Int)) then ((aQ b a).bind fun d=>(aQ c a).bind fun e=>if d !=e then (some (.ret false)) else (some (.nxt (i64.wrap (a+1))))) else (some (.brk a))
def vR (a:List Bool) (b:List Bool):Option Bool:=
 if (a.length:Int) !=(b.length:Int) then (some false) else (aO (ax (mJ a b) aT 0) (fun r=>some r) (fun c=>some true))
def mK (b:List (List Int)) (c:List (List Int)) (a:Int):Option (Out Bool Int):=
 if decide (a<(b.length:Int)) then ((aQ b a).bind fun d=>(aQ c a).bind fun e=>(uw d e).bind fun f=>if f then (some (.nxt (i64.wrap (a+1)))) else (some (.ret false))) else (some (.brk a))
def vS (a:List (List Int)) (b:List (List Int)):Option Bool:=
 if (a.length:Int) !=(b.length:Int) then (some false) else (aO (ax (mK a b) aT 0) (fun r=>some r) (fun c=>some true))
def lA (a:Int×(List Bool)×(List (List Int))) (b:Int×(List Bool)×(List (List Int))):Option Bool:=
 if a.1 !=b.1 then (some false) else ((vR a.2.1 b.2.1).bind fun c=>if c then ((vS a.2.2 b.2.2).bind fun d=>if d then (some true) else (some false)) else (some false))
def gK (d:List Yq2) (e:List Yq2) (a:Int):Option (Out Bool Int):=
 if decide (a<(d.length:Int)) then ((aQ d a).bind fun b=>(aQ e a).bind fun c=>(lA (b.1,b.2.1,b.2.2) (c.1,c.2.1,c.2.2)).bind fun f=>if f then (some (.nxt (i64.wrap (a+1)))) else (some (.ret false))) else (some (.brk a))
def nr (a:List Yq2) (b:List Yq2):Option Bool:=
 if (a.length:Int) !=(b.length:Int) then (some false) else (aO (ax (gK a b) aT 0) (fun r=>some r) (fun c=>some true))
def ru (a:Int×Int×Int×Int) (b:Int×Int×Int×Int):Option Bool:=
 if a.1 !=b.1 then (some false) else (if a.2.1 !=b.2.1 then (some false) else (if a.2.2.1 !=b.2.2.1 then (some false) else (if a.2.2.2 !=b.2.2.2 then (some false) else (some true))))
def lB (d:List Yq1) (e:List Yq1) (a:Int):Option (Out Bool Int):=
 if decide (a<(d.length:Int)) then ((aQ d a).bind fun b=>(aQ e a).bind fun c=>(ru (b.1,b.2.1,b.2.2.1,b.2.2.2) (c.1,c.2.1,c.2.2.1,c.2.2.2)).bind fun f=>if f then (some (.nxt (i64.wrap (a+1)))) else (some (.ret false))) else (some (.brk a))
def sV (a:List Yq1) (b:List Yq1):Option Bool:=
 if (a.length:Int) !=(b.length:Int) then (some false) else (aO (ax (lB a b) aT 0) (fun r=>some r) (fun c=>some true))
def uz (a:(List Yq1)) (b:(List Yq1)):Option Bool:=
 (sV a b).bind fun c=>if c then (some true) else (some false)
def jZ (a:Int×((List Yq1))×Int) (b:Int×((List Yq1))×Int):Option Bool:=
 if a.1 !=b.1 then (some false) else ((uz a.2.1 b.2.1).bind fun c=>if c then (if a.2.2 !=b.2.2 then (some false) else (some true)) else (some false))
def fL (d:List Yq3) (e:List Yq3) (a:Int):Option (Out Bool Int):=
 if decide (a<(d.length:Int)) then ((aQ d a).bind fun b=>(aQ e a).bind fun c=>(jZ (b.1,b.2.1,b.2.2) (c.1,c.2.1,c.2.2)).bind fun f=>if f then (some (.nxt (i64.wrap (a+1)))) else (some (.ret false))) else (some (.brk a))
def l5 (a:List Yq3) (b:List Yq3):Option Bool:=
 if (a.length:Int) !=(b.length:Int) then (some false) else (aO (ax (fL a b) aT 0) (fun r=>some r) (fun c=>some true))
def mL (a:(List Yq2)×(List Yq3)) (b:(List Yq2)×(List Yq3)):Option Bool:=
 (nr a.1 b.1).bind fun c=>if c then ((l5 a.2 b.2).bind fun d=>if d then (some true) else (some false)) else (some false)
def j4 (a:Int×Int×Int) (b:Int×Int×Int):Option Bool:=
 if a.1 !=b.1 then (some false) else (if a.2.1 !=b.2.1 then (some false) else (if a.2.2 !=b.2.2 then (some false) else (some true)))
def fM (d:List GB) (e:List GB) (a:Int):Option (Out Bool Int):=
 if decide (a<(d.length:Int)) then ((aQ d a).bind fun b=>(aQ e a).bind fun c=>(j4 (b.1,b.2.1,b.2.2) (c.1,c.2.1,c.2.2)).bind fun f=>if f then (some (.nxt (i64.wrap (a+1)))) else (some (.ret false))) else (some (.brk a))
def l6 (a:List GB) (b:List GB):Option Bool:=
 if (a.length:Int) !=(b.length:Int) then (some false) else (aO (ax (fM a b) aT 0) (fun r=>some r) (fun c=>some true))
def iX (a:uj×Yq8×Yq7×ByteArray) (b:uj×Yq8×Yq7×ByteArray):Option Bool:=
 (nN (a.1.1,a.1.2) (b.1.1,b.1.2)).bind fun c=>if c then ((mL (a.2.1.1,a.2.1.2) (b.2.1.1,b.2.1.2)).bind fun d=>if d then ((l6 a.2.2.1 b.2.2.1).bind fun e=>if e then (if a.2.2.2 !=b.2.2.2 then (some false) else (some true)) else (some false)) else (some false)) else (some false)
def lC (a:(List Int)×Int×Int):Option (Out (Int×(List Int)) ((List Int)×Int×Int)):=
 if decide (a.2.2<(a.1.length:Int)) then ((aQ a.1 a.2.2).bind fun b=>some (.nxt (a.1.set a.2.2.toNat a.2.1,i64.wrap (a.2.1+1),i64.wrap (a.2.2+1)))) else (some (.brk (a.1,a.2.1,a.2.2)))
def mZ (b:List Int) (c:Int):Option (Int×(List Int)):=
 aO (ax (lC) aT (b,c,0)) (fun r=>some r) (fun a=>some (a.2.1,a.1))
def j5 (a:(List Yq1)×Int×Int):Option (Out (Int×(List Yq1)) ((List Yq1)×Int×Int)):=
 if decide (a.2.2<(a.1.length:Int)) then ((aQ a.1 a.2.2).bind fun b=>(aQ (a.1.set a.2.2.toNat (a.2.1,b.2.1,b.2.2.1,b.2.2.2)) a.2.2).bind fun c=>(aQ ((a.1.set a.2.2.toNat (a.2.1,b.2.1,b.2.2.1,b.2.2.2)).set a.2.2.toNat (c.1,i64.wrap (a.2.1+1),c.2.2.1,c.2.2.2)) a.2.2).bind fun d=>(aQ (((a.1.set a.2.2.toNat (a.2.1,b.2.1,b.2.2.1,b.2.2.2)).set a.2.2.toNat (c.1,i64.wrap (a.2.1+1),c.2.2.1,c.2.2.2)).set a.2.2.toNat (d.1,d.2.1,i64.wrap ((i64.wrap (a.2.1+1))+1),d.2.2.2)) a.2.2).bind fun e=>some (.nxt ((((a.1.set a.2.2.toNat (a.2.1,b.2.1,b.2.2.1,b.2.2.2)).set a.2.2.toNat (c.1,i64.wrap (a.2.1+1),c.2.2.1,c.2.2.2)).set a.2.2.toNat (d.1,d.2.1,i64.wrap ((i64.wrap (a.2.1+1))+1),d.2.2.2)).set a.2.2.toNat (e.1,e.2.1,e.2.2.1,i64.wrap ((i64.wrap ((i64.wrap (a.2.1+1))+1))+1)),i64.wrap ((i64.wrap ((i64.wrap ((i64.wrap (a.2.1+1))+1))+1))+1),i64.wrap (a.2.2+1)))) else (some (.brk (a.1,a.2.1,a.2.2)))
def nO (b:List Yq1) (c:Int):Option (Int×(List Yq1)):=
 aO (ax (j5) aT (b,c,0)) (fun r=>some r) (fun a=>some (a.2.1,a.1))
def jn (a:(List Yq4)×Int×Int):Option (Out uj ((List Yq4)×Int×Int)):=
 if decide (a.2.2<(a.1.length:Int)) then ((aQ a.1 a.2.2).bind fun b=>(mZ b.1 a.2.1).bind fun c=>(aQ (a.1.set a.2.2.toNat (c.2,b.2)) a.2.2).bind fun d=>(nO d.2 c.1).bind fun e=>some (.nxt ((a.1.set a.2.2.toNat (c.2,b.2)).set a.2.2.toNat (d.1,e.2),e.1,i64.wrap (a.2.2+1)))) else (some (.brk (a.1,a.2.1,a.2.2)))
def mM (b:List Yq4) (c:Int):Option uj:=
 aO (ax (jn) aT (b,c,0)) (fun r=>some r) (fun a=>some (a.2.1,a.1))
def lD (a:Int×(List Yq4)) (c:Int):Option (Int×uj):=
 (mM a.2 c).bind fun b=>some (b.1,(a.1,b.2))
def j6 (a:(List Bool)×Int×Int):Option (Out (Int×(List Bool)) ((List Bool)×Int×Int)):=
 if decide (a.2.2<(a.1.length:Int)) then ((aQ a.1 a.2.2).bind fun b=>some (.nxt (a.1.set a.2.2.toNat ((Int.tmod a.2.1 3)==0),i64.wrap (a.2.1+1),i64.wrap (a.2.2+1)))) else (some (.brk (a.1,a.2.1,a.2.2)))
def nP (b:List Bool) (c:Int):Option (Int×(List Bool)):=
 aO (ax (j6) aT (b,c,0)) (fun r=>some r) (fun a=>some (a.2.1,a.1))
def j7 (a:(List (List Int))×Int×Int):Option (Out (Int×(List (List Int))) ((List (List Int))×Int×Int)):=
 if decide (a.2.2<(a.1.length:Int)) then ((aQ a.1 a.2.2).bind fun c=>(mZ c a.2.1).bind fun b=>some (.nxt (a.1.set a.2.2.toNat b.2,b.1,i64.wrap (a.2.2+1)))) else (some (.brk (a.1,a.2.1,a.2.2)))
def nQ (b:List (List Int)) (c:Int):Option (Int×(List (List Int))):=
 aO (ax (j7) aT (b,c,0)) (fun r=>some r) (fun a=>some (a.2.1,a.1))
def fj (a:(List Yq2)×Int×Int):Option (Out (Int×(List Yq2)) ((List Yq2)×Int×Int)):=
 if decide (a.2.2<(a.1.length:Int)) then ((aQ a.1 a.2.2).bind fun b=>(aQ (a.1.set a.2.2.toNat (a.2.1,b.2.1,b.2.2)) a.2.2).bind fun c=>(nP c.2.1 (i64.wrap (a.2.1+1))).bind fun d=>(aQ ((a.1.set a.2.2.toNat (a.2.1,b.2.1,b.2.2)).set a.2.2.toNat (c.1,d.2,c.2.2)) a.2.2).bind fun e=>(nQ e.2.2 d.1).bind fun f=>some (.nxt (((a.1.set a.2.2.toNat (a.2.1,b.2.1,b.2.2)).set a.2.2.toNat (c.1,d.2,c.2.2)).set a.2.2.toNat (e.1,e.2.1,f.2),f.1,i64.wrap (a.2.2+1)))) else (some (.brk (a.1,a.2.1,a.2.2)))
def ir (b:List Yq2) (c:Int):Option (Int×(List Yq2)):=
 aO (ax (fj) aT (b,c,0)) (fun r=>some r) (fun a=>some (a.2.1,a.1))
def jo (a:(List Yq1)×Int×Int):Option (Out (Int×(List Yq1)) ((List Yq1)×Int×Int)):=
 if decide (a.2.2<(a.1.length:Int)) then ((aQ a.1 a.2.2).bind fun b=>(aQ (a.1.set a.2.2.toNat (a.2.1,b.2.1,b.2.2.1,b.2.2.2)) a.2.2).bind fun c=>(aQ ((a.1.set a.2.2.toNat (a.2.1,b.2.1,b.2.2.1,b.2.2.2)).set a.2.2.toNat (c.1,i64.wrap (a.2.1+1),c.2.2.1,c.2.2.2)) a.2.2).bind fun d=>(aQ (((a.1.set a.2.2.toNat (a.2.1,b.2.1,b.2.2.1,b.2.2.2)).set a.2.2.toNat (c.1,i64.wrap (a.2.1+1),c.2.2.1,c.2.2.2)).set a.2.2.toNat (d.1,d.2.1,i64.wrap ((i64.wrap (a.2.1+1))+1),d.2.2.2)) a.2.2).bind fun e=>some (.nxt ((((a.1.set a.2.2.toNat (a.2.1,b.2.1,b.2.2.1,b.2.2.2)).set a.2.2.toNat (c.1,i64.wrap (a.2.1+1),c.2.2.1,c.2.2.2)).set a.2.2.toNat (d.1,d.2.1,i64.wrap ((i64.wrap (a.2.1+1))+1),d.2.2.2)).set a.2.2.toNat (e.1,e.2.1,e.2.2.1,i64.wrap ((i64.wrap ((i64.wrap (a.2.1+1))+1))+1)),i64.wrap ((i64.wrap ((i64.wrap ((i64.wrap (a.2.1+1))+1))+1))+1),i64.wrap (a.2.2+1)))) else (some (.brk (a.1,a.2.1,a.2.2)))
def mN (b:List Yq1) (c:Int):Option (Int×(List Yq1)):=
 aO (ax (jo) aT (b,c,0)) (fun r=>some r) (fun a=>some (a.2.1,a.1))
def eO (a:(List Yq3)×Int×Int):Option (Out (Int×(List Yq3)) ((List Yq3)×Int×Int)):=
 if decide (a.2.2<(a.1.length:Int)) then ((aQ a.1 a.2.2).bind fun b=>(aQ (a.1.set a.2.2.toNat (a.2.1,b.2.1,b.2.2)) a.2.2).bind fun c=>(mN c.2.1 (i64.wrap (a.2.1+1))).bind fun d=>(aQ ((a.1.set a.2.2.toNat (a.2.1,b.2.1,b.2.2)).set a.2.2.toNat (c.1,(d.2),c.2.2)) a.2.2).bind fun e=>some (.nxt (((a.1.set a.2.2.toNat (a.2.1,b.2.1,b.2.2)).set a.2.2.toNat (c.1,(d.2),c.2.2)).set a.2.2.toNat (e.1,e.2.1,d.1),i64.wrap (d.1+1),i64.wrap (a.2.2+1)))) else (some (.brk (a.1,a.2.1,a.2.2)))
def gL (b:List Yq3) (c:Int):Option (Int×(List Yq3)):=
 aO (ax (eO) aT (b,c,0)) (fun r=>some r) (fun a=>some (a.2.1,a.1))
def j8 (a:(List Yq2)×(List Yq3)) (d:Int):Option (Int×Yq8):=
 (ir a.1 d).bind fun b=>(gL a.2 b.1).bind fun c=>some (c.1,(b.2,c.2))
def eP (a:Yq7×Int×Int):Option (Out (Int×Yq7) (Yq7×Int×Int)):=
 if decide (a.2.2<(a.1.length:Int)) then ((aQ a.1 a.2.2).bind fun b=>(aQ (a.1.set a.2.2.toNat (a.2.1,b.2.1,b.2.2)) a.2.2).bind fun c=>(aQ ((a.1.set a.2.2.toNat (a.2.1,b.2.1,b.2.2)).set a.2.2.toNat (c.1,i64.wrap (a.2.1+1),c.2.2)) a.2.2).bind fun d=>some (.nxt (((a.1.set a.2.2.toNat (a.2.1,b.2.1,b.2.2)).set a.2.2.toNat (c.1,i64.wrap (a.2.1+1),c.2.2)).set a.2.2.toNat (d.1,d.2.1,i64.wrap ((i64.wrap (a.2.1+1))+1)),i64.wrap ((i64.wrap ((i64.wrap (a.2.1+1))+1))+1),i64.wrap (a.2.2+1)))) else (some (.brk (a.1,a.2.1,a.2.2)))
def gM (b:List GB) (c:Int):Option (Int×Yq7):=
 aO (ax (eP) aT (b,c,0)) (fun r=>some r) (fun a=>some (a.2.1,a.1))
def fx (a:uj×Yq8×Yq7×ByteArray) (e:Int):Option (Int×(uj×Yq8×Yq7×ByteArray)):=
 (lD (a.1.1,a.1.2) e).bind fun c=>(j8 (a.2.1.1,a.2.1.2) c.1).bind fun b=>(gM a.2.2.1 b.1).bind fun d=>some (d.1,((a.1.1,c.2.2),(b.2.1,b.2.2),d.2,a.2.2.2))
def lE (b:List Int) (a:Int×Int):Option AC:=
 if decide (a.2<(b.length:Int)) then ((aQ b a.2).bind fun c=>if c !=a.1 then (some (.ret (-1))) else (some (.nxt (i64.wrap (a.1+1),i64.wrap (a.2+1))))) else (some (.brk (a.1,a.2)))
def na (a:List Int) (b:Int):Option Int:=
 aO (ax (lE a) aT (b,0)) (fun r=>some r) (fun c=>some c.1)
def j9 (b:List Yq1) (a:Int×Int):Option AC:=
 if decide (a.2<(b.length:Int)) then ((aQ b a.2).bind fun c=>if c.1 !=a.1 then (some (.ret (-1))) else ((aQ b a.2).bind fun d=>if d.2.1 !=(i64.wrap (a.1+1)) then (some (.ret (-1))) else ((aQ b a.2).bind fun e=>if e.2.2.1 !=(i64.wrap ((i64.wrap (a.1+1))+1)) then (some (.ret (-1))) else ((aQ b a.2).bind fun f=>if f.2.2.2 !=(i64.wrap ((i64.wrap ((i64.wrap (a.1+1))+1))+1)) then (some (.ret (-1))) else (some (.nxt (i64.wrap ((i64.wrap ((i64.wrap ((i64.wrap (a.1+1))+1))+1))+1),i64.wrap (a.2+1)))))))) else (some (.brk (a.1,a.2)))
def nR (a:List Yq1) (b:Int):Option Int:=
 aO (ax (j9 a) aT (b,0)) (fun r=>some r) (fun c=>some c.1)
def jq (b:List Yq4) (a:Int×Int):Option AC:=
 if decide (a.2<(b.length:Int)) then ((aQ b a.2).bind fun e=>(na e.1 a.1).bind fun c=>if decide (c<0) then (some (.ret (-1))) else ((aQ b a.2).bind fun f=>(nR f.2 c).bind fun d=>if decide (d<0) then (some (.ret (-1))) else (some (.nxt (d,i64.wrap (a.2+1)))))) else (some (.brk (a.1,a.2)))
def mO (a:List Yq4) (b:Int):Option Int:=
 aO (ax (jq a) aT (b,0)) (fun r=>some r) (fun c=>some c.1)
def lF (b:Int×(List Yq4)) (c:Int):Option Int:=
 (mO b.2 c).bind fun a=>if decide (a<0) then (some (-1)) else (some a)
def ka (b:List Bool) (a:Int×Int):Option AC:=
 if decide (a.2<(b.length:Int)) then ((aQ b a.2).bind fun c=>if c !=((Int.tmod a.1 3)==0) then (some (.ret (-1))) else (some (.nxt (i64.wrap (a.1+1),i64.wrap (a.2+1))))) else (some (.brk (a.1,a.2)))
def nS (a:List Bool) (b:Int):Option Int:=
 aO (ax (ka a) aT (b,0)) (fun r=>some r) (fun c=>some c.1)
def kd (b:List (List Int)) (a:Int×Int):Option AC:=
 if decide (a.2<(b.length:Int)) then ((aQ b a.2).bind fun d=>(na d a.1).bind fun c=>if decide (c<0) then (some (.ret (-1))) else (some (.nxt (c,i64.wrap (a.2+1))))) else (some (.brk (a.1,a.2)))
def nT (a:List (List Int)) (b:Int):Option Int:=
 aO (ax (kd a) aT (b,0)) (fun r=>some r) (fun c=>some c.1)
def fl (b:List Yq2) (a:Int×Int):Option AC:=
 if decide (a.2<(b.length:Int)) then ((aQ b a.2).bind fun e=>if e.1 !=a.1 then (some (.ret (-1))) else ((aQ b a.2).bind fun f=>(nS f.2.1 (i64.wrap (a.1+1))).bind fun c=>if decide (c<0) then (some (.ret (-1))) else ((aQ b a.2).bind fun g=>(nT g.2.2 c).bind fun d=>if decide (d<0) then (some (.ret (-1))) else (some (.nxt (d,i64.wrap (a.2+1))))))) else (some (.brk (a.1,a.2)))
def iu (a:List Yq2) (b:Int):Option Int:=
 aO (ax (fl a) aT (b,0)) (fun r=>some r) (fun c=>some c.1)
def jr (b:List Yq1) (a:Int×Int):Option AC:=
 if decide (a.2<(b.length:Int)) then ((aQ b a.2).bind fun c=>if c.1 !=a.1 then (some (.ret (-1))) else ((aQ b a.2).bind fun d=>if d.2.1 !=(i64.wrap (a.1+1)) then (some (.ret (-1))) else ((aQ b a.2).bind fun e=>if e.2.2.1 !=(i64.wrap ((i64.wrap (a.1+1))+1)) then (some (.ret (-1))) else ((aQ b a.2).bind fun f=>if f.2.2.2 !=(i64.wrap ((i64.wrap ((i64.wrap (a.1+1))+1))+1)) then (some (.ret (-1))) else (some (.nxt (i64.wrap ((i64.wrap ((i64.wrap ((i64.wrap (a.1+1))+1))+1))+1),i64.wrap (a.2+1)))))))) else (some (.brk (a.1,a.2)))
def mP (a:List Yq1) (b:Int):Option Int:=
 aO (ax (jr a) aT (b,0)) (fun r=>some r) (fun c=>some c.1)
def eQ (b:List Yq3) (a:Int×Int):Option AC:=
 if decide (a.2<(b.length:Int)) then ((aQ b a.2).bind fun d=>if d.1 !=a.1 then (some (.ret (-1))) else ((aQ b a.2).bind fun e=>(mP e.2.1 (i64.wrap (a.1+1))).bind fun c=>if decide (c<0) then (some (.ret (-1))) else ((aQ b a.2).bind fun f=>if f.2.2 !=c then (some (.ret (-1))) else (some (.nxt (i64.wrap (c+1),i64.wrap (a.2+1))))))) else (some (.brk (a.1,a.2)))
def gN (a:List Yq3) (b:Int):Option Int:=
 aO (ax (eQ a) aT (b,0)) (fun r=>some r) (fun c=>some c.1)
def ke (a:(List Yq2)×(List Yq3)) (d:Int):Option Int:=
 (iu a.1 d).bind fun b=>if decide (b<0) then (some (-1)) else ((gN a.2 b).bind fun c=>if decide (c<0) then (some (-1)) else (some c))
def eR (b:List GB) (a:Int×Int):Option AC:=
 if decide (a.2<(b.length:Int)) then ((aQ b a.2).bind fun c=>if c.1 !=a.1 then (some (.ret (-1))) else ((aQ b a.2).bind fun d=>if d.2.1 !=(i64.wrap (a.1+1)) then (some (.ret (-1))) else ((aQ b a.2).bind fun e=>if e.2.2 !=(i64.wrap ((i64.wrap (a.1+1))+1)) then (some (.ret (-1))) else (some (.nxt (i64.wrap ((i64.wrap ((i64.wrap (a.1+1))+1))+1),i64.wrap (a.2+1))))))) else (some (.brk (a.1,a.2)))
def gO (a:List GB) (b:Int):Option Int:=
 aO (ax (eR a) aT (b,0)) (fun r=>some r) (fun c=>some c.1)
def hZ (a:uj×Yq8×Yq7×ByteArray) (e:Int):Option Int:=
 (lF (a.1.1,a.1.2) e).bind fun b=>if decide (b<0) then (some (-1)) else ((ke (a.2.1.1,a.2.1.2) b).bind fun c=>if decide (c<0) then (some (-1)) else ((gO a.2.2.1 c).bind fun d=>if decide (d<0) then (some (-1)) else (some d)))
def dG (a:uj×Yq8×Yq7×ByteArray) (j:ByteArray):Option Bool:=
 if decide ((j.size:Int)>1048576) then (some true) else ((pE ((a.1.1,a.1.2),(a.2.1.1,a.2.1.2),a.2.2.1,a.2.2.2) 1048576).bind fun m=>if decide (m<0) then (some true) else ((iW ((a.1.1,a.1.2),(a.2.1.1,a.2.1.2),a.2.2.1,a.2.2.2)).bind fun g=>(jk ((g.1.1,g.1.2),(g.2.1.1,g.2.1.2),g.2.2.1,g.2.2.2) j).bind fun c=>(iW ((a.1.1,a.1.2),(a.2.1.1,a.2.1.2),a.2.2.1,a.2.2.2)).bind fun d=>(fS ((d.1.1,d.1.2),(d.2.1.1,d.2.1.2),d.2.2.1,d.2.2.2) j).bind fun b=>(iX ((b.1.1.1,b.1.1.2),(b.1.2.1.1,b.1.2.1.2),b.1.2.2.1,b.1.2.2.2) ((c.1.1.1,c.1.1.2),(c.1.2.1.1,c.1.2.1.2),c.1.2.2.1,c.1.2.2.2)).bind fun n=>if n then (if b.2 !=c.2 then (some false) else ((iW ((a.1.1,a.1.2),(a.2.1.1,a.2.1.2),a.2.2.1,a.2.2.2)).bind fun h=>(iX ((d.1.1,d.1.2),(d.2.1.1,d.2.1.2),d.2.2.1,d.2.2.2) ((h.1.1,h.1.2),(h.2.1.1,h.2.1.2),h.2.2.1,h.2.2.2)).bind fun o=>if o then ((fx ((d.1.1,d.1.2),(d.2.1.1,d.2.1.2),d.2.2.1,d.2.2.2) 1).bind fun p=>if decide (p.1<0) then (some false) else ((iX ((b.1.1.1,b.1.1.2),(b.1.2.1.1,b.1.2.1.2),b.1.2.2.1,b.1.2.2.2) ((c.1.1.1,c.1.1.2),(c.1.2.1.1,c.1.2.1.2),c.1.2.2.1,c.1.2.2.2)).bind fun q=>if q then (if b.2 !=c.2 then (some false) else ((fx ((b.1.1.1,b.1.1.2),(b.1.2.1.1,b.1.2.1.2),b.1.2.2.1,b.1.2.2.2) 1).bind fun e=>(hZ ((b.1.1.1,e.2.1.2),(e.2.2.1.1,e.2.2.1.2),e.2.2.2.1,b.1.2.2.2) 1).bind fun k=>if decide (k<0) then (some false) else (if k !=e.1 then (some false) else ((iW ((a.1.1,a.1.2),(a.2.1.1,a.2.1.2),a.2.2.1,a.2.2.2)).bind fun i=>(fS ((i.1.1,i.1.2),(i.2.1.1,i.2.1.2),i.2.2.1,i.2.2.2) j).bind fun f=>(iX ((f.1.1.1,f.1.1.2),(f.1.2.1.1,f.1.2.1.2),f.1.2.2.1,f.1.2.2.2) ((c.1.1.1,c.1.1.2),(c.1.2.1.1,c.1.2.1.2),c.1.2.2.1,c.1.2.2.2)).bind fun r=>if r then (if f.2 !=c.2 then (some false) else ((hZ ((b.1.1.1,e.2.1.2),(e.2.2.1.1,e.2.2.1.2),e.2.2.2.1,b.1.2.2.2) 1).bind fun l=>if decide (l<0) then (some false) else (if l !=e.1 then (some false) else (some true)))) else (some false))))) else (some false))) else (some false))) else (some false)))
end D
namespace R
open Go.RowKit
open D
abbrev y3:Ty:=.int .i64
abbrev zh:Ty:=.prod y3 (.prod y3 (.prod y3 y3))
abbrev t302:Ty:=.tree 337 302 zh
abbrev vT:Ty:=.prod y3 (.prod y3 (.prod y3 y3))
abbrev y58:Ty:=.sl 172 zh
abbrev y60:Ty:=.wr y58
abbrev zT:Ty:=.prod y3 (.prod y60 y3)
abbrev y4:Ty:=.bool
abbrev HS:Ty:=.sl 4 y4
abbrev y70:Ty:=.sl 3 y3
abbrev ML:Ty:=.sl 70 y70
abbrev lP:Ty:=.prod y3 (.prod HS ML)
abbrev aaI:Ty:=.prod y3 (.prod y3 y3)
abbrev abz:Ty:=.prod y4 vT
abbrev y9:Ty:=.str
abbrev aaJ:Ty:=.sl 9 y9
abbrev aaK:Ty:=.prod y3 (.prod y3 (.prod y3 y3))
abbrev Z3:Ty:=.sl 316 aaK
abbrev Z4:Ty:=.prod y70 Z3
abbrev y5:Ty:=.int .u8
abbrev y22:Ty:=.sl 5 y5
abbrev Z5:Ty:=.prod y3 (.prod HS ML)
abbrev aaL:Ty:=.prod y3 (.prod y3 (.prod y3 y3))
abbrev Z6:Ty:=.sl 353 aaL
abbrev Z7:Ty:=.wr Z6
abbrev Z8:Ty:=.prod y3 (.prod Z7 y3)
abbrev Y6:Ty:=.int .u64
abbrev y71:Ty:=.sl 124 vT
abbrev y73:Ty:=.prod y70 y71
abbrev y24:Ty:=.sl 73 y73
abbrev Lv:Ty:=.prod y70 (.prod y3 (.prod y3 (.prod y70 y4)))
abbrev y26:Ty:=.prod y3 y24
abbrev y27:Ty:=.sl 141 lP
abbrev y28:Ty:=.sl 126 zT
abbrev abA:Ty:=.prod y4 (.prod y3 y3)
abbrev y30:Ty:=.prod y27 y28
abbrev abB:Ty:=.prod y3 (.prod y3 y4)
abbrev aaM:Ty:=.fro t302
abbrev y93:Ty:=.prod y3 (.prod y3 y3)
abbrev y31:Ty:=.sl 93 y93
abbrev y33:Ty:=.prod y26 (.prod y30 (.prod y31 y9))
abbrev Z9:Ty:=.sl 302 aaM
abbrev abQ:Ty:=.prod zh Z9
abbrev Y7:Ty:=.int .u64
abbrev Y8:Ty:=.int .u32
abbrev y45:Ty:=.sl 219 Z4
abbrev y47:Ty:=.prod y3 y45
abbrev y48:Ty:=.sl 221 Z5
abbrev y49:Ty:=.sl 227 Z8
abbrev y51:Ty:=.prod y48 y49
abbrev y52:Ty:=.sl 161 aaI
abbrev y54:Ty:=.prod y47 (.prod y51 (.prod y52 y9))
abbrev y82:Ty:=.sl 191 abz
abbrev y84:Ty:=.wr y82
abbrev y87:Ty:=.sl 84 y84
theorem ti3:TI Tryz.prog 3 false 1:=⟨⟨_,Tryz.underlying3,rfl⟩,by kernel_rfl⟩
theorem Y9 (a0:Int) (a1:Int) (a2:Int) (a3:Int) (b0:Int) (b1:Int) (b2:Int) (b3:Int) (w:World):EqT Tryz.prog 124 (.agg #[.int .i64 a0,.int .i64 a1,.int .i64 a2,.int .i64 a3]) (.agg #[.int .i64 b0,.int .i64 b1,.int .i64 b2,.int .i64 b3]) ((a0==b0)&&((a1==b1)&&((a2==b2)&&((a3==b3)&&true)))) w:=Ur w Tryz.underlying124 (by kernel_rfl) (by kernel_rfl) (pq rfl (nE ti3 rfl) (nE ti3 rfl) (run_equalIn_int w 9998 3 _ _ _ _ Tryz.underlying3) (pq rfl (nE ti3 rfl) (nE ti3 rfl) (run_equalIn_int w 9998 3 _ _ _ _ Tryz.underlying3) (pq rfl (nE ti3 rfl) (nE ti3 rfl) (run_equalIn_int w 9998 3 _ _ _ _ Tryz.underlying3) (pq rfl (nE ti3 rfl) (nE ti3 rfl) (run_equalIn_int w 9998 3 _ _ _ _ Tryz.underlying3) (NP w)))))
theorem Za (a0:Int) (a1:Int) (a2:Int) (a3:Int) (b0:Int) (b1:Int) (b2:Int) (b3:Int) (w:World):EqT Tryz.prog 172 (.agg #[.int .i64 a0,.int .i64 a1,.int .i64 a2,.int .i64 a3]) (.agg #[.int .i64 b0,.int .i64 b1,.int .i64 b2,.int .i64 b3]) ((a0==b0)&&((a1==b1)&&((a2==b2)&&((a3==b3)&&true)))) w:=Ur w Tryz.underlying172 (by kernel_rfl) (by kernel_rfl) (pq rfl (nE ti3 rfl) (nE ti3 rfl) (run_equalIn_int w 9998 3 _ _ _ _ Tryz.underlying3) (pq rfl (nE ti3 rfl) (nE ti3 rfl) (run_equalIn_int w 9998 3 _ _ _ _ Tryz.underlying3) (pq rfl (nE ti3 rfl) (nE ti3 rfl) (run_equalIn_int w 9998 3 _ _ _ _ Tryz.underlying3) (pq rfl (nE ti3 rfl) (nE ti3 rfl) (run_equalIn_int w 9998 3 _ _ _ _ Tryz.underlying3) (NP w)))))
theorem mz3 (w:World):(zeroValue 3).run Tryz.prog w= .ok (.int .i64 0) w:=by kernel_rfl
theorem kk3:KeyOk Tryz.prog 3 (fun n:Int=>Value.int .i64 n) V4 iOk:=Yl Tryz.underlying3
theorem ek3:EltOk Tryz.prog 3 (fun n:Int=>Value.int .i64 n) V4 iOk 0:=Ym Tryz.underlying3 mz3
def tt:TT:=[(3,⟨false,1,none,y3,[],some 8,none,false,none,none,some (some .i64),false,none⟩),
 (4,⟨false,1,none,y4,[],some 1,none,true,none,none,none,false,none⟩),
 (5,⟨false,1,none,y5,[],some 1,none,false,none,none,some (some .u8),false,none⟩),
 (9,⟨false,1,none,y9,[],some 16,none,false,none,none,some none,false,none⟩),
 (22,⟨false,1,some 5,y22,[],some 24,none,false,none,none,none,false,none⟩),
 (24,⟨false,1,some 73,y24,[],some 24,none,false,none,none,none,false,none⟩),
 (26,⟨true,2,none,y26,[(0,0),(1,0)],some 32,some [(0,1),(1,1)],false,none,none,none,false,none⟩),
 (27,⟨false,1,some 141,y27,[],some 24,none,false,none,none,none,false,none⟩),
 (28,⟨false,1,some 126,y28,[],some 24,none,false,none,none,none,false,none⟩),
 (30,⟨true,2,none,y30,[(0,0),(1,0)],some 48,some [(0,1),(1,1)],false,none,none,none,false,none⟩),
 (31,⟨false,1,some 93,y31,[],some 24,none,false,none,none,none,false,none⟩),
 (33,⟨true,6,none,y33,[(0,1),(2,1),(4,0),(5,0)],some 120,some [(0,2),(2,2),(4,1),(5,1)],false,none,none,none,false,none⟩),
 (45,⟨false,1,some 219,y45,[],some 24,none,false,none,none,none,false,none⟩),
 (47,⟨true,2,none,y47,[(0,0),(1,0)],some 32,some [(0,1),(1,1)],false,none,none,none,false,none⟩),
 (48,⟨false,1,some 221,y48,[],some 24,none,false,none,none,none,false,none⟩),
 (49,⟨false,1,some 227,y49,[],some 24,none,false,none,none,none,false,none⟩),
 (51,⟨true,2,none,y51,[(0,0),(1,0)],some 48,some [(0,1),(1,1)],false,none,none,none,false,none⟩),
 (52,⟨false,1,some 161,y52,[],some 24,none,false,none,none,none,false,none⟩),
 (54,⟨true,6,none,y54,[(0,1),(2,1),(4,0),(5,0)],some 120,some [(0,2),(2,2),(4,1),(5,1)],false,none,none,none,false,none⟩),
 (58,⟨false,1,some 172,y58,[],some 24,none,false,none,none,none,false,none⟩),
 (60,⟨true,1,none,y60,[(0,0)],some 24,some [(0,1)],false,none,none,none,false,none⟩),
 (70,⟨false,1,some 3,y70,[],some 24,none,false,none,none,none,false,none⟩),
 (71,⟨false,1,some 124,y71,[],some 24,none,false,none,none,none,false,none⟩),
 (73,⟨true,2,none,y73,[(0,0),(1,0)],some 48,some [(0,1),(1,1)],false,none,none,none,false,none⟩),
 (81,⟨false,1,none,.bool,[],none,none,false,none,none,none,true,none⟩),
 (82,⟨false,1,some 191,y82,[],some 24,none,false,none,none,none,false,none⟩),
 (84,⟨true,1,none,y84,[(0,0)],some 24,some [(0,1)],false,none,none,none,false,none⟩),
 (86,⟨false,1,none,.bool,[],none,none,false,none,none,none,true,none⟩),
 (87,⟨false,1,some 84,y87,[],some 24,none,false,none,none,none,false,none⟩),
 (93,⟨true,3,none,y93,[(0,0),(1,0),(2,0)],some 24,some [(0,1),(1,1),(2,1)],false,none,none,none,false,none⟩),
 (124,⟨true,4,none,vT,[(0,0),(1,0),(2,0),(3,0)],some 32,some [(0,1),(1,1),(2,1),(3,1)],false,some [some .i64,some .i64,some .i64,some .i64],none,none,false,none⟩),
 (126,⟨true,3,none,zT,[(0,0),(1,0),(2,0)],some 40,some [(0,1),(1,1),(2,1)],false,none,none,none,false,none⟩),
 (138,⟨false,1,some 4,HS,[],some 24,none,false,none,none,none,false,none⟩),
 (139,⟨false,1,some 70,ML,[],some 24,none,false,none,none,none,false,none⟩),
 (141,⟨true,3,none,lP,[(0,0),(1,0),(2,0)],some 56,some [(0,1),(1,1),(2,1)],false,none,none,none,false,none⟩),
 (142,⟨false,1,none,.bool,[],none,none,false,none,none,none,true,none⟩),
 (144,⟨false,1,none,.bool,[],none,none,false,none,none,none,true,none⟩),
 (150,⟨false,1,none,.bool,[],none,none,false,none,none,none,true,none⟩),
 (152,⟨false,1,none,.bool,[],none,none,false,none,none,none,true,none⟩),
 (161,⟨true,3,none,aaI,[(0,0),(1,0),(2,0)],some 24,some [(0,1),(1,1),(2,1)],false,none,none,none,false,none⟩),
 (172,⟨true,4,none,zh,[(0,0),(1,0),(2,0),(3,0)],some 32,some [(0,1),(1,1),(2,1),(3,1)],false,some [some .i64,some .i64,some .i64,some .i64],none,none,false,none⟩),
 (191,⟨true,5,none,abz,[(0,0),(1,3)],some 40,some [(0,1),(1,4)],false,none,none,none,false,none⟩),
 (199,⟨false,1,some 9,aaJ,[],some 24,none,false,none,none,none,false,none⟩),
 (214,⟨false,1,none,.bool,[],none,none,false,none,none,none,true,none⟩),
 (217,⟨false,1,some 316,Z3,[],some 24,none,false,none,none,none,false,none⟩),
 (219,⟨true,2,none,Z4,[(0,0),(1,0)],some 48,some [(0,1),(1,1)],false,none,none,none,false,none⟩),
 (221,⟨true,3,none,Z5,[(0,0),(1,0),(2,0)],some 56,some [(0,1),(1,1),(2,1)],false,none,none,none,false,none⟩),
 (223,⟨false,1,some 353,Z6,[],some 24,none,false,none,none,none,false,none⟩),
 (225,⟨true,1,none,Z7,[(0,0)],some 24,some [(0,1)],false,none,none,none,false,none⟩),
 (227,⟨true,3,none,Z8,[(0,0),(1,0),(2,0)],some 40,some [(0,1),(1,1),(2,1)],false,none,none,none,false,none⟩),
 (232,⟨false,1,none,Y6,[],some 8,none,false,none,none,some (some .u64),false,none⟩),
 (257,⟨true,5,none,Lv,[(0,0),(1,0),(2,0),(3,0),(4,0)],some 72,some [(0,1),(1,1),(2,1),(3,1),(4,1)],false,none,none,none,false,none⟩),
 (291,⟨true,3,none,abA,[(0,0),(1,0),(2,0)],some 24,some [(0,1),(1,1),(2,1)],false,none,none,none,false,none⟩),
 (300,⟨true,3,none,abB,[(0,0),(1,0),(2,0)],some 24,some [(0,1),(1,1),(2,1)],false,none,none,none,false,none⟩),
 (302,⟨false,1,none,aaM,[],some 8,none,false,none,none,none,false,some 337⟩),
 (305,⟨false,1,none,.bool,[],none,none,false,none,none,none,true,none⟩),
 (307,⟨false,1,none,.bool,[],none,none,false,none,none,none,true,none⟩),
 (316,⟨true,4,none,aaK,[(0,0),(1,0),(2,0),(3,0)],some 32,some [(0,1),(1,1),(2,1),(3,1)],false,none,none,none,false,none⟩),
 (326,⟨false,1,none,.bool,[],none,none,false,none,none,none,true,none⟩),
 (335,⟨false,1,some 302,Z9,[],some 24,none,false,none,none,none,false,none⟩),
 (337,⟨true,5,none,abQ,[(0,3),(4,0)],some 56,some [(0,4),(4,1)],false,none,none,none,false,none⟩),
 (341,⟨false,1,none,.bool,[],none,none,false,none,some ⟨3,3,.int,.int⟩,none,false,none⟩),
 (343,⟨false,1,none,.bool,[],none,none,false,none,none,none,true,none⟩),
 (353,⟨true,4,none,aaL,[(0,0),(1,0),(2,0),(3,0)],some 32,some [(0,1),(1,1),(2,1),(3,1)],false,none,none,none,false,none⟩),
 (363,⟨false,1,none,Y7,[],some 8,none,false,none,none,some (some .u64),false,none⟩),
 (391,⟨false,1,none,Y8,[],some 4,none,false,none,none,some (some .u32),false,none⟩),
 (396,⟨false,1,none,.bool,[],none,none,false,none,none,none,true,none⟩)]
theorem MM:TTok Tryz.prog tt:=⟨vI (n:=1) (z:=.int .i64 0) ⟨⟨_,Tryz.underlying3,rfl⟩,by kernel_rfl⟩ rfl (by unfold TZ;kernel_rfl) rfl (br rfl) (fun h=>by cases h) (fun k h=>by obtain rfl:=ae h;exact Tryz.underlying3),
 vI (n:=1) (z:=.bool false) ⟨⟨_,Tryz.underlying4,rfl⟩,by kernel_rfl⟩ rfl (by unfold TZ;kernel_rfl) rfl (br rfl) (fun h=>Tryz.underlying4) (fun k h=>by cases h),
 vI (n:=1) (z:=.int .u8 0) ⟨⟨_,Tryz.underlying5,rfl⟩,by kernel_rfl⟩ rfl (by unfold TZ;kernel_rfl) rfl (br rfl) (fun h=>by cases h) (fun k h=>by obtain rfl:=ae h;exact Tryz.underlying5),
 vI (n:=1) (z:=.string ⟨#[]⟩) ⟨⟨_,Tryz.underlying9,rfl⟩,by kernel_rfl⟩ rfl (by unfold TZ;kernel_rfl) rfl (br rfl) (fun h=>by cases h) (fun k h=>by obtain rfl:=ae h;exact Tryz.underlying9),
 qg ⟨⟨_,Tryz.underlying22,rfl⟩,by kernel_rfl⟩ Tryz.underlying22 (by unfold TZ;kernel_rfl),
 qg ⟨⟨_,Tryz.underlying24,rfl⟩,by kernel_rfl⟩ Tryz.underlying24 (by unfold TZ;kernel_rfl),
 mT (z:=.agg #[.int .i64 0,.slice none 0 0]) ⟨⟨_,Tryz.underlying26,rfl⟩,by kernel_rfl⟩ rfl ⟨⟨_,_,Tryz.underlying26,rfl,rfl,by kernel_rfl⟩,⟨_,_,Tryz.underlying26,rfl,rfl,by kernel_rfl⟩,trivial⟩ (by unfold TZ;kernel_rfl) rfl (br rfl) ⟨_,Tryz.underlying26,by kernel_rfl⟩ (fun ks h=>by cases h),
 qg ⟨⟨_,Tryz.underlying27,rfl⟩,by kernel_rfl⟩ Tryz.underlying27 (by unfold TZ;kernel_rfl),
 qg ⟨⟨_,Tryz.underlying28,rfl⟩,by kernel_rfl⟩ Tryz.underlying28 (by unfold TZ;kernel_rfl),
 mT (z:=.agg #[.slice none 0 0,.slice none 0 0]) ⟨⟨_,Tryz.underlying30,rfl⟩,by kernel_rfl⟩ rfl ⟨⟨_,_,Tryz.underlying30,rfl,rfl,by kernel_rfl⟩,⟨_,_,Tryz.underlying30,rfl,rfl,by kernel_rfl⟩,trivial⟩ (by unfold TZ;kernel_rfl) rfl (br rfl) ⟨_,Tryz.underlying30,by kernel_rfl⟩ (fun ks h=>by cases h),
 qg ⟨⟨_,Tryz.underlying31,rfl⟩,by kernel_rfl⟩ Tryz.underlying31 (by unfold TZ;kernel_rfl),
 mT (z:=.agg #[.int .i64 0,.slice none 0 0,.slice none 0 0,.slice none 0 0,.slice none 0 0,.string ⟨#[]⟩]) ⟨⟨_,Tryz.underlying33,rfl⟩,by kernel_rfl⟩ rfl ⟨⟨_,_,Tryz.underlying33,rfl,rfl,by kernel_rfl⟩,⟨_,_,Tryz.underlying33,rfl,rfl,by kernel_rfl⟩,⟨_,_,Tryz.underlying33,rfl,rfl,by kernel_rfl⟩,⟨_,_,Tryz.underlying33,rfl,rfl,by kernel_rfl⟩,trivial⟩ (by unfold TZ;kernel_rfl) rfl (br rfl) ⟨_,Tryz.underlying33,by kernel_rfl⟩ (fun ks h=>by cases h),
 qg ⟨⟨_,Tryz.underlying45,rfl⟩,by kernel_rfl⟩ Tryz.underlying45 (by unfold TZ;kernel_rfl),
 mT (z:=.agg #[.int .i64 0,.slice none 0 0]) ⟨⟨_,Tryz.underlying47,rfl⟩,by kernel_rfl⟩ rfl ⟨⟨_,_,Tryz.underlying47,rfl,rfl,by kernel_rfl⟩,⟨_,_,Tryz.underlying47,rfl,rfl,by kernel_rfl⟩,trivial⟩ (by unfold TZ;kernel_rfl) rfl (br rfl) ⟨_,Tryz.underlying47,by kernel_rfl⟩ (fun ks h=>by cases h),
 qg ⟨⟨_,Tryz.underlying48,rfl⟩,by kernel_rfl⟩ Tryz.underlying48 (by unfold TZ;kernel_rfl),
 qg ⟨⟨_,Tryz.underlying49,rfl⟩,by kernel_rfl⟩ Tryz.underlying49 (by unfold TZ;kernel_rfl),
 mT (z:=.agg #[.slice none 0 0,.slice none 0 0]) ⟨⟨_,Tryz.underlying51,rfl⟩,by kernel_rfl⟩ rfl ⟨⟨_,_,Tryz.underlying51,rfl,rfl,by kernel_rfl⟩,⟨_,_,Tryz.underlying51,rfl,rfl,by kernel_rfl⟩,trivial⟩ (by unfold TZ;kernel_rfl) rfl (br rfl) ⟨_,Tryz.underlying51,by kernel_rfl⟩ (fun ks h=>by cases h),
 qg ⟨⟨_,Tryz.underlying52,rfl⟩,by kernel_rfl⟩ Tryz.underlying52 (by unfold TZ;kernel_rfl),
 mT (z:=.agg #[.int .i64 0,.slice none 0 0,.slice none 0 0,.slice none 0 0,.slice none 0 0,.string ⟨#[]⟩]) ⟨⟨_,Tryz.underlying54,rfl⟩,by kernel_rfl⟩ rfl ⟨⟨_,_,Tryz.underlying54,rfl,rfl,by kernel_rfl⟩,⟨_,_,Tryz.underlying54,rfl,rfl,by kernel_rfl⟩,⟨_,_,Tryz.underlying54,rfl,rfl,by kernel_rfl⟩,⟨_,_,Tryz.underlying54,rfl,rfl,by kernel_rfl⟩,trivial⟩ (by unfold TZ;kernel_rfl) rfl (br rfl) ⟨_,Tryz.underlying54,by kernel_rfl⟩ (fun ks h=>by cases h),
 qg ⟨⟨_,Tryz.underlying58,rfl⟩,by kernel_rfl⟩ Tryz.underlying58 (by unfold TZ;kernel_rfl),
 mT (z:=.agg #[.slice none 0 0]) ⟨⟨_,Tryz.underlying60,rfl⟩,by kernel_rfl⟩ rfl ⟨⟨_,_,Tryz.underlying60,rfl,rfl,by kernel_rfl⟩,trivial⟩ (by unfold TZ;kernel_rfl) rfl (br rfl) ⟨_,Tryz.underlying60,by kernel_rfl⟩ (fun ks h=>by cases h),
 qg ⟨⟨_,Tryz.underlying70,rfl⟩,by kernel_rfl⟩ Tryz.underlying70 (by unfold TZ;kernel_rfl),
 qg ⟨⟨_,Tryz.underlying71,rfl⟩,by kernel_rfl⟩ Tryz.underlying71 (by unfold TZ;kernel_rfl),
 mT (z:=.agg #[.slice none 0 0,.slice none 0 0]) ⟨⟨_,Tryz.underlying73,rfl⟩,by kernel_rfl⟩ rfl ⟨⟨_,_,Tryz.underlying73,rfl,rfl,by kernel_rfl⟩,⟨_,_,Tryz.underlying73,rfl,rfl,by kernel_rfl⟩,trivial⟩ (by unfold TZ;kernel_rfl) rfl (br rfl) ⟨_,Tryz.underlying73,by kernel_rfl⟩ (fun ks h=>by cases h),
 zS (ty:=.bool) (b:=8) ⟨⟨_,Tryz.underlying81,rfl⟩,by kernel_rfl⟩ rfl (by unfold TZ;kernel_rfl),
 qg ⟨⟨_,Tryz.underlying82,rfl⟩,by kernel_rfl⟩ Tryz.underlying82 (by unfold TZ;kernel_rfl),
 mT (z:=.agg #[.slice none 0 0]) ⟨⟨_,Tryz.underlying84,rfl⟩,by kernel_rfl⟩ rfl ⟨⟨_,_,Tryz.underlying84,rfl,rfl,by kernel_rfl⟩,trivial⟩ (by unfold TZ;kernel_rfl) rfl (br rfl) ⟨_,Tryz.underlying84,by kernel_rfl⟩ (fun ks h=>by cases h),
 zS (ty:=.bool) (b:=8) ⟨⟨_,Tryz.underlying86,rfl⟩,by kernel_rfl⟩ rfl (by unfold TZ;kernel_rfl),
 qg ⟨⟨_,Tryz.underlying87,rfl⟩,by kernel_rfl⟩ Tryz.underlying87 (by unfold TZ;kernel_rfl),
 mT (z:=.agg #[.int .i64 0,.int .i64 0,.int .i64 0]) ⟨⟨_,Tryz.underlying93,rfl⟩,by kernel_rfl⟩ rfl ⟨⟨_,_,Tryz.underlying93,rfl,rfl,by kernel_rfl⟩,⟨_,_,Tryz.underlying93,rfl,rfl,by kernel_rfl⟩,⟨_,_,Tryz.underlying93,rfl,rfl,by kernel_rfl⟩,trivial⟩ (by unfold TZ;kernel_rfl) rfl (br rfl) ⟨_,Tryz.underlying93,by kernel_rfl⟩ (fun ks h=>by cases h),
 mT (z:=.agg #[.int .i64 0,.int .i64 0,.int .i64 0,.int .i64 0]) ⟨⟨_,Tryz.underlying124,rfl⟩,by kernel_rfl⟩ rfl ⟨⟨_,_,Tryz.underlying124,rfl,rfl,by kernel_rfl⟩,⟨_,_,Tryz.underlying124,rfl,rfl,by kernel_rfl⟩,⟨_,_,Tryz.underlying124,rfl,rfl,by kernel_rfl⟩,⟨_,_,Tryz.underlying124,rfl,rfl,by kernel_rfl⟩,trivial⟩ (by unfold TZ;kernel_rfl) rfl (br rfl) ⟨_,Tryz.underlying124,by kernel_rfl⟩ (fun ks h=>by obtain rfl:=ae h;exact fun w a0 b0 a1 b1 a2 b2 a3 b3=>Y9 a0 a1 a2 a3 b0 b1 b2 b3 w),
 mT (z:=.agg #[.int .i64 0,.slice none 0 0,.int .i64 0]) ⟨⟨_,Tryz.underlying126,rfl⟩,by kernel_rfl⟩ rfl ⟨⟨_,_,Tryz.underlying126,rfl,rfl,by kernel_rfl⟩,⟨_,_,Tryz.underlying126,rfl,rfl,by kernel_rfl⟩,⟨_,_,Tryz.underlying126,rfl,rfl,by kernel_rfl⟩,trivial⟩ (by unfold TZ;kernel_rfl) rfl (br rfl) ⟨_,Tryz.underlying126,by kernel_rfl⟩ (fun ks h=>by cases h),
 qg ⟨⟨_,Tryz.underlying138,rfl⟩,by kernel_rfl⟩ Tryz.underlying138 (by unfold TZ;kernel_rfl),
 qg ⟨⟨_,Tryz.underlying139,rfl⟩,by kernel_rfl⟩ Tryz.underlying139 (by unfold TZ;kernel_rfl),
 mT (z:=.agg #[.int .i64 0,.slice none 0 0,.slice none 0 0]) ⟨⟨_,Tryz.underlying141,rfl⟩,by kernel_rfl⟩ rfl ⟨⟨_,_,Tryz.underlying141,rfl,rfl,by kernel_rfl⟩,⟨_,_,Tryz.underlying141,rfl,rfl,by kernel_rfl⟩,⟨_,_,Tryz.underlying141,rfl,rfl,by kernel_rfl⟩,trivial⟩ (by unfold TZ;kernel_rfl) rfl (br rfl) ⟨_,Tryz.underlying141,by kernel_rfl⟩ (fun ks h=>by cases h),
 zS (ty:=.bool) (b:=8) ⟨⟨_,Tryz.underlying142,rfl⟩,by kernel_rfl⟩ rfl (by unfold TZ;kernel_rfl),
 zS (ty:=.bool) (b:=8) ⟨⟨_,Tryz.underlying144,rfl⟩,by kernel_rfl⟩ rfl (by unfold TZ;kernel_rfl),
 zS (ty:=.bool) (b:=8) ⟨⟨_,Tryz.underlying150,rfl⟩,by kernel_rfl⟩ rfl (by unfold TZ;kernel_rfl),
 zS (ty:=.bool) (b:=8) ⟨⟨_,Tryz.underlying152,rfl⟩,by kernel_rfl⟩ rfl (by unfold TZ;kernel_rfl),
 mT (z:=.agg #[.int .i64 0,.int .i64 0,.int .i64 0]) ⟨⟨_,Tryz.underlying161,rfl⟩,by kernel_rfl⟩ rfl ⟨⟨_,_,Tryz.underlying161,rfl,rfl,by kernel_rfl⟩,⟨_,_,Tryz.underlying161,rfl,rfl,by kernel_rfl⟩,⟨_,_,Tryz.underlying161,rfl,rfl,by kernel_rfl⟩,trivial⟩ (by unfold TZ;kernel_rfl) rfl (br rfl) ⟨_,Tryz.underlying161,by kernel_rfl⟩ (fun ks h=>by cases h),
 mT (z:=.agg #[.int .i64 0,.int .i64 0,.int .i64 0,.int .i64 0]) ⟨⟨_,Tryz.underlying172,rfl⟩,by kernel_rfl⟩ rfl ⟨⟨_,_,Tryz.underlying172,rfl,rfl,by kernel_rfl⟩,⟨_,_,Tryz.underlying172,rfl,rfl,by kernel_rfl⟩,⟨_,_,Tryz.underlying172,rfl,rfl,by kernel_rfl⟩,⟨_,_,Tryz.underlying172,rfl,rfl,by kernel_rfl⟩,trivial⟩ (by unfold TZ;kernel_rfl) rfl (br rfl) ⟨_,Tryz.underlying172,by kernel_rfl⟩ (fun ks h=>by obtain rfl:=ae h;exact fun w a0 b0 a1 b1 a2 b2 a3 b3=>Za a0 a1 a2 a3 b0 b1 b2 b3 w),
 mT (z:=.agg #[.bool false,.int .i64 0,.int .i64 0,.int .i64 0,.int .i64 0]) ⟨⟨_,Tryz.underlying191,rfl⟩,by kernel_rfl⟩ rfl ⟨⟨_,_,Tryz.underlying191,rfl,rfl,by kernel_rfl⟩,⟨_,_,Tryz.underlying191,rfl,rfl,by kernel_rfl⟩,trivial⟩ (by unfold TZ;kernel_rfl) rfl (br rfl) ⟨_,Tryz.underlying191,by kernel_rfl⟩ (fun ks h=>by cases h),
 qg ⟨⟨_,Tryz.underlying199,rfl⟩,by kernel_rfl⟩ Tryz.underlying199 (by unfold TZ;kernel_rfl),
 zS (ty:=.bool) (b:=8) ⟨⟨_,Tryz.underlying214,rfl⟩,by kernel_rfl⟩ rfl (by unfold TZ;kernel_rfl),
 qg ⟨⟨_,Tryz.underlying217,rfl⟩,by kernel_rfl⟩ Tryz.underlying217 (by unfold TZ;kernel_rfl),
 mT (z:=.agg #[.slice none 0 0,.slice none 0 0]) ⟨⟨_,Tryz.underlying219,rfl⟩,by kernel_rfl⟩ rfl ⟨⟨_,_,Tryz.underlying219,rfl,rfl,by kernel_rfl⟩,⟨_,_,Tryz.underlying219,rfl,rfl,by kernel_rfl⟩,trivial⟩ (by unfold TZ;kernel_rfl) rfl (br rfl) ⟨_,Tryz.underlying219,by kernel_rfl⟩ (fun ks h=>by cases h),
 mT (z:=.agg #[.int .i64 0,.slice none 0 0,.slice none 0 0]) ⟨⟨_,Tryz.underlying221,rfl⟩,by kernel_rfl⟩ rfl ⟨⟨_,_,Tryz.underlying221,rfl,rfl,by kernel_rfl⟩,⟨_,_,Tryz.underlying221,rfl,rfl,by kernel_rfl⟩,⟨_,_,Tryz.underlying221,rfl,rfl,by kernel_rfl⟩,trivial⟩ (by unfold TZ;kernel_rfl) rfl (br rfl) ⟨_,Tryz.underlying221,by kernel_rfl⟩ (fun ks h=>by cases h),
 qg ⟨⟨_,Tryz.underlying223,rfl⟩,by kernel_rfl⟩ Tryz.underlying223 (by unfold TZ;kernel_rfl),
 mT (z:=.agg #[.slice none 0 0]) ⟨⟨_,Tryz.underlying225,rfl⟩,by kernel_rfl⟩ rfl ⟨⟨_,_,Tryz.underlying225,rfl,rfl,by kernel_rfl⟩,trivial⟩ (by unfold TZ;kernel_rfl) rfl (br rfl) ⟨_,Tryz.underlying225,by kernel_rfl⟩ (fun ks h=>by cases h),
 mT (z:=.agg #[.int .i64 0,.slice none 0 0,.int .i64 0]) ⟨⟨_,Tryz.underlying227,rfl⟩,by kernel_rfl⟩ rfl ⟨⟨_,_,Tryz.underlying227,rfl,rfl,by kernel_rfl⟩,⟨_,_,Tryz.underlying227,rfl,rfl,by kernel_rfl⟩,⟨_,_,Tryz.underlying227,rfl,rfl,by kernel_rfl⟩,trivial⟩ (by unfold TZ;kernel_rfl) rfl (br rfl) ⟨_,Tryz.underlying227,by kernel_rfl⟩ (fun ks h=>by cases h),
 vI (n:=1) (z:=.int .u64 0) ⟨⟨_,Tryz.underlying232,rfl⟩,by kernel_rfl⟩ rfl (by unfold TZ;kernel_rfl) rfl (br rfl) (fun h=>by cases h) (fun k h=>by obtain rfl:=ae h;exact Tryz.underlying232),
 mT (z:=.agg #[.slice none 0 0,.int .i64 0,.int .i64 0,.slice none 0 0,.bool false]) ⟨⟨_,Tryz.underlying257,rfl⟩,by kernel_rfl⟩ rfl ⟨⟨_,_,Tryz.underlying257,rfl,rfl,by kernel_rfl⟩,⟨_,_,Tryz.underlying257,rfl,rfl,by kernel_rfl⟩,⟨_,_,Tryz.underlying257,rfl,rfl,by kernel_rfl⟩,⟨_,_,Tryz.underlying257,rfl,rfl,by kernel_rfl⟩,⟨_,_,Tryz.underlying257,rfl,rfl,by kernel_rfl⟩,trivial⟩ (by unfold TZ;kernel_rfl) rfl (br rfl) ⟨_,Tryz.underlying257,by kernel_rfl⟩ (fun ks h=>by cases h),
 mT (z:=.agg #[.bool false,.int .i64 0,.int .i64 0]) ⟨⟨_,Tryz.underlying291,rfl⟩,by kernel_rfl⟩ rfl ⟨⟨_,_,Tryz.underlying291,rfl,rfl,by kernel_rfl⟩,⟨_,_,Tryz.underlying291,rfl,rfl,by kernel_rfl⟩,⟨_,_,Tryz.underlying291,rfl,rfl,by kernel_rfl⟩,trivial⟩ (by unfold TZ;kernel_rfl) rfl (br rfl) ⟨_,Tryz.underlying291,by kernel_rfl⟩ (fun ks h=>by cases h),
 mT (z:=.agg #[.int .i64 0,.int .i64 0,.bool false]) ⟨⟨_,Tryz.underlying300,rfl⟩,by kernel_rfl⟩ rfl ⟨⟨_,_,Tryz.underlying300,rfl,rfl,by kernel_rfl⟩,⟨_,_,Tryz.underlying300,rfl,rfl,by kernel_rfl⟩,⟨_,_,Tryz.underlying300,rfl,rfl,by kernel_rfl⟩,trivial⟩ (by unfold TZ;kernel_rfl) rfl (br rfl) ⟨_,Tryz.underlying300,by kernel_rfl⟩ (fun ks h=>by cases h),
 aaH (e:=337) (E:=302) (u:=zh) ⟨⟨_,Tryz.underlying302,rfl⟩,by kernel_rfl⟩ Tryz.underlying302 (by unfold TZ;kernel_rfl),
 zS (ty:=.bool) (b:=8) ⟨⟨_,Tryz.underlying305,rfl⟩,by kernel_rfl⟩ rfl (by unfold TZ;kernel_rfl),
 zS (ty:=.bool) (b:=8) ⟨⟨_,Tryz.underlying307,rfl⟩,by kernel_rfl⟩ rfl (by unfold TZ;kernel_rfl),
 mT (z:=.agg #[.int .i64 0,.int .i64 0,.int .i64 0,.int .i64 0]) ⟨⟨_,Tryz.underlying316,rfl⟩,by kernel_rfl⟩ rfl ⟨⟨_,_,Tryz.underlying316,rfl,rfl,by kernel_rfl⟩,⟨_,_,Tryz.underlying316,rfl,rfl,by kernel_rfl⟩,⟨_,_,Tryz.underlying316,rfl,rfl,by kernel_rfl⟩,⟨_,_,Tryz.underlying316,rfl,rfl,by kernel_rfl⟩,trivial⟩ (by unfold TZ;kernel_rfl) rfl (br rfl) ⟨_,Tryz.underlying316,by kernel_rfl⟩ (fun ks h=>by cases h),
 zS (ty:=.bool) (b:=8) ⟨⟨_,Tryz.underlying326,rfl⟩,by kernel_rfl⟩ rfl (by unfold TZ;kernel_rfl),
 qg ⟨⟨_,Tryz.underlying335,rfl⟩,by kernel_rfl⟩ Tryz.underlying335 (by unfold TZ;kernel_rfl),
 mT (z:=.agg #[.int .i64 0,.int .i64 0,.int .i64 0,.int .i64 0,.slice none 0 0]) ⟨⟨_,Tryz.underlying337,rfl⟩,by kernel_rfl⟩ rfl ⟨⟨_,_,Tryz.underlying337,rfl,rfl,by kernel_rfl⟩,⟨_,_,Tryz.underlying337,rfl,rfl,by kernel_rfl⟩,trivial⟩ (by unfold TZ;kernel_rfl) rfl (br rfl) ⟨_,Tryz.underlying337,by kernel_rfl⟩ (fun ks h=>by cases h),
 aaG (m:=⟨3,3,.int,.int⟩) (ty:=.bool) ⟨⟨_,Tryz.underlying341,rfl⟩,by kernel_rfl⟩ rfl ⟨Tryz.underlying341,kk3,ek3⟩,
 zS (ty:=.bool) (b:=8) ⟨⟨_,Tryz.underlying343,rfl⟩,by kernel_rfl⟩ rfl (by unfold TZ;kernel_rfl),
 mT (z:=.agg #[.int .i64 0,.int .i64 0,.int .i64 0,.int .i64 0]) ⟨⟨_,Tryz.underlying353,rfl⟩,by kernel_rfl⟩ rfl ⟨⟨_,_,Tryz.underlying353,rfl,rfl,by kernel_rfl⟩,⟨_,_,Tryz.underlying353,rfl,rfl,by kernel_rfl⟩,⟨_,_,Tryz.underlying353,rfl,rfl,by kernel_rfl⟩,⟨_,_,Tryz.underlying353,rfl,rfl,by kernel_rfl⟩,trivial⟩ (by unfold TZ;kernel_rfl) rfl (br rfl) ⟨_,Tryz.underlying353,by kernel_rfl⟩ (fun ks h=>by cases h),
 vI (n:=1) (z:=.int .u64 0) ⟨⟨_,Tryz.underlying363,rfl⟩,by kernel_rfl⟩ rfl (by unfold TZ;kernel_rfl) rfl (br rfl) (fun h=>by cases h) (fun k h=>by obtain rfl:=ae h;exact Tryz.underlying363),
 vI (n:=1) (z:=.int .u32 0) ⟨⟨_,Tryz.underlying391,rfl⟩,by kernel_rfl⟩ rfl (by unfold TZ;kernel_rfl) rfl (br rfl) (fun h=>by cases h) (fun k h=>by obtain rfl:=ae h;exact Tryz.underlying391),
 zS (ty:=.bool) (b:=8) ⟨⟨_,Tryz.underlying396,rfl⟩,by kernel_rfl⟩ rfl (by unfold TZ;kernel_rfl),trivial⟩
theorem mixed:Tryz.prog.follows .mixedOrders=true:=by kernel_rfl
def U5 (fn:Func):Code:=match fn.body with
 | some c=>c
 | none=>.skip
theorem fk {k:FuncId} {fn:Func} {f:FS} (ft:FT) (hF:FTok Tryz.prog ft) (hf:Tryz.prog.funcs[k]? =some fn) (ann:Ann) (an:List (Nat×Ty):=[]) (tr:Trs:=[]) (hb:fn.body=some (U5 fn):=by rfl) (he:(fn.name == "runtime.NumGoroutine")=false:=by kernel_rfl) (hcl:f.cl=none:=by rfl) (hm:Nat.ble f.ps.length fn.ntmps=true:=by rfl) (hdp:(Hb f.rs&&xV f.ps)=true:=by rfl)
  (hmod: ∀d,appP f.ps f.m d=kW ⟨tt,ft,an,fn.ntmps,tr⟩ (PR ⟨tt,ft,an,fn.ntmps,tr⟩ fn.results.toList f.rs f.ps d) (U5 fn) ann (fun r=>some r) (fun _ _=>none) (PR ⟨tt,ft,an,fn.ntmps,tr⟩ fn.results.toList f.rs f.ps d) (so (Bv f.ps d)):=by intro d;kernel_rfl):FOk Tryz.prog k f:=
 fok (V:=⟨tt,ft,an,fn.ntmps,tr⟩) MM hF mixed hf hb rfl (enters_of hf he hb) hcl (br hm) hdp ann hmod
def jt:FS:=⟨[.rd y3,.rd y3,.rd y3],[y4],cd,none⟩
def uA:FS:=⟨[.rd vT,.rd y3],[y4],fP,none⟩
def gW:FS:=⟨[.rd y73],[y4],bL,none⟩
def df:FS:=⟨[.rd y70,.rd y70],[y4],cq,none⟩
def lG:FS:=⟨[.rd y26],[y4],m_i_IsValidHistory,none⟩
def gg:FS:=⟨[.rd y26],[y3],bS,none⟩
def bK:FS:=⟨[.rd y27,.rd y27,.fn [lP,lP] [y4]],[y4],aY,none⟩
def iw:FS:=⟨[.rd HS,.rd HS],[y4],dR,none⟩
def cz:FS:=⟨[.rd ML,.rd ML,.fn [y70,y70] [y4]],[y4],bP,none⟩
def oM:FS:=⟨[.rd y70,.rd y70],[y4],gz,none⟩
def l7:FS:=⟨[.rd lP,.rd lP],[y4],ez,none⟩
def bE:FS:=⟨[.rd y28,.rd y28,.fn [zT,zT] [y4]],[y4],aU,none⟩
def gu:FS:=⟨[.rd y58,.rd y58],[y4],cx,none⟩
def uR:FS:=⟨[.rd y60,.rd y60],[y4],mj,none⟩
def rM:FS:=⟨[.rd zT,.rd zT],[y4],gT,none⟩
def oN:FS:=⟨[.rd y30,.rd y30],[y4],gA,none⟩
def sW:FS:=⟨[.rd y60],[y60],gm,none⟩
def sX:FS:=⟨[.rd y3],[y4],kA,none⟩
def BA:FS:=⟨[.rd zh],[y4],ra,none⟩
def bN:FS:=⟨[.rd Z9],[Z9],fun _=>none,some (302,8)⟩
def uB:FS:=⟨[.rd y60],[t302],od,none⟩
def D2:FS:=⟨[.rd y60],[y4],uk,none⟩
def sY:FS:=⟨[.rd y60],[y4],kY,none⟩
def mQ (n:Nat):FS:=⟨[.rd t302],[y3],bW n,none⟩
def Lw:FS:=⟨[.rd y3],[t302],Fo,none⟩
def pH (n:Nat):FS:=⟨[.eat t302,.rd y3,.rd y3],[t302],kB n,none⟩
def lH (n:Nat):FS:=⟨[.rd t302],[t302],bG n,none⟩
def kg (n:Nat):FS:=⟨[.rd t302,.ptr 60 y60],[],bD n,none⟩
def w6:FS:=⟨[.rd t302],[y60],re,none⟩
def uS:FS:=⟨[.rd y60],[y60,y4],mn,none⟩
def nF:FS:=⟨[.ptr 257 Lv,.rd y3,.rd y3],[],dO,none⟩
def gP (n:Nat):FS:=⟨[.ptr 257 Lv,.rd t302],[abB],bH n,none⟩
def pI:FS:=⟨[.rd y60],[Lv,y4],il,none⟩
def nt:FS:=⟨[.rd y3,.rd y3,.fn [y3] [y4],.fn [y3,y3] [y3,y4]],[lP,y4],eW,none⟩
def nc:FS:=⟨[.rd Lv,.rd y3],[y4],dw,none⟩
def oO:FS:=⟨[.rd Lv,.rd y3,.rd y3],[y3],gB,none⟩
def qp:FS:=⟨[.rd y3,.rd y3,.cap 257 Lv],[y3,y4],dk,none⟩
def sZ:FS:=⟨[.rd Lv,.rd y3],[lP,y4],iG,none⟩
def bQ:FS:=⟨[.rd HS],[HS],fun _=>none,some (4,1)⟩
def pJ:FS:=⟨[.rd lP],[HS],fa,none⟩
def eS:FS:=⟨[.rd ML,.fn [y70] [y4]],[y3],bY,none⟩
def lR:FS:=⟨[.rd y70,.cap 70 y70],[y4],ig,none⟩
def nG:FS:=⟨[.rd lP,.rd y70],[y70,y3],dP,none⟩
def nf:FS:=⟨[.rd lP],[y70],dz,none⟩
def oP:FS:=⟨[.rd Y8,.rd Y8],[Y8,Y8],vJ,none⟩
def oQ:FS:=⟨[.rd Y7,.rd Y7],[Y7,Y7],oC,none⟩
def qq:FS:=⟨[.rd Y6,.rd Y6],[Y6,Y6],qi,none⟩
def iY:FS:=⟨[.rd y70,.rd y3],[y70],iI,none⟩
def BB:FS:=⟨[],[lP],vK,none⟩
def jx:FS:=⟨[.rd y70,.rd y3],[y3],eU,none⟩
def kE:FS:=⟨[.rd y3,.cap 70 y70],[y3],bc,none⟩
def kF:FS:=⟨[.rd y3,.cap 141 lP,.capf 343 [y3] [y3]],[y4],cM,none⟩
def pK:FS:=⟨[.rd lP,.rd y3,.rd y3],[y3],fb,none⟩
def kG:FS:=⟨[.rd y3,.rd y3,.cap 141 lP,.capf 343 [y3] [y3],.cap 70 y70],[y3,y4],cN,none⟩
def lS:FS:=⟨[.rd lP],[lP],cA,none⟩
def HT:FS:=⟨[.rd lP],[lP,y4],Bz,none⟩
def ta:FS:=⟨[.rd y60],[lP,y4],iJ,none⟩
def db:FS:=⟨[.rd y27,.fn [lP] [y4]],[y3],ba,none⟩
def zi:FS:=⟨[.rd lP,.cap 141 lP],[y4],mV,none⟩
def D3:FS:=⟨[.rd y28],[y30,y4],um,none⟩
def oR:FS:=⟨[.rd y30],[y4],gC,none⟩
def cT:FS:=⟨[.rd y28,.fn [zT] [y4]],[y3],bX,none⟩
def tc:FS:=⟨[.rd zT,.cap 3 y3],[y4],k7,none⟩
def w7:FS:=⟨[.rd y30,.rd y3],[y3],k8,none⟩
def ng:FS:=⟨[.rd y9,.rd y5],[.int .i64],fc,none⟩
def rN:FS:=⟨[.rd y3],[.str],nl,none⟩
def rv:FS:=⟨[.rd y3],[y9],dn,none⟩
def pY:FS:=⟨[.rd vT],[y9],jC,none⟩
def rO:FS:=⟨[.rd aaJ,.rd y9],[.str],jQ,none⟩
def oS:FS:=⟨[.rd y84],[y9],eE,none⟩
def zj:FS:=⟨[.rd y9],[y3],kC,none⟩
def nw:FS:=⟨[.rd y3,.rd y84],[y9],eX,none⟩
def l8:FS:=⟨[.rd y9,.rd y9],[.sl 9 .str],cO,none⟩
def tf:FS:=⟨[.rd y9],[.int .i64,.bool],gp,none⟩
def tg:FS:=⟨[.rd y9,.rd y9],[.str,.str,.bool],cY,none⟩
def w8:FS:=⟨[.rd y9],[vT,y4],gD,none⟩
def uT:FS:=⟨[.rd y9],[y84,y4],dY,none⟩
def rP:FS:=⟨[.rd y9],[y3,y84,y4],jR,none⟩
def vU:FS:=⟨[.rd y9],[y70,.sl 84 (.bag y84),y3],m_i_ScanLog,none⟩
def l9:FS:=⟨[.rd y33],[y4],fR,none⟩
def th:FS:=⟨[.rd y70],[y70],mW,none⟩
def lI:FS:=⟨[.rd y73],[y73],dU,none⟩
def oT:FS:=⟨[.rd y26],[y26],iK,none⟩
def qu:FS:=⟨[.rd lP],[lP],jf,none⟩
def rQ:FS:=⟨[.rd y30],[y30],jS,none⟩
def pZ:FS:=⟨[.rd y33],[y33],jD,none⟩
def kt:FS:=⟨[.ptr 33 y33],[y3],eH,none⟩
def fD:FS:=⟨[.rd y71,.fn [vT] [y4]],[y3],de,none⟩
def tj:FS:=⟨[.rd vT,.cap 3 y3],[y4],oE,none⟩
def ry:FS:=⟨[.rd y73,.rd y3],[y3],k9,none⟩
def gX:FS:=⟨[.eat (.sl 124 vT),.rd y3,.ow (.sl 124 vT)],[.sl 124 vT],cH,none⟩
def uU:FS:=⟨[.rd y73,.rd vT],[y73,y4],mo,none⟩
def ix:FS:=⟨[.rd y71,.rd vT],[y3],dV,none⟩
def gi:FS:=⟨[.rd y71,.rd vT],[y4],cg,none⟩
def gY:FS:=⟨[.eat (.sl 124 vT),.rd y3,.rd y3],[.sl 124 vT],cJ,none⟩
def uV:FS:=⟨[.rd y73,.rd y3],[y73,y4],mq,none⟩
def uW:FS:=⟨[.rd y73,.rd y84],[y73,y4],jE,none⟩
def tl:FS:=⟨[.rd y26,.rd y84],[y26,y4],iL,none⟩
def tm:FS:=⟨[.rd y33,.rd y84],[y33,y4],iM,none⟩
def ku:FS:=⟨[.rd y84,.ptr 33 y33],[y4],gE,none⟩
def D4:FS:=⟨[.rd y9,.kb 40 33 y33,.kc 42],[y3],yk,none⟩
def qv:FS:=⟨[.rd y33,.rd y9],[y33,y3],fS,none⟩
def mR:FS:=⟨[.rd y3,.rd y3,.rd y3],[y4],cZ,none⟩
def yo:FS:=⟨[.rd y73,.rd vT],[y4],qk,none⟩
def gZ:FS:=⟨[.rd y73],[y4],da,none⟩
def w9:FS:=⟨[.rd y70,.rd y70],[y3],oG,none⟩
def iy:FS:=⟨[.rd y26],[y4],m_s_IsValidHistory,none⟩
def uC:FS:=⟨[.rd y58],[y60],hY,none⟩
def tn:FS:=⟨[.rd y3],[y4],mX,none⟩
def vV:FS:=⟨[.rd zh],[y3],oH,none⟩
def D5:FS:=⟨[.rd y60],[y4],uo,none⟩
def tq:FS:=⟨[.rd y60],[y4],ld,none⟩
def rz:FS:=⟨[.rd y58],[y3],iN,none⟩
def rA (n:Nat):FS:=⟨[.rd y58],[y3],eJ n,none⟩
def yp:FS:=⟨[.rd y60,.rd y60,.rd zh],[y60],lV,none⟩
def D6:FS:=⟨[.rd y3],[y60],ql,none⟩
def pL (n:Nat):FS:=⟨[.rd y60,.rd y3,.rd y3],[y60],kD n,none⟩
def nU (n:Nat):FS:=⟨[.rd y58],[y60],c7 n,none⟩
def uX:FS:=⟨[.rd y60],[y60,y4],mu,none⟩
def BC:FS:=⟨[.ptr 257 Lv,.rd y3,.rd y3],[],oJ,none⟩
def pM (n:Nat):FS:=⟨[.ptr 257 Lv,.rd y58],[abA],dA n,none⟩
def pN:FS:=⟨[.rd y60],[Lv,y4],im,none⟩
def zk:FS:=⟨[.rd Lv,.rd y3,.rd y3],[y3],pB,none⟩
def vW:FS:=⟨[.rd y70,.rd y3],[y3],oK,none⟩
def uY:FS:=⟨[.rd Lv,.rd y3],[y4],mw,none⟩
def uZ:FS:=⟨[.rd Lv,.rd y3],[lP,y4],jG,none⟩
def u7:FS:=⟨[],[lP],pX,none⟩
def xa:FS:=⟨[.rd lP,.rd y70,.rd HS],[lP],jg,none⟩
def vX:FS:=⟨[.rd lP],[HS],lW,none⟩
def D7:FS:=⟨[.rd lP,.rd y70,.rd y3],[y70],qm,none⟩
def u9:FS:=⟨[.rd lP],[y70],jJ,none⟩
def tu:FS:=⟨[.rd lP],[lP],fY,none⟩
def tv:FS:=⟨[.rd y60],[lP,y4],iQ,none⟩
def ma:FS:=⟨[.rd lP,.rd lP],[y4],fZ,none⟩
def zm:FS:=⟨[.rd y27,.rd lP],[y3],mY,none⟩
def zn:FS:=⟨[.rd y28],[y30,y4],pC,none⟩
def vc:FS:=⟨[.rd y60,.rd y60],[y4],mz,none⟩
def oU:FS:=⟨[.rd y30,.rd y30],[y4],gF,none⟩
def oV:FS:=⟨[.rd y30],[y4],gG,none⟩
def eA:FS:=⟨[.rd y26],[y3],bf,none⟩
def xb:FS:=⟨[.rd y30,.rd y3],[y3],lf,none⟩
def BD:FS:=⟨[.rd y33],[y4],vL,none⟩
def nV:FS:=⟨[.rd y3],[y9],cm,none⟩
def ny:FS:=⟨[.rd y3],[y9],eZ,none⟩
def p7:FS:=⟨[.rd vT],[y9],jK,none⟩
def oW:FS:=⟨[.rd y84],[y9],c8,none⟩
def zo:FS:=⟨[.rd y9],[y3],gq,none⟩
def nz:FS:=⟨[.rd y3,.rd y84],[y9],dL,none⟩
def xc:FS:=⟨[.rd y9,.rd y5],[aaJ],iS,none⟩
def tw:FS:=⟨[.rd y9],[y3,y4],gr,none⟩
def tx:FS:=⟨[.rd y9],[y3,y4],gb,none⟩
def xd:FS:=⟨[.rd y9],[vT,y4],gH,none⟩
def vd:FS:=⟨[.rd y9],[y84,y4],dZ,none⟩
def rR:FS:=⟨[.rd y9],[y3,y84,y4],jU,none⟩
def vY:FS:=⟨[.rd y9],[y70,.sl 84 (.bag y84),y3],m_s_ScanLog,none⟩
def D8:FS:=⟨[.rd y33],[y4],yn,none⟩
def mb:FS:=⟨[.rd y33],[y4],gf,none⟩
def oe:FS:=⟨[.rd y73],[y73],cB,none⟩
def yq:FS:=⟨[.rd y26],[y26],qn,none⟩
def BE:FS:=⟨[.rd lP],[lP],rh,none⟩
def BF:FS:=⟨[.rd y30],[y30],ri,none⟩
def vZ:FS:=⟨[.rd y33],[y33],oL,none⟩
def nW:FS:=⟨[.rd y73,.rd y3],[y3],ji,none⟩
def ve:FS:=⟨[.rd y73,.rd vT],[y73,y4],mA,none⟩
def vf:FS:=⟨[.rd y73,.rd y3],[y73,y4],mB,none⟩
def BG:FS:=⟨[.rd y73,.rd y84],[y73,y4],vM,none⟩
def vh:FS:=⟨[.rd y73,.rd y84],[y73,y4],jO,none⟩
def tz:FS:=⟨[.rd y26,.rd y84],[y26,y4],iU,none⟩
def tC:FS:=⟨[.rd y33,.rd y84],[y33,y4],iV,none⟩
def qw:FS:=⟨[.rd y33,.rd y9],[y33,y3],jk,none⟩
def yr:FS:=⟨[.rd y70,.rd y3],[y3],uq,none⟩
def BH:FS:=⟨[.rd Z3,.rd y3],[y3],vN,none⟩
def BI:FS:=⟨[.rd Z4,.rd y3],[y3],rj,none⟩
def zp:FS:=⟨[.rd y45,.rd y3],[y3],sR,none⟩
def xe:FS:=⟨[.rd y47,.rd y3],[y3],nJ,none⟩
def BJ:FS:=⟨[.rd HS,.rd y3],[y3],vO,none⟩
def BK:FS:=⟨[.rd ML,.rd y3],[y3],vP,none⟩
def tD:FS:=⟨[.rd Z5,.rd y3],[y3],lq,none⟩
def rS:FS:=⟨[.rd y48,.rd y3],[y3],np,none⟩
def zq:FS:=⟨[.rd Z6,.rd y3],[y3],sS,none⟩
def D9:FS:=⟨[.rd Z7,.rd y3],[y3],ur,none⟩
def rT:FS:=⟨[.rd Z8,.rd y3],[y3],jV,none⟩
def qx:FS:=⟨[.rd y49,.rd y3],[y3],lY,none⟩
def vi:FS:=⟨[.rd y51,.rd y3],[y3],mD,none⟩
def qy:FS:=⟨[.rd y52,.rd y3],[y3],lZ,none⟩
def zr:FS:=⟨[.rd y54,.rd y3],[y3],pE,none⟩
def yt:FS:=⟨[.rd y70],[y70],qo,none⟩
def Ea:FS:=⟨[.rd aaK],[vT],uu,none⟩
def BL:FS:=⟨[.rd Z3],[y71],rk,none⟩
def BM:FS:=⟨[.rd Z4],[y73],rl,none⟩
def zt:FS:=⟨[.rd y45],[y24],pF,none⟩
def xf:FS:=⟨[.rd y47],[y26],nL,none⟩
def BN:FS:=⟨[.rd HS],[HS],rm,none⟩
def BO:FS:=⟨[.rd ML],[ML],rp,none⟩
def tE:FS:=⟨[.rd Z5],[lP],lu,none⟩
def rU:FS:=⟨[.rd y48],[y27],jW,none⟩
def BP:FS:=⟨[.rd aaL],[zh],rq,none⟩
def zu:FS:=⟨[.rd Z6],[y58],pG,none⟩
def Eb:FS:=⟨[.rd Z7],[y60],uv,none⟩
def rV:FS:=⟨[.rd Z8],[zT],jX,none⟩
def qz:FS:=⟨[.rd y49],[y28],jl,none⟩
def vj:FS:=⟨[.rd y51],[y30],mH,none⟩
def rW:FS:=⟨[.rd aaI],[y93],jY,none⟩
def qA:FS:=⟨[.rd y52],[y31],jm,none⟩
def zw:FS:=⟨[.rd y54],[y33],iW,none⟩
def yu:FS:=⟨[.rd y70,.rd y70],[y4],uw,none⟩
def Ec:FS:=⟨[.rd vT,.rd vT],[y4],uy,none⟩
def BQ:FS:=⟨[.rd y71,.rd y71],[y4],vQ,none⟩
def BR:FS:=⟨[.rd y73,.rd y73],[y4],rr,none⟩
def zx:FS:=⟨[.rd y24,.rd y24],[y4],sU,none⟩
def xg:FS:=⟨[.rd y26,.rd y26],[y4],nN,none⟩
def BS:FS:=⟨[.rd HS,.rd HS],[y4],vR,none⟩
def BT:FS:=⟨[.rd ML,.rd ML],[y4],vS,none⟩
def tF:FS:=⟨[.rd lP,.rd lP],[y4],lA,none⟩
def rX:FS:=⟨[.rd y27,.rd y27],[y4],nr,none⟩
def BU:FS:=⟨[.rd zh,.rd zh],[y4],ru,none⟩
def zy:FS:=⟨[.rd y58,.rd y58],[y4],sV,none⟩
def Ed:FS:=⟨[.rd y60,.rd y60],[y4],uz,none⟩
def rY:FS:=⟨[.rd zT,.rd zT],[y4],jZ,none⟩
def qB:FS:=⟨[.rd y28,.rd y28],[y4],l5,none⟩
def vk:FS:=⟨[.rd y30,.rd y30],[y4],mL,none⟩
def rZ:FS:=⟨[.rd y93,.rd y93],[y4],j4,none⟩
def qC:FS:=⟨[.rd y31,.rd y31],[y4],l6,none⟩
def zz:FS:=⟨[.rd y33,.rd y33],[y4],iX,none⟩
def tG:FS:=⟨[.ow y70,.rd y3],[y3],mZ,none⟩
def xh:FS:=⟨[.ow y71,.rd y3],[y3],nO,none⟩
def vl:FS:=⟨[.ow y24,.rd y3],[y3],mM,none⟩
def tH:FS:=⟨[.ow y26,.rd y3],[y3],lD,none⟩
def xi:FS:=⟨[.ow HS,.rd y3],[y3],nP,none⟩
def xj:FS:=⟨[.ow ML,.rd y3],[y3],nQ,none⟩
def pO:FS:=⟨[.ow y27,.rd y3],[y3],ir,none⟩
def vm:FS:=⟨[.ow y58,.rd y3],[y3],mN,none⟩
def oX:FS:=⟨[.ow y28,.rd y3],[y3],gL,none⟩
def sb:FS:=⟨[.ow y30,.rd y3],[y3],j8,none⟩
def oY:FS:=⟨[.ow y31,.rd y3],[y3],gM,none⟩
def vn:FS:=⟨[.ow y33,.rd y3],[y3],fx,none⟩
def tI:FS:=⟨[.rd y70,.rd y3],[y3],na,none⟩
def xk:FS:=⟨[.rd y71,.rd y3],[y3],nR,none⟩
def vo:FS:=⟨[.rd y24,.rd y3],[y3],mO,none⟩
def tJ:FS:=⟨[.rd y26,.rd y3],[y3],lF,none⟩
def xl:FS:=⟨[.rd HS,.rd y3],[y3],nS,none⟩
def xm:FS:=⟨[.rd ML,.rd y3],[y3],nT,none⟩
def pP:FS:=⟨[.rd y27,.rd y3],[y3],iu,none⟩
def vp:FS:=⟨[.rd y58,.rd y3],[y3],mP,none⟩
def oZ:FS:=⟨[.rd y28,.rd y3],[y3],gN,none⟩
def sd:FS:=⟨[.rd y30,.rd y3],[y3],ke,none⟩
def o0:FS:=⟨[.rd y31,.rd y3],[y3],gO,none⟩
def vq:FS:=⟨[.rd y33,.rd y3],[y3],hZ,none⟩
def qD:FS:=⟨[.rd y54,.rd y9],[y4],dG,none⟩
end R
namespace R
open Go.RowKit
open D
theorem kH:FOk Tryz.prog 59 jt:=fk [] trivial Tryz.func59 .no
theorem yw:FOk Tryz.prog 186 uA:=fk [(59,jt)] ⟨kH,trivial⟩ Tryz.func186 .no
theorem kh:FOk Tryz.prog 118 gW:=fk [(59,jt),(186,uA)] ⟨kH,yw,trivial⟩ Tryz.func118 (.t (.t (.two (.t (.loop [.s 14] .no)) (.two (.t (.loop [.s 25] .no)) .no))))
theorem eV:FOk Tryz.prog 119 df:=fk [] trivial Tryz.func119 (.t (.t (.two (.t (.loop [.s 13] .no)) .no)))
theorem pQ:FOk Tryz.prog 57 lG:=fk [(59,jt),(118,gW),(119,df)] ⟨kH,kh,eV,trivial⟩ Tryz.func57 (.t (.t (.t (.two (.t (.loop [.s 24] .no)) .no))))
theorem ju:FOk Tryz.prog 41 gg:=fk [(57,lG)] ⟨pQ,trivial⟩ Tryz.func41 .no
theorem cU:FOk Tryz.prog 109 bK:=fk [] trivial Tryz.func109 (.t (.t (.two (.t (.loop [.s 17] .no)) .no)))
theorem nX:FOk Tryz.prog 178 iw:=fk [] trivial Tryz.func178 (.t (.t (.two (.t (.loop [.s 13] .no)) .no)))
theorem fm:FOk Tryz.prog 179 cz:=fk [] trivial Tryz.func179 (.t (.t (.two (.t (.loop [.s 17] .no)) .no)))
theorem v7:FOk Tryz.prog 180 oM:=fk [(119,df)] ⟨eV,trivial⟩ Tryz.func180 .no
theorem qF:FOk Tryz.prog 110 l7:=fk [(178,iw),(179,cz),(180,oM)] ⟨nX,fm,v7,trivial⟩ Tryz.func110 .no
theorem cK:FOk Tryz.prog 111 bE:=fk [] trivial Tryz.func111 (.t (.t (.two (.t (.loop [.s 17] .no)) .no)))
theorem nh:FOk Tryz.prog 237 gu:=fk [] trivial Tryz.func237 (.t (.t (.two (.t (.loop [.s 13] .no)) .no)))
theorem CV:FOk Tryz.prog 181 uR:=fk [(237,gu)] ⟨nh,trivial⟩ Tryz.func181 .no
theorem zU:FOk Tryz.prog 112 rM:=fk [(181,uR)] ⟨CV,trivial⟩ Tryz.func112 .no
theorem v8:FOk Tryz.prog 48 oN:=fk [(109,bK),(110,l7),(111,bE),(112,rM)] ⟨cU,qF,cK,zU,trivial⟩ Tryz.func48 .no
theorem zA:FOk Tryz.prog 164 sW:=fk [] trivial Tryz.func164 .no
end R
namespace R
open Go.RowKit
open D
theorem zB:FOk Tryz.prog 371 sX:=fk [(59,jt)] ⟨kH,trivial⟩ Tryz.func371 .no
theorem Ju:FOk Tryz.prog 335 BA:=fk [(59,jt),(371,sX)] ⟨kH,zB,trivial⟩ Tryz.func335 (.t (.two (.t (.t (.t (.t (.t (.join [.slot 37 .boo] .no .no)))))) .no))
theorem nA:FOk Tryz.prog 336 bN:=HM (f:=bN) (kX (f:=⟨bN.ps,bN.rs,bN.m,none⟩) (enters_of Tryz.func336 (by kernel_rfl) rfl) rfl (fun d=>rfl)) (Lo (V:=⟨tt,[],[(5,.raw)],8,[]⟩) MM trivial mixed Tryz.func336 rfl rfl (enters_of Tryz.func336 (by kernel_rfl) rfl) (br rfl) .no (fun E bn xs=>by cases bn <;> kernel_rfl))
theorem yx:FOk Tryz.prog 293 uB:=fk [(335,BA),(336,bN)] ⟨Ju,nA,trivial⟩ Tryz.func293 (.t (.t (.two (.t (.loop [.slot 3 (.own 302 aaM),.s 13] (.t (.t (.two (.t (.t (.two (.t (.at [.s 6] (.two (.t (.at [.slot 19 .boo] .no)) (.t (.two (.t (.at [.slot 22 .boo] .no)) .no))))) .no))) .no))))) .no))) (tr:=[(337,302,zh)])
theorem MN:FOk Tryz.prog 368 D2:=fk [(293,uB)] ⟨yx,trivial⟩ Tryz.func368 .no (tr:=[(337,302,zh)])
theorem BV:FOk Tryz.prog 330 sY:=fk [(368,D2)] ⟨MN,trivial⟩ Tryz.func330 .no
theorem vr: ∀n,FOk Tryz.prog 331 (mQ n)
 | 0=>kX (f:=mQ 0) (enters_of Tryz.func331 (by kernel_rfl) rfl) rfl (fun d=>rfl)
 | n+1=>by
  have ih:=vr n
  exact fk [(331,(mQ n))] ⟨ih,trivial⟩ Tryz.func331 (.t (.t (.two (.t (.loop [.s 3,.s 11] (.t (.t (.two (.at [.s 3] .no) .no))))) .no))) (tr:=[(337,302,zh)])
theorem Tm:FOk Tryz.prog 392 Lw:=fk [] trivial Tryz.func392 .no (tr:=[(337,302,zh)])
theorem zC: ∀n,FOk Tryz.prog 369 (pH n)
 | 0=>kX (f:=pH 0) (enters_of Tryz.func369 (by kernel_rfl) rfl) rfl (fun d=>rfl)
 | n+1=>by
  have ih:=zC n
  exact fk [(369,(pH n)),(392,Lw)] ⟨ih,Tm,trivial⟩ Tryz.func369 .no (tr:=[(337,302,zh)])
theorem tK: ∀n,FOk Tryz.prog 332 (lH n)
 | 0=>kX (f:=lH 0) (enters_of Tryz.func332 (by kernel_rfl) rfl) rfl (fun d=>rfl)
 | n+1=>by
  have ih:=tK n
  exact fk [(332,(lH n)),(369,(pH gR))] ⟨ih,(zC gR),trivial⟩ Tryz.func332 (.t (.t (.t (.two (.t (.loop [.s 41,.box 3 [(.num .i64),(.num .i64),(.num .i64),(.num .i64),(.own 302 (.tree 337 302 zh))]] .no)) .no)))) (an:=[(52,t302)]) (tr:=[(337,302,zh)])
theorem se: ∀n,FOk Tryz.prog 370 (kg n)
 | 0=>kX (f:=kg 0) (enters_of Tryz.func370 (by kernel_rfl) rfl) rfl (fun d=>rfl)
 | n+1=>by
  have ih:=se n
  exact fk [(370,(kg n))] ⟨ih,trivial⟩ Tryz.func370 (.two (.t (.loop [.s 11,.box 1 [(.own 172 zh)]] .no)) .no) (tr:=[(337,302,zh)])
theorem Fp:FOk Tryz.prog 333 w6:=fk [(370,(kg gR))] ⟨(se gR),trivial⟩ Tryz.func333 .no (tr:=[(337,302,zh)])
theorem CW:FOk Tryz.prog 291 uS:=fk [(293,uB),(330,sY),(331,(mQ gR)),(332,(lH gR)),(333,w6)] ⟨yx,BV,(vr gR),(tK gR),Fp,trivial⟩ Tryz.func291 .no (tr:=[(337,302,zh)])
theorem uN:FOk Tryz.prog 334 nF:=fk [] trivial Tryz.func334 (.t (.loop [.s 12,.par 4 [3] 3 y3] (.t (.t (.two (.at [.par 4 [3] 3 y3] .no) .no)))))
theorem o6: ∀n,FOk Tryz.prog 292 (gP n)
 | 0=>kX (f:=gP 0) (enters_of Tryz.func292 (by kernel_rfl) rfl) rfl (fun d=>rfl)
 | n+1=>by
  have ih:=o6 n
  exact fk [(292,(gP n)),(334,nF)] ⟨ih,uN,trivial⟩ Tryz.func292 (.t (.two (.t (.t (.t (.t (.t (.t (.t (.t (.two (.t (.t (.t (.two (.t (.at [.box 10 [(.num .i64),(.num .i64),.boo]] .no)) (.two (.t (.at [.box 10 [(.num .i64),(.num .i64),.boo]] .no)) .no))))) .no))))))))) .no)) (tr:=[(337,302,zh)])
theorem xn:FOk Tryz.prog 241 pI:=fk [(291,uS),(292,(gP gR)),(293,uB)] ⟨CW,(o6 gR),yx,trivial⟩ Tryz.func241 (.t (.t (.t (.t (.two (.t (.loop [.s 6,.s 22] (.t (.t (.two (.at [.s 6] .no) .no))))) .no))))) (tr:=[(337,302,zh)])
theorem sf:FOk Tryz.prog 294 nt:=fk [] trivial Tryz.func294 (.t (.t (.t (.t (.two (.t (.loop [.slot 10 (.own 3 y3),.slot 11 (.map ⟨3,3,.int,.int⟩),.s 13,.box 12 [(.num .i64),(.own 4 y4),(.own 70 y70)]] (.t (.two (.t (.two (.t (.loop [.slot 10 (.own 3 y3),.slot 11 (.map ⟨3,3,.int,.int⟩),.slot 14 (.own 3 y3),.s 15] (.t (.join [.slot 10 (.own 3 y3),.slot 11 (.map ⟨3,3,.int,.int⟩),.slot 14 (.own 3 y3)] (.t (.t (.t (.join [.slot 10 (.own 3 y3),.slot 11 (.map ⟨3,3,.int,.int⟩),.s 18] .no .no)))) .no)))) .no)) .no)))) .no)))))
end R
namespace R
open Go.RowKit
open D
theorem tL:FOk Tryz.prog 295 nc:=fk [] trivial Tryz.func295 .no
theorem wc:FOk Tryz.prog 297 oO:=fk [] trivial Tryz.func297 (.t (.t (.join [.s 7] .no (.two (.t (.loop [.s 7,.s 21] (.t (.t (.join [.s 7] .no .no))))) (.t (.two (.t (.loop [.s 10,.s 39] (.t (.t (.join [.s 10] .no .no))))) .no))))))
theorem yy:FOk Tryz.prog 296 qp:=fk [(297,oO)] ⟨wc,trivial⟩ Tryz.func296 .no
theorem BW:FOk Tryz.prog 242 sZ:=fk [(294,nt),(295,nc),(296,qp)] ⟨sf,tL,yy,trivial⟩ Tryz.func242 .no
theorem nY:FOk Tryz.prog 393 bQ:=HM (f:=bQ) (kX (f:=⟨bQ.ps,bQ.rs,bQ.m,none⟩) (enters_of Tryz.func393 (by kernel_rfl) rfl) rfl (fun d=>rfl)) (Lo (V:=⟨tt,[],[(5,.raw)],8,[]⟩) MM trivial mixed Tryz.func393 rfl rfl (enters_of Tryz.func393 (by kernel_rfl) rfl) (br rfl) .no (fun E bn xs=>by cases bn <;> kernel_rfl))
theorem xo:FOk Tryz.prog 372 pJ:=fk [(393,bQ)] ⟨nY,trivial⟩ Tryz.func372 (.t (.t (.two (.t (.loop [.slot 4 .boo,.row 3 4 y4] (.t (.t (.t (.loop [.slot 4 .boo,.s 16,.row 3 4 y4] (.t (.t (.two (.t (.t (.loop [.slot 4 .boo,.s 23,.row 3 4 y4] (.t (.t (.two (.at [.slot 4 .boo,.row 3 4 y4] .no) .no)))))) .no))))))))) .no)))
theorem kO:FOk Tryz.prog 394 eS:=fk [] trivial Tryz.func394 (.t (.two (.t (.loop [.s 8] .no)) .no))
theorem sw:FOk Tryz.prog 395 lR:=fk [(119,df)] ⟨eV,trivial⟩ Tryz.func395 .no
theorem uO:FOk Tryz.prog 373 nG:=fk [(394,eS),(395,lR)] ⟨kO,sw,trivial⟩ Tryz.func373 (.t (.t (.t (.two (.t (.loop [.slot 6 (.own 70 y70),.slot 7 (.own 3 y3),.s 18] (.t (.t (.join [.slot 6 (.own 70 y70),.slot 7 (.own 3 y3)] (.t (.t (.t (.two (.t (.loop [.s 36,.box 10 [(.own 3 y3)]] (.t (.t (.two (.t (.join [.s 12] .no .no)) .no))))) (.t (.join [.slot 6 (.own 70 y70),.s 13,.gone 10] .no .no)))))) .no))))) .no))))
theorem tM:FOk Tryz.prog 337 nf:=fk [(372,pJ),(373,nG)] ⟨xo,uO,trivial⟩ Tryz.func337 (.t (.t (.two (.t (.loop [.slot 3 (.own 3 y3),.s 13] (.t (.t (.join [.slot 3 (.own 3 y3)] .no .no))))) (.t (.loop [.slot 3 (.own 3 y3),.s 6] .no)))))
theorem we:FOk Tryz.prog 407 oP:=fk [] trivial Tryz.func407 .no
theorem wg:FOk Tryz.prog 408 oQ:=fk [] trivial Tryz.func408 .no
theorem yz:FOk Tryz.prog 396 qq:=fk [(407,oP),(408,oQ)] ⟨we,wg,trivial⟩ Tryz.func396 .no
theorem o7:FOk Tryz.prog 374 iY:=fk [(396,qq)] ⟨yz,trivial⟩ Tryz.func374 (.t (.t (.t (.t (.t (.t (.two (.loop [.s 8,.row 7 3 (.int .i64)] .no) .no))))))) (an:=[(44,.bool)])
theorem Jv:FOk Tryz.prog 338 BB:=fk [(374,iY)] ⟨o7,trivial⟩ Tryz.func338 .no
theorem pn:FOk Tryz.prog 340 jx:=fk [] trivial Tryz.func340 (.t (.two (.t (.loop [.s 8] .no)) .no))
theorem qG:FOk Tryz.prog 339 kE:=fk [(340,jx)] ⟨pn,trivial⟩ Tryz.func339 .no
end R
namespace R
open Go.RowKit
open D
theorem qH:FOk Tryz.prog 341 kF:=fk [] trivial Tryz.func341 .no
theorem xp:FOk Tryz.prog 343 pK:=fk [(371,sX)] ⟨zB,trivial⟩ Tryz.func343 .no
theorem qI:FOk Tryz.prog 342 kG:=fk [(343,pK)] ⟨xp,trivial⟩ Tryz.func342 .no
theorem sy:FOk Tryz.prog 298 lS:=fk [(294,nt),(337,nf),(338,BB),(339,kE),(341,kF),(342,kG)] ⟨sf,tM,Jv,qG,qH,qI,trivial⟩ Tryz.func298 .no
theorem PZ:FOk Tryz.prog 243 HT:=fk [(298,lS)] ⟨sy,trivial⟩ Tryz.func243 .no
theorem BX:FOk Tryz.prog 187 ta:=fk [(241,pI),(242,sZ),(243,HT)] ⟨xn,BW,PZ,trivial⟩ Tryz.func187 .no
theorem hH:FOk Tryz.prog 188 db:=fk [] trivial Tryz.func188 (.t (.two (.t (.loop [.s 8] .no)) .no))
theorem HU:FOk Tryz.prog 189 zi:=fk [(110,l7)] ⟨qF,trivial⟩ Tryz.func189 .no
theorem MO:FOk Tryz.prog 120 D3:=fk [(59,jt),(164,sW),(187,ta),(188,db),(189,zi)] ⟨kH,zA,BX,hH,HU,trivial⟩ Tryz.func120 (.t (.t (.two (.t (.loop [.s 13,.box 4 [(.own 141 lP),(.own 126 zT)]] (.t (.t (.two (.t (.t (.t (.t (.join [.s 9,.box 4 [(.own 141 lP),(.own 126 zT)],.gone 7] .no .no))))) .no))))) .no)))
theorem wh:FOk Tryz.prog 58 oR:=fk [(48,oN),(120,D3)] ⟨v8,MO,trivial⟩ Tryz.func58 .no
theorem gl:FOk Tryz.prog 121 cT:=fk [] trivial Tryz.func121 (.t (.two (.t (.loop [.s 8] .no)) .no))
theorem BY:FOk Tryz.prog 122 tc:=fk [] trivial Tryz.func122 .no
theorem Fq:FOk Tryz.prog 60 w7:=fk [(121,cT),(122,tc)] ⟨gl,BY,trivial⟩ Tryz.func60 .no
theorem tN:FOk Tryz.prog 123 ng:=Fk Fm (enters_of Tryz.func123 (by kernel_rfl) rfl)
theorem zV:FOk Tryz.prog 234 rN:=Tj Lt (enters_of Tryz.func234 (by kernel_rfl) rfl)
theorem xq:FOk Tryz.prog 167 rv:=fk [(234,rN)] ⟨zV,trivial⟩ Tryz.func167 .no
theorem vt:FOk Tryz.prog 232 pY:=fk [(167,rv),(186,uA)] ⟨xq,yw,trivial⟩ Tryz.func232 .no
end R
namespace R
open Go.RowKit
open D
theorem zW:FOk Tryz.prog 233 rO:=Tk Tl PY 9 (enters_of Tryz.func233 (by kernel_rfl) rfl)
theorem tO:FOk Tryz.prog 166 oS:=fk [(232,pY),(233,rO)] ⟨vt,zW,trivial⟩ Tryz.func166 (.t (.t (.t (.two (.t (.loop [.slot 3 (.own 9 y9),.s 15] (.t (.t (.two (.atX [.slot 3 (.own 9 y9)] .no) .no))))) .no))))
theorem HV:FOk Tryz.prog 168 zj:=fk [] trivial Tryz.func168 (.t (.t (.two (.t (.loop [.s 3,.s 4] .no)) .no)))
theorem sg:FOk Tryz.prog 103 nw:=fk [(59,jt),(166,oS),(167,rv),(168,zj)] ⟨kH,tO,xq,HV,trivial⟩ Tryz.func103 .no
theorem qJ:FOk Tryz.prog 191 l8:=PV PX (by kernel_rfl) (by kernel_rfl) (enters_of Tryz.func191 (by kernel_rfl) rfl)
theorem BZ (n a b:Int) (w:World):Calls Tryz.prog 59 #[.int .i64 n,.int .i64 a,.int .i64 b] w fun e w'=>e= .returned (.bool (decide (a<=n/\n<=b)))/\w'=w:=by
 by_cases h:a<=n
 ·go_enter Tryz.func59,Tryz.ntmps59
  go_wp2
  go_ret
  simp[h]
 ·go_enter Tryz.func59,Tryz.ntmps59
  go_wp2
  go_ret
  simp
  try (intro k;omega)
theorem Jw (s:ByteArray) (r:Int×Bool) (w:World) (hr:sQ s=some r) (hL:LayW Tryz.prog w):Calls Tryz.prog 192 #[.string s] w fun e w'=>e= .returned (.tuple #[.int .i64 r.1,.bool r.2])/\Below w.heap.size w w':=by
 unfold sQ at hr
 by_cases h10:10<s.size
 ·rw[if_pos h10] at hr
  obtain rfl:=ae hr
  go_enter Tryz.func192,Tryz.ntmps192
  go_wp2
  go_ret2
  exact ⟨rfl,Below.refl _ _⟩
 ·rw[if_neg h10] at hr
  have h18:s.size<=18:=by omega
  cases ha:Lib.atoi s.data.toList with
  | none =>
   rw[ha] at hr
   obtain rfl:=ae hr
   obtain ⟨tp,p,hv⟩:=hL.syn
   have hcon:=Any.strconv_Atoi_err_var Lu s h18 ha tp p w hv
   go_enter Tryz.func192,Tryz.ntmps192
   go_wp2_with (go_at_call 246;refine hcon.mono ?_;rintro e w' ⟨N,rfl,hN,hh,hb⟩)
   go_ret2
   exact ⟨rfl,hb⟩
  | some n =>
   rw[ha] at hr
   have hB:=Lib.atoi_bound ha (by simpa using h18)
   have hA:=Any.strconv_Atoi { Lu with } s n h18 ha w
   have hI:=fun t=>Any.strconv_Itoa Lt n (by omega) (by omega) (Lib.bytesWorld w 5 t) (Lib.bytesWorld_var w 5 t hL.tab)
   have hz: ∀t k os,Below w.heap.size w (Go.Sort.grow ((Lib.bytesWorld w 5 t).drewN k) os):=fun t k os=>by
    have h1:=Lib.bytesWorld_below w 5 t
    exact ⟨h1.os,h1.tape,h1.output,by have:=h1.size;simp only[Go.Sort.grow,Array.size_append];exact Nat.le_trans this (Nat.le_add_right _ _),fun b hb=>(Go.Sort.heap_grow_old ((Lib.bytesWorld w 5 t).drewN k) os (aL hb h1.size:b<((Lib.bytesWorld w 5 t).drewN k).heap.size)).trans (h1.block b hb)⟩
   replace hr:(if (⟨(Lib.itoa n).toArray⟩:ByteArray)=s/\ -999999999<=n/\n<=999999999 then some (n,true) else some (0,false))=some r:=hr
   generalize (⟨(Lib.itoa n).toArray⟩:ByteArray)=q at hr hI
   by_cases e1:q=s
   ·subst e1
    by_cases e2: -999999999<=n/\n<=999999999
    ·rw[if_pos ⟨rfl,e2.1,e2.2⟩] at hr
     obtain rfl:=ae hr
     go_enter Tryz.func192,Tryz.ntmps192
     go_wp2_with (first | (go_at_call 246;refine hA.mono ?_;rintro e w' ⟨rfl,t,rfl⟩) | (go_at_call 234;refine (hI _).mono ?_;rintro e w' ⟨rfl,k,os,rfl⟩) | (go_at_call 59;refine (BZ _ _ _ _).mono ?_;rintro e w' ⟨rfl,rfl⟩))
     go_ret2
     exact ⟨rfl,hz _ _ _⟩
    ·rw[if_neg fun k=>e2 k.2] at hr
     obtain rfl:=ae hr
     go_enter Tryz.func192,Tryz.ntmps192
     go_wp2_with (first | (go_at_call 246;refine hA.mono ?_;rintro e w' ⟨rfl,t,rfl⟩) | (go_at_call 234;refine (hI _).mono ?_;rintro e w' ⟨rfl,k,os,rfl⟩) | (go_at_call 59;refine (BZ _ _ _ _).mono ?_;rintro e w' ⟨rfl,rfl⟩))
     go_ret2
     exact ⟨rfl,hz _ _ _⟩
   ·rw[if_neg fun k=>e1 k.1] at hr
    obtain rfl:=ae hr
    have e2: ¬q.toList=s.toList:=fun k=>e1 (Go.WideShapes.bytes_inj (by rw[<-ByteArray.toList_eq,<-ByteArray.toList_eq];exact k))
    go_enter Tryz.func192,Tryz.ntmps192
    go_wp2_with (first | (go_at_call 246;refine hA.mono ?_;rintro e w' ⟨rfl,t,rfl⟩) | (go_at_call 234;refine (hI _).mono ?_;rintro e w' ⟨rfl,k,os,rfl⟩) | (go_at_call 59;refine (BZ _ _ _ _).mono ?_;rintro e w' ⟨rfl,rfl⟩))
    go_ret2
    exact ⟨rfl,hz _ _ _⟩
theorem zD:FOk Tryz.prog 192 tf:=PW (enters_of Tryz.func192 (by kernel_rfl) rfl) Jw
theorem B0:FOk Tryz.prog 304 tg:=Xt Xv (by kernel_rfl) (enters_of Tryz.func304 (by kernel_rfl) rfl)
theorem Fs:FOk Tryz.prog 247 w8:=fk [(192,tf),(232,pY),(304,tg)] ⟨zD,vt,B0,trivial⟩ Tryz.func247 .no
theorem CX:FOk Tryz.prog 193 uT:=fk [(166,oS),(191,l8),(247,w8)] ⟨tO,qJ,Fs,trivial⟩ Tryz.func193 (.t (.t (.t (.two (.t (.loop [.s 16,.box 4 [(.own 191 (.prod y4 vT))]] .no)) .no))))
theorem zX:FOk Tryz.prog 124 rP:=fk [(103,nw),(191,l8),(192,tf),(193,uT)] ⟨sg,qJ,zD,CX,trivial⟩ Tryz.func124 .no
theorem B1:FOk Tryz.prog 61 vU:=Ls (ps:=[.rd y9]) (A:=y70) (E:=84) (t:=y84) (B:=y3) (m:=m_i_ScanLog) (fk [(123,ng),(124,rP)] ⟨tN,zX,trivial⟩ Tryz.func61 (.t (.t (.t (.t (.two (.loop [.slot 5 (.own 3 y3),.slot 6 (.own 84 y84),.s 7] .no) .no))))))
theorem qK:FOk Tryz.prog 17 l9:=fk [(41,gg),(57,lG),(58,oR),(59,jt),(60,w7),(61,vU)] ⟨ju,pQ,wh,kH,Fq,B1,trivial⟩ Tryz.func17 (.t (.t (.t (.two (.t (.loop [.s 37] .no)) .no))))
theorem zE:FOk Tryz.prog 210 th:=fk [] trivial Tryz.func210 .no
theorem nZ:FOk Tryz.prog 148 lI:=fk [(210,th)] ⟨zE,trivial⟩ Tryz.func148 .no
theorem tP:FOk Tryz.prog 100 oT:=fk [(148,lI)] ⟨nZ,trivial⟩ Tryz.func100 (.t (.t (.two (.t (.loop [.s 12,.box 3 [(.num .i64),(.own 73 y73)]] .no)) .no)))
theorem yA:FOk Tryz.prog 163 qu:=fk [(210,th)] ⟨zE,trivial⟩ Tryz.func163 (.t (.t (.two (.t (.loop [.s 16,.box 3 [(.num .i64),(.own 4 y4),(.own 70 y70)]] .no)) .no)))
theorem zY:FOk Tryz.prog 101 rQ:=fk [(163,qu),(164,sW)] ⟨yA,zA,trivial⟩ Tryz.func101 (.t (.t (.two (.t (.loop [.s 12,.box 3 [(.own 141 lP),(.own 126 zT)]] .no)) (.two (.t (.loop [.s 27,.box 3 [(.own 141 lP),(.own 126 zT)]] .no)) .no))))
end R
namespace R
open Go.RowKit
open D
theorem vu:FOk Tryz.prog 38 pZ:=fk [(100,oT),(101,rQ)] ⟨tP,zY,trivial⟩ Tryz.func38 .no
theorem o8:FOk Tryz.prog 40 kt:=fk [(41,gg)] ⟨ju,trivial⟩ Tryz.func40 .no
theorem lQ:FOk Tryz.prog 316 fD:=fk [] trivial Tryz.func316 (.t (.two (.t (.loop [.s 8] .no)) .no))
theorem B2:FOk Tryz.prog 317 tj:=fk [] trivial Tryz.func317 .no
theorem xr:FOk Tryz.prog 273 ry:=fk [(316,fD),(317,tj)] ⟨lQ,B2,trivial⟩ Tryz.func273 .no
theorem nB:FOk Tryz.prog 274 gX:=Xr (n:=3) (z:=(⟨.int .i64 0,rfl⟩,⟨.int .i64 0,rfl⟩,⟨.int .i64 0,rfl⟩,⟨.int .i64 0,rfl⟩)) rfl rfl (fok (V:=⟨tt,[(318,⟨[],[],none,some (124,0)⟩)],[(12,.raw),(34,.raw),(43,.raw),(50,.raw),(53,.raw),(60,.str),(66,.raw),(73,.raw),(76,.raw),(80,.raw),(86,.raw),(91,.raw)],95,[]⟩) MM ⟨Y4 (aat (fn:=Tryz.f318) (tS:=71) (tR:=4) (E:=124) Tryz.func318 (by kernel_rfl) (by kernel_rfl) (by kernel_rfl) (by kernel_rfl) Tryz.underlying71 (TTok.get MM rfl).ti),trivial⟩ mixed Tryz.func274 rfl rfl (enters_of Tryz.func274 (by kernel_rfl) rfl) rfl (br rfl) rfl .no (fun d=>by kernel_rfl))
theorem CY:FOk Tryz.prog 229 uU:=fk [(118,gW),(148,lI),(186,uA),(273,ry),(274,gX)] ⟨kh,nZ,yw,xr,nB,trivial⟩ Tryz.func229 (.t (.t (.t (.t (.two (.loop [.s 7] .no) .no)))))
theorem n7:FOk Tryz.prog 275 ix:=fk [] trivial Tryz.func275 (.t (.two (.t (.loop [.s 8] .no)) .no))
theorem mc:FOk Tryz.prog 230 gi:=fk [(275,ix)] ⟨n7,trivial⟩ Tryz.func230 .no
theorem nC:FOk Tryz.prog 276 gY:=Xo (n:=3) (z:=(⟨.int .i64 0,rfl⟩,⟨.int .i64 0,rfl⟩,⟨.int .i64 0,rfl⟩,⟨.int .i64 0,rfl⟩)) rfl rfl (fok (V:=⟨tt,[],[(13,.raw),(22,.raw),(25,.raw),(31,.raw)],33,[]⟩) MM trivial mixed Tryz.func276 rfl rfl (enters_of Tryz.func276 (by kernel_rfl) rfl) rfl (br rfl) rfl .no (fun d=>by kernel_rfl))
theorem CZ:FOk Tryz.prog 231 uV:=fk [(118,gW),(148,lI),(273,ry),(276,gY)] ⟨kh,nZ,xr,nC,trivial⟩ Tryz.func231 .no
theorem C1:FOk Tryz.prog 165 uW:=fk [(118,gW),(148,lI),(229,uU),(230,gi),(231,uV)] ⟨kh,nZ,CY,mc,CZ,trivial⟩ Tryz.func165 (.t (.t (.t (.two (.t (.loop [.s 25,.box 6 [(.own 3 y3),(.own 124 vT)]] (.t (.t (.two (.t (.t (.join [.slot 9 .boo,.box 6 [(.own 3 y3),(.own 124 vT)]] .no .no))) .no))))) .no))))
theorem B3:FOk Tryz.prog 102 tl:=fk [(41,gg),(100,oT),(165,uW)] ⟨ju,tP,C1,trivial⟩ Tryz.func102 (.t (.t (.t (.t (.t (.t (.t (.two (.t (.at [.box 6 [(.num .i64),(.own 73 y73)]] .no)) .no)))))))) (an:=[(49,.bool)])
theorem B4:FOk Tryz.prog 43 tm:=fk [(17,l9),(38,pZ),(41,gg),(102,tl),(103,nw)] ⟨qK,vu,ju,B3,sg,trivial⟩ Tryz.func43 .no
theorem o9:FOk Tryz.prog 42 ku:=fk [(43,tm)] ⟨B4,trivial⟩ Tryz.func42 .no
theorem MP:FOk Tryz.prog 39 D4:=fk [(40,kt),(42,ku),(61,vU)] ⟨o8,o9,B1,trivial⟩ Tryz.func39 (.t (.t (.t (.two (.t (.loop [.s 10,.s 21,.row 8 84 (.bag y84),.pbx 3 [(.num .i64),(.own 73 y73),(.own 141 lP),(.own 126 zT),(.own 93 y93),.str]] (.t (.t (.two (.atX [.s 10,.row 8 84 (.bag y84),.pbx 3 [(.num .i64),(.own 73 y73),(.own 141 lP),(.own 126 zT),(.own 93 y93),.str]] .no) .no))))) .no))))
theorem yB:FOk Tryz.prog 9 qv:=fk [(17,l9),(38,pZ),(39,D4),(40,kt),(42,ku)] ⟨qK,vu,MP,o8,o9,trivial⟩ Tryz.func9 .no
end R
namespace R
open Go.RowKit
open D
theorem n8:FOk Tryz.prog 80 mR:=fk [] trivial Tryz.func80 .no
theorem Ee:FOk Tryz.prog 88 yo:=fk [(80,mR)] ⟨n8,trivial⟩ Tryz.func88 .no
theorem kj:FOk Tryz.prog 33 gZ:=fk [(80,mR),(88,yo)] ⟨n8,Ee,trivial⟩ Tryz.func33 (.t (.two (.t (.loop [.s 3] .no)) (.two (.t (.loop [.s 4] .no)) .no)))
theorem B5:FOk Tryz.prog 113 w9:=fk [] trivial Tryz.func113 (.t (.two (.t (.loop [.s 5] .no)) .no))
theorem lJ:FOk Tryz.prog 50 iy:=fk [(33,gZ),(80,mR),(113,w9)] ⟨kj,n8,B5,trivial⟩ Tryz.func50 (.t (.two (.t (.loop [.s 3] .no)) .no))
theorem yC:FOk Tryz.prog 170 uC:=fk [] trivial Tryz.func170 .no
theorem zF:FOk Tryz.prog 323 tn:=fk [(80,mR)] ⟨n8,trivial⟩ Tryz.func323 .no
theorem B6:FOk Tryz.prog 356 vV:=fk [(80,mR),(323,tn)] ⟨n8,zF,trivial⟩ Tryz.func356 (.t (.two (.t (.join [.slot 5 .boo] .no (.t (.t (.t (.join [.slot 37 .boo] .no .no)))))) .no))
theorem MQ:FOk Tryz.prog 312 D5:=fk [(356,vV)] ⟨B6,trivial⟩ Tryz.func312 (.t (.t (.two (.t (.loop [.s 3,.s 4] .no)) .no)))
theorem B7:FOk Tryz.prog 270 tq:=fk [(312,D5)] ⟨MQ,trivial⟩ Tryz.func270 .no
theorem wi:FOk Tryz.prog 326 rz:=fk [(356,vV)] ⟨B6,trivial⟩ Tryz.func326 (.t (.t (.t (.two (.loop [.s 3,.s 4] .no) .no))))
theorem B8: ∀n,FOk Tryz.prog 324 (rA n)
 | 0=>kX (f:=rA 0) (enters_of Tryz.func324 (by kernel_rfl) rfl) rfl (fun d=>rfl)
 | n+1=>by
  have ih:=B8 n
  exact fk [(324,(rA n)),(326,rz)] ⟨ih,wi,trivial⟩ Tryz.func324 (.t (.t (.t (.two (.t (.two (.t (.at [.slot 15 .boo] .no)) .no)) .no))))
theorem Ef:FOk Tryz.prog 266 yp:=fk [(170,uC)] ⟨yC,trivial⟩ Tryz.func266 .no
theorem MR:FOk Tryz.prog 264 D6:=fk [] trivial Tryz.func264 .no
theorem zG: ∀n,FOk Tryz.prog 367 (pL n)
 | 0=>kX (f:=pL 0) (enters_of Tryz.func367 (by kernel_rfl) rfl) rfl (fun d=>rfl)
 | n+1=>by
  have ih:=zG n
  exact fk [(264,D6),(266,yp),(367,(pL n))] ⟨MR,Ef,ih,trivial⟩ Tryz.func367 .no
theorem xt: ∀n,FOk Tryz.prog 325 (nU n)
 | 0=>kX (f:=nU 0) (enters_of Tryz.func325 (by kernel_rfl) rfl) rfl (fun d=>rfl)
 | n+1=>by
  have ih:=xt n
  exact fk [(266,yp),(325,(nU n)),(326,rz),(367,(pL gR))] ⟨Ef,ih,wi,(zG gR),trivial⟩ Tryz.func325 (.t (.t (.t (.two (.t (.two (.t (.at [.slot 15 .boo] .no)) .no)) .no))))
theorem C2:FOk Tryz.prog 283 uX:=fk [(270,tq),(324,(rA gR)),(325,(nU gR))] ⟨B7,(B8 gR),(xt gR),trivial⟩ Tryz.func283 .no
end R
namespace R
open Go.RowKit
open D
theorem Jx:FOk Tryz.prog 327 BC:=fk [] trivial Tryz.func327 (.t (.loop [.s 6,.par 4 [3] 3 y3] (.t (.two (.at [.par 4 [3] 3 y3] .no) .no))))
theorem zH: ∀n,FOk Tryz.prog 284 (pM n)
 | 0=>kX (f:=pM 0) (enters_of Tryz.func284 (by kernel_rfl) rfl) rfl (fun d=>rfl)
 | n+1=>by
  have ih:=zH n
  exact fk [(284,(pM n)),(326,rz),(327,BC)] ⟨ih,wi,Jx,trivial⟩ Tryz.func284 (.t (.t (.t (.two (.t (.t (.t (.t (.t (.t (.two (.t (.t (.t (.t (.t (.two (.t (.at [.box 11 [.boo,(.num .i64),(.num .i64)]] .no)) (.two (.t (.at [.box 11 [.boo,(.num .i64),(.num .i64)]] .no)) .no))))))) .no))))))) .no))))
theorem xu:FOk Tryz.prog 238 pN:=fk [(283,uX),(284,(pM gR))] ⟨C2,(zH gR),trivial⟩ Tryz.func238 (.t (.t (.t (.t (.two (.t (.loop [.s 6,.s 7] (.t (.two (.at [.s 6] .no) .no)))) .no)))))
theorem HW:FOk Tryz.prog 285 zk:=fk [] trivial Tryz.func285 (.t (.t (.join [.s 7] .no (.two (.t (.loop [.s 7,.s 8] (.t (.join [.s 7] .no .no)))) (.t (.two (.t (.loop [.s 9,.s 10] (.t (.join [.s 9] .no .no)))) .no))))))
theorem B9:FOk Tryz.prog 286 vW:=fk [] trivial Tryz.func286 (.t (.two (.t (.loop [.s 5] .no)) .no))
theorem C3:FOk Tryz.prog 287 uY:=fk [] trivial Tryz.func287 .no
theorem C4:FOk Tryz.prog 239 uZ:=fk [(285,zk),(286,vW),(287,uY)] ⟨HW,B9,C3,trivial⟩ Tryz.func239 (.t (.t (.t (.two (.t (.loop [.slot 7 (.own 3 y3),.s 8,.box 6 [(.num .i64),(.own 4 y4),(.own 70 y70)]] (.t (.two (.t (.two (.t (.loop [.slot 7 (.own 3 y3),.slot 9 (.own 3 y3),.s 10] (.t (.two (.t (.t (.join [.slot 7 (.own 3 y3),.s 12] .no .no))) .no)))) .no)) .no)))) .no))))
theorem C5:FOk Tryz.prog 328 u7:=fk [] trivial Tryz.func328 (.t (.t (.two (.t (.loop [.slot 1 (.own 3 y3),.s 2] .no)) .no)))
theorem Ft:FOk Tryz.prog 288 xa:=fk [(286,vW),(328,u7)] ⟨B9,C5,trivial⟩ Tryz.func288 (.t (.t (.t (.t (.t (.two (.t (.loop [.slot 8 (.own 3 y3),.slot 9 (.own 3 y3),.s 10,.box 7 [(.num .i64),(.own 4 y4),(.own 70 y70)]] (.t (.two (.t (.two (.t (.loop [.slot 8 (.own 3 y3),.slot 9 (.own 3 y3),.slot 11 (.own 3 y3),.s 12] (.t (.two (.t (.t (.join [.slot 8 (.own 3 y3),.slot 9 (.own 3 y3),.s 14] .no .no))) .no)))) .no)) .no)))) .no))))))
theorem Ca:FOk Tryz.prog 290 vX:=fk [] trivial Tryz.func290 (.t (.t (.two (.t (.loop [.row 3 4 y4,.s 4] (.t (.two (.t (.loop [.row 3 4 y4,.s 5] (.t (.two (.t (.loop [.row 3 4 y4,.s 6] (.t (.join [.row 3 4 y4] .no .no)))) .no)))) .no)))) .no)))
theorem MS:FOk Tryz.prog 329 D7:=fk [] trivial Tryz.func329 (.t (.t (.two (.t (.loop [.slot 7 (.own 3 y3),.s 8] (.t (.join [.slot 7 (.own 3 y3)] .no .no)))) .no)))
theorem C6:FOk Tryz.prog 289 u9:=fk [(113,w9),(290,vX),(329,D7)] ⟨B5,Ca,MS,trivial⟩ Tryz.func289 (.t (.t (.t (.two (.t (.loop [.slot 4 (.own 3 y3),.s 5] (.t (.two (.t (.two (.t (.at [.s 6] .no)) (.two (.t (.at [.s 6] .no)) .no))) .no)))) (.two (.t (.loop [.slot 4 (.own 3 y3),.s 7] (.t (.two (.t (.t (.two (.t (.loop [.slot 8 (.own 70 y70),.slot 9 (.own 3 y3),.s 10] (.t (.two (.at [.slot 8 (.own 70 y70),.slot 9 (.own 3 y3)] (.t (.t (.t (.two (.t (.loop [.s 12,.s 13] (.t (.two (.at [.s 12] .no) .no)))) (.two (.t (.at [.slot 8 (.own 70 y70),.s 12,.gone 11] .no)) .no)))))) .no)))) .no))) .no)))) .no)))))
theorem Cb:FOk Tryz.prog 240 tu:=fk [(288,xa),(289,u9),(290,vX)] ⟨Ft,C6,Ca,trivial⟩ Tryz.func240 .no
theorem Cc:FOk Tryz.prog 182 tv:=fk [(238,pN),(239,uZ),(240,tu)] ⟨xu,C4,Cb,trivial⟩ Tryz.func182 .no
theorem qL:FOk Tryz.prog 184 ma:=fk [(113,w9)] ⟨B5,trivial⟩ Tryz.func184 (.t (.t (.two (.t (.loop [.s 5] .no)) (.two (.t (.loop [.s 6] .no)) .no))))
theorem HY:FOk Tryz.prog 183 zm:=fk [(184,ma)] ⟨qL,trivial⟩ Tryz.func183 (.t (.two (.t (.loop [.s 5] .no)) .no))
theorem HZ:FOk Tryz.prog 114 zn:=fk [(80,mR),(170,uC),(182,tv),(183,zm)] ⟨n8,yC,Cc,HY,trivial⟩ Tryz.func114 (.t (.t (.t (.two (.t (.loop [.s 5,.box 4 [(.own 141 lP),(.own 126 zT)]] (.t (.two (.t (.t (.t (.join [.s 8,.box 4 [(.own 141 lP),(.own 126 zT)],.gone 6] .no .no)))) .no)))) .no))))
end R
namespace R
open Go.RowKit
open D
theorem C7:FOk Tryz.prog 185 vc:=fk [] trivial Tryz.func185 (.t (.t (.two (.t (.loop [.s 5] .no)) .no)))
theorem wj:FOk Tryz.prog 115 oU:=fk [(184,ma),(185,vc)] ⟨qL,C7,trivial⟩ Tryz.func115 (.t (.t (.two (.t (.loop [.s 5] .no)) (.two (.t (.loop [.s 6] .no)) .no))))
theorem wk:FOk Tryz.prog 51 oV:=fk [(114,zn),(115,oU)] ⟨HZ,wj,trivial⟩ Tryz.func51 .no
theorem gj:FOk Tryz.prog 18 eA:=fk [(50,iy)] ⟨lJ,trivial⟩ Tryz.func18 .no
theorem Fu:FOk Tryz.prog 34 xb:=fk [] trivial Tryz.func34 (.t (.two (.t (.loop [.s 5] .no)) .no))
theorem Jy:FOk Tryz.prog 52 BD:=fk [(18,eA),(34,xb),(80,mR)] ⟨gj,Fu,n8,trivial⟩ Tryz.func52 (.t (.two (.t (.loop [.s 3] .no)) .no))
theorem rB:FOk Tryz.prog 175 nV:=fk [] trivial Tryz.func175 (.t (.t (.t (.t (.two (.loop [.s 0,.slot 3 .str] (.t (.t (.two (.t (.at [.s 5] .no)) .no)))) .no)))))
theorem si:FOk Tryz.prog 282 ny:=fk [(323,tn)] ⟨zF,trivial⟩ Tryz.func282 .no
theorem vv:FOk Tryz.prog 236 p7:=fk [(80,mR),(175,nV),(282,ny)] ⟨n8,rB,si,trivial⟩ Tryz.func236 .no
theorem tQ:FOk Tryz.prog 174 oW:=fk [(236,p7)] ⟨vv,trivial⟩ Tryz.func174 (.t (.t (.t (.two (.t (.loop [.slot 3 .str,.s 4] (.t (.two (.atX [.slot 3 .str] (.t (.t (.two (.t (.at [.slot 3 .str] .no)) .no)))) .no)))) .no))))
theorem H0:FOk Tryz.prog 176 zo:=fk [] trivial Tryz.func176 (.t (.t (.two (.t (.loop [.s 3,.s 4] .no)) .no)))
theorem sj:FOk Tryz.prog 106 nz:=fk [(80,mR),(174,oW),(175,nV),(176,zo)] ⟨n8,tQ,rB,H0,trivial⟩ Tryz.func106 .no
theorem Cd:FOk Tryz.prog 171 xc:=fk [] trivial Tryz.func171 (.t (.t (.t (.two (.t (.loop [.slot 5 (.own 9 y9),.s 6,.s 7] (.t (.two (.at [.slot 5 (.own 9 y9),.s 6] .no) .no)))) .no))))
theorem zI:FOk Tryz.prog 172 tw:=fk [(175,nV)] ⟨rB,trivial⟩ Tryz.func172 (.t (.t (.t (.two (.t (.loop [.s 4,.s 5,.s 6] (.t (.two (.at [.s 4,.s 5] .no) .no)))) (.two (.t (.at [.s 4] .no)) .no)))))
theorem Ce:FOk Tryz.prog 281 tx:=fk [(282,ny)] ⟨si,trivial⟩ Tryz.func281 (.t (.two (.t (.loop [.s 4] .no)) .no))
theorem Fv:FOk Tryz.prog 235 xd:=fk [(171,xc),(172,tw),(236,p7),(281,tx)] ⟨Cd,zI,vv,Ce,trivial⟩ Tryz.func235 .no
theorem C8:FOk Tryz.prog 173 vd:=fk [(171,xc),(174,oW),(235,xd)] ⟨Cd,tQ,Fv,trivial⟩ Tryz.func173 (.t (.t (.t (.t (.two (.t (.loop [.s 6,.box 4 [(.own 191 (.prod y4 vT))]] .no)) .no)))))
end R
namespace R
open Go.RowKit
open D
theorem zZ:FOk Tryz.prog 105 rR:=fk [(106,nz),(171,xc),(172,tw),(173,vd)] ⟨sj,Cd,zI,C8,trivial⟩ Tryz.func105 .no
theorem Cf:FOk Tryz.prog 45 vY:=Ls (ps:=[.rd y9]) (A:=y70) (E:=84) (t:=y84) (B:=y3) (m:=m_s_ScanLog) (fk [(105,rR)] ⟨zZ,trivial⟩ Tryz.func45 (.t (.t (.t (.t (.two (.t (.loop [.slot 5 (.own 3 y3),.slot 6 (.own 84 y84),.s 7,.s 8] (.t (.two (.atX [.slot 5 (.own 3 y3),.slot 6 (.own 84 y84),.s 7] .no) .no)))) .no))))))
theorem MT:FOk Tryz.prog 53 D8:=fk [(18,eA),(45,vY)] ⟨gj,Cf,trivial⟩ Tryz.func53 .no
theorem qM:FOk Tryz.prog 14 mb:=fk [(50,iy),(51,oV),(52,BD),(53,D8)] ⟨lJ,wk,Jy,MT,trivial⟩ Tryz.func14 .no
theorem qN:FOk Tryz.prog 116 oe:=fk [] trivial Tryz.func116 .no
theorem Eg:FOk Tryz.prog 54 yq:=fk [(116,oe)] ⟨qN,trivial⟩ Tryz.func54 (.t (.t (.two (.t (.loop [.s 4,.box 3 [(.num .i64),(.own 73 y73)]] .no)) .no)))
theorem Jz:FOk Tryz.prog 169 BE:=fk [] trivial Tryz.func169 (.t (.t (.two (.t (.loop [.s 4,.box 3 [(.num .i64),(.own 4 y4),(.own 70 y70)]] .no)) .no)))
theorem JA:FOk Tryz.prog 104 BF:=fk [(169,BE),(170,uC)] ⟨Jz,yC,trivial⟩ Tryz.func104 (.t (.t (.two (.t (.loop [.s 4,.box 3 [(.own 141 lP),(.own 126 zT)]] .no)) (.two (.t (.loop [.s 5,.box 3 [(.own 141 lP),(.own 126 zT)]] .no)) .no))))
theorem Cg:FOk Tryz.prog 44 vZ:=fk [(54,yq),(104,BF)] ⟨Eg,JA,trivial⟩ Tryz.func44 .no
theorem rC:FOk Tryz.prog 227 nW:=fk [] trivial Tryz.func227 (.t (.two (.t (.loop [.s 5] .no)) .no))
theorem C9:FOk Tryz.prog 226 ve:=fk [(33,gZ),(88,yo),(116,oe),(227,nW)] ⟨kj,Ee,qN,rC,trivial⟩ Tryz.func226 (.t (.t (.t (.two (.loop [.s 6] .no) .no))))
theorem Da:FOk Tryz.prog 228 vf:=fk [(33,gZ),(116,oe),(227,nW)] ⟨kj,qN,rC,trivial⟩ Tryz.func228 .no
theorem JB:FOk Tryz.prog 161 BG:=fk [(116,oe),(226,ve),(227,nW),(228,vf)] ⟨qN,C9,rC,Da,trivial⟩ Tryz.func161 (.t (.t (.two (.t (.loop [.s 7,.box 6 [(.own 3 y3),(.own 124 vT)]] (.t (.joinX [.box 6 [(.own 3 y3),(.own 124 vT)]] .no .no)))) .no)))
theorem Db:FOk Tryz.prog 117 vh:=fk [(33,gZ),(116,oe),(161,BG)] ⟨kj,qN,JB,trivial⟩ Tryz.func117 .no
theorem Ci:FOk Tryz.prog 55 tz:=fk [(18,eA),(50,iy),(54,yq),(117,vh)] ⟨gj,lJ,Eg,Db,trivial⟩ Tryz.func55 (.t (.t (.t (.t (.t (.t (.two (.t (.at [.box 6 [(.num .i64),(.own 73 y73)]] .no)) .no))))))) (an:=[(48,.bool)])
theorem Cj:FOk Tryz.prog 46 tC:=fk [(14,mb),(18,eA),(44,vZ),(55,tz),(106,nz)] ⟨qM,gj,Cg,Ci,sj,trivial⟩ Tryz.func46 .no
theorem yD:FOk Tryz.prog 10 qw:=fk [(14,mb),(18,eA),(44,vZ),(45,vY),(46,tC)] ⟨qM,gj,Cg,Cf,Cj,trivial⟩ Tryz.func10 (.t (.t (.t (.t (.t (.two (.t (.loop [.s 10,.s 11,.row 8 84 (.bag y84),.box 6 [(.num .i64),(.own 73 y73),(.own 141 lP),(.own 126 zT),(.own 93 y93),.str]] (.t (.two (.atX [.s 10,.row 8 84 (.bag y84),.box 6 [(.num .i64),(.own 73 y73),(.own 141 lP),(.own 126 zT),(.own 93 y93),.str]] .no) .no)))) .no))))))
end R
namespace R
open Go.RowKit
open D
theorem Eh:FOk Tryz.prog 248 yr:=fk [] trivial Tryz.func248 .no
theorem JC:FOk Tryz.prog 249 BH:=fk [] trivial Tryz.func249 .no
theorem JD:FOk Tryz.prog 194 BI:=fk [(248,yr),(249,BH)] ⟨Eh,JC,trivial⟩ Tryz.func194 .no
theorem H1:FOk Tryz.prog 125 zp:=fk [(194,BI)] ⟨JD,trivial⟩ Tryz.func125 (.t (.t (.t (.two (.t (.loop [.s 1,.s 5] .no)) .no))))
theorem Fw:FOk Tryz.prog 62 xe:=fk [(125,zp)] ⟨H1,trivial⟩ Tryz.func62 .no
theorem JE:FOk Tryz.prog 250 BJ:=fk [] trivial Tryz.func250 .no
theorem JF:FOk Tryz.prog 251 BK:=fk [(248,yr)] ⟨Eh,trivial⟩ Tryz.func251 (.t (.t (.t (.two (.t (.loop [.s 1,.s 5] .no)) .no))))
theorem Ck:FOk Tryz.prog 195 tD:=fk [(250,BJ),(251,BK)] ⟨JE,JF,trivial⟩ Tryz.func195 .no
theorem Aa:FOk Tryz.prog 126 rS:=fk [(195,tD)] ⟨Ck,trivial⟩ Tryz.func126 (.t (.t (.t (.two (.t (.loop [.s 1,.s 5] .no)) .no))))
theorem H2:FOk Tryz.prog 305 zq:=fk [] trivial Tryz.func305 .no
theorem MU:FOk Tryz.prog 252 D9:=fk [(305,zq)] ⟨H2,trivial⟩ Tryz.func252 .no
theorem Ab:FOk Tryz.prog 196 rT:=fk [(252,D9)] ⟨MU,trivial⟩ Tryz.func196 .no
theorem yE:FOk Tryz.prog 127 qx:=fk [(196,rT)] ⟨Ab,trivial⟩ Tryz.func127 (.t (.t (.t (.two (.t (.loop [.s 1,.s 5] .no)) .no))))
theorem Dc:FOk Tryz.prog 63 vi:=fk [(126,rS),(127,qx)] ⟨Aa,yE,trivial⟩ Tryz.func63 .no
theorem yF:FOk Tryz.prog 64 qy:=fk [] trivial Tryz.func64 .no
theorem H3:FOk Tryz.prog 19 zr:=fk [(62,xe),(63,vi),(64,qy)] ⟨Fw,Dc,yF,trivial⟩ Tryz.func19 .no
theorem Ei:FOk Tryz.prog 253 yt:=fk [] trivial Tryz.func253 (.t (.t (.two (.t (.loop [.row 3 3 y3,.s 4] .no)) .no)))
end R
namespace R
open Go.RowKit
open D
theorem MV:FOk Tryz.prog 306 Ea:=fk [] trivial Tryz.func306 .no
theorem JG:FOk Tryz.prog 254 BL:=fk [(306,Ea)] ⟨MV,trivial⟩ Tryz.func254 (.t (.t (.two (.t (.loop [.row 3 124 vT,.s 4] .no)) .no)))
theorem JH:FOk Tryz.prog 197 BM:=fk [(253,yt),(254,BL)] ⟨Ei,JG,trivial⟩ Tryz.func197 .no
theorem H4:FOk Tryz.prog 128 zt:=fk [(197,BM)] ⟨JH,trivial⟩ Tryz.func128 (.t (.t (.two (.t (.loop [.row 3 73 y73,.s 4] .no)) .no)))
theorem Fx:FOk Tryz.prog 65 xf:=fk [(128,zt)] ⟨H4,trivial⟩ Tryz.func65 .no
theorem JI:FOk Tryz.prog 255 BN:=fk [] trivial Tryz.func255 (.t (.t (.two (.t (.loop [.row 3 4 y4,.s 4] .no)) .no)))
theorem JJ:FOk Tryz.prog 256 BO:=fk [(253,yt)] ⟨Ei,trivial⟩ Tryz.func256 (.t (.t (.two (.t (.loop [.row 3 70 y70,.s 4] .no)) .no)))
theorem Cl:FOk Tryz.prog 198 tE:=fk [(255,BN),(256,BO)] ⟨JI,JJ,trivial⟩ Tryz.func198 .no
theorem Ac:FOk Tryz.prog 129 rU:=fk [(198,tE)] ⟨Cl,trivial⟩ Tryz.func129 (.t (.t (.two (.t (.loop [.row 3 141 lP,.s 4] .no)) .no)))
theorem JK:FOk Tryz.prog 354 BP:=fk [] trivial Tryz.func354 .no
theorem H5:FOk Tryz.prog 307 zu:=fk [(354,BP)] ⟨JK,trivial⟩ Tryz.func307 (.t (.t (.two (.t (.loop [.row 3 172 zh,.s 4] .no)) .no)))
theorem MW:FOk Tryz.prog 257 Eb:=fk [(307,zu)] ⟨H5,trivial⟩ Tryz.func257 .no
theorem Ad:FOk Tryz.prog 199 rV:=fk [(257,Eb)] ⟨MW,trivial⟩ Tryz.func199 .no
theorem yG:FOk Tryz.prog 130 qz:=fk [(199,rV)] ⟨Ad,trivial⟩ Tryz.func130 (.t (.t (.two (.t (.loop [.row 3 126 zT,.s 4] .no)) .no)))
theorem Dd:FOk Tryz.prog 66 vj:=fk [(129,rU),(130,qz)] ⟨Ac,yG,trivial⟩ Tryz.func66 .no
theorem Ae:FOk Tryz.prog 131 rW:=fk [] trivial Tryz.func131 .no
theorem yH:FOk Tryz.prog 67 qA:=fk [(131,rW)] ⟨Ae,trivial⟩ Tryz.func67 (.t (.t (.two (.t (.loop [.row 3 93 y93,.s 4] .no)) .no)))
end R
namespace R
open Go.RowKit
open D
theorem H6:FOk Tryz.prog 20 zw:=fk [(65,xf),(66,vj),(67,qA)] ⟨Fx,Dd,yH,trivial⟩ Tryz.func20 .no
theorem Ej:FOk Tryz.prog 258 yu:=fk [] trivial Tryz.func258 (.t (.t (.two (.t (.loop [.s 5] .no)) .no)))
theorem MX:FOk Tryz.prog 308 Ec:=fk [] trivial Tryz.func308 .no
theorem JL:FOk Tryz.prog 259 BQ:=fk [(308,Ec)] ⟨MX,trivial⟩ Tryz.func259 (.t (.t (.two (.t (.loop [.s 5] .no)) .no)))
theorem JM:FOk Tryz.prog 200 BR:=fk [(258,yu),(259,BQ)] ⟨Ej,JL,trivial⟩ Tryz.func200 .no
theorem H7:FOk Tryz.prog 132 zx:=fk [(200,BR)] ⟨JM,trivial⟩ Tryz.func132 (.t (.t (.two (.t (.loop [.s 5] .no)) .no)))
theorem Fy:FOk Tryz.prog 68 xg:=fk [(132,zx)] ⟨H7,trivial⟩ Tryz.func68 .no
theorem JN:FOk Tryz.prog 260 BS:=fk [] trivial Tryz.func260 (.t (.t (.two (.t (.loop [.s 5] .no)) .no)))
theorem JO:FOk Tryz.prog 261 BT:=fk [(258,yu)] ⟨Ej,trivial⟩ Tryz.func261 (.t (.t (.two (.t (.loop [.s 5] .no)) .no)))
theorem Cm:FOk Tryz.prog 201 tF:=fk [(260,BS),(261,BT)] ⟨JN,JO,trivial⟩ Tryz.func201 .no
theorem Af:FOk Tryz.prog 133 rX:=fk [(201,tF)] ⟨Cm,trivial⟩ Tryz.func133 (.t (.t (.two (.t (.loop [.s 5] .no)) .no)))
theorem JP:FOk Tryz.prog 355 BU:=fk [] trivial Tryz.func355 .no
theorem H8:FOk Tryz.prog 309 zy:=fk [(355,BU)] ⟨JP,trivial⟩ Tryz.func309 (.t (.t (.two (.t (.loop [.s 5] .no)) .no)))
theorem MY:FOk Tryz.prog 262 Ed:=fk [(309,zy)] ⟨H8,trivial⟩ Tryz.func262 .no
theorem Ag:FOk Tryz.prog 202 rY:=fk [(262,Ed)] ⟨MY,trivial⟩ Tryz.func202 .no
theorem yI:FOk Tryz.prog 134 qB:=fk [(202,rY)] ⟨Ag,trivial⟩ Tryz.func134 (.t (.t (.two (.t (.loop [.s 5] .no)) .no)))
theorem De:FOk Tryz.prog 69 vk:=fk [(133,rX),(134,qB)] ⟨Af,yI,trivial⟩ Tryz.func69 .no
end R
namespace R
open Go.RowKit
open D
theorem Ah:FOk Tryz.prog 135 rZ:=fk [] trivial Tryz.func135 .no
theorem yJ:FOk Tryz.prog 70 qC:=fk [(135,rZ)] ⟨Ah,trivial⟩ Tryz.func70 (.t (.t (.two (.t (.loop [.s 5] .no)) .no)))
theorem H9:FOk Tryz.prog 21 zz:=fk [(68,xg),(69,vk),(70,qC)] ⟨Fy,De,yJ,trivial⟩ Tryz.func21 .no
theorem zJ:FOk Tryz.prog 211 tG:=fk [] trivial Tryz.func211 (.t (.two (.t (.loop [.par 0 [] 3 y3,.s 1,.s 5] .no)) .no))
theorem Fz:FOk Tryz.prog 212 xh:=fk [] trivial Tryz.func212 (.t (.two (.t (.loop [.par 0 [] 124 vT,.s 1,.s 5] .no)) .no))
theorem Df:FOk Tryz.prog 149 vl:=fk [(211,tG),(212,xh)] ⟨zJ,Fz,trivial⟩ Tryz.func149 (.t (.two (.t (.loop [.par 0 [] 73 y73,.s 1,.s 5] .no)) .no))
theorem Cn:FOk Tryz.prog 89 tH:=fk [(149,vl)] ⟨Df,trivial⟩ Tryz.func89 .no
theorem FA:FOk Tryz.prog 213 xi:=fk [] trivial Tryz.func213 (.t (.two (.t (.loop [.par 0 [] 4 y4,.s 1,.s 5] .no)) .no))
theorem FC:FOk Tryz.prog 214 xj:=fk [(211,tG)] ⟨zJ,trivial⟩ Tryz.func214 (.t (.two (.t (.loop [.par 0 [] 70 y70,.s 1,.s 5] .no)) .no))
theorem xw:FOk Tryz.prog 150 pO:=fk [(213,xi),(214,xj)] ⟨FA,FC,trivial⟩ Tryz.func150 (.t (.two (.t (.loop [.par 0 [] 141 lP,.s 1,.s 5] .no)) .no))
theorem Dg:FOk Tryz.prog 215 vm:=fk [] trivial Tryz.func215 (.t (.two (.t (.loop [.par 0 [] 172 zh,.s 1,.s 5] .no)) .no))
theorem wm:FOk Tryz.prog 151 oX:=fk [(215,vm)] ⟨Dg,trivial⟩ Tryz.func151 (.t (.two (.t (.loop [.par 0 [] 126 zT,.s 1,.s 5] .no)) .no))
theorem Ai:FOk Tryz.prog 90 sb:=fk [(150,pO),(151,oX)] ⟨xw,wm,trivial⟩ Tryz.func90 .no
theorem wo:FOk Tryz.prog 91 oY:=fk [] trivial Tryz.func91 (.t (.two (.t (.loop [.par 0 [] 93 y93,.s 1,.s 5] .no)) .no))
theorem Dh:FOk Tryz.prog 35 vn:=fk [(89,tH),(90,sb),(91,oY)] ⟨Cn,Ai,wo,trivial⟩ Tryz.func35 .no
theorem zK:FOk Tryz.prog 216 tI:=fk [] trivial Tryz.func216 (.t (.two (.t (.loop [.s 1,.s 5] .no)) .no))
theorem FD:FOk Tryz.prog 217 xk:=fk [] trivial Tryz.func217 (.t (.two (.t (.loop [.s 1,.s 5] .no)) .no))
end R
end Go.Proofs.YtodbpnpbhpeepaaGreatDoor
