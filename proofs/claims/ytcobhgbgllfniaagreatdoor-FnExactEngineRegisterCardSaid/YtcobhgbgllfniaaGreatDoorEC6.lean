/- FnExactEngineRegister: for every input the law returns true and changes nothing that was there. Part 7 of 9. -/
import Derived.Test.YtcobhgbgllfniaaGreatDoorEC5
set_option linter.unusedVariables false
set_option linter.unusedSimpArgs false
set_option linter.unnecessarySimpa false
set_option linter.unusedSectionVars false
set_option maxRecDepth 1000000
namespace Go.Proofs.YtcobhgbgllfniaaGreatDoor
namespace D
open Go.RowKit
abbrev Yq4:Type:=(Int×Int×Int×Int)
abbrev Yq1:Type:=(List Yq4)
abbrev Yq2:Type:=(Int×(List Bool)×(List (List Int)))
abbrev Yq9:Type:=(Int×(Yq1)×Int)
abbrev Yq3:Type:=(List Yq9)
abbrev EZ:Type:=((List Int)×Yq1)
abbrev Yq5:Type:=(List EZ)
abbrev Yq6:Type:=(Bool×Int×Int×Int×Int)
abbrev Yq7:Type:=((List Yq2)×Yq3)
abbrev E3:Type:=(Int×Int×Int)
abbrev Yq8:Type:=(List E3)
abbrev PW:Type:=((List Int)×Int×Int×(List Int)×Bool)
abbrev zp:Type:=(Out Int (Int×Int))
abbrev PX:Type:=(Int×(List Yq2)×Yq3)
abbrev WC:Type:=((Int×Yq5)×Yq7×Yq8×ByteArray)
def sS (p0a:List Int) (p1left:Int):Option Int:=
 if decide (IntKind.i64.wrap (p1left - (p0a.length:Int))<0) then (some (-1)) else (some (IntKind.i64.wrap (p1left - (p0a.length:Int))))
def ur (p0a:List Yq4) (p1left:Int):Option Int:=
 if decide (IntKind.i64.wrap (p1left - (p0a.length:Int))<0) then (some (-1)) else (some (IntKind.i64.wrap (p1left - (p0a.length:Int))))
def qc (p0a:(List Int)×Yq1) (p1left:Int):Option Int:=
 (sS p0a.1 p1left).bind fun r1=>if decide (r1<0) then (some (-1)) else ((ur p0a.2 r1).bind fun r2=>if decide (r2<0) then (some (-1)) else (some r2))
def kp (p0a:List EZ) (s3:Int×Int):Option zp:=
 if decide (s3.2<(p0a.length:Int)) then ((aQ p0a s3.2).bind fun x3=>(qc (x3.1,x3.2) s3.1).bind fun r9=>if decide (r9<0) then (some (.ret (-1))) else (some (.nxt (r9,IntKind.i64.wrap (s3.2+1))))) else (some (.brk (s3.1,s3.2)))
def rJ (p0a:List EZ) (p1left:Int):Option Int:=
 if decide (IntKind.i64.wrap (p1left - (p0a.length:Int))<0) then (some (-1)) else (aP (az (kp p0a) aW (IntKind.i64.wrap (p1left - (p0a.length:Int)),0)) (fun r=>some r) (fun s4=>some s4.1))
def mK (p0a:Int×Yq5) (p1left:Int):Option Int:=
 (rJ p0a.2 p1left).bind fun r1=>if decide (r1<0) then (some (-1)) else (some r1)
def uu (p0a:List Bool) (p1left:Int):Option Int:=
 if decide (IntKind.i64.wrap (p1left - (p0a.length:Int))<0) then (some (-1)) else (some (IntKind.i64.wrap (p1left - (p0a.length:Int))))
def lC (p0a:List (List Int)) (s3:Int×Int):Option zp:=
 if decide (s3.2<(p0a.length:Int)) then ((aQ p0a s3.2).bind fun x3=>(sS x3 s3.1).bind fun r6=>if decide (r6<0) then (some (.ret (-1))) else (some (.nxt (r6,IntKind.i64.wrap (s3.2+1))))) else (some (.brk (s3.1,s3.2)))
def uv (p0a:List (List Int)) (p1left:Int):Option Int:=
 if decide (IntKind.i64.wrap (p1left - (p0a.length:Int))<0) then (some (-1)) else (aP (az (lC p0a) aW (IntKind.i64.wrap (p1left - (p0a.length:Int)),0)) (fun r=>some r) (fun s4=>some s4.1))
def kq (p0a:Int×(List Bool)×(List (List Int))) (p1left:Int):Option Int:=
 (uu p0a.2.1 p1left).bind fun r1=>if decide (r1<0) then (some (-1)) else ((uv p0a.2.2 r1).bind fun r2=>if decide (r2<0) then (some (-1)) else (some r2))
def fU (p0a:List Yq2) (s3:Int×Int):Option zp:=
 if decide (s3.2<(p0a.length:Int)) then ((aQ p0a s3.2).bind fun x3=>(kq (x3.1,x3.2.1,x3.2.2) s3.1).bind fun r9=>if decide (r9<0) then (some (.ret (-1))) else (some (.nxt (r9,IntKind.i64.wrap (s3.2+1))))) else (some (.brk (s3.1,s3.2)))
def mu (p0a:List Yq2) (p1left:Int):Option Int:=
 if decide (IntKind.i64.wrap (p1left - (p0a.length:Int))<0) then (some (-1)) else (aP (az (fU p0a) aW (IntKind.i64.wrap (p1left - (p0a.length:Int)),0)) (fun r=>some r) (fun s4=>some s4.1))
def rK (p0a:List Yq4) (p1left:Int):Option Int:=
 if decide (IntKind.i64.wrap (p1left - (p0a.length:Int))<0) then (some (-1)) else (some (IntKind.i64.wrap (p1left - (p0a.length:Int))))
def pg (p0a:Yq1) (p1left:Int):Option Int:=
 (rK p0a p1left).bind fun r1=>if decide (r1<0) then (some (-1)) else (some r1)
def jn (p0a:Int×(Yq1)×Int) (p1left:Int):Option Int:=
 (pg p0a.2.1 p1left).bind fun r1=>if decide (r1<0) then (some (-1)) else (some r1)
def fl (p0a:List Yq9) (s3:Int×Int):Option zp:=
 if decide (s3.2<(p0a.length:Int)) then ((aQ p0a s3.2).bind fun x3=>(jn (x3.1,x3.2.1,x3.2.2) s3.1).bind fun r6=>if decide (r6<0) then (some (.ret (-1))) else (some (.nxt (r6,IntKind.i64.wrap (s3.2+1))))) else (some (.brk (s3.1,s3.2)))
def k7 (p0a:List Yq9) (p1left:Int):Option Int:=
 if decide (IntKind.i64.wrap (p1left - (p0a.length:Int))<0) then (some (-1)) else (aP (az (fl p0a) aW (IntKind.i64.wrap (p1left - (p0a.length:Int)),0)) (fun r=>some r) (fun s4=>some s4.1))
def lD (p0a:(List Yq2)×Yq3) (p1left:Int):Option Int:=
 (mu p0a.1 p1left).bind fun r1=>if decide (r1<0) then (some (-1)) else ((k7 p0a.2 r1).bind fun r2=>if decide (r2<0) then (some (-1)) else (some r2))
def k8 (p0a:List E3) (p1left:Int):Option Int:=
 if decide (IntKind.i64.wrap (p1left - (p0a.length:Int))<0) then (some (-1)) else (some (IntKind.i64.wrap (p1left - (p0a.length:Int))))
def om (p0a:(Int×Yq5)×Yq7×Yq8×ByteArray) (p1left:Int):Option Int:=
 (mK (p0a.1.1,p0a.1.2) p1left).bind fun r1=>if decide (r1<0) then (some (-1)) else ((lD (p0a.2.1.1,p0a.2.1.2) r1).bind fun r2=>if decide (r2<0) then (some (-1)) else ((k8 p0a.2.2.1 r2).bind fun r3=>if decide (r3<0) then (some (-1)) else (if decide (IntKind.i64.wrap (r3 - (p0a.2.2.2.size:Int))<0) then (some (-1)) else (some (IntKind.i64.wrap (r3 - (p0a.2.2.2.size:Int)))))))
def mL (p0a:List Int) (s3:(List Int)×Int):Option (Out (List Int) ((List Int)×Int)):=
 if decide (s3.2<(p0a.length:Int)) then ((aQ p0a s3.2).bind fun x6=>(aQ s3.1 s3.2).bind fun x7=>some (.nxt (s3.1.set s3.2.toNat x6,IntKind.i64.wrap (s3.2+1)))) else (some (.brk (s3.1,s3.2)))
def ph (p0a:List Int):Option (List Int):=
 (mkI 8 (p0a.length:Int) (0:Int)).bind fun x1=>aP (az (mL p0a) aW (x1,0)) (fun r=>some r) (fun s4=>some s4.1)
def sU (p0a:Int×Int×Int×Int):Option Yq4:=
 some (p0a.1,p0a.2.1,p0a.2.2.1,p0a.2.2.2)
def lE (p0a:List Yq4) (s3:Yq1×Int):Option (Out Yq1 (Yq1×Int)):=
 if decide (s3.2<(p0a.length:Int)) then ((aQ p0a s3.2).bind fun x6=>(sU (x6.1,x6.2.1,x6.2.2.1,x6.2.2.2)).bind fun r3=>(aQ s3.1 s3.2).bind fun x7=>some (.nxt (s3.1.set s3.2.toNat (r3.1,r3.2.1,r3.2.2.1,r3.2.2.2),IntKind.i64.wrap (s3.2+1)))) else (some (.brk (s3.1,s3.2)))
def qd (p0a:List Yq4):Option Yq1:=
 (mkI 32 (p0a.length:Int) ((0,0,0,0):Int×Int×Int×Int)).bind fun x1=>aP (az (lE p0a) aW (x1,0)) (fun r=>some r) (fun s4=>some s4.1)
def qe (p0a:(List Int)×Yq1):Option EZ:=
 (ph p0a.1).bind fun r1=>(qd p0a.2).bind fun r2=>some (r1,r2)
def kt (p0a:List EZ) (s3:Yq5×Int):Option (Out Yq5 (Yq5×Int)):=
 if decide (s3.2<(p0a.length:Int)) then ((aQ p0a s3.2).bind fun x6=>(qe (x6.1,x6.2)).bind fun r9=>(aQ s3.1 s3.2).bind fun x7=>some (.nxt (s3.1.set s3.2.toNat (r9.1,r9.2),IntKind.i64.wrap (s3.2+1)))) else (some (.brk (s3.1,s3.2)))
def oo (p0a:List EZ):Option Yq5:=
 (mkI 48 (p0a.length:Int) (([],[]):(List Int)×Yq1)).bind fun x1=>aP (az (kt p0a) aW (x1,0)) (fun r=>some r) (fun s4=>some s4.1)
def mM (p0a:Int×Yq5):Option (Int×Yq5):=
 (oo p0a.2).bind fun r1=>some (p0a.1,r1)
def lF (p0a:List Bool) (s3:(List Bool)×Int):Option (Out (List Bool) ((List Bool)×Int)):=
 if decide (s3.2<(p0a.length:Int)) then ((aQ p0a s3.2).bind fun x6=>(aQ s3.1 s3.2).bind fun x7=>some (.nxt (s3.1.set s3.2.toNat x6,IntKind.i64.wrap (s3.2+1)))) else (some (.brk (s3.1,s3.2)))
def qf (p0a:List Bool):Option (List Bool):=
 (mkI 1 (p0a.length:Int) (false:Bool)).bind fun x1=>aP (az (lF p0a) aW (x1,0)) (fun r=>some r) (fun s4=>some s4.1)
def lG (p0a:List (List Int)) (s3:(List (List Int))×Int):Option (Out (List (List Int)) ((List (List Int))×Int)):=
 if decide (s3.2<(p0a.length:Int)) then ((aQ p0a s3.2).bind fun x6=>(ph x6).bind fun r6=>(aQ s3.1 s3.2).bind fun x7=>some (.nxt (s3.1.set s3.2.toNat r6,IntKind.i64.wrap (s3.2+1)))) else (some (.brk (s3.1,s3.2)))
def qg (p0a:List (List Int)):Option (List (List Int)):=
 (mkI 24 (p0a.length:Int) ([] :List Int)).bind fun x1=>aP (az (lG p0a) aW (x1,0)) (fun r=>some r) (fun s4=>some s4.1)
def ku (p0a:Int×(List Bool)×(List (List Int))):Option Yq2:=
 (qf p0a.2.1).bind fun r1=>(qg p0a.2.2).bind fun r2=>some (p0a.1,r1,r2)
def fV (p0a:List Yq2) (s3:(List Yq2)×Int):Option (Out (List Yq2) ((List Yq2)×Int)):=
 if decide (s3.2<(p0a.length:Int)) then ((aQ p0a s3.2).bind fun x6=>(ku (x6.1,x6.2.1,x6.2.2)).bind fun r9=>(aQ s3.1 s3.2).bind fun x7=>some (.nxt (s3.1.set s3.2.toNat (r9.1,r9.2.1,r9.2.2),IntKind.i64.wrap (s3.2+1)))) else (some (.brk (s3.1,s3.2)))
def jo (p0a:List Yq2):Option (List Yq2):=
 (mkI 56 (p0a.length:Int) ((0,[],[]):Int×(List Bool)×(List (List Int)))).bind fun x1=>aP (az (fV p0a) aW (x1,0)) (fun r=>some r) (fun s4=>some s4.1)
def qi (p0a:Int×Int×Int×Int):Option Yq4:=
 some (p0a.1,p0a.2.1,p0a.2.2.1,p0a.2.2.2)
def ky (p0a:List Yq4) (s3:Yq1×Int):Option (Out Yq1 (Yq1×Int)):=
 if decide (s3.2<(p0a.length:Int)) then ((aQ p0a s3.2).bind fun x6=>(qi (x6.1,x6.2.1,x6.2.2.1,x6.2.2.2)).bind fun r3=>(aQ s3.1 s3.2).bind fun x7=>some (.nxt (s3.1.set s3.2.toNat (r3.1,r3.2.1,r3.2.2.1,r3.2.2.2),IntKind.i64.wrap (s3.2+1)))) else (some (.brk (s3.1,s3.2)))
def oq (p0a:List Yq4):Option Yq1:=
 (mkI 32 (p0a.length:Int) ((0,0,0,0):Int×Int×Int×Int)).bind fun x1=>aP (az (ky p0a) aW (x1,0)) (fun r=>some r) (fun s4=>some s4.1)
def jT (p0a:Yq1):Option Yq1:=
 (oq p0a).bind fun r1=>some r1
def jq (p0a:Int×(Yq1)×Int):Option Yq9:=
 (jT p0a.2.1).bind fun r1=>some (p0a.1,r1,p0a.2.2)
def fm (p0a:List Yq9) (s3:Yq3×Int):Option (Out Yq3 (Yq3×Int)):=
 if decide (s3.2<(p0a.length:Int)) then ((aQ p0a s3.2).bind fun x6=>(jq (x6.1,x6.2.1,x6.2.2)).bind fun r6=>(aQ s3.1 s3.2).bind fun x7=>some (.nxt (s3.1.set s3.2.toNat (r6.1,r6.2.1,r6.2.2),IntKind.i64.wrap (s3.2+1)))) else (some (.brk (s3.1,s3.2)))
def iB (p0a:List Yq9):Option Yq3:=
 (mkI 40 (p0a.length:Int) ((0,[],0):Int×(Yq1)×Int)).bind fun x1=>aP (az (fm p0a) aW (x1,0)) (fun r=>some r) (fun s4=>some s4.1)
def lH (p0a:(List Yq2)×Yq3):Option Yq7:=
 (jo p0a.1).bind fun r1=>(iB p0a.2).bind fun r2=>some (r1,r2)
def jr (p0a:Int×Int×Int):Option E3:=
 some (p0a.1,p0a.2.1,p0a.2.2)
def fo (p0a:List E3) (s3:Yq8×Int):Option (Out Yq8 (Yq8×Int)):=
 if decide (s3.2<(p0a.length:Int)) then ((aQ p0a s3.2).bind fun x6=>(jr (x6.1,x6.2.1,x6.2.2)).bind fun r3=>(aQ s3.1 s3.2).bind fun x7=>some (.nxt (s3.1.set s3.2.toNat (r3.1,r3.2.1,r3.2.2),IntKind.i64.wrap (s3.2+1)))) else (some (.brk (s3.1,s3.2)))
def iC (p0a:List E3):Option Yq8:=
 (mkI 24 (p0a.length:Int) ((0,0,0):Int×Int×Int)).bind fun x1=>aP (az (fo p0a) aW (x1,0)) (fun r=>some r) (fun s4=>some s4.1)
def gW (p0a:(Int×Yq5)×Yq7×Yq8×ByteArray):Option WC:=
 (mM (p0a.1.1,p0a.1.2)).bind fun r1=>(lH (p0a.2.1.1,p0a.2.1.2)).bind fun r2=>(iC p0a.2.2.1).bind fun r3=>some ((r1.1,r1.2),(r2.1,r2.2),r3,p0a.2.2.2)
def mN (p0a:List Int) (p1b:List Int) (s3:Int):Option (Out Bool Int):=
 if decide (s3<(p0a.length:Int)) then ((aQ p0a s3).bind fun x5=>(aQ p1b s3).bind fun x6=>if x5 !=x6 then (some (.ret false)) else (some (.nxt (IntKind.i64.wrap (s3+1))))) else (some (.brk s3))
def sV (p0a:List Int) (p1b:List Int):Option Bool:=
 if (p0a.length:Int) !=(p1b.length:Int) then (some false) else (aP (az (mN p0a p1b) aW 0) (fun r=>some r) (fun s4=>some true))
def sW (p0a:Int×Int×Int×Int) (p1b:Int×Int×Int×Int):Option Bool:=
 if p0a.1 !=p1b.1 then (some false) else (if p0a.2.1 !=p1b.2.1 then (some false) else (if p0a.2.2.1 !=p1b.2.2.1 then (some false) else (if p0a.2.2.2 !=p1b.2.2.2 then (some false) else (some true))))
def lI (p0a:List Yq4) (p1b:List Yq4) (s3:Int):Option (Out Bool Int):=
 if decide (s3<(p0a.length:Int)) then ((aQ p0a s3).bind fun x5=>(aQ p1b s3).bind fun x6=>(sW (x5.1,x5.2.1,x5.2.2.1,x5.2.2.2) (x6.1,x6.2.1,x6.2.2.1,x6.2.2.2)).bind fun r3=>if r3 then (some (.nxt (IntKind.i64.wrap (s3+1)))) else (some (.ret false))) else (some (.brk s3))
def uw (p0a:List Yq4) (p1b:List Yq4):Option Bool:=
 if (p0a.length:Int) !=(p1b.length:Int) then (some false) else (aP (az (lI p0a p1b) aW 0) (fun r=>some r) (fun s4=>some true))
def qj (p0a:(List Int)×Yq1) (p1b:(List Int)×Yq1):Option Bool:=
 (sV p0a.1 p1b.1).bind fun r1=>if r1 then ((uw p0a.2 p1b.2).bind fun r2=>if r2 then (some true) else (some false)) else (some false)
def kz (p0a:List EZ) (p1b:List EZ) (s3:Int):Option (Out Bool Int):=
 if decide (s3<(p0a.length:Int)) then ((aQ p0a s3).bind fun x5=>(aQ p1b s3).bind fun x6=>(qj (x5.1,x5.2) (x6.1,x6.2)).bind fun r15=>if r15 then (some (.nxt (IntKind.i64.wrap (s3+1)))) else (some (.ret false))) else (some (.brk s3))
def rL (p0a:List EZ) (p1b:List EZ):Option Bool:=
 if (p0a.length:Int) !=(p1b.length:Int) then (some false) else (aP (az (kz p0a p1b) aW 0) (fun r=>some r) (fun s4=>some true))
def mO (p0a:Int×Yq5) (p1b:Int×Yq5):Option Bool:=
 if p0a.1 !=p1b.1 then (some false) else ((rL p0a.2 p1b.2).bind fun r1=>if r1 then (some true) else (some false))
def lJ (p0a:List Bool) (p1b:List Bool) (s3:Int):Option (Out Bool Int):=
 if decide (s3<(p0a.length:Int)) then ((aQ p0a s3).bind fun x5=>(aQ p1b s3).bind fun x6=>if x5 !=x6 then (some (.ret false)) else (some (.nxt (IntKind.i64.wrap (s3+1))))) else (some (.brk s3))
def uy (p0a:List Bool) (p1b:List Bool):Option Bool:=
 if (p0a.length:Int) !=(p1b.length:Int) then (some false) else (aP (az (lJ p0a p1b) aW 0) (fun r=>some r) (fun s4=>some true))
def lK (p0a:List (List Int)) (p1b:List (List Int)) (s3:Int):Option (Out Bool Int):=
 if decide (s3<(p0a.length:Int)) then ((aQ p0a s3).bind fun x5=>(aQ p1b s3).bind fun x6=>(sV x5 x6).bind fun r9=>if r9 then (some (.nxt (IntKind.i64.wrap (s3+1)))) else (some (.ret false))) else (some (.brk s3))
def uz (p0a:List (List Int)) (p1b:List (List Int)):Option Bool:=
 if (p0a.length:Int) !=(p1b.length:Int) then (some false) else (aP (az (lK p0a p1b) aW 0) (fun r=>some r) (fun s4=>some true))
def kA (p0a:Int×(List Bool)×(List (List Int))) (p1b:Int×(List Bool)×(List (List Int))):Option Bool:=
 if p0a.1 !=p1b.1 then (some false) else ((uy p0a.2.1 p1b.2.1).bind fun r1=>if r1 then ((uz p0a.2.2 p1b.2.2).bind fun r2=>if r2 then (some true) else (some false)) else (some false))
def fW (p0a:List Yq2) (p1b:List Yq2) (s3:Int):Option (Out Bool Int):=
 if decide (s3<(p0a.length:Int)) then ((aQ p0a s3).bind fun x5=>(aQ p1b s3).bind fun x6=>(kA (x5.1,x5.2.1,x5.2.2) (x6.1,x6.2.1,x6.2.2)).bind fun r15=>if r15 then (some (.nxt (IntKind.i64.wrap (s3+1)))) else (some (.ret false))) else (some (.brk s3))
def mw (p0a:List Yq2) (p1b:List Yq2):Option Bool:=
 if (p0a.length:Int) !=(p1b.length:Int) then (some false) else (aP (az (fW p0a p1b) aW 0) (fun r=>some r) (fun s4=>some true))
def qk (p0a:Int×Int×Int×Int) (p1b:Int×Int×Int×Int):Option Bool:=
 if p0a.1 !=p1b.1 then (some false) else (if p0a.2.1 !=p1b.2.1 then (some false) else (if p0a.2.2.1 !=p1b.2.2.1 then (some false) else (if p0a.2.2.2 !=p1b.2.2.2 then (some false) else (some true))))
def kB (p0a:List Yq4) (p1b:List Yq4) (s3:Int):Option (Out Bool Int):=
 if decide (s3<(p0a.length:Int)) then ((aQ p0a s3).bind fun x5=>(aQ p1b s3).bind fun x6=>(qk (x5.1,x5.2.1,x5.2.2.1,x5.2.2.2) (x6.1,x6.2.1,x6.2.2.1,x6.2.2.2)).bind fun r3=>if r3 then (some (.nxt (IntKind.i64.wrap (s3+1)))) else (some (.ret false))) else (some (.brk s3))
def rM (p0a:List Yq4) (p1b:List Yq4):Option Bool:=
 if (p0a.length:Int) !=(p1b.length:Int) then (some false) else (aP (az (kB p0a p1b) aW 0) (fun r=>some r) (fun s4=>some true))
def pj (p0a:Yq1) (p1b:Yq1):Option Bool:=
 (rM p0a p1b).bind fun r1=>if r1 then (some true) else (some false)
def jt (p0a:Int×(Yq1)×Int) (p1b:Int×(Yq1)×Int):Option Bool:=
 if p0a.1 !=p1b.1 then (some false) else ((pj p0a.2.1 p1b.2.1).bind fun r1=>if r1 then (if p0a.2.2 !=p1b.2.2 then (some false) else (some true)) else (some false))
def fp (p0a:List Yq9) (p1b:List Yq9) (s3:Int):Option (Out Bool Int):=
 if decide (s3<(p0a.length:Int)) then ((aQ p0a s3).bind fun x5=>(aQ p1b s3).bind fun x6=>(jt (x5.1,x5.2.1,x5.2.2) (x6.1,x6.2.1,x6.2.2)).bind fun r9=>if r9 then (some (.nxt (IntKind.i64.wrap (s3+1)))) else (some (.ret false))) else (some (.brk s3))
def k9 (p0a:List Yq9) (p1b:List Yq9):Option Bool:=
 if (p0a.length:Int) !=(p1b.length:Int) then (some false) else (aP (az (fp p0a p1b) aW 0) (fun r=>some r) (fun s4=>some true))
def lL (p0a:(List Yq2)×Yq3) (p1b:(List Yq2)×Yq3):Option Bool:=
 (mw p0a.1 p1b.1).bind fun r1=>if r1 then ((k9 p0a.2 p1b.2).bind fun r2=>if r2 then (some true) else (some false)) else (some false)
def ju (p0a:Int×Int×Int) (p1b:Int×Int×Int):Option Bool:=
 if p0a.1 !=p1b.1 then (some false) else (if p0a.2.1 !=p1b.2.1 then (some false) else (if p0a.2.2 !=p1b.2.2 then (some false) else (some true)))
def fq (p0a:List E3) (p1b:List E3) (s3:Int):Option (Out Bool Int):=
 if decide (s3<(p0a.length:Int)) then ((aQ p0a s3).bind fun x5=>(aQ p1b s3).bind fun x6=>(ju (x5.1,x5.2.1,x5.2.2) (x6.1,x6.2.1,x6.2.2)).bind fun r3=>if r3 then (some (.nxt (IntKind.i64.wrap (s3+1)))) else (some (.ret false))) else (some (.brk s3))
def ld (p0a:List E3) (p1b:List E3):Option Bool:=
 if (p0a.length:Int) !=(p1b.length:Int) then (some false) else (aP (az (fq p0a p1b) aW 0) (fun r=>some r) (fun s4=>some true))
def gX (p0a:(Int×Yq5)×Yq7×Yq8×ByteArray) (p1b:(Int×Yq5)×Yq7×Yq8×ByteArray):Option Bool:=
 (mO (p0a.1.1,p0a.1.2) (p1b.1.1,p1b.1.2)).bind fun r1=>if r1 then ((lL (p0a.2.1.1,p0a.2.1.2) (p1b.2.1.1,p1b.2.1.2)).bind fun r2=>if r2 then ((ld p0a.2.2.1 p1b.2.2.1).bind fun r3=>if r3 then (if p0a.2.2.2 !=p1b.2.2.2 then (some false) else (some true)) else (some false)) else (some false)) else (some false)
def cN (p0x:Int) (p1low:Int) (p2high:Int):Option Bool:=
 if decide (p0x≥p1low) then (some (decide (p0x<=p2high))) else (some false)
def CH (p0g:(List Int)×Yq1) (p1e:Int×Int×Int×Int):Option Bool:=
 (cN p1e.1 1 99).bind fun r1=>if r1 then ((cN p1e.2.1 0 (IntKind.i64.wrap ((p0g.1.length:Int) - 1))).bind fun r2=>if r2 then ((cN p1e.2.2.1 0 (IntKind.i64.wrap ((p0g.1.length:Int) - 1))).bind fun r3=>if r3 then ((cN p1e.2.2.2 0 2).bind fun r4=>some r4) else (some false)) else (some false)) else (some false)
def nB (p0g:(List Int)×Yq1) (s3:Int):Option (Out Bool Int):=
 if decide (s3<(p0g.1.length:Int)) then ((aQ p0g.1 s3).bind fun x3=>(cN x3 0 2).bind fun r3=>if r3 then (some (.nxt (IntKind.i64.wrap (s3+1)))) else (some (.ret false))) else (some (.brk s3))
def jN (p0g:(List Int)×Yq1) (s7:Int):Option (Out Bool Int):=
 if decide (s7<(p0g.2.length:Int)) then ((aQ p0g.2 s7).bind fun x10=>(CH (p0g.1,p0g.2) (x10.1,x10.2.1,x10.2.2.1,x10.2.2.2)).bind fun r6=>if r6 then (if decide (s7>0) then ((aQ p0g.2 (IntKind.i64.wrap (s7 - 1))).bind fun x11=>(aQ p0g.2 s7).bind fun x12=>if decide (x11.1≥x12.1) then (some (.ret false)) else (some (.nxt (IntKind.i64.wrap (s7+1))))) else (some (.nxt (IntKind.i64.wrap (s7+1))))) else (some (.ret false))) else (some (.brk s7))
def gr (p0g:(List Int)×Yq1):Option Bool:=
 aP (az (nB p0g) aW 0) (fun r=>some r) (fun s4=>aP (az (jN p0g) aW 0) (fun r=>some r) (fun s8=>(cN (p0g.1.length:Int) 1 5).bind fun r7=>if r7 then (some (decide ((p0g.2.length:Int)<=12))) else (some false)))
def ot (p0a:List Int) (p1b:List Int) (s3:Int):Option (Out Int Int):=
 if decide (s3<(p0a.length:Int)) then (if decide (s3<(p1b.length:Int)) then ((aQ p0a s3).bind fun x9=>(aQ p1b s3).bind fun x10=>if decide (x9<x10) then (some (.ret (-1))) else ((aQ p0a s3).bind fun x11=>(aQ p1b s3).bind fun x12=>if decide (x11>x12) then (some (.ret 1)) else (some (.nxt (IntKind.i64.wrap (s3+1)))))) else (some (.brk s3))) else (some (.brk s3))
def nC (p0a:List Int) (p1b:List Int):Option Int:=
 aP (az (ot p0a p1b) aW 0) (fun r=>some r) (fun s4=>if decide ((p0a.length:Int)<(p1b.length:Int)) then (some (-1)) else (if decide ((p0a.length:Int)>(p1b.length:Int)) then (some 1) else (some 0)))
def eM (p0h:Int×Yq5) (s3:Int):Option (Out Bool Int):=
 if decide (s3<(p0h.2.length:Int)) then ((aQ p0h.2 s3).bind fun x7=>(gr (x7.1,x7.2)).bind fun r15=>if r15 then ((aQ p0h.2 s3).bind fun x8=>(aQ p0h.2 0).bind fun x9=>(nC x8.1 x9.1).bind fun r18=>if r18 !=0 then (some (.ret false)) else (some (.nxt (IntKind.i64.wrap (s3+1))))) else (some (.ret false))) else (some (.brk s3))
def m_s_IsValidHistory (p0h:Int×Yq5):Option Bool:=
 aP (az (eM p0h) aW 0) (fun r=>some r) (fun s4=>(cN (p0h.2.length:Int) 1 8).bind fun r19=>if r19 then ((cN p0h.1 1 (IntKind.i64.wrap ((IntKind.i64.wrap (999 - (p0h.2.length:Int)))+1))).bind fun r20=>some r20) else (some false))
def gB (p0l:List Yq4):Option Yq1:=
 (b9 32 ([] :List Yq4) p0l).bind fun z1=>some z1
def l6 (p0n:Int):Option Bool:=
 (cN p0n 0 8).bind fun r1=>some r1
def nD (p0:Int×Int×Int×Int):Option Int:=
 Option.bind ((if p0.1==1 then (some (p0.1==1)) else (some (p0.1==2)):Option Bool)) (fun s1=>if s1 then (if p0.2.1 !=0 then (some (-1)) else (if p0.2.2.1 !=0 then (some (-1)) else (if p0.2.2.2 !=0 then (some (-1)) else (some 0)))) else (if p0.1==3 then ((l6 p0.2.1).bind fun r3=>if r3 then (if p0.2.2.1 !=0 then (some (-1)) else (if p0.2.2.2 !=0 then (some (-1)) else (some 0))) else (some (-1))) else (Option.bind ((if p0.1==4 then (some (p0.1==4)) else (some (p0.1==5)):Option Bool)) (fun s2=>if s2 then (if p0.2.1 !=0 then (some (-1)) else (if p0.2.2.1 !=0 then (some (-1)) else (if p0.2.2.2 !=0 then (some (-1)) else (some 2)))) else (if p0.1==6 then (if p0.2.1 !=0 then (some (-1)) else (if p0.2.2.1 !=0 then (some (-1)) else (if p0.2.2.2 !=0 then (some (-1)) else (some 1)))) else (if p0.1==7 then (if p0.2.1 !=0 then (some (-1)) else ((cN p0.2.2.2 1 3).bind fun r1=>if r1 then ((cN p0.2.2.1 0 p0.2.2.2).bind fun r2=>if r2 then (some 1) else (some (-1))) else (some (-1)))) else (some (-1))))))))
def ql (p0e:Yq1) (s3:Int×Int):Option (Out Bool (Int×Int)):=
 if decide (s3.2<(p0e.length:Int)) then ((aQ p0e s3.2).bind fun x3=>(nD (x3.1,x3.2.1,x3.2.2.1,x3.2.2.2)).bind fun r3=>if decide (r3<0) then (some (.ret false)) else (if decide (r3>s3.1) then (some (.ret false)) else (some (.nxt (IntKind.i64.wrap ((IntKind.i64.wrap (s3.1 - r3))+1),IntKind.i64.wrap (s3.2+1)))))) else (some (.brk (s3.1,s3.2)))
def sX (p0e:Yq1):Option Bool:=
 aP (az (ql p0e) aW (0,0)) (fun r=>some r) (fun s4=>some (s4.1==1))
def kC (p0e:Yq1):Option Bool:=
 if decide ((p0e.length:Int)<=24) then ((sX p0e).bind fun r1=>some r1) else (some false)
def lM (p0l:List Yq4) (s3:Int×Int):Option zp:=
 if decide (s3.1>0) then ((aQ p0l (IntKind.i64.wrap (s3.2 - 1))).bind fun x3=>(nD (x3.1,x3.2.1,x3.2.2.1,x3.2.2.2)).bind fun r3=>some (.nxt (IntKind.i64.wrap ((IntKind.i64.wrap (s3.1 - 1))+r3),IntKind.i64.wrap (s3.2 - 1)))) else (some (.brk (s3.1,s3.2)))
def gY (p0l:List Yq4):Option Int:=
 aP (az (lM p0l) aW (1,(p0l.length:Int))) (fun r=>some r) (fun s4=>some s4.2)
def dO:Nat->Yq1->Option Int
 | 0,_=>none
 | n+1,p0l =>
  (aQ p0l (IntKind.i64.wrap ((p0l.length:Int) - 1))).bind fun x0=>Option.bind ((if x0.1==4 then (some (x0.1==4)) else (some (x0.1==5)):Option Bool)) (fun s1=>if s1 then ((chk (And (0<=(IntKind.i64.wrap ((p0l.length:Int) - 1))) ((IntKind.i64.wrap ((p0l.length:Int) - 1))<=(p0l.length:Int)))).bind fun _=>(gY (p0l.take ((IntKind.i64.wrap ((p0l.length:Int) - 1)).toNat))).bind fun r3=>(chk (And (0<=r3) (r3<=(p0l.length:Int)))).bind fun _=>((dO n) (p0l.take r3.toNat)).bind fun r9=>(chk (And (0<=r3) (And (r3<=(IntKind.i64.wrap ((p0l.length:Int) - 1))) ((IntKind.i64.wrap ((p0l.length:Int) - 1))<=(p0l.length:Int))))).bind fun _=>((dO n) ((p0l.take ((IntKind.i64.wrap ((p0l.length:Int) - 1)).toNat)).drop r3.toNat)).bind fun r11=>some (Min.min 100000 (IntKind.i64.wrap ((IntKind.i64.wrap (r9+r11))+1)))) else (if x0.1==6 then ((chk (And (0<=(IntKind.i64.wrap ((p0l.length:Int) - 1))) ((IntKind.i64.wrap ((p0l.length:Int) - 1))<=(p0l.length:Int)))).bind fun _=>((dO n) (p0l.take ((IntKind.i64.wrap ((p0l.length:Int) - 1)).toNat))).bind fun r13=>some (Min.min 100000 (IntKind.i64.wrap (r13+1)))) else (if x0.1==7 then ((chk (And (0<=(IntKind.i64.wrap ((p0l.length:Int) - 1))) ((IntKind.i64.wrap ((p0l.length:Int) - 1))<=(p0l.length:Int)))).bind fun _=>((dO n) (p0l.take ((IntKind.i64.wrap ((p0l.length:Int) - 1)).toNat))).bind fun r17=>some (Min.min 100000 (IntKind.i64.wrap ((IntKind.i64.wrap ((IntKind.i64.wrap (r17+3))*x0.2.2.2))+1)))) else (some 1))))
def lf (p0a:Yq1) (p1b:Yq1) (p2t:Int×Int×Int×Int):Option Yq1:=
 (gB p0a).bind fun r1=>(b9 32 r1 p1b).bind fun z1=>(b9 32 z1 ([(p2t.1,p2t.2.1,p2t.2.2.1,p2t.2.2.2)])).bind fun z2=>some z2
def pn (p0kind:Int):Option Yq1:=
 some ([(p0kind,0,0,0)])
def jU:Nat->Yq1->Int->Int->Option Yq1 
 | 0,_,_,_=>none
 | n+1,p0e,p1low,p2high =>
  if p2high==0 then ((pn 2).bind fun r0=>some r0) else (((jU n) p0e (Max.max 0 (IntKind.i64.wrap (p1low - 1))) (IntKind.i64.wrap (p2high - 1))).bind fun r3=>(lf p0e r3 (4,0,0,0)).bind fun r4=>if decide (p1low>0) then (some r4) else ((pn 2).bind fun r7=>(lf r4 r7 (5,0,0,0)).bind fun r8=>some r8))
def cO:Nat->Yq1->Option Yq1 
 | 0,_=>none
 | n+1,p0l =>
  (aQ p0l (IntKind.i64.wrap ((p0l.length:Int) - 1))).bind fun x0=>Option.bind ((if x0.1==4 then (some (x0.1==4)) else (some (x0.1==5)):Option Bool)) (fun s1=>if s1 then ((chk (And (0<=(IntKind.i64.wrap ((p0l.length:Int) - 1))) ((IntKind.i64.wrap ((p0l.length:Int) - 1))<=(p0l.length:Int)))).bind fun _=>(gY (p0l.take ((IntKind.i64.wrap ((p0l.length:Int) - 1)).toNat))).bind fun r3=>(chk (And (0<=r3) (r3<=(p0l.length:Int)))).bind fun _=>((cO n) (p0l.take r3.toNat)).bind fun r10=>(chk (And (0<=r3) (And (r3<=(IntKind.i64.wrap ((p0l.length:Int) - 1))) ((IntKind.i64.wrap ((p0l.length:Int) - 1))<=(p0l.length:Int))))).bind fun _=>((cO n) ((p0l.take ((IntKind.i64.wrap ((p0l.length:Int) - 1)).toNat)).drop r3.toNat)).bind fun r12=>(lf r10 r12 (x0.1,x0.2.1,x0.2.2.1,x0.2.2.2)).bind fun r13=>some r13) else (if x0.1==6 then ((chk (And (0<=(IntKind.i64.wrap ((p0l.length:Int) - 1))) ((IntKind.i64.wrap ((p0l.length:Int) - 1))<=(p0l.length:Int)))).bind fun _=>((cO n) (p0l.take ((IntKind.i64.wrap ((p0l.length:Int) - 1)).toNat))).bind fun r18=>(lf r18 ([] :List Yq4) (x0.1,x0.2.1,x0.2.2.1,x0.2.2.2)).bind fun r19=>some r19) else (if x0.1==7 then ((chk (And (0<=(IntKind.i64.wrap ((p0l.length:Int) - 1))) ((IntKind.i64.wrap ((p0l.length:Int) - 1))<=(p0l.length:Int)))).bind fun _=>((cO n) (p0l.take ((IntKind.i64.wrap ((p0l.length:Int) - 1)).toNat))).bind fun r24=>(jU gp r24 x0.2.2.1 x0.2.2.2).bind fun r25=>some r25) else (some ([(x0.1,x0.2.1,x0.2.2.1,x0.2.2.2)])))))
def lN (p0e:Yq1):Option ((Yq1)×Bool):=
 (kC p0e).bind fun r1=>if r1 then ((dO gp p0e).bind fun r2=>if decide (r2>5000) then (some ([],false)) else ((cO gp p0e).bind fun r3=>if decide ((r3.length:Int)>400) then (some ([],false)) else (some (r3,true)))) else (some ([],false))
def jb (p1from:Int) (p2to:Int) (s2:Int×List Int):Option (Out PW (Int×List Int)):=
 if decide (s2.1<(s2.2.length:Int)) then (Option.bind (((chk (0<=s2.1)).bind fun _=>if (zB (tz p1from s2.1) 1)==1 then ((aQ s2.2 s2.1).bind fun x6=>(aQ s2.2 s2.1).bind fun x7=>some (s2.2.set s2.1.toNat (orI x6 p2to))) else (some s2.2):Option (List Int))) (fun s8=>some (.nxt (IntKind.i64.wrap (s2.1+1),s8)))) else (some (.brk (s2.1,s2.2)))
def nE (p0p:(List Int)×Int×Int×(List Int)×Bool) (p1from:Int) (p2to:Int):Option PW:=
 aP (az (jb p1from p2to) aW (0,p0p.2.2.2.1)) (fun r9=>some r9) (fun s10=>some (p0p.1,p0p.2.1,p0p.2.2.1,s10.2,p0p.2.2.2.2))
def dh:Nat->PW->Yq1->Option ((Bool×Int×Int)×(List Int)×Int×Int×(List Int)×Bool)
 | 0,_,_=>none
 | n+1,p0,p1 =>
  (aQ p1 (IntKind.i64.wrap ((p1.length:Int) - 1))).bind fun x0=>if x0.1==2 then (some ((true,0,0),p0.1,p0.2.1,p0.2.2.1,p0.2.2.2.1,p0.2.2.2.2)) else (if x0.1==3 then ((b9 8 p0.1 ([x0.2.1])).bind fun z2=>(b9 8 p0.2.2.2.1 ([0])).bind fun z3=>some ((false,Ja 1 (p0.1.length:Int),Ja 1 (p0.1.length:Int)),z2,p0.2.1,p0.2.2.1,z3,p0.2.2.2.2)) else (if x0.1==4 then ((chk (And (0<=(IntKind.i64.wrap ((p1.length:Int) - 1))) ((IntKind.i64.wrap ((p1.length:Int) - 1))<=(p1.length:Int)))).bind fun _=>(gY (p1.take ((IntKind.i64.wrap ((p1.length:Int) - 1)).toNat))).bind fun r5=>(chk (And (0<=r5) (r5<=(p1.length:Int)))).bind fun _=>((dh n) (p0.1,p0.2.1,p0.2.2.1,p0.2.2.2.1,p0.2.2.2.2) (p1.take r5.toNat)).bind fun r7=>(chk (And (0<=r5) (And (r5<=(IntKind.i64.wrap ((p1.length:Int) - 1))) ((IntKind.i64.wrap ((p1.length:Int) - 1))<=(p1.length:Int))))).bind fun _=>((dh n) (r7.2.1,r7.2.2.1,r7.2.2.2.1,r7.2.2.2.2.1,r7.2.2.2.2.2) ((p1.take ((IntKind.i64.wrap ((p1.length:Int) - 1)).toNat)).drop r5.toNat)).bind fun r9=>(nE (r9.2.1,r9.2.2.1,r9.2.2.2.1,r9.2.2.2.2.1,r9.2.2.2.2.2) r7.1.2.2 r9.1.2.1).bind fun r10=>if r7.1.1 then (Option.bind ((if r7.1.1 then (some (r9.1.1,orI r7.1.2.1 r9.1.2.1,r9.1.2.2)) else (some (r9.1.1,r7.1.2.1,r9.1.2.2)):Option (Bool×Int×Int))) (fun s11=>Option.bind ((if r9.1.1 then (some (s11.1,s11.2.1,orI r7.1.2.2 r9.1.2.2)) else (some (s11.1,s11.2.1,s11.2.2)):Option (Bool×Int×Int))) (fun s12=>some ((s12.1,s12.2.1,s12.2.2),r10.1,r10.2.1,r10.2.2.1,r10.2.2.2.1,r10.2.2.2.2)))) else (Option.bind ((if r7.1.1 then (some (false,orI r7.1.2.1 r9.1.2.1,r9.1.2.2)) else (some (false,r7.1.2.1,r9.1.2.2)):Option (Bool×Int×Int))) (fun s13=>Option.bind ((if r9.1.1 then (some (s13.1,s13.2.1,orI r7.1.2.2 r9.1.2.2)) else (some (s13.1,s13.2.1,s13.2.2)):Option (Bool×Int×Int))) (fun s14=>some ((s14.1,s14.2.1,s14.2.2),r10.1,r10.2.1,r10.2.2.1,r10.2.2.2.1,r10.2.2.2.2))))) else (if x0.1==5 then ((chk (And (0<=(IntKind.i64.wrap ((p1.length:Int) - 1))) ((IntKind.i64.wrap ((p1.length:Int) - 1))<=(p1.length:Int)))).bind fun _=>(gY (p1.take ((IntKind.i64.wrap ((p1.length:Int) - 1)).toNat))).bind fun r16=>(chk (And (0<=r16) (r16<=(p1.length:Int)))).bind fun _=>((dh n) (p0.1,p0.2.1,p0.2.2.1,p0.2.2.2.1,p0.2.2.2.2) (p1.take r16.toNat)).bind fun r18=>(chk (And (0<=r16) (And (r16<=(IntKind.i64.wrap ((p1.length:Int) - 1))) ((IntKind.i64.wrap ((p1.length:Int) - 1))<=(p1.length:Int))))).bind fun _=>((dh n) (r18.2.1,r18.2.2.1,r18.2.2.2.1,r18.2.2.2.2.1,r18.2.2.2.2.2) ((p1.take ((IntKind.i64.wrap ((p1.length:Int) - 1)).toNat)).drop r16.toNat)).bind fun r20=>if r18.1.1 then (some ((true,orI r18.1.2.1 r20.1.2.1,orI r18.1.2.2 r20.1.2.2),r20.2.1,r20.2.2.1,r20.2.2.2.1,r20.2.2.2.2.1,r20.2.2.2.2.2)) else (some ((r20.1.1,orI r18.1.2.1 r20.1.2.1,orI r18.1.2.2 r20.1.2.2),r20.2.1,r20.2.2.1,r20.2.2.2.1,r20.2.2.2.2.1,r20.2.2.2.2.2))) else (if x0.1==6 then ((chk (And (0<=(IntKind.i64.wrap ((p1.length:Int) - 1))) ((IntKind.i64.wrap ((p1.length:Int) - 1))<=(p1.length:Int)))).bind fun _=>((dh n) (p0.1,p0.2.1,p0.2.2.1,p0.2.2.2.1,p0.2.2.2.2) (p1.take ((IntKind.i64.wrap ((p1.length:Int) - 1)).toNat))).bind fun r22=>(nE (r22.2.1,r22.2.2.1,r22.2.2.2.1,r22.2.2.2.2.1,r22.2.2.2.2.2) r22.1.2.2 r22.1.2.1).bind fun r23=>some ((true,r22.1.2.1,r22.1.2.2),r23.1,r23.2.1,r23.2.2.1,r23.2.2.2.1,r23.2.2.2.2)) else (some ((false,0,0),p0.1,p0.2.1,p0.2.2.1,p0.2.2.2.1,p0.2.2.2.2))))))
def di (r0:Yq1×Bool) (s2:Int×Int):Option (Out (PW×Bool) (Int×Int)):=
 if decide (s2.2<(r0.1.length:Int)) then (Option.bind (((aQ r0.1 s2.2).bind fun x3=>if x3.1==3 then (some (IntKind.i64.wrap (s2.1+1))) else (some s2.1):Option Int)) (fun s4=>some (.nxt (s4,IntKind.i64.wrap (s2.2+1))))) else (some (.brk (s2.1,s2.2)))
def gH (p0e:List Yq4):Option (PW×Bool):=
 (lN p0e).bind fun r0=>if r0.2 then (aP (az (di r0) aW (0,0)) (fun r5=>some r5) (fun s6=>if decide (s6.1>20) then (some ((([] :List Int),0,0,([] :List Int),false),false)) else ((dh gp (([] :List Int),0,0,([] :List Int),false) r0.1).bind fun r7=>some ((r7.2.1,r7.1.2.1,r7.1.2.2,r7.2.2.2.2.1,r7.1.1),true)))) else (some ((([] :List Int),0,0,([] :List Int),false),false))
def gZ (p0p:(List Int)×Int×Int×(List Int)×Bool) (p1set:Int) (s6:Int×Int):Option zp:=
 if decide (s6.2<(p0p.1.length:Int)) then (Option.bind (((chk (0<=IntKind.i64.wrap (s6.2+1))).bind fun _=>if (zB (tz p1set (IntKind.i64.wrap (s6.2+1))) 1)==1 then ((aQ p0p.2.2.2.1 s6.2).bind fun x6=>some (orI s6.1 x6)) else (some s6.1):Option Int)) (fun s8=>some (.nxt (s8,IntKind.i64.wrap (s6.2+1))))) else (some (.brk (s6.1,s6.2)))
def hH (p0p:(List Int)×Int×Int×(List Int)×Bool) (p2letter:Int) (s7:Int×Int) (s13:Int×Int):Option zp:=
 if decide (s13.2<(p0p.1.length:Int)) then (Option.bind (((chk (0<=s13.2)).bind fun _=>if (zB (tz s7.1 s13.2) 1)==1 then ((aQ p0p.1 s13.2).bind fun x12=>if x12==p2letter then ((chk (0<=IntKind.i64.wrap (s13.2+1))).bind fun _=>some (orI s13.1 (Ja 1 (IntKind.i64.wrap (s13.2+1))))) else (some s13.1)) else (some s13.1):Option Int)) (fun s15=>some (.nxt (s15,IntKind.i64.wrap (s13.2+1))))) else (some (.brk (s13.1,s13.2)))
def ou (p0p:(List Int)×Int×Int×(List Int)×Bool) (p1set:Int) (p2letter:Int):Option Int:=
 Option.bind ((if (zB p1set 1)==1 then (some p0p.2.1) else (some 0):Option Int)) (fun s1=>aP (az (gZ p0p p1set) aW (s1,0)) (fun r=>some r) (fun s7=>aP (az (hH p0p p2letter s7) aW (0,0)) (fun r=>some r) (fun s14=>some s14.1)))
def oT (p0l:List Int) (p1x:Int) (s3:Int):Option (Out Int Int):=
 if decide (s3<(p0l.length:Int)) then ((aQ p0l s3).bind fun x3=>if x3==p1x then (some (.ret s3)) else (some (.nxt (IntKind.i64.wrap (s3+1))))) else (some (.brk s3))
def nF (p0l:List Int) (p1x:Int):Option Int:=
 aP (az (oT p0l p1x) aW 0) (fun r=>some r) (fun s4=>some (-1))
def lO (p0p:(List Int)×Int×Int×(List Int)×Bool) (p1set:Int):Option Bool:=
 if (zB p1set 1)==1 then (if p0p.2.2.2.2 then (some true) else (some ((zB (tz p1set 1) p0p.2.2.1) !=0))) else (some ((zB (tz p1set 1) p0p.2.2.1) !=0))
def fA (p0:(List Int)×Int×Int×(List Int)×Bool) (s17:(List Int)×Int×Int×(List Bool)×(List (List Int))) (s23:(List Int)×(List Int)×Int):Option (Out (Yq2×Bool) ((List Int)×(List Int)×Int)):=
 if decide (s23.2.2<9) then ((aQ s23.1 s17.2.1).bind fun x11=>(ou (p0.1,p0.2.1,p0.2.2.1,p0.2.2.2.1,p0.2.2.2.2) x11 s23.2.2).bind fun r27=>Option.bind ((if r27 !=0 then ((nF s23.1 r27).bind fun r29=>if decide (r29<0) then ((b9 8 s23.1 ([r27])).bind fun z30=>some (z30,(s23.1.length:Int))) else (some (s23.1,r29))) else (some (s23.1,-1)):Option ((List Int)×Int))) (fun s25=>(b9 8 s23.2.1 ([s25.2])).bind fun z31=>some (.nxt (s25.1,z31,IntKind.i64.wrap (s23.2.2+1))))) else (some (.brk (s23.1,s23.2.1,s23.2.2)))
def fB (p0:(List Int)×Int×Int×(List Int)×Bool) (p1:Int) (s17:(List Int)×Int×Int×(List Bool)×(List (List Int))):Option (Out (Yq2×Bool) ((List Int)×Int×Int×(List Bool)×(List (List Int)))):=
 if decide (s17.2.1<(s17.1.length:Int)) then (aP (az (fA p0 s17) aW (s17.1,([] :List Int),0)) (fun r=>some (.ret r)) (fun s24=>if decide ((s24.1.length:Int)>p1) then (some (.ret ((0,[],[]),false))) else ((aQ s24.1 s17.2.1).bind fun x12=>(lO (p0.1,p0.2.1,p0.2.2.1,p0.2.2.2.1,p0.2.2.2.2) x12).bind fun r30=>(b9 1 s17.2.2.2.1 ([r30])).bind fun z32=>(b9 24 s17.2.2.2.2 ([s24.2.1])).bind fun z33=>some (.nxt (s24.1,IntKind.i64.wrap (s17.2.1+1),s17.2.2.1,z32,z33))))) else (some (.brk (s17.1,s17.2.1,s17.2.2.1,s17.2.2.2.1,s17.2.2.2.2)))
def jc (p0:(List Int)×Int×Int×(List Int)×Bool) (p1:Int):Option (Yq2×Bool):=
 aP (az (fB p0 p1) aW ([1],0,0,[],[])) (fun r=>some r) (fun s18=>some ((s18.2.2.1,s18.2.2.2.1,s18.2.2.2.2),true))
def w4 (s3:(List Int)×Int):Option (Out Yq2 ((List Int)×Int)):=
 if decide (s3.2<9) then ((b9 8 s3.1 ([-1])).bind fun z3=>some (.nxt (z3,IntKind.i64.wrap (s3.2+1)))) else (some (.brk (s3.1,s3.2)))
def oU:Option Yq2:=
 aP (az (w4) aW (([] :List Int),0)) (fun r=>some r) (fun s4=>some (0,[false],[s4.1]))
def gu (p0:Int×(List Bool)×(List (List Int))) (p1:List Int) (p2:List Bool) (s17:(List Int)×(List Int)×Int×Int×(List Bool)×(List (List Int))) (s23:(List Int)×(List Int)×(List Int)×Int):Option (Out Yq2 ((List Int)×(List Int)×(List Int)×Int)):=
 if decide (s23.2.2.2<9) then ((aQ s23.2.1 s17.2.2.1).bind fun x79=>(aQ p0.2.2 x79).bind fun x80=>(aQ x80 s23.2.2.2).bind fun x81=>Option.bind ((if decide (x81≥0) then ((aQ p2 x81).bind fun x85=>if x85 then ((aQ p1 x81).bind fun x86=>(nF s23.1 x86).bind fun r28=>if decide (r28<0) then ((aQ p1 x81).bind fun x87=>(b9 8 s23.1 ([x87])).bind fun z47=>(b9 8 s23.2.1 ([x81])).bind fun z48=>some (z47,z48,(s23.1.length:Int))) else (some (s23.1,s23.2.1,r28))) else (some (s23.1,s23.2.1,-1))) else (some (s23.1,s23.2.1,-1)):Option ((List Int)×(List Int)×Int))) (fun s25=>(b9 8 s23.2.2.1 ([s25.2.2])).bind fun z49=>some (.nxt (s25.1,s25.2.1,z49,IntKind.i64.wrap (s23.2.2.2+1))))) else (some (.brk (s23.1,s23.2.1,s23.2.2.1,s23.2.2.2)))
def jv (p0:Int×(List Bool)×(List (List Int))) (p1:List Int) (p2:List Bool) (s17:(List Int)×(List Int)×Int×Int×(List Bool)×(List (List Int))):Option (Out Yq2 ((List Int)×(List Int)×Int×Int×(List Bool)×(List (List Int)))):=
 if decide (s17.2.2.1<(s17.1.length:Int)) then (aP (az (gu p0 p1 p2 s17) aW (s17.1,s17.2.1,([] :List Int),0)) (fun r=>some (.ret r)) (fun s24=>(aQ s24.2.1 s17.2.2.1).bind fun x88=>(aQ p0.2.1 x88).bind fun x89=>(b9 1 s17.2.2.2.2.1 ([x89])).bind fun z50=>(b9 24 s17.2.2.2.2.2 ([s24.2.2.1])).bind fun z51=>some (.nxt (s24.1,s24.2.1,IntKind.i64.wrap (s17.2.2.1+1),s17.2.2.2.1,z50,z51)))) else (some (.brk (s17.1,s17.2.1,s17.2.2.1,s17.2.2.2.1,s17.2.2.2.2.1,s17.2.2.2.2.2)))
def iD (p0:Int×(List Bool)×(List (List Int))) (p1:List Int) (p2:List Bool):Option Yq2:=
 (aQ p2 p0.1).bind fun x1=>if x1 then ((aQ p1 p0.1).bind fun x2=>aP (az (jv p0 p1 p2) aW ([x2],[p0.1],0,0,[],[])) (fun r=>some r) (fun s18=>some (s18.2.2.2.1,s18.2.2.2.2.1,s18.2.2.2.2.2))) else ((oU).bind fun r1=>some (r1.1,r1.2.1,r1.2.2))
def jd (p0a:Int×(List Bool)×(List (List Int))) (s71:(List Bool)×Int) (s77:(List Bool)×Int):Option (Out (List Bool) ((List Bool)×Int)):=
 if decide (s77.2<9) then (Option.bind (((aQ p0a.2.2 s71.2).bind fun x319=>(aQ x319 s77.2).bind fun x320=>if decide (x320≥0) then ((aQ p0a.2.2 s71.2).bind fun x321=>(aQ x321 s77.2).bind fun x322=>(aQ s77.1 x322).bind fun x323=>if x323 then ((aQ s77.1 s71.2).bind fun x324=>some (s77.1.set s71.2.toNat true)) else (some s77.1)) else (some s77.1):Option (List Bool))) (fun s79=>some (.nxt (s79,IntKind.i64.wrap (s77.2+1))))) else (some (.brk (s77.1,s77.2)))
def je (p0a:Int×(List Bool)×(List (List Int))) (s71:(List Bool)×Int):Option (Out (List Bool) ((List Bool)×Int)):=
 if decide (s71.2<(p0a.2.1.length:Int)) then (aP (az (jd p0a s71) aW (s71.1,0)) (fun r=>some (.ret r)) (fun s78=>some (.nxt (s78.1,IntKind.i64.wrap (s71.2+1))))) else (some (.brk (s71.1,s71.2)))
def lP (p0a:Int×(List Bool)×(List (List Int))) (s53:(List Bool)×Int):Option (Out (List Bool) ((List Bool)×Int)):=
 if decide (s53.2<(p0a.2.1.length:Int)) then (aP (az (je p0a) aW (s53.1,0)) (fun r=>some (.ret r)) (fun s72=>some (.nxt (s72.1,IntKind.i64.wrap (s53.2+1))))) else (some (.brk (s53.1,s53.2)))
def lh (p0a:Int×(List Bool)×(List (List Int))):Option (List Bool):=
 (b9 1 ([] :List Bool) p0a.2.1).bind fun z1=>aP (az (lP p0a) aW (z1,0)) (fun r=>some r) (fun s54=>some s54.1)
def mP (p0a:Int×(List Bool)×(List (List Int))) (p1classes:List Int) (p2s:Int) (s5:(List Int)×Int):Option (Out (List Int) ((List Int)×Int)):=
 if decide (s5.2<9) then (Option.bind (((aQ p0a.2.2 p2s).bind fun x17=>(aQ x17 s5.2).bind fun x18=>if decide (x18<0) then ((b9 8 s5.1 ([-1])).bind fun z12=>some z12) else ((aQ p1classes x18).bind fun x19=>(b9 8 s5.1 ([x19])).bind fun z11=>some z11):Option (List Int))) (fun s7=>some (.nxt (s7,IntKind.i64.wrap (s5.2+1))))) else (some (.brk (s5.1,s5.2)))
def po (p0a:Int×(List Bool)×(List (List Int))) (p1classes:List Int) (p2s:Int):Option (List Int):=
 (aQ p1classes p2s).bind fun x1=>aP (az (mP p0a p1classes p2s) aW ([x1],0)) (fun r=>some r) (fun s6=>some s6.1)
def fC (p0:Int×(List Bool)×List (List Int)) (r0:List Bool) (s2:(List Int)×Int):Option (Out (List Int) ((List Int)×Int)):=
 if decide (s2.2<(p0.2.1.length:Int)) then ((aQ p0.2.1 s2.2).bind fun x3=>Option.bind ((if x3 then (some 1) else (some 0):Option Int)) (fun s4=>(aQ r0 s2.2).bind fun x5=>Option.bind ((if x5 then (some s4) else (some (-1)):Option Int)) (fun s6=>(b9 8 s2.1 ([s6])).bind fun z7=>some (.nxt (z7,IntKind.i64.wrap (s2.2+1)))))) else (some (.brk (s2.1,s2.2)))
def fD (s13:(List (List Int))×(List Int)×Int) (r16:List Int) (s18:Int×Int):Option (Out (List Int) (Int×Int)):=
 if decide (s18.2<(s13.1.length:Int)) then (Option.bind (((aQ s13.1 s18.2).bind fun x19=>(nC x19 r16).bind fun r20=>if r20==0 then (some s18.2) else (some s18.1):Option Int)) (fun s21=>some (.nxt (s21,IntKind.i64.wrap (s18.2+1))))) else (some (.brk (s18.1,s18.2)))
def fE (p0:Int×(List Bool)×List (List Int)) (s11:(List Int)×Int) (s13:(List (List Int))×(List Int)×Int):Option (Out (List Int) ((List (List Int))×(List Int)×Int)):=
 if decide (s13.2.2<(p0.2.1.length:Int)) then (Option.bind (((aQ s11.1 s13.2.2).bind fun x14=>if decide (x14<0) then ((b9 8 s13.2.1 ([(-1)])).bind fun z15=>some (s13.1,z15)) else ((po (p0.1,p0.2.1,p0.2.2) s11.1 s13.2.2).bind fun r16=>aP (az (fD s13 r16) aW ((-1),0)) (fun r22=>none) (fun s23=>Option.bind ((if decide (s23.1<0) then ((b9 24 s13.1 ([r16])).bind fun z24=>some (z24,(s13.1.length:Int))) else (some (s13.1,s23.1)):Option ((List (List Int))×Int))) (fun s25=>(b9 8 s13.2.1 ([s25.2])).bind fun z26=>some (s25.1,z26)))):Option ((List (List Int))×List Int))) (fun s27=>some (.nxt (s27.1,s27.2,IntKind.i64.wrap (s13.2.2+1))))) else (some (.brk (s13.1,s13.2.1,s13.2.2)))
def lj (p0:Int×(List Bool)×List (List Int)) (s11:(List Int)×Int):Option (Out (List Int) ((List Int)×Int)):=
 if decide (s11.2<=(p0.2.1.length:Int)) then (aP (az (fE p0 s11) aW (([] :List (List Int)),([] :List Int),0)) (fun r28=>some (.ret r28)) (fun s29=>(nC s29.2.1 s11.1).bind fun r30=>if r30==0 then (some (.ret s11.1)) else (some (.nxt (s29.2.1,IntKind.i64.wrap (s11.2+1)))))) else (some (.brk (s11.1,s11.2)))
def jf (p0:Int×(List Bool)×List (List Int)):Option (List Int):=
 (lh (p0.1,p0.2.1,p0.2.2)).bind fun r0=>aP (az (fC p0 r0) aW (([] :List Int),0)) (fun r8=>some r8) (fun s9=>aP (az (lj p0) aW (s9.1,0)) (fun r31=>some r31) (fun s32=>some s32.1))
def fF (p0a:Int×(List Bool)×(List (List Int))):Option Yq2:=
 (jf (p0a.1,p0a.2.1,p0a.2.2)).bind fun r1=>(lh (p0a.1,p0a.2.1,p0a.2.2)).bind fun r2=>(iD (p0a.1,p0a.2.1,p0a.2.2) r1 r2).bind fun r3=>some (r3.1,r3.2.1,r3.2.2)
def hO (p0e:Yq1):Option (Yq2×Bool):=
 (gH p0e).bind fun r1=>if r1.2 then ((jc (r1.1.1,r1.1.2.1,r1.1.2.2.1,r1.1.2.2.2.1,r1.1.2.2.2.2) 200).bind fun r2=>if r2.2 then ((fF (r2.1.1,r2.1.2.1,r2.1.2.2)).bind fun r3=>if decide ((r3.2.1.length:Int)>12) then (some ((0,[],[]),false)) else (some ((r3.1,r3.2.1,r3.2.2),true))) else (some ((0,[],[]),false))) else (some ((0,[],[]),false))
def fu (p0:Int×(List Bool)×(List (List Int))) (p1:Int×(List Bool)×(List (List Int))) (s3:Int):Option (Out Bool Int):=
 if decide (s3<(p0.2.1.length:Int)) then ((aQ p0.2.1 s3).bind fun x5=>(aQ p1.2.1 s3).bind fun x6=>if x5 !=x6 then (some (.ret false)) else (some (.nxt (IntKind.i64.wrap (s3+1))))) else (some (.brk s3))
def fv (p0:Int×(List Bool)×(List (List Int))) (p1:Int×(List Bool)×(List (List Int))) (s7:Int):Option (Out Bool Int):=
 if decide (s7<(p0.2.2.length:Int)) then ((aQ p0.2.2 s7).bind fun x11=>(aQ p1.2.2 s7).bind fun x12=>(nC x11 x12).bind fun r9=>if r9 !=0 then (some (.ret false)) else (some (.nxt (IntKind.i64.wrap (s7+1))))) else (some (.brk s7))
def fG (p0:Int×(List Bool)×(List (List Int))) (p1:Int×(List Bool)×(List (List Int))):Option Bool:=
 if p0.1 !=p1.1 then (some false) else (if (p0.2.1.length:Int) !=(p1.2.1.length:Int) then (some false) else (if (p0.2.2.length:Int) !=(p1.2.2.length:Int) then (some false) else (aP (az (fu p0 p1) aW 0) (fun r=>some r) (fun s4=>aP (az (fv p0 p1) aW 0) (fun r=>some r) (fun s8=>some true)))))
def hY (p0l:List Yq2) (p1a:Int×(List Bool)×(List (List Int))) (s3:Int):Option (Out Int Int):=
 if decide (s3<(p0l.length:Int)) then ((aQ p0l s3).bind fun x3=>(fG (x3.1,x3.2.1,x3.2.2) (p1a.1,p1a.2.1,p1a.2.2)).bind fun r9=>if r9 then (some (.ret s3)) else (some (.nxt (IntKind.i64.wrap (s3+1))))) else (some (.brk s3))
def l7 (p0l:List Yq2) (p1a:Int×(List Bool)×(List (List Int))):Option Int:=
 aP (az (hY p0l p1a) aW 0) (fun r=>some r) (fun s4=>some (-1))
def dj (p0:List Yq9) (s7:Int×(List Yq2)×Yq3):Option (Out (Yq7×Bool) PX):=
 if decide (s7.1<(p0.length:Int)) then ((aQ p0 s7.1).bind fun x17=>(hO x17.2.1).bind fun r20=>if r20.2 then ((aQ p0 s7.1).bind fun x18=>(cN x18.1 1 99).bind fun r21=>if r21 then (if decide (s7.1>0) then ((aQ p0 (IntKind.i64.wrap (s7.1 - 1))).bind fun x21=>(aQ p0 s7.1).bind fun x22=>if decide (x21.1≥x22.1) then (some (.ret (([],[]),false))) else ((l7 s7.2.1 (r20.1.1,r20.1.2.1,r20.1.2.2)).bind fun r25=>Option.bind ((if decide (r25<0) then ((b9 56 s7.2.1 ([(r20.1.1,r20.1.2.1,r20.1.2.2)])).bind fun z17=>some ((s7.2.1.length:Int),z17,s7.2.2)) else (some (r25,s7.2.1,s7.2.2)):Option PX)) (fun s10=>(aQ p0 s7.1).bind fun x23=>(aQ p0 s7.1).bind fun x24=>(gB x24.2.1).bind fun r27=>(b9 40 s10.2.2 ([(x23.1,r27,s10.1)])).bind fun z18=>some (.nxt (IntKind.i64.wrap (s7.1+1),s10.2.1,z18))))) else ((l7 s7.2.1 (r20.1.1,r20.1.2.1,r20.1.2.2)).bind fun r22=>Option.bind ((if decide (r22<0) then ((b9 56 s7.2.1 ([(r20.1.1,r20.1.2.1,r20.1.2.2)])).bind fun z14=>some ((s7.2.1.length:Int),z14,s7.2.2)) else (some (r22,s7.2.1,s7.2.2)):Option PX)) (fun s9=>(aQ p0 s7.1).bind fun x19=>(aQ p0 s7.1).bind fun x20=>(gB x20.2.1).bind fun r24=>(b9 40 s9.2.2 ([(x19.1,r24,s9.1)])).bind fun z15=>some (.nxt (IntKind.i64.wrap (s7.1+1),s9.2.1,z15))))) else (some (.ret (([],[]),false)))) else (some (.ret (([],[]),false)))) else (some (.brk (s7.1,s7.2.1,s7.2.2)))
def l8 (p0:List Yq9):Option (Yq7×Bool):=
 if decide ((p0.length:Int)>4) then (some (([],[]),false)) else (aP (az (dj p0) aW (0,[],[])) (fun r=>some r) (fun s8=>some ((s8.2.1,s8.2.2),true)))
def iE (p0a:Yq1) (p1b:Yq1) (s3:Int):Option (Out Bool Int):=
 if decide (s3<(p0a.length:Int)) then ((aQ p0a s3).bind fun x5=>(aQ p1b s3).bind fun x6=>if (x5.1==x6.1)&&((x5.2.1==x6.2.1)&&((x5.2.2.1==x6.2.2.1)&&((x5.2.2.2==x6.2.2.2)&&true))) then (some (.nxt (IntKind.i64.wrap (s3+1)))) else (some (.ret false))) else (some (.brk s3))
def lQ (p0a:Yq1) (p1b:Yq1):Option Bool:=
 if (p0a.length:Int) !=(p1b.length:Int) then (some false) else (aP (az (iE p0a p1b) aW 0) (fun r=>some r) (fun s4=>some true))
def dY (p0:(List Yq2)×Yq3) (p1:(List Yq2)×Yq3) (s3:Int):Option (Out Bool Int):=
 if decide (s3<(p0.1.length:Int)) then ((aQ p0.1 s3).bind fun x5=>(aQ p1.1 s3).bind fun x6=>(fG (x5.1,x5.2.1,x5.2.2) (x6.1,x6.2.1,x6.2.2)).bind fun r15=>if r15 then (some (.nxt (IntKind.i64.wrap (s3+1)))) else (some (.ret false))) else (some (.brk s3))
def dZ (p0:(List Yq2)×Yq3) (p1:(List Yq2)×Yq3) (s7:Int):Option (Out Bool Int):=
 if decide (s7<(p0.2.length:Int)) then ((aQ p0.2 s7).bind fun x19=>(aQ p1.2 s7).bind fun x20=>if x19.1 !=x20.1 then (some (.ret false)) else ((aQ p0.2 s7).bind fun x21=>(aQ p1.2 s7).bind fun x22=>(lQ x21.2.1 x22.2.1).bind fun r24=>if r24 then ((aQ p0.2 s7).bind fun x23=>(aQ p1.2 s7).bind fun x24=>if x23.2.2 !=x24.2.2 then (some (.ret false)) else (some (.nxt (IntKind.i64.wrap (s7+1))))) else (some (.ret false)))) else (some (.brk s7))
def fX (p0:(List Yq2)×Yq3) (p1:(List Yq2)×Yq3):Option Bool:=
 if (p0.1.length:Int) !=(p1.1.length:Int) then (some false) else (if (p0.2.length:Int) !=(p1.2.length:Int) then (some false) else (aP (az (dY p0 p1) aW 0) (fun r=>some r) (fun s4=>aP (az (dZ p0 p1) aW 0) (fun r=>some r) (fun s8=>some true))))
def dP (p0r:(List Yq2)×Yq3):Option Bool:=
 (l8 p0r.2).bind fun r1=>if r1.2 then ((fX (r1.1.1,r1.1.2) (p0r.1,p0r.2)).bind fun r2=>some r2) else (some false)
def cB (p0h:Int×Yq5):Option Int:=
 (m_s_IsValidHistory (p0h.1,p0h.2)).bind fun r1=>if r1 then (some (IntKind.i64.wrap ((IntKind.i64.wrap (p0h.1+(p0h.2.length:Int))) - 1))) else (some 0)
def eG (p0r:(List Yq2)×Yq3) (p1id:Int) (s3:Int):Option (Out Int Int):=
 if decide (s3<(p0r.2.length:Int)) then ((aQ p0r.2 s3).bind fun x3=>if x3.1==p1id then (some (.ret s3)) else (some (.nxt (IntKind.i64.wrap (s3+1))))) else (some (.brk s3))
def iF (p0r:(List Yq2)×Yq3) (p1id:Int):Option Int:=
 aP (az (eG p0r p1id) aW 0) (fun r=>some r) (fun s4=>some (-1))
def cM (p0e:(Int×Yq5)×Yq7×Yq8×ByteArray) (s3:Int):Option (Out Bool Int):=
 if decide (s3<(p0e.2.2.1.length:Int)) then ((aQ p0e.2.2.1 s3).bind fun x5=>(cN x5.1 1 99).bind fun r15=>if r15 then (if decide (s3>0) then ((aQ p0e.2.2.1 (IntKind.i64.wrap (s3 - 1))).bind fun x6=>if decide (x6.1≥x5.1) then (some (.ret false)) else ((iF (p0e.2.1.1,p0e.2.1.2) x5.2.1).bind fun r19=>if decide (r19<0) then (some (.ret false)) else ((cB (p0e.1.1,p0e.1.2)).bind fun r20=>(cN x5.2.2 0 r20).bind fun r21=>if r21 then (some (.nxt (IntKind.i64.wrap (s3+1)))) else (some (.ret false))))) else ((iF (p0e.2.1.1,p0e.2.1.2) x5.2.1).bind fun r16=>if decide (r16<0) then (some (.ret false)) else ((cB (p0e.1.1,p0e.1.2)).bind fun r17=>(cN x5.2.2 0 r17).bind fun r18=>if r18 then (some (.nxt (IntKind.i64.wrap (s3+1)))) else (some (.ret false))))) else (some (.ret false))) else (some (.brk s3))
def uA (p0e:(Int×Yq5)×Yq7×Yq8×ByteArray):Option Bool:=
 aP (az (cM p0e) aW 0) (fun r=>some r) (fun s4=>some (decide ((p0e.2.2.1.length:Int)<=4)))
def dw (s1:Int×ByteArray):Option (Out ByteArray (Int×ByteArray)):=
 if s1.1 !=0 then (Option.bind ((if decide ((Int.tmod s1.1 10)<0) then (some (IntKind.i64.wrap (-(Int.tmod s1.1 10)))) else (some (Int.tmod s1.1 10)):Option Int)) (fun s2=>(mq (xQ ([IntKind.u8.wrap (IntKind.i64.wrap (48+s2))])) s1.2).bind fun z3=>some (.nxt (P0 s1.1 10,z3)))) else (some (.brk (s1.1,s1.2)))
def bY (p0n:Int):Option ByteArray:=
 if p0n==0 then (some (⟨#[48]⟩)) else (aP (az (dw) aW (p0n,(⟨#[]⟩:ByteArray))) (fun r4=>some r4) (fun s5=>if decide (p0n<0) then ((mq (⟨#[45]⟩) s5.2).bind fun z6=>some z6) else (some s5.2)))
def eH (p0n:Int):Option ByteArray:=
 (l6 p0n).bind fun r1=>if r1 then ((aQ ([(⟨#[97]⟩:ByteArray),(⟨#[97,45]⟩:ByteArray),(⟨#[98]⟩:ByteArray),(⟨#[98,45]⟩:ByteArray),(⟨#[99]⟩:ByteArray),(⟨#[99,45]⟩:ByteArray),(⟨#[48]⟩:ByteArray),(⟨#[49]⟩:ByteArray),(⟨#[50]⟩:ByteArray)]) p0n).bind fun x1=>some x1) else (some (⟨#[]⟩:ByteArray))
def jg (p0e:Int×Int×Int×Int):Option ByteArray:=
 (cN p0e.1 1 99).bind fun r0=>if r0 then ((cN p0e.2.1 0 4).bind fun r1=>if r1 then ((cN p0e.2.2.1 0 4).bind fun r2=>if r2 then ((cN p0e.2.2.2 0 2).bind fun r3=>if r3 then ((bY p0e.1).bind fun r12=>(mq r12 (⟨#[58]⟩)).bind fun z13=>(bY p0e.2.1).bind fun r14=>(mq z13 r14).bind fun z15=>(eH (IntKind.i64.wrap (2*p0e.2.2.2))).bind fun r16=>(mq z15 r16).bind fun z17=>(bY p0e.2.2.1).bind fun r18=>(mq z17 r18).bind fun z19=>some z19) else (some ((⟨#[]⟩:ByteArray)))) else (some ((⟨#[]⟩:ByteArray)))) else (some ((⟨#[]⟩:ByteArray)))) else (some ((⟨#[]⟩:ByteArray)))
def eN (p0b:List Yq6) (s1:ByteArray×Int):Option (Out ByteArray (ByteArray×Int)):=
 if decide (s1.2<(p0b.length:Int)) then (Hs (S:=ByteArray) ((aQ p0b s1.2).bind fun x2=>(jg (x2.2.1,x2.2.2.1,x2.2.2.2.1,x2.2.2.2.2)).bind fun r3=>if r3==((⟨#[]⟩:ByteArray)) then (some (.inl (.ret ((⟨#[]⟩:ByteArray))))) else (Option.bind ((if decide (s1.2>0) then ((mq s1.1 (⟨#[32]⟩)).bind fun z4=>some z4) else (some s1.1):Option ByteArray)) (fun s5=>(aQ p0b s1.2).bind fun x6=>if x6.1 then ((mq s5 (⟨#[43]⟩)).bind fun z7=>(mq z7 r3).bind fun z8=>some (.inr z8)) else ((mq s5 (⟨#[45]⟩)).bind fun z9=>(mq z9 r3).bind fun z10=>some (.inr z10))))) (fun s11=>some (.nxt (s11,IntKind.i64.wrap (s1.2+1))))) else (some (.brk (s1.1,s1.2)))
def cP (p0b:List Yq6):Option ByteArray:=
 if decide ((p0b.length:Int)>6) then (some ((⟨#[]⟩:ByteArray))) else (aP (az (eN p0b) aW ((⟨#[]⟩:ByteArray),0)) (fun r12=>some r12) (fun s13=>some s13.1))
def fH (p0s:ByteArray) (s1:Int×Int):Option zp:=
 if decide (s1.2<((p0s.size:Nat):Int)) then ((jM p0s s1.2).bind fun z2=>some (.nxt (Int.tmod (IntKind.i64.wrap ((IntKind.i64.wrap ((IntKind.i64.wrap (s1.1*257))+(IntKind.i64.wrap z2)))+1)) 9973,IntKind.i64.wrap (s1.2+1)))) else (some (.brk (s1.1,s1.2)))
def fM (p0s:ByteArray):Option Int:=
 aP (az (fH p0s) aW (1,0)) (fun r3=>some r3) (fun s4=>some s4.1)
def eI (p0version:Int) (p1b:List Yq6):Option ByteArray:=
 (cN p0version 1 999).bind fun r0=>if r0 then (if decide ((p1b.length:Int)>0) then ((cP p1b).bind fun r1=>if r1==((⟨#[]⟩:ByteArray)) then (some ((⟨#[]⟩:ByteArray))) else ((bY p0version).bind fun r7=>(mq r7 (⟨#[59]⟩)).bind fun z8=>(cP p1b).bind fun r9=>(mq z8 r9).bind fun z10=>(mq z10 (⟨#[59]⟩)).bind fun z11=>(fM z11).bind fun r12=>(bY r12).bind fun r13=>(mq z11 r13).bind fun z14=>(mq z14 (⟨#[10]⟩)).bind fun z15=>some z15)) else ((bY p0version).bind fun r21=>(mq r21 (⟨#[59]⟩)).bind fun z22=>(cP p1b).bind fun r23=>(mq z22 r23).bind fun z24=>(mq z24 (⟨#[59]⟩)).bind fun z25=>(fM z25).bind fun r26=>(bY r26).bind fun r27=>(mq z25 r27).bind fun z28=>(mq z28 (⟨#[10]⟩)).bind fun z29=>some z29)) else (some ((⟨#[]⟩:ByteArray)))
def ox (p0s:ByteArray) (p1sep:Int) (s1:(List ByteArray)×Int×Int):Option (Out (List ByteArray) ((List ByteArray)×Int×Int)):=
 if decide (s1.2.2<((p0s.size:Nat):Int)) then (Option.bind (((jM p0s s1.2.2).bind fun z2=>if z2==p1sep then ((rj p0s s1.2.1 s1.2.2).bind fun z3=>(b9 16 s1.1 ([z3])).bind fun z4=>some (z4,IntKind.i64.wrap (s1.2.2+1))) else (some (s1.1,s1.2.1)):Option ((List ByteArray)×Int))) (fun s5=>some (.nxt (s5.1,s5.2,IntKind.i64.wrap (s1.2.2+1))))) else (some (.brk (s1.1,s1.2.1,s1.2.2)))
def hZ (p0s:ByteArray) (p1sep:Int):Option (List ByteArray):=
 aP (az (ox p0s p1sep) aW (([] :List ByteArray),0,0)) (fun r6=>some r6) (fun s7=>(rj p0s s7.2.1 ((p0s.size:Nat):Int)).bind fun z8=>(b9 16 s7.1 ([z8])).bind fun z9=>some z9)
def ic (p0s:ByteArray) (s1:Int×Int×Int):Option (Out (Int×Bool) E3):=
 if decide (s1.2.2<((p0s.size:Nat):Int)) then (if decide (s1.2.2<11) then (Option.bind (((jM p0s s1.2.2).bind fun z2=>if decide (z2≥48) then ((jM p0s s1.2.2).bind fun z3=>if decide (z3<=57) then ((jM p0s s1.2.2).bind fun z4=>some (IntKind.i64.wrap ((IntKind.i64.wrap (s1.1*10))+(IntKind.i64.wrap (IntKind.u8.wrap (z4 - 48)))),IntKind.i64.wrap (s1.2.1+1))) else (some (s1.1,s1.2.1))) else (some (s1.1,s1.2.1)):Option (Int×Int))) (fun s5=>some (.nxt (s5.1,s5.2,IntKind.i64.wrap (s1.2.2+1))))) else (some (.brk (s1.1,s1.2.1,s1.2.2)))) else (some (.brk (s1.1,s1.2.1,s1.2.2)))
def fN (p0s:ByteArray):Option (Int×Bool):=
 aP (az (ic p0s) aW (0,0,0)) (fun r6=>some r6) (fun s7=>if decide (((p0s.size:Nat):Int)>0) then ((jM p0s 0).bind fun z8=>Option.bind ((if z8==45 then (some (IntKind.i64.wrap (-s7.1))) else (some s7.1):Option Int)) (fun s9=>if decide (s7.2.1>9) then (some (0,false)) else (if decide (((p0s.size:Nat):Int)>10) then (some (0,false)) else ((bY s9).bind fun r10=>if r10 !=p0s then (some (0,false)) else (some (s9,true)))))) else (if decide (s7.2.1>9) then (some (0,false)) else (if decide (((p0s.size:Nat):Int)>10) then (some (0,false)) else ((bY s7.1).bind fun r11=>if r11 !=p0s then (some (0,false)) else (some (s7.1,true))))))
def kD (p0s:ByteArray) (s3:Int):Option (Out (Int×Bool) Int):=
 if decide (s3<9) then ((eH s3).bind fun r3=>if r3==p0s then (some (.ret (s3,true))) else (some (.nxt (IntKind.i64.wrap (s3+1))))) else (some (.brk s3))
def fI (p0s:ByteArray):Option (Int×Bool):=
 aP (az (kD p0s) aW 0) (fun r=>some r) (fun s4=>some (0,false))
def fY (p0s:ByteArray):Option (Yq4×Bool):=
 (hZ p0s 58).bind fun r0=>if (r0.length:Int) !=2 then (some ((0,0,0,0),false)) else ((aQ r0 1).bind fun x1=>if ((x1.size:Nat):Int) !=3 then (some ((0,0,0,0),false)) else ((aQ r0 0).bind fun x2=>(fN x2).bind fun r3=>(aQ r0 1).bind fun x4=>(rj x4 1 2).bind fun z5=>(fI z5).bind fun r6=>(aQ r0 1).bind fun x11=>(jM x11 0).bind fun z12=>(aQ r0 1).bind fun x13=>(jM x13 2).bind fun z14=>(jg (r3.1,IntKind.i64.wrap ((IntKind.i64.wrap z12) - 48),IntKind.i64.wrap ((IntKind.i64.wrap z14) - 48),P0 r6.1 2)).bind fun r15=>if r15 !=p0s then (some ((0,0,0,0),false)) else (some ((r3.1,IntKind.i64.wrap ((IntKind.i64.wrap z12) - 48),IntKind.i64.wrap ((IntKind.i64.wrap z14) - 48),P0 r6.1 2),true))))
def cC (r0:List ByteArray) (s3:Int×List Yq6):Option (Out ((List Yq6)×Bool) (Int×List Yq6)):=
 if decide (s3.1<(r0.length:Int)) then (if decide (s3.1<=6) then ((aQ r0 s3.1).bind fun x4=>if decide (((x4.size:Nat):Int)<2) then (some (.ret (([] :List Yq6),false))) else ((aQ r0 s3.1).bind fun x5=>(rj x5 1 ((x5.size:Nat):Int)).bind fun z6=>(fY z6).bind fun r7=>if r7.2 then ((aQ r0 s3.1).bind fun x11=>(jM x11 0).bind fun z12=>(b9 40 s3.2 ([(z12==43,r7.1.1,r7.1.2.1,r7.1.2.2.1,r7.1.2.2.2)])).bind fun z13=>some (.nxt (IntKind.i64.wrap (s3.1+1),z13))) else (some (.ret (([] :List Yq6),false))))) else (some (.brk (s3.1,s3.2)))) else (some (.brk (s3.1,s3.2)))
def dH (p0s:ByteArray):Option ((List Yq6)×Bool):=
 if p0s==((⟨#[]⟩:ByteArray)) then (some (([] :List Yq6),true)) else ((hZ p0s 32).bind fun r0=>aP (az (cC r0) aW (0,([] :List Yq6))) (fun r14=>some r14) (fun s15=>(cP s15.2).bind fun r16=>if r16 !=p0s then (some (([] :List Yq6),false)) else (some (s15.2,true))))
def jw (p0s:ByteArray):Option (Int×((List (Bool×Yq4)))×Bool):=
 (hZ p0s 59).bind fun r1=>if (r1.length:Int) !=3 then (some (0,[],false)) else ((aQ r1 0).bind fun x1=>(fN x1).bind fun r2=>(aQ r1 1).bind fun x2=>(dH x2).bind fun r3=>if r2.2 then (if r3.2 then ((eI r2.1 r3.1).bind fun r4=>if r4 !=p0s then (some (0,[],false)) else (some (r2.1,r3.1,true))) else (some (0,[],false))) else (some (0,[],false)))
def bw (p0:ByteArray) (s1:(List Int)×(List (List Yq6))×Int×Int):Option (Out ((List Int)×(List (List Yq6))×Int) ((List Int)×(List (List Yq6))×Int×Int)):=
 if decide (s1.2.2.2<((p0.size:Nat):Int)) then (if decide (((p0.size:Nat):Int)<=4000) then (Hs (S:=(List Int)×(List (List Yq6))×Int) ((jM p0 s1.2.2.2).bind fun z2=>if z2 !=10 then (some (.inr (s1.1,s1.2.1,s1.2.2.1))) else ((rj p0 s1.2.2.1 (IntKind.i64.wrap (s1.2.2.2+1))).bind fun z3=>(jw z3).bind fun r4=>if r4.2.2 then (if decide ((s1.1.length:Int)>0) then ((aQ s1.1 (IntKind.i64.wrap ((s1.1.length:Int) - 1))).bind fun x5=>if r4.1 !=(IntKind.i64.wrap (x5+1)) then (some (.inl (.ret (s1.1,s1.2.1,s1.2.2.1)))) else ((b9 8 s1.1 ([r4.1])).bind fun z6=>(b9 24 s1.2.1 ([r4.2.1])).bind fun z7=>some (.inr (z6,z7,IntKind.i64.wrap (s1.2.2.2+1))))) else ((b9 8 s1.1 ([r4.1])).bind fun z8=>(b9 24 s1.2.1 ([r4.2.1])).bind fun z9=>some (.inr (z8,z9,IntKind.i64.wrap (s1.2.2.2+1))))) else (some (.inl (.ret (s1.1,s1.2.1,s1.2.2.1)))))) (fun s10=>some (.nxt (s10.1,s10.2.1,s10.2.2,IntKind.i64.wrap (s1.2.2.2+1))))) else (some (.brk (s1.1,s1.2.1,s1.2.2.1,s1.2.2.2)))) else (some (.brk (s1.1,s1.2.1,s1.2.2.1,s1.2.2.2)))
def m_s_ScanLog (p0:ByteArray):Option ((List Int)×(List (List Yq6))×Int):=
 aP (az (bw p0) aW (([] :List Int),([] :List (List Yq6)),0,0)) (fun r11=>some r11) (fun s12=>some (s12.1,s12.2.1,s12.2.2.1))
def w5 (p0e:(Int×Yq5)×Yq7×Yq8×ByteArray):Option Bool:=
 (m_s_ScanLog p0e.2.2.2).bind fun r1=>if r1.2.2==(p0e.2.2.2.size:Int) then (if decide ((p0e.2.2.2.size:Int)<=4000) then (if (r1.1.length:Int)==0 then (some true) else ((aQ r1.1 (IntKind.i64.wrap ((r1.1.length:Int) - 1))).bind fun x1=>(cB (p0e.1.1,p0e.1.2)).bind fun r2=>some (x1==r2))) else (some false)) else (some false)
def iG (p0e:(Int×Yq5)×Yq7×Yq8×ByteArray):Option Bool:=
 (m_s_IsValidHistory (p0e.1.1,p0e.1.2)).bind fun r1=>if r1 then ((dP (p0e.2.1.1,p0e.2.1.2)).bind fun r2=>if r2 then ((uA ((p0e.1.1,p0e.1.2),(p0e.2.1.1,p0e.2.1.2),p0e.2.2.1,p0e.2.2.2)).bind fun r3=>if r3 then ((w5 ((p0e.1.1,p0e.1.2),(p0e.2.1.1,p0e.2.1.2),p0e.2.2.1,p0e.2.2.2)).bind fun r4=>some r4) else (some false)) else (some false)) else (some false)
def pq (p0g:(List Int)×Yq1):Option EZ:=
 (b9 8 ([] :List Int) p0g.1).bind fun z1=>(b9 32 ([] :List Yq4) p0g.2).bind fun z2=>some (z1,z2)
def kE (p0h:Int×Yq5) (s3:Int×Int×Yq5):Option (Out (Int×Yq5) (Int×Int×Yq5)):=
 if decide (s3.1<(p0h.2.length:Int)) then ((aQ p0h.2 s3.1).bind fun x3=>(pq (x3.1,x3.2)).bind fun r9=>(b9 48 s3.2.2 ([(r9.1,r9.2)])).bind fun z3=>some (.nxt (IntKind.i64.wrap (s3.1+1),s3.2.1,z3))) else (some (.brk (s3.1,s3.2.1,s3.2.2)))
def sY (p0h:Int×Yq5):Option (Int×Yq5):=
 aP (az (kE p0h) aW (0,p0h.1,[])) (fun r=>some r) (fun s4=>some (s4.2.1,s4.2.2))
def jh (p0a:Int×(List Bool)×(List (List Int))) (s3:Int×Int×(List Bool)×(List (List Int))):Option (Out Yq2 (Int×Int×(List Bool)×(List (List Int)))):=
 if decide (s3.1<(p0a.2.2.length:Int)) then ((aQ p0a.2.2 s3.1).bind fun x3=>(b9 8 ([] :List Int) x3).bind fun z6=>(b9 24 s3.2.2.2 ([z6])).bind fun z7=>some (.nxt (IntKind.i64.wrap (s3.1+1),s3.2.1,s3.2.2.1,z7))) else (some (.brk (s3.1,s3.2.1,s3.2.2.1,s3.2.2.2)))
def qm (p0a:Int×(List Bool)×(List (List Int))):Option Yq2:=
 (b9 1 ([] :List Bool) p0a.2.1).bind fun z1=>aP (az (jh p0a) aW (0,p0a.1,z1,[])) (fun r=>some r) (fun s4=>some (s4.2.1,s4.2.2.1,s4.2.2.2))
def ji (p0r:(List Yq2)×Yq3) (s3:Int×(List Yq2)×Yq3):Option (Out Yq7 PX):=
 if decide (s3.1<(p0r.1.length:Int)) then ((aQ p0r.1 s3.1).bind fun x3=>(qm (x3.1,x3.2.1,x3.2.2)).bind fun r9=>(b9 56 s3.2.1 ([(r9.1,r9.2.1,r9.2.2)])).bind fun z3=>some (.nxt (IntKind.i64.wrap (s3.1+1),z3,s3.2.2))) else (some (.brk (s3.1,s3.2.1,s3.2.2)))
def jj (p0r:(List Yq2)×Yq3) (s7:Int×(List Yq2)×Yq3):Option (Out Yq7 PX):=
 if decide (s7.1<(p0r.2.length:Int)) then ((aQ p0r.2 s7.1).bind fun x6=>(gB x6.2.1).bind fun r15=>(b9 40 s7.2.2 ([(x6.1,r15,x6.2.2)])).bind fun z6=>some (.nxt (IntKind.i64.wrap (s7.1+1),s7.2.1,z6))) else (some (.brk (s7.1,s7.2.1,s7.2.2)))
def jO (p0r:(List Yq2)×Yq3):Option Yq7:=
 aP (az (ji p0r) aW (0,[],[])) (fun r=>some r) (fun s4=>aP (az (jj p0r) aW (0,s4.2.1,s4.2.2)) (fun r=>some r) (fun s8=>some (s8.2.1,s8.2.2)))
def qn (p0e:(Int×Yq5)×Yq7×Yq8×ByteArray):Option WC:=
 (sY (p0e.1.1,p0e.1.2)).bind fun r1=>(jO (p0e.2.1.1,p0e.2.1.2)).bind fun r2=>(b9 24 ([] :List E3) p0e.2.2.1).bind fun z1=>some ((r1.1,r1.2),(r2.1,r2.2),z1,p0e.2.2.2)
def mE (p0:(List Yq2)×Yq3) (p1:Int) (s3:Int):Option (Out (Yq7×Bool) Int):=
 if decide (s3<(p0.2.length:Int)) then ((aQ p0.2 s3).bind fun x3=>if decide (x3.1<p1) then (some (.nxt (IntKind.i64.wrap (s3+1)))) else (some (.brk s3))) else (some (.brk s3))
def iH (p0:(List Yq2)×Yq3) (p1:Int) (p2:Yq1):Option (Yq7×Bool):=
 (dP (p0.1,p0.2)).bind fun r1=>if r1 then ((iF (p0.1,p0.2) p1).bind fun r3=>if decide (r3≥0) then ((jO (p0.1,p0.2)).bind fun r6=>some ((r6.1,r6.2),false)) else (aP (az (mE p0 p1) aW 0) (fun r=>some r) (fun s4=>(chk (0<=s4/\s4<=(p0.2.length:Int))).bind fun _=>(b9 40 ([] :List Yq9) (p0.2.take s4.toNat)).bind fun z1=>(b9 40 z1 ([(p1,p2,0)])).bind fun z2=>(chk (0<=s4/\s4<=(p0.2.length:Int))).bind fun _=>(b9 40 z2 (p0.2.drop s4.toNat)).bind fun z3=>(l8 z3).bind fun r4=>if r4.2 then (some ((r4.1.1,r4.1.2),true)) else ((jO (p0.1,p0.2)).bind fun r5=>some ((r5.1,r5.2),false))))) else ((jO (p0.1,p0.2)).bind fun r2=>some ((r2.1,r2.2),false))
def gI (p0e:(Int×Yq5)×Yq7×Yq8×ByteArray) (p1id:Int) (p2x:Yq1):Option (WC×Bool):=
 (qn ((p0e.1.1,p0e.1.2),(p0e.2.1.1,p0e.2.1.2),p0e.2.2.1,p0e.2.2.2)).bind fun r1=>(iH (p0e.2.1.1,p0e.2.1.2) p1id p2x).bind fun r2=>(iG ((p0e.1.1,p0e.1.2),(p0e.2.1.1,p0e.2.1.2),p0e.2.2.1,p0e.2.2.2)).bind fun r3=>if r3 then (if r2.2 then (some (((r1.1.1,r1.1.2),(r2.1.1,r2.1.2),r1.2.2.1,r1.2.2.2),true)) else (some (((r1.1.1,r1.1.2),(r1.2.1.1,r1.2.1.2),r1.2.2.1,r1.2.2.2),false))) else (some (((r1.1.1,r1.1.2),(r1.2.1.1,r1.2.1.2),r1.2.2.1,r1.2.2.2),false))
def bZ (p0n:Int) (p1a:Int) (p2b:Int):Option Bool:=
 if decide (p0n≥p1a) then (some (decide (p0n<=p2b))) else (some false)
def jV (p0e:Int×Int×Int×Int) (p1nodes:Int):Option Bool:=
 (bZ p0e.1 1 99).bind fun r1=>if r1 then ((bZ p0e.2.1 0 (IntKind.i64.wrap (p1nodes - 1))).bind fun r2=>if r2 then ((bZ p0e.2.2.1 0 (IntKind.i64.wrap (p1nodes - 1))).bind fun r3=>if r3 then ((bZ p0e.2.2.2 0 2).bind fun r4=>some r4) else (some false)) else (some false)) else (some false)
def dQ (p0g:(List Int)×Yq1) (s3:Int):Option (Out Bool Int):=
 if decide (s3<(p0g.1.length:Int)) then ((aQ p0g.1 s3).bind fun x3=>(bZ x3 0 2).bind fun r3=>if r3 then (some (.nxt (IntKind.i64.wrap (s3+1)))) else (some (.ret false))) else (some (.brk s3))
def cZ (p0g:(List Int)×Yq1) (s7:Int):Option (Out Bool Int):=
 if decide (s7<(p0g.2.length:Int)) then ((aQ p0g.2 s7).bind fun x8=>(jV (x8.1,x8.2.1,x8.2.2.1,x8.2.2.2) (p0g.1.length:Int)).bind fun r6=>if r6 then (if decide (s7>0) then ((aQ p0g.2 (IntKind.i64.wrap (s7 - 1))).bind fun x9=>if decide (x9.1≥x8.1) then (some (.ret false)) else (some (.nxt (IntKind.i64.wrap (s7+1))))) else (some (.nxt (IntKind.i64.wrap (s7+1))))) else (some (.ret false))) else (some (.brk s7))
def cx (p0g:(List Int)×Yq1):Option Bool:=
 aP (az (dQ p0g) aW 0) (fun r=>some r) (fun s4=>aP (az (cZ p0g) aW 0) (fun r=>some r) (fun s8=>(bZ (p0g.1.length:Int) 1 5).bind fun r7=>if r7 then (some (decide ((p0g.2.length:Int)<=12))) else (some false)))
def cy (p0s1:List Int) (p1s2:List Int) (s3:Int):Option (Out Bool Int):=
 if decide (s3<(p0s1.length:Int)) then ((aQ p0s1 s3).bind fun x5=>(aQ p1s2 s3).bind fun x6=>if x5 !=x6 then (some (.ret false)) else (some (.nxt (IntKind.i64.wrap (s3+1))))) else (some (.brk s3))
def cd (p0s1:List Int) (p1s2:List Int):Option Bool:=
 if (p0s1.length:Int) !=(p1s2.length:Int) then (some false) else (aP (az (cy p0s1 p1s2) aW 0) (fun r=>some r) (fun s4=>some true))
def eO (p0h:Int×Yq5) (s3:Int):Option (Out Bool Int):=
 if decide (s3<(p0h.2.length:Int)) then ((aQ p0h.2 s3).bind fun x5=>(cx (x5.1,x5.2)).bind fun r15=>if r15 then ((aQ p0h.2 0).bind fun x6=>(cd x5.1 x6.1).bind fun r17=>if r17 then (some (.nxt (IntKind.i64.wrap (s3+1)))) else (some (.ret false))) else (some (.ret false))) else (some (.brk s3))
def m_i_IsValidHistory (p0h:Int×Yq5):Option Bool:=
 (bZ (p0h.2.length:Int) 1 8).bind fun r1=>if r1 then ((bZ p0h.1 1 (IntKind.i64.wrap ((IntKind.i64.wrap (999 - (p0h.2.length:Int)))+1))).bind fun r2=>if r2 then (aP (az (eO p0h) aW 0) (fun r=>some r) (fun s4=>some true)) else (some false)) else (some false)
def iI (p0h:Int×Yq5):Option Int:=
 (m_i_IsValidHistory (p0h.1,p0h.2)).bind fun r1=>if r1 then (some (IntKind.i64.wrap ((IntKind.i64.wrap (p0h.1+(p0h.2.length:Int))) - 1))) else (some 0)
def aN (p0s1:List Yq2) (p1s2:List Yq2) (p2eq:Yq2->Yq2->Option Bool) (s3:Int):Option (Out Bool Int):=
 if decide (s3<(p0s1.length:Int)) then ((aQ p0s1 s3).bind fun x5=>(aQ p1s2 s3).bind fun x6=>(p2eq (x5.1,x5.2.1,x5.2.2) (x6.1,x6.2.1,x6.2.2)).bind fun r15=>if r15 then (some (.nxt (IntKind.i64.wrap (s3+1)))) else (some (.ret false))) else (some (.brk s3))
def aY (p0s1:List Yq2) (p1s2:List Yq2) (p2eq:Yq2->Yq2->Option Bool):Option Bool:=
 if (p0s1.length:Int) !=(p1s2.length:Int) then (some false) else (aP (az (aN p0s1 p1s2 p2eq) aW 0) (fun r=>some r) (fun s4=>some true))
def b7 (p0s1:List Bool) (p1s2:List Bool) (s3:Int):Option (Out Bool Int):=
 if decide (s3<(p0s1.length:Int)) then ((aQ p0s1 s3).bind fun x5=>(aQ p1s2 s3).bind fun x6=>if x5 !=x6 then (some (.ret false)) else (some (.nxt (IntKind.i64.wrap (s3+1))))) else (some (.brk s3))
def dD (p0s1:List Bool) (p1s2:List Bool):Option Bool:=
 if (p0s1.length:Int) !=(p1s2.length:Int) then (some false) else (aP (az (b7 p0s1 p1s2) aW 0) (fun r=>some r) (fun s4=>some true))
def aZ (p0s1:List (List Int)) (p1s2:List (List Int)) (p2eq:(List Int)->(List Int)->Option Bool) (s3:Int):Option (Out Bool Int):=
 if decide (s3<(p0s1.length:Int)) then ((aQ p0s1 s3).bind fun x5=>(aQ p1s2 s3).bind fun x6=>(p2eq x5 x6).bind fun r9=>if r9 then (some (.nxt (IntKind.i64.wrap (s3+1)))) else (some (.ret false))) else (some (.brk s3))
def bL (p0s1:List (List Int)) (p1s2:List (List Int)) (p2eq:(List Int)->(List Int)->Option Bool):Option Bool:=
 if (p0s1.length:Int) !=(p1s2.length:Int) then (some false) else (aP (az (aZ p0s1 p1s2 p2eq) aW 0) (fun r=>some r) (fun s4=>some true))
def fZ (p0x:List Int) (p1y:List Int):Option Bool:=
 (cd p0x p1y).bind fun r1=>some r1
def dL (p0a:Int×(List Bool)×(List (List Int))) (p1b:Int×(List Bool)×(List (List Int))):Option Bool:=
 if p0a.1==p1b.1 then ((dD p0a.2.1 p1b.2.1).bind fun r1=>if r1 then ((bL p0a.2.2 p1b.2.2 (fun a0 a1=>fZ a0 a1)).bind fun r2=>some r2) else (some false)) else (some false)
def aM (p0s1:List Yq9) (p1s2:List Yq9) (p2eq:Yq9->Yq9->Option Bool) (s3:Int):Option (Out Bool Int):=
 if decide (s3<(p0s1.length:Int)) then ((aQ p0s1 s3).bind fun x5=>(aQ p1s2 s3).bind fun x6=>(p2eq (x5.1,x5.2.1,x5.2.2) (x6.1,x6.2.1,x6.2.2)).bind fun r9=>if r9 then (some (.nxt (IntKind.i64.wrap (s3+1)))) else (some (.ret false))) else (some (.brk s3))
def aV (p0s1:List Yq9) (p1s2:List Yq9) (p2eq:Yq9->Yq9->Option Bool):Option Bool:=
 if (p0s1.length:Int) !=(p1s2.length:Int) then (some false) else (aP (az (aM p0s1 p1s2 p2eq) aW 0) (fun r=>some r) (fun s4=>some true))
def bV (p0s1:List Yq4) (p1s2:List Yq4) (s3:Int):Option (Out Bool Int):=
 if decide (s3<(p0s1.length:Int)) then ((aQ p0s1 s3).bind fun x5=>(aQ p1s2 s3).bind fun x6=>if (x5.1==x6.1)&&((x5.2.1==x6.2.1)&&((x5.2.2.1==x6.2.2.1)&&((x5.2.2.2==x6.2.2.2)&&true))) then (some (.nxt (IntKind.i64.wrap (s3+1)))) else (some (.ret false))) else (some (.brk s3))
def cj (p0s1:List Yq4) (p1s2:List Yq4):Option Bool:=
 if (p0s1.length:Int) !=(p1s2.length:Int) then (some false) else (aP (az (bV p0s1 p1s2) aW 0) (fun r=>some r) (fun s4=>some true))
def lR (p0a:Yq1) (p1b:Yq1):Option Bool:=
 (cj p0a p1b).bind fun r1=>some r1
def gx (p0a:Int×(Yq1)×Int) (p1b:Int×(Yq1)×Int):Option Bool:=
 if p0a.1==p1b.1 then ((lR p0a.2.1 p1b.2.1).bind fun r1=>if r1 then (some (p0a.2.2==p1b.2.2)) else (some false)) else (some false)
def ga (p0a:(List Yq2)×Yq3) (p1b:(List Yq2)×Yq3):Option Bool:=
 (aY p0a.1 p1b.1 (fun a0 a1=>dL a0 a1)).bind fun r1=>if r1 then ((aV p0a.2 p1b.2 (fun a0 a1=>gx a0 a1)).bind fun r2=>some r2) else (some false)
def fO (p0e:Yq1):Option Yq1:=
 (b9 32 ([] :List Yq4) p0e).bind fun z1=>some z1
def jW (p0n:Int):Option Bool:=
 (bZ p0n 0 8).bind fun r1=>some r1
def qo (p0t:Int×Int×Int×Int):Option Bool:=
 if p0t.1==3 then ((jW p0t.2.1).bind fun r3=>if r3 then (if p0t.2.2.1==0 then (some (p0t.2.2.2==0)) else (some false)) else (some false)) else (if p0t.1==7 then (if p0t.2.1==0 then ((bZ p0t.2.2.1 0 p0t.2.2.2).bind fun r1=>if r1 then ((bZ p0t.2.2.2 1 3).bind fun r2=>some r2) else (some false)) else (some false)) else (Option.bind ((if p0t.1==1 then (some (p0t.1==1)) else (if p0t.1==2 then (some (p0t.1==2)) else (if p0t.1==4 then (some (p0t.1==4)) else (if p0t.1==5 then (some (p0t.1==5)) else (some (p0t.1==6))))):Option Bool)) (fun s1=>if s1 then (some ((p0t.1==p0t.1)&&((p0t.2.1==0)&&((p0t.2.2.1==0)&&((p0t.2.2.2==0)&&true))))) else (some false))))
def qp (p0e:List Yq4) (s1:(List (Tr Yq4))×Int):Option (Out (Tr Yq4) ((List (Tr Yq4))×Int)):=
 if decide (s1.2<(p0e.length:Int)) then ((aQ p0e s1.2).bind fun x2=>Option.bind ((Option.bind ((if x2.1==4 then (some (x2.1==4)) else (some (x2.1==5)):Option Bool)) (fun s3=>if s3 then (some 2) else (Option.bind ((if x2.1==6 then (some (x2.1==6)) else (some (x2.1==7)):Option Bool)) (fun s4=>if s4 then (some 1) else (some 0)))):Option Int)) (fun s5=>(qo (x2.1,x2.2.1,x2.2.2.1,x2.2.2.2)).bind fun r6=>if r6 then (if decide ((IntKind.i64.wrap ((s1.1.length:Int) - s5))<0) then (some (.ret Tr.nil)) else ((chk (And (0<=(IntKind.i64.wrap ((s1.1.length:Int) - s5))) ((IntKind.i64.wrap ((s1.1.length:Int) - s5))<=(s1.1.length:Int)))).bind fun _=>(b9 8 ([] :List (Tr Yq4)) (s1.1.drop ((IntKind.i64.wrap ((s1.1.length:Int) - s5)).toNat))).bind fun z10=>(chk (And (0<=(IntKind.i64.wrap ((s1.1.length:Int) - s5))) ((IntKind.i64.wrap ((s1.1.length:Int) - s5))<=(s1.1.length:Int)))).bind fun _=>(b9 8 (s1.1.take ((IntKind.i64.wrap ((s1.1.length:Int) - s5)).toNat)) ([Tr.node (x2.1,x2.2.1,x2.2.2.1,x2.2.2.2) z10])).bind fun z12=>some (.nxt (z12,IntKind.i64.wrap (s1.2+1))))) else (some (.ret Tr.nil)))) else (some (.brk (s1.1,s1.2)))
def ng (p0e:List Yq4):Option (Tr Yq4):=
 aP (az (qp p0e) aW (([] :List (Tr Yq4)),0)) (fun r13=>some r13) (fun s14=>if (s14.1.length:Int) !=1 then (some Tr.nil) else ((aQ s14.1 0).bind fun x15=>some x15))
def sZ (p0e:List Yq4):Option Bool:=
 (ng p0e).bind fun r0=>some (cond.match_1 (fun (u4:Bool)=>Bool) (Tr.isNil r0) (fun (u5:Unit)=>false) (fun (u6:Unit)=>true))
def kF (p0e:Yq1):Option Bool:=
 if decide ((p0e.length:Int)<=24) then ((sZ p0e).bind fun r1=>some r1) else (some false)
def bI (mrec:(Tr Yq4)->Option Int) (p0x:Tr Yq4) (z1:Yq4×List (Tr Yq4)) (s3:Int×Int):Option zp:=
 if decide (s3.2<(z1.2.length:Int)) then (Option.bind (((aQ z1.2 s3.2).bind fun x4=>(Tr.get p0x).bind fun z5=>(Tr.get p0x).bind fun z6=>if z6.1.1==7 then ((mrec x4).bind fun r10=>(Tr.get p0x).bind fun z11=>(Tr.get p0x).bind fun z12=>some (IntKind.i64.wrap (s3.1+(IntKind.i64.wrap ((IntKind.i64.wrap (r10+3))*z12.1.2.2.2))))) else ((mrec x4).bind fun r13=>some (IntKind.i64.wrap (s3.1+r13))):Option Int)) (fun s14=>some (.nxt (s14,IntKind.i64.wrap (s3.2+1))))) else (some (.brk (s3.1,s3.2)))
def bR:Nat->(Tr Yq4)->Option Int
 | 0,_=>none
 | n+1,p0x =>
  (Tr.get p0x).bind fun z0=>(Tr.get p0x).bind fun z1=>aP (az (bI (bR n) p0x z1) aW (1,0)) (fun r15=>some r15) (fun s16=>some (Min.min s16.1 100000))
def D2 (p0kind:Int):Option (Tr Yq4):=
 some (Tr.node (p0kind,0,0,0) ([] :List (Tr Yq4)))
def jX:Nat->(Tr Yq4)->Int->Int->Option (Tr Yq4)
 | 0,_,_,_=>none
 | n+1,p0x,p1low,p2high =>
  if p2high==0 then ((D2 2).bind fun r0=>some r0) else (((jX n) p0x (Max.max 0 (IntKind.i64.wrap (p1low - 1))) (IntKind.i64.wrap (p2high - 1))).bind fun r1=>if decide (p1low>0) then (some (Tr.node (4,0,0,0) ([p0x,r1]))) else ((D2 2).bind fun r2=>some (Tr.node (5,0,0,0) ([Tr.node (4,0,0,0) ([p0x,r1]),r2]))))
def bp (mrec:(Tr Yq4)->Option (Tr Yq4)) (z23:Yq4×List (Tr Yq4)) (s26:Int×Int×Int×Int×Int×List (Tr Yq4)):Option (Out (Tr Yq4) (Int×Int×Int×Int×Int×List (Tr Yq4))):=
 if decide (s26.1<(z23.2.length:Int)) then ((aQ z23.2 s26.1).bind fun x27=>(mrec x27).bind fun r30=>(b9 8 s26.2.2.2.2.2 ([r30])).bind fun z31=>some (.nxt (IntKind.i64.wrap (s26.1+1),s26.2.1,s26.2.2.1,s26.2.2.2.1,s26.2.2.2.2.1,z31))) else (some (.brk (s26.1,s26.2.1,s26.2.2.1,s26.2.2.2.1,s26.2.2.2.2.1,s26.2.2.2.2.2)))
def bB:Nat->(Tr Yq4)->Option (Tr Yq4)
 | 0,_=>none
 | n+1,p0x =>
  (Tr.get p0x).bind fun z0=>(Tr.get p0x).bind fun z1=>if z1.1.1==7 then ((Tr.get p0x).bind fun z11=>(Tr.get p0x).bind fun z12=>(aQ z12.2 0).bind fun x13=>((bB n) x13).bind fun r14=>(Tr.get p0x).bind fun z15=>(Tr.get p0x).bind fun z16=>(Tr.get p0x).bind fun z17=>(Tr.get p0x).bind fun z18=>(jX gp r14 z16.1.2.2.1 z18.1.2.2.2).bind fun r19=>some r19) else ((Tr.get p0x).bind fun z20=>(Tr.get p0x).bind fun z21=>(Tr.get p0x).bind fun z22=>(Tr.get p0x).bind fun z23=>aP (az (bp (bB n) z23) aW (0,z21.1.1,z21.1.2.1,z21.1.2.2.1,z21.1.2.2.2,([] :List (Tr Yq4)))) (fun r32=>some r32) (fun s33=>some (Tr.node (s33.2.1,s33.2.2.1,s33.2.2.2.1,s33.2.2.2.2.1) s33.2.2.2.2.2)))
def bd (mrec:(Tr Yq4)->Yq1->Option Yq1) (z1:Yq4×List (Tr Yq4)) (s4:Int×List Yq4):Option (Out Yq1 (Int×List Yq4)):=
 if decide (s4.1<(z1.2.length:Int)) then ((aQ z1.2 s4.1).bind fun x5=>(mrec x5 s4.2).bind fun r6=>some (.nxt (IntKind.i64.wrap (s4.1+1),r6))) else (some (.brk (s4.1,s4.2)))
def bz:Nat->(Tr Yq4)->Yq1->Option Yq1 
 | 0,_,_=>none
 | n+1,p0x,p1out =>
  (Tr.get p0x).bind fun z0=>(Tr.get p0x).bind fun z1=>aP (az (bd (bz n) z1) aW (0,p1out)) (fun r7=>some r7) (fun s8=>(Tr.get p0x).bind fun z12=>(Tr.get p0x).bind fun z13=>(b9 32 s8.2 ([(z13.1.1,z13.1.2.1,z13.1.2.2.1,z13.1.2.2.2)])).bind fun z14=>some z14)
def qq (p0x:Tr Yq4):Option Yq1:=
 (bz gp p0x ([] :List Yq4)).bind fun r0=>some r0
def lS (p0e:List Yq4):Option (Yq1×Bool):=
 (kF p0e).bind fun r0=>if r0 then ((ng p0e).bind fun r1=>(bR gp r1).bind fun r2=>if decide (r2>5000) then (some (([] :List Yq4),false)) else ((bB gp r1).bind fun r3=>(qq r3).bind fun r4=>if decide ((r4.length:Int)>400) then (some (([] :List Yq4),false)) else (some (r4,true)))) else (some (([] :List Yq4),false))
def cQ (p0p:(List Int)×Int×Int×(List Int)×Bool) (p1last:Int) (p2first:Int) (s2:Int×List Int):Option (Out PW (Int×List Int)):=
 if decide (s2.1<(p0p.2.2.2.1.length:Int)) then (Option.bind (((chk (0<=s2.1)).bind fun _=>if (zB (tz p1last s2.1) 1)==1 then ((aQ s2.2 s2.1).bind fun x4=>(aQ s2.2 s2.1).bind fun x5=>some (s2.2.set s2.1.toNat (orI x4 p2first))) else (some s2.2):Option (List Int))) (fun s6=>some (.nxt (IntKind.i64.wrap (s2.1+1),s6)))) else (some (.brk (s2.1,s2.2)))
def dA (p0p:(List Int)×Int×Int×(List Int)×Bool) (p1last:Int) (p2first:Int):Option PW:=
 aP (az (cQ p0p p1last p2first) aW (0,p0p.2.2.2.1)) (fun r7=>some r7) (fun s8=>some (p0p.1,p0p.2.1,p0p.2.2.1,s8.2,p0p.2.2.2.2))
def bC:Nat->PW->(Tr Yq4)->Option ((Int×Int×Bool)×(List Int)×Int×Int×(List Int)×Bool)
 | 0,_,_=>none
 | n+1,p0,p1 =>
  (Tr.get p1).bind fun z0=>(Tr.get p1).bind fun z1=>if z1.1.1==2 then (some ((0,0,true),p0.1,p0.2.1,p0.2.2.1,p0.2.2.2.1,p0.2.2.2.2)) else (if z1.1.1==3 then ((Tr.get p1).bind fun z5=>(Tr.get p1).bind fun z6=>(b9 8 p0.1 ([z6.1.2.1])).bind fun z7=>(b9 8 p0.2.2.2.1 ([0])).bind fun z8=>some ((Ja 1 (p0.1.length:Int),Ja 1 (p0.1.length:Int),false),z7,p0.2.1,p0.2.2.1,z8,p0.2.2.2.2)) else (if z1.1.1==5 then ((Tr.get p1).bind fun z17=>(Tr.get p1).bind fun z18=>(aQ z18.2 0).bind fun x19=>((bC n) (p0.1,p0.2.1,p0.2.2.1,p0.2.2.2.1,p0.2.2.2.2) x19).bind fun r20=>(Tr.get p1).bind fun z21=>(Tr.get p1).bind fun z22=>(aQ z22.2 1).bind fun x23=>((bC n) r20.2 x23).bind fun r24=>if r20.1.2.2 then (some ((orI r20.1.1 r24.1.1,orI r20.1.2.1 r24.1.2.1,true),r24.2.1,r24.2.2.1,r24.2.2.2.1,r24.2.2.2.2.1,r24.2.2.2.2.2)) else (some ((orI r20.1.1 r24.1.1,orI r20.1.2.1 r24.1.2.1,r24.1.2.2),r24.2.1,r24.2.2.1,r24.2.2.2.1,r24.2.2.2.2.1,r24.2.2.2.2.2))) else (if z1.1.1==4 then ((Tr.get p1).bind fun z33=>(Tr.get p1).bind fun z34=>(aQ z34.2 0).bind fun x35=>((bC n) (p0.1,p0.2.1,p0.2.2.1,p0.2.2.2.1,p0.2.2.2.2) x35).bind fun r36=>(Tr.get p1).bind fun z37=>(Tr.get p1).bind fun z38=>(aQ z38.2 1).bind fun x39=>((bC n) r36.2 x39).bind fun r40=>(dA (r40.2.1,r40.2.2.1,r40.2.2.2.1,r40.2.2.2.2.1,r40.2.2.2.2.2) r36.1.2.1 r40.1.1).bind fun r41=>if r36.1.2.2 then (Option.bind ((if r36.1.2.2 then (some (orI r36.1.1 r40.1.1,r40.1.2.1,r40.1.2.2)) else (some (r36.1.1,r40.1.2.1,r40.1.2.2)):Option (Int×Int×Bool))) (fun s42=>Option.bind ((if r40.1.2.2 then (some (s42.1,orI s42.2.1 r36.1.2.1,s42.2.2)) else (some (s42.1,s42.2.1,s42.2.2)):Option (Int×Int×Bool))) (fun s43=>some ((s43.1,s43.2.1,s43.2.2),r41.1,r41.2.1,r41.2.2.1,r41.2.2.2.1,r41.2.2.2.2)))) else (Option.bind ((if r36.1.2.2 then (some (orI r36.1.1 r40.1.1,r40.1.2.1,false)) else (some (r36.1.1,r40.1.2.1,false)):Option (Int×Int×Bool))) (fun s44=>Option.bind ((if r40.1.2.2 then (some (s44.1,orI s44.2.1 r36.1.2.1,s44.2.2)) else (some (s44.1,s44.2.1,s44.2.2)):Option (Int×Int×Bool))) (fun s45=>some ((s45.1,s45.2.1,s45.2.2),r41.1,r41.2.1,r41.2.2.1,r41.2.2.2.1,r41.2.2.2.2))))) else (if z1.1.1==6 then ((Tr.get p1).bind fun z46=>(Tr.get p1).bind fun z47=>(aQ z47.2 0).bind fun x48=>((bC n) (p0.1,p0.2.1,p0.2.2.1,p0.2.2.2.1,p0.2.2.2.2) x48).bind fun r49=>(dA (r49.2.1,r49.2.2.1,r49.2.2.2.1,r49.2.2.2.2.1,r49.2.2.2.2.2) r49.1.2.1 r49.1.1).bind fun r50=>some ((r49.1.1,r49.1.2.1,true),r50.1,r50.2.1,r50.2.2.1,r50.2.2.2.1,r50.2.2.2.2)) else (some ((0,0,false),p0.1,p0.2.1,p0.2.2.1,p0.2.2.2.1,p0.2.2.2.2))))))
def dk (r0:Yq1×Bool) (s2:Int×Int):Option (Out (PW×Bool) (Int×Int)):=
 if decide (s2.2<(r0.1.length:Int)) then (Option.bind (((aQ r0.1 s2.2).bind fun x3=>if x3.1==3 then (some (IntKind.i64.wrap (s2.1+1))) else (some s2.1):Option Int)) (fun s4=>some (.nxt (s4,IntKind.i64.wrap (s2.2+1))))) else (some (.brk (s2.1,s2.2)))
def gJ (p0e:List Yq4):Option (PW×Bool):=
 (lS p0e).bind fun r0=>if r0.2 then (aP (az (dk r0) aW (0,0)) (fun r5=>some r5) (fun s6=>if decide (s6.1>20) then (some ((([] :List Int),0,0,([] :List Int),false),false)) else ((ng r0.1).bind fun r7=>(bC gp (([] :List Int),0,0,([] :List Int),false) r7).bind fun r8=>some ((r8.2.1,r8.1.1,r8.1.2.1,r8.2.2.2.2.1,r8.1.2.2),true)))) else (some ((([] :List Int),0,0,([] :List Int),false),false))
def dR (p3:Int->Int->Option (Int×Bool)) (s29:(List Int)×(List (Int×Int))×Int×Int×(List Bool)×(List (List Int))) (s39:(List Int)×(List (Int×Int))×(List Int)×Int):Option (Out (Yq2×Bool) ((List Int)×(List (Int×Int))×(List Int)×Int)):=
 if decide (s39.2.2.2<9) then (Option.bind (((aQ s39.1 s29.2.2.1).bind fun x20=>(p3 x20 s39.2.2.2).bind fun r20=>if r20.2 then ((chk (iOk r20.1=true)).bind fun _=>Option.bind ((if (lkM s39.2.1 r20.1).isSome then (some (s39.1,s39.2.1,(lkM s39.2.1 r20.1).getD 0)) else ((Mr s39.2.1 iOk iOk r20.1 (s39.1.length:Int)).bind fun m37=>(b9 8 s39.1 ([r20.1])).bind fun z75=>some (z75,m37,(s39.1.length:Int))):Option ((List Int)×(List (Int×Int))×Int))) (fun s43=>(b9 8 s39.2.2.1 ([s43.2.2])).bind fun z76=>some (s43.1,s43.2.1,z76))) else ((b9 8 s39.2.2.1 ([-1])).bind fun z73=>some (s39.1,s39.2.1,z73)):Option ((List Int)×(List (Int×Int))×(List Int)))) (fun s42=>some (.nxt (s42.1,s42.2.1,s42.2.2,IntKind.i64.wrap (s39.2.2.2+1))))) else (some (.brk (s39.1,s39.2.1,s39.2.2.1,s39.2.2.2)))
def bW (p1:Int) (p2:Int->Option Bool) (p3:Int->Int->Option (Int×Bool)) (s29:(List Int)×(List (Int×Int))×Int×Int×(List Bool)×(List (List Int))):Option (Out (Yq2×Bool) ((List Int)×(List (Int×Int))×Int×Int×(List Bool)×(List (List Int)))):=
 if decide (s29.2.2.1<(s29.1.length:Int)) then (aP (az (dR p3 s29) aW (s29.1,s29.2.1,([] :List Int),0)) (fun r=>some (.ret r)) (fun s40=>if decide ((s40.1.length:Int)>p1) then (some (.ret ((0,[],[]),false))) else ((aQ s40.1 s29.2.2.1).bind fun x21=>(p2 x21).bind fun r21=>(b9 1 s29.2.2.2.2.1 ([r21])).bind fun z77=>(b9 24 s29.2.2.2.2.2 ([s40.2.2.1])).bind fun z78=>some (.nxt (s40.1,s40.2.1,IntKind.i64.wrap (s29.2.2.1+1),s29.2.2.2.1,z77,z78))))) else (some (.brk (s29.1,s29.2.1,s29.2.2.1,s29.2.2.2.1,s29.2.2.2.2.1,s29.2.2.2.2.2)))
def eJ (p0:Int) (p1:Int) (p2:Int->Option Bool) (p3:Int->Int->Option (Int×Bool)):Option (Yq2×Bool):=
 (Mr ([] :List (Int×Int)) iOk iOk p0 0).bind fun m1=>aP (az (bW p1 p2 p3) aW ([p0],m1,0,0,[],[])) (fun r=>some r) (fun s30=>some ((s30.2.2.2.1,s30.2.2.2.2.1,s30.2.2.2.2.2),true))
def dm (p0p:(List Int)×Int×Int×(List Int)×Bool) (p1set:Int):Option Bool:=
 if (zB p1set 1)==1 then (if p0p.2.2.2.2 then (some true) else (some ((zB (tz p1set 1) p0p.2.2.1) !=0))) else (some ((zB (tz p1set 1) p0p.2.2.1) !=0))
def cW (p0p:(List Int)×Int×Int×(List Int)×Bool) (p1set:Int) (s6:Int×Int):Option zp:=
 if decide (s6.2<(p0p.2.2.2.1.length:Int)) then (Option.bind (((aQ p0p.2.2.2.1 s6.2).bind fun x6=>(chk (0<=IntKind.i64.wrap (s6.2+1))).bind fun _=>if (zB (tz p1set (IntKind.i64.wrap (s6.2+1))) 1)==1 then (some (orI s6.1 x6)) else (some s6.1):Option Int)) (fun s8=>some (.nxt (s8,IntKind.i64.wrap (s6.2+1))))) else (some (.brk (s6.1,s6.2)))
def cX (p0p:(List Int)×Int×Int×(List Int)×Bool) (p2letter:Int) (s7:Int×Int) (s13:Int×Int):Option zp:=
 if decide (s13.2<(p0p.1.length:Int)) then (Option.bind (((aQ p0p.1 s13.2).bind fun x12=>if x12==p2letter then ((chk (0<=s13.2)).bind fun _=>if (zB (tz s7.1 s13.2) 1)==1 then ((chk (0<=IntKind.i64.wrap (s13.2+1))).bind fun _=>some (orI s13.1 (Ja 1 (IntKind.i64.wrap (s13.2+1))))) else (some s13.1)) else (some s13.1):Option Int)) (fun s15=>some (.nxt (s15,IntKind.i64.wrap (s13.2+1))))) else (some (.brk (s13.1,s13.2)))
def gb (p0p:(List Int)×Int×Int×(List Int)×Bool) (p1set:Int) (p2letter:Int):Option Int:=
 Option.bind ((if (zB p1set 1)==1 then (some p0p.2.1) else (some 0):Option Int)) (fun s1=>aP (az (cW p0p p1set) aW (s1,0)) (fun r=>some r) (fun s7=>aP (az (cX p0p p2letter s7) aW (0,0)) (fun r=>some r) (fun s14=>some s14.1)))
def c7 (p0set:Int) (p1letter:Int) (q0:(List Int)×Int×Int×(List Int)×Bool):Option (Int×Bool):=
 (gb (q0.1,q0.2.1,q0.2.2.1,q0.2.2.2.1,q0.2.2.2.2) p0set p1letter).bind fun r1=>some (r1,r1 !=0)
def ig (p0p:(List Int)×Int×Int×(List Int)×Bool) (p1most:Int):Option (Yq2×Bool):=
 (eJ 1 p1most (fun a0=>dm (p0p.1,p0p.2.1,p0p.2.2.1,p0p.2.2.2.1,p0p.2.2.2.2) a0) (fun a0 a1=>c7 a0 a1 (p0p.1,p0p.2.1,p0p.2.2.1,p0p.2.2.2.1,p0p.2.2.2.2))).bind fun r1=>some ((r1.1.1,r1.1.2.1,r1.1.2.2),r1.2)
def dn (s5:Bool×Int×List Bool) (x6:List Int) (s8:Bool×Int×List Bool):Option (Out (List Bool) (Bool×Int×List Bool)):=
 if decide (s8.2.1<(x6.length:Int)) then (Option.bind (((aQ x6 s8.2.1).bind fun x9=>if decide (x9≥0) then ((aQ s8.2.2 x9).bind fun x10=>if x10 then ((aQ s8.2.2 s5.2.1).bind fun x11=>if x11 then (some (s8.1,s8.2.2)) else ((aQ s8.2.2 s5.2.1).bind fun x12=>some (true,s8.2.2.set s5.2.1.toNat true))) else (some (s8.1,s8.2.2))) else (some (s8.1,s8.2.2)):Option (Bool×List Bool))) (fun s13=>some (.nxt (s13.1,IntKind.i64.wrap (s8.2.1+1),s13.2)))) else (some (.brk (s8.1,s8.2.1,s8.2.2)))
def dq (p0a:Int×(List Bool)×List (List Int)) (s5:Bool×Int×List Bool):Option (Out (List Bool) (Bool×Int×List Bool)):=
 if decide (s5.2.1<(p0a.2.2.length:Int)) then ((aQ p0a.2.2 s5.2.1).bind fun x6=>aP (az (dn s5 x6) aW (s5.1,0,s5.2.2)) (fun r14=>some (.ret r14)) (fun s15=>some (.nxt (s15.1,IntKind.i64.wrap (s5.2.1+1),s15.2.2)))) else (some (.brk (s5.1,s5.2.1,s5.2.2)))
def ij (p0a:Int×(List Bool)×List (List Int)) (s3:Bool×List Bool):Option (Out (List Bool) (Bool×List Bool)):=
 if s3.1 then (aP (az (dq p0a) aW (false,0,s3.2)) (fun r16=>some (.ret r16)) (fun s17=>some (.nxt (s17.1,s17.2.2)))) else (some (.brk (s3.1,s3.2)))
def eP (p0a:Int×(List Bool)×List (List Int)):Option (List Bool):=
 (b9 1 ([] :List Bool) p0a.2.1).bind fun z0=>aP (az (ij p0a) aW (true,z0)) (fun r18=>some r18) (fun s19=>some s19.2)
def cf (p0s:List (List Int)) (p1f:(List Int)->Option Bool) (s3:Int):Option (Out Int Int):=
 if decide (s3<(p0s.length:Int)) then ((aQ p0s s3).bind fun x3=>(p1f x3).bind fun r6=>if r6 then (some (.ret s3)) else (some (.nxt (IntKind.i64.wrap (s3+1))))) else (some (.brk s3))
def bU (p0s:List (List Int)) (p1f:(List Int)->Option Bool):Option Int:=
 aP (az (cf p0s p1f) aW 0) (fun r=>some r) (fun s4=>some (-1))
def gE (p0x:List Int) (q0:List Int):Option Bool:=
 (cd p0x q0).bind fun r1=>some r1
def cR (p1:List Int) (x57:List Int) (s52:Int×(List Int)):Option (Out ((List Int)×Int) (Int×(List Int))):=
 if decide (s52.1<(x57.length:Int)) then ((aQ x57 s52.1).bind fun x64=>Option.bind ((if decide (x64≥0) then ((aQ p1 x64).bind fun x66=>some x66) else (some x64):Option Int)) (fun s54=>(b9 8 s52.2 ([s54])).bind fun z38=>some (.nxt (IntKind.i64.wrap (s52.1+1),z38)))) else (some (.brk (s52.1,s52.2)))
def dE (p0:Int×(List Bool)×(List (List Int))) (p1:List Int) (s37:(List (List Int))×(List Int)×Int):Option (Out ((List Int)×Int) ((List (List Int))×(List Int)×Int)):=
 if decide (s37.2.2<(p1.length:Int)) then (Option.bind (((aQ p1 s37.2.2).bind fun x56=>if decide (x56<0) then ((b9 8 s37.2.1 ([-1])).bind fun z42=>some (s37.1,z42)) else ((aQ p0.2.2 s37.2.2).bind fun x57=>aP (az (cR p1 x57) aW (0,[x56])) (fun _=>none) (fun s53=>(bU s37.1 (fun a0=>gE a0 s53.2)).bind fun r12=>Option.bind ((if decide (r12<0) then ((b9 24 s37.1 ([s53.2])).bind fun z40=>some (z40,(s37.1.length:Int))) else (some (s37.1,r12)):Option ((List (List Int))×Int))) (fun s55=>(b9 8 s37.2.1 ([s55.2])).bind fun z41=>some (s55.1,z41)))):Option ((List (List Int))×(List Int)))) (fun s47=>some (.nxt (s47.1,s47.2,IntKind.i64.wrap (s37.2.2+1))))) else (some (.brk (s37.1,s37.2.1,s37.2.2)))
def dB (p0:Int×(List Bool)×(List (List Int))) (p1:List Int):Option ((List Int)×Int):=
 aP (az (dE p0 p1) aW (([] :List (List Int)),([] :List Int),0)) (fun r=>some r) (fun s38=>some (s38.2.1,(s38.1.length:Int)))
def cD (p0a:Int×(List Bool)×(List (List Int))) (r1:List Bool) (s5:(List Int)×Int):Option (Out (List Int) ((List Int)×Int)):=
 if decide (s5.2<(r1.length:Int)) then (Option.bind (((aQ r1 s5.2).bind fun x11=>if x11 then ((aQ p0a.2.1 s5.2).bind fun x12=>if x12 then ((b9 8 s5.1 ([1])).bind fun z18=>some z18) else ((b9 8 s5.1 ([0])).bind fun z17=>some z17)) else ((b9 8 s5.1 ([-1])).bind fun z16=>some z16):Option (List Int))) (fun s7=>some (.nxt (s7,IntKind.i64.wrap (s5.2+1))))) else (some (.brk (s5.1,s5.2)))
def fJ (p0a:Int×(List Bool)×(List (List Int))) (s10:(List Int)×Int):Option (Out (List Int) ((List Int)×Int)):=
 (dB (p0a.1,p0a.2.1,p0a.2.2) s10.1).bind fun r4=>if r4.2==s10.2 then (some (.ret r4.1)) else (some (.nxt (r4.1,r4.2)))
def dt (p0a:Int×(List Bool)×(List (List Int))):Option (List Int):=
 (eP (p0a.1,p0a.2.1,p0a.2.2)).bind fun r1=>aP (az (cD p0a r1) aW (([] :List Int),0)) (fun r=>some r) (fun s6=>aP (az (fJ p0a) aW (s6.1,-1)) (fun r=>some r) (fun s11=>none))
def uB (p0x:Int) (p1y:Int):Option (Int×Int):=
 some (IntKind.u32.wrap (tz (IntKind.u64.wrap ((IntKind.u64.wrap p0x)*(IntKind.u64.wrap p1y))) 32),IntKind.u32.wrap (IntKind.u64.wrap ((IntKind.u64.wrap p0x)*(IntKind.u64.wrap p1y))))
def nG (p0x:Int) (p1y:Int):Option (Int×Int):=
 some (IntKind.u64.wrap ((IntKind.u64.wrap ((IntKind.u64.wrap ((tz p0x 32)*(tz p1y 32)))+(tz (IntKind.u64.wrap ((IntKind.u64.wrap ((tz p0x 32)*(PS p1y 4294967295)))+(tz (IntKind.u64.wrap ((PS p0x 4294967295)*(PS p1y 4294967295))) 32))) 32)))+(tz (IntKind.u64.wrap ((PS (IntKind.u64.wrap ((IntKind.u64.wrap ((tz p0x 32)*(PS p1y 4294967295)))+(tz (IntKind.u64.wrap ((PS p0x 4294967295)*(PS p1y 4294967295))) 32))) 4294967295)+(IntKind.u64.wrap ((PS p0x 4294967295)*(tz p1y 32))))) 32)),IntKind.u64.wrap (p0x*p1y))
def pv (p0x:Int) (p1y:Int):Option (Int×Int):=
 (nG p0x p1y).bind fun r1=>some (r1.1,r1.2)
def l9 (s4:Int×List Int):Option (Out (List Int) (Int×List Int)):=
 if decide (s4.1<(s4.2.length:Int)) then ((chk (And (0<=s4.1) (s4.1<=(s4.2.length:Int)))).bind fun _=>(chk (And (0<=s4.1) (s4.1<=(s4.2.length:Int)))).bind fun _=>(chk (And (0<=s4.1) (s4.1<=(s4.2.length:Int)))).bind fun _=>(chk (And (0<=s4.1) (s4.1<=(s4.2.length:Int)))).bind fun _=>some (.nxt (IntKind.i64.wrap (s4.1+((Min.min ((s4.2.take s4.1.toNat).length) (s4.2.length - s4.1.toNat):Nat):Int)),BD s4.2 s4.1.toNat (s4.2.take s4.1.toNat)))) else (some (.brk (s4.1,s4.2)))
def il (p0x:List Int) (p1count:Int):Option (List Int):=
 if decide (p1count<0) then (none) else ((pv (IntKind.u64.wrap (p0x.length:Int)) (IntKind.u64.wrap p1count)).bind fun r0=>if decide (r0.1>0) then (none) else (if decide (r0.2>9223372036854775807) then (none) else ((mkI 8 (IntKind.i64.wrap r0.2) 0).bind fun z1=>aP (az (l9) aW (((Min.min p0x.length (z1.length - 0):Nat):Int),BD z1 0 p0x)) (fun r13=>some r13) (fun s14=>some s14.2))))
def uC:Option Yq2:=
 (il ([-1]) 9).bind fun r1=>some (0,[false],[r1])
def dx (p0s:List Int) (p1v:Int) (s3:Int):Option (Out Int Int):=
 if decide (s3<(p0s.length:Int)) then ((aQ p0s s3).bind fun x3=>if p1v==x3 then (some (.ret s3)) else (some (.nxt (IntKind.i64.wrap (s3+1))))) else (some (.brk s3))
def eD (p0s:List Int) (p1v:Int):Option Int:=
 aP (az (dx p0s p1v) aW 0) (fun r=>some r) (fun s4=>some (-1))
def bc (p0class:Int) (q0:List Int):Option Int:=
 (eD q0 p0class).bind fun r1=>some r1
def cE (p0c:Int) (q0:Int×(List Bool)×(List (List Int))) (q1:Int->Option Int):Option Bool:=
 (q1 p0c).bind fun r1=>(aQ q0.2.1 r1).bind fun x1=>some x1
def eQ (p0a:Int×(List Bool)×(List (List Int))) (p1s:Int) (p2letter:Int):Option Int:=
 if decide (p1s<0) then (some (-1)) else ((jW p2letter).bind fun r1=>if r1 then ((aQ p0a.2.2 p1s).bind fun x1=>(aQ x1 p2letter).bind fun x2=>some x2) else (some (-1)))
def cF (p0c:Int) (p1letter:Int) (q0:Int×(List Bool)×(List (List Int))) (q1:Int->Option Int) (q2:List Int):Option (Int×Bool):=
 (q1 p0c).bind fun r1=>(eQ (q0.1,q0.2.1,q0.2.2) r1 p1letter).bind fun r2=>if decide (r2<0) then (some (0,false)) else ((aQ q2 r2).bind fun x1=>if decide (x1<0) then (some (0,false)) else ((aQ q2 r2).bind fun x2=>some (x2,true)))
def cn (p0a:Int×(List Bool)×(List (List Int))):Option Yq2:=
 (dt (p0a.1,p0a.2.1,p0a.2.2)).bind fun r1=>(aQ r1 p0a.1).bind fun x1=>if decide (x1<0) then ((uC).bind fun r3=>some (r3.1,r3.2.1,r3.2.2)) else ((aQ r1 p0a.1).bind fun x2=>(eJ x2 (r1.length:Int) (fun a0=>cE a0 (p0a.1,p0a.2.1,p0a.2.2) (fun a0=>bc a0 r1)) (fun a0 a1=>cF a0 a1 (p0a.1,p0a.2.1,p0a.2.2) (fun a0=>bc a0 r1) r1)).bind fun r2=>some (r2.1.1,r2.1.2.1,r2.1.2.2))
def Au (p0a:Int×(List Bool)×(List (List Int))):Option (Yq2×Bool):=
 (cn (p0a.1,p0a.2.1,p0a.2.2)).bind fun r1=>if decide ((r1.2.1.length:Int)>12) then (some ((0,[],[]),false)) else (some ((r1.1,r1.2.1,r1.2.2),true))
def im (p0e:Yq1):Option (Yq2×Bool):=
 (gJ p0e).bind fun r1=>if r1.2 then ((ig (r1.1.1,r1.1.2.1,r1.1.2.2.1,r1.1.2.2.2.1,r1.1.2.2.2.2) 200).bind fun r2=>if r2.2 then ((Au (r2.1.1,r2.1.2.1,r2.1.2.2)).bind fun r3=>some ((r3.1.1,r3.1.2.1,r3.1.2.2),r3.2)) else (some ((0,[],[]),false))) else (some ((0,[],[]),false))
def bP (p0s:List Yq2) (p1f:Yq2->Option Bool) (s3:Int):Option (Out Int Int):=
 if decide (s3<(p0s.length:Int)) then ((aQ p0s s3).bind fun x3=>(p1f (x3.1,x3.2.1,x3.2.2)).bind fun r9=>if r9 then (some (.ret s3)) else (some (.nxt (IntKind.i64.wrap (s3+1))))) else (some (.brk s3))
def ba (p0s:List Yq2) (p1f:Yq2->Option Bool):Option Int:=
 aP (az (bP p0s p1f) aW 0) (fun r=>some r) (fun s4=>some (-1))
def ma (p0b:Int×(List Bool)×(List (List Int))) (q0:Int×(List Bool)×(List (List Int))):Option Bool:=
 (dL (q0.1,q0.2.1,q0.2.2) (p0b.1,p0b.2.1,p0b.2.2)).bind fun r1=>some r1
def kG (p0:List Yq9) (s7:Int×(List Yq2)×Yq3):Option (Out (Yq7×Bool) PX):=
 if decide (s7.1<(p0.length:Int)) then ((aQ p0 s7.1).bind fun x5=>(im x5.2.1).bind fun r16=>if r16.2 then ((bZ x5.1 1 99).bind fun r17=>if r17 then (if decide (s7.1>0) then ((aQ p0 (IntKind.i64.wrap (s7.1 - 1))).bind fun x6=>if decide (x6.1≥x5.1) then (some (.ret (([],[]),false))) else ((ba s7.2.1 (fun a0=>ma a0 (r16.1.1,r16.1.2.1,r16.1.2.2))).bind fun r20=>Option.bind ((if decide (r20<0) then ((b9 56 s7.2.1 ([(r16.1.1,r16.1.2.1,r16.1.2.2)])).bind fun z17=>some ((s7.2.1.length:Int),z17,s7.2.2)) else (some (r20,s7.2.1,s7.2.2)):Option PX)) (fun s10=>(fO x5.2.1).bind fun r21=>(b9 40 s10.2.2 ([(x5.1,r21,s10.1)])).bind fun z18=>some (.nxt (IntKind.i64.wrap (s7.1+1),s10.2.1,z18))))) else ((ba s7.2.1 (fun a0=>ma a0 (r16.1.1,r16.1.2.1,r16.1.2.2))).bind fun r18=>Option.bind ((if decide (r18<0) then ((b9 56 s7.2.1 ([(r16.1.1,r16.1.2.1,r16.1.2.2)])).bind fun z14=>some ((s7.2.1.length:Int),z14,s7.2.2)) else (some (r18,s7.2.1,s7.2.2)):Option PX)) (fun s9=>(fO x5.2.1).bind fun r19=>(b9 40 s9.2.2 ([(x5.1,r19,s9.1)])).bind fun z15=>some (.nxt (IntKind.i64.wrap (s7.1+1),s9.2.1,z15))))) else (some (.ret (([],[]),false)))) else (some (.ret (([],[]),false)))) else (some (.brk (s7.1,s7.2.1,s7.2.2)))
def pw (p0:List Yq9):Option (Yq7×Bool):=
 aP (az (kG p0) aW (0,[],[])) (fun r=>some r) (fun s8=>some ((s8.2.1,s8.2.2),decide ((p0.length:Int)<=4)))
def cA (p0r:(List Yq2)×Yq3):Option Bool:=
 (pw p0r.2).bind fun r1=>if r1.2 then ((ga (r1.1.1,r1.1.2) (p0r.1,p0r.2)).bind fun r2=>some r2) else (some false)
def bg (p0s:List Yq9) (p1f:Yq9->Option Bool) (s3:Int):Option (Out Int Int):=
 if decide (s3<(p0s.length:Int)) then ((aQ p0s s3).bind fun x3=>(p1f (x3.1,x3.2.1,x3.2.2)).bind fun r6=>if r6 then (some (.ret s3)) else (some (.nxt (IntKind.i64.wrap (s3+1))))) else (some (.brk s3))
def bS (p0s:List Yq9) (p1f:Yq9->Option Bool):Option Int:=
 aP (az (bg p0s p1f) aW 0) (fun r=>some r) (fun s4=>some (-1))
def kH (p0q:Int×(Yq1)×Int) (q0:Int):Option Bool:=
 some (p0q.1==q0)
def iJ (p0r:(List Yq2)×Yq3) (p1id:Int):Option Int:=
 (bS p0r.2 (fun a0=>kH a0 p1id)).bind fun r1=>some r1
def eR (p0:ByteArray) (p1:Int):Option Int:=R.wY p0 p1
def my (p0:Int):Option (ByteArray):=R.RK p0
def db (p0n:Int):Option ByteArray:=
 (my p0n).bind fun r0=>some r0
def jk (p0e:Int×Int×Int×Int):Option ByteArray:=
 (jV (p0e.1,p0e.2.1,p0e.2.2.1,p0e.2.2.2) 5).bind fun r0=>if r0 then ((db p0e.1).bind fun r9=>(mq r9 (⟨#[58]⟩)).bind fun z10=>(db p0e.2.1).bind fun r11=>(mq z10 r11).bind fun z12=>(rj (⟨#[97,98,99]⟩) p0e.2.2.2 (IntKind.i64.wrap (p0e.2.2.2+1))).bind fun z13=>(mq z12 z13).bind fun z14=>(db p0e.2.2.1).bind fun r15=>(mq z14 r15).bind fun z16=>some z16) else (some ((⟨#[]⟩:ByteArray)))
def jx (p0:List ByteArray) (p1:ByteArray):Option (ByteArray):=R.RJ p0 p1
def eS (p0b:List Yq6) (s1:(List ByteArray)×Int):Option (Out ByteArray ((List ByteArray)×Int)):=
 if decide (s1.2<(p0b.length:Int)) then (Hs (S:=List ByteArray) ((aQ p0b s1.2).bind fun x2=>(jk (x2.2.1,x2.2.2.1,x2.2.2.2.1,x2.2.2.2.2)).bind fun r3=>if r3==((⟨#[]⟩:ByteArray)) then (some (.inl (.ret ((⟨#[]⟩:ByteArray))))) else (if x2.1 then ((mq (⟨#[43]⟩) r3).bind fun z4=>(b9 16 s1.1 ([z4])).bind fun z5=>some (.inr z5)) else ((mq (⟨#[45]⟩) r3).bind fun z6=>(b9 16 s1.1 ([z6])).bind fun z7=>some (.inr z7)))) (fun s8=>some (.nxt (s8,IntKind.i64.wrap (s1.2+1))))) else (some (.brk (s1.1,s1.2)))
def dS (p0b:List Yq6):Option ByteArray:=
 if decide ((p0b.length:Int)>6) then (some ((⟨#[]⟩:ByteArray))) else (aP (az (eS p0b) aW (([] :List ByteArray),0)) (fun r9=>some r9) (fun s10=>(jx s10.1 (⟨#[32]⟩)).bind fun r11=>some r11))
def nH (p0s:ByteArray) (s1:Int×Int):Option zp:=
 if decide (s1.2<((p0s.size:Nat):Int)) then ((jM p0s s1.2).bind fun z2=>some (.nxt (Int.tmod (IntKind.i64.wrap ((IntKind.i64.wrap ((IntKind.i64.wrap (257*s1.1))+(IntKind.i64.wrap z2)))+1)) 9973,IntKind.i64.wrap (s1.2+1)))) else (some (.brk (s1.1,s1.2)))
def jY (p0s:ByteArray):Option Int:=
 aP (az (nH p0s) aW (1,0)) (fun r3=>some r3) (fun s4=>some s4.1)
def gy (p0version:Int) (p1b:List Yq6):Option ByteArray:=
 (dS p1b).bind fun r0=>(bZ p0version 1 999).bind fun r1=>if r1 then (if r0==((⟨#[]⟩:ByteArray)) then (if decide ((p1b.length:Int)>0) then (some ((⟨#[]⟩:ByteArray))) else ((db p0version).bind fun r2=>(mq r2 (⟨#[59]⟩)).bind fun z3=>(mq z3 r0).bind fun z4=>(mq z4 (⟨#[59]⟩)).bind fun z5=>(jY z5).bind fun r6=>(db r6).bind fun r7=>(mq z5 r7).bind fun z8=>(mq z8 (⟨#[10]⟩)).bind fun z9=>some z9)) else ((db p0version).bind fun r10=>(mq r10 (⟨#[59]⟩)).bind fun z11=>(mq z11 r0).bind fun z12=>(mq z12 (⟨#[59]⟩)).bind fun z13=>(jY z13).bind fun r14=>(db r14).bind fun r15=>(mq z13 r15).bind fun z16=>(mq z16 (⟨#[10]⟩)).bind fun z17=>some z17)) else (some ((⟨#[]⟩:ByteArray)))
def cG (p0 p1:ByteArray):Option (List ByteArray):=R.J8 p0 p1
def fP (p0:ByteArray):Option (Int×Bool):=R.rI p0
def cS (p0 p1:ByteArray):Option (ByteArray×ByteArray×Bool):=R.XC p0 p1
def gf (p0s:ByteArray):Option (Yq4×Bool):=
 (cS p0s (⟨#[58]⟩)).bind fun r0=>if ((r0.2.1.size:Nat):Int) !=3 then (some ((0,0,0,0),false)) else ((jM r0.2.1 0).bind fun z4=>(jM r0.2.1 1).bind fun z5=>(jM r0.2.1 2).bind fun z6=>(fP r0.1).bind fun r7=>(jk (r7.1,IntKind.i64.wrap ((IntKind.i64.wrap z4) - 48),IntKind.i64.wrap ((IntKind.i64.wrap z6) - 48),IntKind.i64.wrap ((IntKind.i64.wrap z5) - 97))).bind fun r8=>if r8 !=p0s then (some ((0,0,0,0),false)) else (some ((r7.1,IntKind.i64.wrap ((IntKind.i64.wrap z4) - 48),IntKind.i64.wrap ((IntKind.i64.wrap z6) - 48),IntKind.i64.wrap ((IntKind.i64.wrap z5) - 97)),true)))
def cH (r0:List ByteArray) (s3:Int×List Yq6):Option (Out ((List Yq6)×Bool) (Int×List Yq6)):=
 if decide (s3.1<(r0.length:Int)) then ((aQ r0 s3.1).bind fun x4=>if x4==((⟨#[]⟩:ByteArray)) then (some (.ret (([] :List Yq6),false))) else ((rj x4 1 ((x4.size:Nat):Int)).bind fun z5=>(gf z5).bind fun r6=>if r6.2 then ((jM x4 0).bind fun z9=>(b9 40 s3.2 ([(z9==43,r6.1.1,r6.1.2.1,r6.1.2.2.1,r6.1.2.2.2)])).bind fun z10=>some (.nxt (IntKind.i64.wrap (s3.1+1),z10))) else (some (.ret (([] :List Yq6),false))))) else (some (.brk (s3.1,s3.2)))
def dI (p0s:ByteArray):Option ((List Yq6)×Bool):=
 if p0s==((⟨#[]⟩:ByteArray)) then (some (([] :List Yq6),true)) else ((cG p0s (⟨#[32]⟩)).bind fun r0=>aP (az (cH r0) aW (0,([] :List Yq6))) (fun r11=>some r11) (fun s12=>(dS s12.2).bind fun r13=>if r13 !=p0s then (some (([] :List Yq6),false)) else (some (s12.2,true))))
def jy (p0s:ByteArray):Option (Int×(List Yq6)×Bool):=
 (cG p0s (⟨#[59]⟩)).bind fun r0=>if (r0.length:Int) !=3 then (some (0,([] :List Yq6),false)) else ((aQ r0 0).bind fun x1=>(fP x1).bind fun r2=>(aQ r0 1).bind fun x3=>(dI x3).bind fun r4=>if r2.2 then (if r4.2 then ((gy r2.1 r4.1).bind fun r5=>if r5 !=p0s then (some (0,([] :List Yq6),false)) else (some (r2.1,r4.1,true))) else (some (0,([] :List Yq6),false))) else (some (0,([] :List Yq6),false)))
def ct (p0:ByteArray) (s1:(List Int)×(List (List Yq6))×Int):Option (Out ((List Int)×(List (List Yq6))×Int) ((List Int)×(List (List Yq6))×Int)):=
 if decide (((p0.size:Nat):Int)<=4000) then ((rj p0 s1.2.2 ((p0.size:Nat):Int)).bind fun z2=>(eR z2 10).bind fun r3=>if decide (r3<0) then (some (.brk (s1.1,s1.2.1,s1.2.2))) else ((rj p0 s1.2.2 (IntKind.i64.wrap ((IntKind.i64.wrap (s1.2.2+r3))+1))).bind fun z4=>(jy z4).bind fun r5=>if r5.2.2 then (if decide ((s1.1.length:Int)>0) then ((aQ s1.1 (IntKind.i64.wrap ((s1.1.length:Int) - 1))).bind fun x6=>if r5.1 !=(IntKind.i64.wrap (x6+1)) then (some (.brk (s1.1,s1.2.1,s1.2.2))) else ((b9 8 s1.1 ([r5.1])).bind fun z7=>(b9 24 s1.2.1 ([r5.2.1])).bind fun z8=>some (.nxt (z7,z8,IntKind.i64.wrap (s1.2.2+(IntKind.i64.wrap (r3+1))))))) else ((b9 8 s1.1 ([r5.1])).bind fun z9=>(b9 24 s1.2.1 ([r5.2.1])).bind fun z10=>some (.nxt (z9,z10,IntKind.i64.wrap (s1.2.2+(IntKind.i64.wrap (r3+1))))))) else (some (.brk (s1.1,s1.2.1,s1.2.2))))) else (some (.brk (s1.1,s1.2.1,s1.2.2)))
def m_i_ScanLog (p0:ByteArray):Option ((List Int)×(List (List Yq6))×Int):=
 aP (az (ct p0) aW (([] :List Int),([] :List (List Yq6)),0)) (fun r11=>some r11) (fun s12=>some (s12.1,s12.2.1,s12.2.2))
def cg (p0:(Int×Yq5)×Yq7×Yq8×ByteArray) (r3:Int) (s3:Int):Option (Out Bool Int):=
 if decide (s3<(p0.2.2.1.length:Int)) then ((aQ p0.2.2.1 s3).bind fun x5=>(bZ x5.1 1 99).bind fun r14=>if r14 then (if decide (s3>0) then ((aQ p0.2.2.1 (IntKind.i64.wrap (s3 - 1))).bind fun x6=>if decide (x6.1≥x5.1) then (some (.ret false)) else ((iJ (p0.2.1.1,p0.2.1.2) x5.2.1).bind fun r17=>if decide (r17<0) then (some (.ret false)) else ((bZ x5.2.2 0 r3).bind fun r18=>if r18 then (some (.nxt (IntKind.i64.wrap (s3+1)))) else (some (.ret false))))) else ((iJ (p0.2.1.1,p0.2.1.2) x5.2.1).bind fun r15=>if decide (r15<0) then (some (.ret false)) else ((bZ x5.2.2 0 r3).bind fun r16=>if r16 then (some (.nxt (IntKind.i64.wrap (s3+1)))) else (some (.ret false))))) else (some (.ret false))) else (some (.brk s3))
def iK (p0:(Int×Yq5)×Yq7×Yq8×ByteArray):Option Bool:=
 (m_i_IsValidHistory (p0.1.1,p0.1.2)).bind fun r1=>if r1 then ((cA (p0.2.1.1,p0.2.1.2)).bind fun r2=>if r2 then (if decide ((p0.2.2.1.length:Int)>4) then (some false) else (if decide ((p0.2.2.2.size:Int)>4000) then (some false) else ((iI (p0.1.1,p0.1.2)).bind fun r3=>aP (az (cg p0 r3) aW 0) (fun r=>some r) (fun s4=>(m_i_ScanLog p0.2.2.2).bind fun r19=>if r19.2.2==(p0.2.2.2.size:Int) then (if (r19.1.length:Int)==0 then (some true) else ((aQ r19.1 (IntKind.i64.wrap ((r19.1.length:Int) - 1))).bind fun x7=>some (x7==r3))) else (some false))))) else (some false)) else (some false)
def mb (p0l:List Int):Option (List Int):=
 (b9 8 ([] :List Int) p0l).bind fun z1=>some z1
def kI (p0g:(List Int)×Yq1):Option EZ:=
 (mb p0g.1).bind fun r1=>(b9 32 ([] :List Yq4) p0g.2).bind fun z1=>some (r1,z1)
def eT (p0h:Int×Yq5) (s3:Int×Int×Yq5):Option (Out (Int×Yq5) (Int×Int×Yq5)):=
 if decide (s3.1<(p0h.2.length:Int)) then ((aQ p0h.2 s3.1).bind fun x3=>(kI (x3.1,x3.2)).bind fun r9=>(b9 48 s3.2.2 ([(r9.1,r9.2)])).bind fun z3=>some (.nxt (IntKind.i64.wrap (s3.1+1),s3.2.1,z3))) else (some (.brk (s3.1,s3.2.1,s3.2.2)))
def kJ (p0h:Int×Yq5):Option (Int×Yq5):=
 aP (az (eT p0h) aW (0,p0h.1,[])) (fun r=>some r) (fun s4=>some (s4.2.1,s4.2.2))
def dC (p0a:Int×(List Bool)×(List (List Int))) (s3:Int×Int×(List Bool)×(List (List Int))):Option (Out Yq2 (Int×Int×(List Bool)×(List (List Int)))):=
 if decide (s3.1<(p0a.2.2.length:Int)) then ((aQ p0a.2.2 s3.1).bind fun x3=>(mb x3).bind fun r6=>(b9 24 s3.2.2.2 ([r6])).bind fun z4=>some (.nxt (IntKind.i64.wrap (s3.1+1),s3.2.1,s3.2.2.1,z4))) else (some (.brk (s3.1,s3.2.1,s3.2.2.1,s3.2.2.2)))
def iL (p0a:Int×(List Bool)×(List (List Int))):Option Yq2:=
 (b9 1 ([] :List Bool) p0a.2.1).bind fun z1=>aP (az (dC p0a) aW (0,p0a.1,z1,[])) (fun r=>some r) (fun s4=>some (s4.2.1,s4.2.2.1,s4.2.2.2))
def dU (p0r:(List Yq2)×Yq3) (s3:Int×(List Yq2)×Yq3):Option (Out Yq7 PX):=
 if decide (s3.1<(p0r.1.length:Int)) then ((aQ p0r.1 s3.1).bind fun x3=>(iL (x3.1,x3.2.1,x3.2.2)).bind fun r9=>(b9 56 s3.2.1 ([(r9.1,r9.2.1,r9.2.2)])).bind fun z3=>some (.nxt (IntKind.i64.wrap (s3.1+1),z3,s3.2.2))) else (some (.brk (s3.1,s3.2.1,s3.2.2)))
def dV (p0r:(List Yq2)×Yq3) (s7:Int×(List Yq2)×Yq3):Option (Out Yq7 PX):=
 if decide (s7.1<(p0r.2.length:Int)) then ((aQ p0r.2 s7.1).bind fun x6=>(fO x6.2.1).bind fun r15=>(b9 40 s7.2.2 ([(x6.1,r15,x6.2.2)])).bind fun z6=>some (.nxt (IntKind.i64.wrap (s7.1+1),s7.2.1,z6))) else (some (.brk (s7.1,s7.2.1,s7.2.2)))
def dy (p0r:(List Yq2)×Yq3):Option Yq7:=
 aP (az (dU p0r) aW (0,[],[])) (fun r=>some r) (fun s4=>aP (az (dV p0r) aW (0,s4.2.1,s4.2.2)) (fun r=>some r) (fun s8=>some (s8.2.1,s8.2.2)))
def lT (p0e:(Int×Yq5)×Yq7×Yq8×ByteArray):Option WC:=
 (kJ (p0e.1.1,p0e.1.2)).bind fun r1=>(dy (p0e.2.1.1,p0e.2.1.2)).bind fun r2=>(b9 24 ([] :List E3) p0e.2.2.1).bind fun z1=>some ((r1.1,r1.2),(r2.1,r2.2),z1,p0e.2.2.2)
def bE (p0:List Yq9) (p1:Int) (p2:List Yq9):Option (Yq3×Yq3):=R.VN 40 p0 p1 p2
def bG (p0:List Yq9):Option Yq3:=b9 40 [] p0
def mF (p0r:(List (Int×(List Bool)×List (List Int)))×List (Int×Yq1×Int)) (p1id:Int) (s4:Int):Option (Out (((List (Int×(List Bool)×List (List Int)))×List (Int×Yq1×Int))×Bool) Int):=
 if decide (s4<(p0r.2.length:Int)) then ((aQ p0r.2 s4).bind fun x5=>if decide (x5.1<p1id) then (some (.nxt (IntKind.i64.wrap (s4+1)))) else (some (.brk s4))) else (some (.brk s4))
def iM (p0r:(List (Int×(List Bool)×List (List Int)))×List (Int×Yq1×Int)) (p1id:Int) (p2e:List Yq4):Option (((List (Int×(List Bool)×List (List Int)))×List (Int×Yq1×Int))×Bool):=
 (cA (p0r.1,p0r.2)).bind fun r0=>if r0 then ((iJ (p0r.1,p0r.2) p1id).bind fun r1=>if decide (r1≥0) then ((dy (p0r.1,p0r.2)).bind fun r2=>some ((r2.1,r2.2),false)) else (aP (az (mF p0r p1id) aW 0) (fun r6=>some r6) (fun s7=>(bG p0r.2).bind fun r11=>(bE r11 s7 ([(p1id,p2e,0)])).bind fun r12=>(pw r12.1).bind fun r13=>if r13.2 then (some ((r13.1.1,r13.1.2),true)) else ((dy (p0r.1,p0r.2)).bind fun r14=>some ((r14.1,r14.2),false))))) else ((dy (p0r.1,p0r.2)).bind fun r15=>some ((r15.1,r15.2),false))
def eU (p0e:(Int×Yq5)×Yq7×Yq8×ByteArray) (p1id:Int) (p2x:Yq1):Option (WC×Bool):=
 (lT ((p0e.1.1,p0e.1.2),(p0e.2.1.1,p0e.2.1.2),p0e.2.2.1,p0e.2.2.2)).bind fun r1=>(iK ((p0e.1.1,p0e.1.2),(p0e.2.1.1,p0e.2.1.2),p0e.2.2.1,p0e.2.2.2)).bind fun r2=>if r2 then ((iM (p0e.2.1.1,p0e.2.1.2) p1id p2x).bind fun r3=>some (((r1.1.1,r1.1.2),(r3.1.1,r3.1.2),r1.2.2.1,r1.2.2.2),r3.2)) else (some (((r1.1.1,r1.1.2),(r1.2.1.1,r1.2.1.2),r1.2.2.1,r1.2.2.2),false))
def kK (s3:(List Int)×Int×Int):Option (Out (Int×(List Int)) ((List Int)×Int×Int)):=
 if decide (s3.2.2<(s3.1.length:Int)) then ((aQ s3.1 s3.2.2).bind fun x3=>some (.nxt (s3.1.set s3.2.2.toNat s3.2.1,IntKind.i64.wrap (s3.2.1+1),IntKind.i64.wrap (s3.2.2+1)))) else (some (.brk (s3.1,s3.2.1,s3.2.2)))
def mc (p0a:List Int) (p1k:Int):Option (Int×(List Int)):=
 aP (az (kK) aW (p0a,p1k,0)) (fun r=>some r) (fun s4=>some (s4.2.1,s4.1))
def jz (s3:Yq1×Int×Int):Option (Out (Int×Yq1) (Yq1×Int×Int)):=
 if decide (s3.2.2<(s3.1.length:Int)) then ((aQ s3.1 s3.2.2).bind fun x9=>(aQ (s3.1.set s3.2.2.toNat (s3.2.1,x9.2.1,x9.2.2.1,x9.2.2.2)) s3.2.2).bind fun x10=>(aQ ((s3.1.set s3.2.2.toNat (s3.2.1,x9.2.1,x9.2.2.1,x9.2.2.2)).set s3.2.2.toNat (x10.1,IntKind.i64.wrap (s3.2.1+1),x10.2.2.1,x10.2.2.2)) s3.2.2).bind fun x11=>(aQ (((s3.1.set s3.2.2.toNat (s3.2.1,x9.2.1,x9.2.2.1,x9.2.2.2)).set s3.2.2.toNat (x10.1,IntKind.i64.wrap (s3.2.1+1),x10.2.2.1,x10.2.2.2)).set s3.2.2.toNat (x11.1,x11.2.1,IntKind.i64.wrap ((IntKind.i64.wrap (s3.2.1+1))+1),x11.2.2.2)) s3.2.2).bind fun x12=>some (.nxt ((((s3.1.set s3.2.2.toNat (s3.2.1,x9.2.1,x9.2.2.1,x9.2.2.2)).set s3.2.2.toNat (x10.1,IntKind.i64.wrap (s3.2.1+1),x10.2.2.1,x10.2.2.2)).set s3.2.2.toNat (x11.1,x11.2.1,IntKind.i64.wrap ((IntKind.i64.wrap (s3.2.1+1))+1),x11.2.2.2)).set s3.2.2.toNat (x12.1,x12.2.1,x12.2.2.1,IntKind.i64.wrap ((IntKind.i64.wrap ((IntKind.i64.wrap (s3.2.1+1))+1))+1)),IntKind.i64.wrap ((IntKind.i64.wrap ((IntKind.i64.wrap ((IntKind.i64.wrap (s3.2.1+1))+1))+1))+1),IntKind.i64.wrap (s3.2.2+1)))) else (some (.brk (s3.1,s3.2.1,s3.2.2)))
def mQ (p0a:List Yq4) (p1k:Int):Option (Int×Yq1):=
 aP (az (jz) aW (p0a,p1k,0)) (fun r=>some r) (fun s4=>some (s4.2.1,s4.1))
def iN (s3:Yq5×Int×Int):Option (Out (Int×Yq5) (Yq5×Int×Int)):=
 if decide (s3.2.2<(s3.1.length:Int)) then ((aQ s3.1 s3.2.2).bind fun x5=>(mc x5.1 s3.2.1).bind fun r10=>(aQ (s3.1.set s3.2.2.toNat (r10.2,x5.2)) s3.2.2).bind fun x6=>(mQ x6.2 r10.1).bind fun r12=>some (.nxt ((s3.1.set s3.2.2.toNat (r10.2,x5.2)).set s3.2.2.toNat (x6.1,r12.2),r12.1,IntKind.i64.wrap (s3.2.2+1)))) else (some (.brk (s3.1,s3.2.1,s3.2.2)))
def lU (p0a:List EZ) (p1k:Int):Option (Int×Yq5):=
 aP (az (iN) aW (p0a,p1k,0)) (fun r=>some r) (fun s4=>some (s4.2.1,s4.1))
def kL (p0a:Int×Yq5) (p1k:Int):Option (Int×(Int×Yq5)):=
 (lU p0a.2 p1k).bind fun r1=>some (r1.1,(p0a.1,r1.2))
def jA (s3:(List Bool)×Int×Int):Option (Out (Int×(List Bool)) ((List Bool)×Int×Int)):=
 if decide (s3.2.2<(s3.1.length:Int)) then ((aQ s3.1 s3.2.2).bind fun x3=>some (.nxt (s3.1.set s3.2.2.toNat ((Int.tmod s3.2.1 3)==0),IntKind.i64.wrap (s3.2.1+1),IntKind.i64.wrap (s3.2.2+1)))) else (some (.brk (s3.1,s3.2.1,s3.2.2)))
def mR (p0a:List Bool) (p1k:Int):Option (Int×(List Bool)):=
 aP (az (jA) aW (p0a,p1k,0)) (fun r=>some r) (fun s4=>some (s4.2.1,s4.1))
def jB (s3:(List (List Int))×Int×Int):Option (Out (Int×(List (List Int))) ((List (List Int))×Int×Int)):=
 if decide (s3.2.2<(s3.1.length:Int)) then ((aQ s3.1 s3.2.2).bind fun x3=>(mc x3 s3.2.1).bind fun r6=>some (.nxt (s3.1.set s3.2.2.toNat r6.2,r6.1,IntKind.i64.wrap (s3.2.2+1)))) else (some (.brk (s3.1,s3.2.1,s3.2.2)))
def mS (p0a:List (List Int)) (p1k:Int):Option (Int×(List (List Int))):=
 aP (az (jB) aW (p0a,p1k,0)) (fun r=>some r) (fun s4=>some (s4.2.1,s4.1))
def eV (s3:(List Yq2)×Int×Int):Option (Out (Int×(List Yq2)) ((List Yq2)×Int×Int)):=
 if decide (s3.2.2<(s3.1.length:Int)) then ((aQ s3.1 s3.2.2).bind fun x7=>(aQ (s3.1.set s3.2.2.toNat (s3.2.1,x7.2.1,x7.2.2)) s3.2.2).bind fun x8=>(mR x8.2.1 (IntKind.i64.wrap (s3.2.1+1))).bind fun r10=>(aQ ((s3.1.set s3.2.2.toNat (s3.2.1,x7.2.1,x7.2.2)).set s3.2.2.toNat (x8.1,r10.2,x8.2.2)) s3.2.2).bind fun x9=>(mS x9.2.2 r10.1).bind fun r12=>some (.nxt (((s3.1.set s3.2.2.toNat (s3.2.1,x7.2.1,x7.2.2)).set s3.2.2.toNat (x8.1,r10.2,x8.2.2)).set s3.2.2.toNat (x9.1,x9.2.1,r12.2),r12.1,IntKind.i64.wrap (s3.2.2+1)))) else (some (.brk (s3.1,s3.2.1,s3.2.2)))
def gK (p0a:List Yq2) (p1k:Int):Option (Int×(List Yq2)):=
 aP (az (eV) aW (p0a,p1k,0)) (fun r=>some r) (fun s4=>some (s4.2.1,s4.1))
def iO (s3:Yq1×Int×Int):Option (Out (Int×Yq1) (Yq1×Int×Int)):=
 if decide (s3.2.2<(s3.1.length:Int)) then ((aQ s3.1 s3.2.2).bind fun x9=>(aQ (s3.1.set s3.2.2.toNat (s3.2.1,x9.2.1,x9.2.2.1,x9.2.2.2)) s3.2.2).bind fun x10=>(aQ ((s3.1.set s3.2.2.toNat (s3.2.1,x9.2.1,x9.2.2.1,x9.2.2.2)).set s3.2.2.toNat (x10.1,IntKind.i64.wrap (s3.2.1+1),x10.2.2.1,x10.2.2.2)) s3.2.2).bind fun x11=>(aQ (((s3.1.set s3.2.2.toNat (s3.2.1,x9.2.1,x9.2.2.1,x9.2.2.2)).set s3.2.2.toNat (x10.1,IntKind.i64.wrap (s3.2.1+1),x10.2.2.1,x10.2.2.2)).set s3.2.2.toNat (x11.1,x11.2.1,IntKind.i64.wrap ((IntKind.i64.wrap (s3.2.1+1))+1),x11.2.2.2)) s3.2.2).bind fun x12=>some (.nxt ((((s3.1.set s3.2.2.toNat (s3.2.1,x9.2.1,x9.2.2.1,x9.2.2.2)).set s3.2.2.toNat (x10.1,IntKind.i64.wrap (s3.2.1+1),x10.2.2.1,x10.2.2.2)).set s3.2.2.toNat (x11.1,x11.2.1,IntKind.i64.wrap ((IntKind.i64.wrap (s3.2.1+1))+1),x11.2.2.2)).set s3.2.2.toNat (x12.1,x12.2.1,x12.2.2.1,IntKind.i64.wrap ((IntKind.i64.wrap ((IntKind.i64.wrap (s3.2.1+1))+1))+1)),IntKind.i64.wrap ((IntKind.i64.wrap ((IntKind.i64.wrap ((IntKind.i64.wrap (s3.2.1+1))+1))+1))+1),IntKind.i64.wrap (s3.2.2+1)))) else (some (.brk (s3.1,s3.2.1,s3.2.2)))
def jl (p0a:List Yq4) (p1k:Int):Option (Int×Yq1):=
 aP (az (iO) aW (p0a,p1k,0)) (fun r=>some r) (fun s4=>some (s4.2.1,s4.1))
def ep (s3:Yq3×Int×Int):Option (Out (Int×Yq3) (Yq3×Int×Int)):=
 if decide (s3.2.2<(s3.1.length:Int)) then ((aQ s3.1 s3.2.2).bind fun x7=>(aQ (s3.1.set s3.2.2.toNat (s3.2.1,x7.2.1,x7.2.2)) s3.2.2).bind fun x8=>(jl x8.2.1 (IntKind.i64.wrap (s3.2.1+1))).bind fun r6=>(aQ ((s3.1.set s3.2.2.toNat (s3.2.1,x7.2.1,x7.2.2)).set s3.2.2.toNat (x8.1,(r6.2),x8.2.2)) s3.2.2).bind fun x9=>some (.nxt (((s3.1.set s3.2.2.toNat (s3.2.1,x7.2.1,x7.2.2)).set s3.2.2.toNat (x8.1,(r6.2),x8.2.2)).set s3.2.2.toNat (x9.1,x9.2.1,r6.1),IntKind.i64.wrap (r6.1+1),IntKind.i64.wrap (s3.2.2+1)))) else (some (.brk (s3.1,s3.2.1,s3.2.2)))
def gg (p0a:List Yq9) (p1k:Int):Option (Int×Yq3):=
 aP (az (ep) aW (p0a,p1k,0)) (fun r=>some r) (fun s4=>some (s4.2.1,s4.1))
def jC (p0a:(List Yq2)×Yq3) (p1k:Int):Option (Int×Yq7):=
 (gK p0a.1 p1k).bind fun r1=>(gg p0a.2 r1.1).bind fun r2=>some (r2.1,(r1.2,r2.2))
def eu (s3:Yq8×Int×Int):Option (Out (Int×Yq8) (Yq8×Int×Int)):=
 if decide (s3.2.2<(s3.1.length:Int)) then ((aQ s3.1 s3.2.2).bind fun x7=>(aQ (s3.1.set s3.2.2.toNat (s3.2.1,x7.2.1,x7.2.2)) s3.2.2).bind fun x8=>(aQ ((s3.1.set s3.2.2.toNat (s3.2.1,x7.2.1,x7.2.2)).set s3.2.2.toNat (x8.1,IntKind.i64.wrap (s3.2.1+1),x8.2.2)) s3.2.2).bind fun x9=>some (.nxt (((s3.1.set s3.2.2.toNat (s3.2.1,x7.2.1,x7.2.2)).set s3.2.2.toNat (x8.1,IntKind.i64.wrap (s3.2.1+1),x8.2.2)).set s3.2.2.toNat (x9.1,x9.2.1,IntKind.i64.wrap ((IntKind.i64.wrap (s3.2.1+1))+1)),IntKind.i64.wrap ((IntKind.i64.wrap ((IntKind.i64.wrap (s3.2.1+1))+1))+1),IntKind.i64.wrap (s3.2.2+1)))) else (some (.brk (s3.1,s3.2.1,s3.2.2)))
def gi (p0a:List E3) (p1k:Int):Option (Int×Yq8):=
 aP (az (eu) aW (p0a,p1k,0)) (fun r=>some r) (fun s4=>some (s4.2.1,s4.1))
def fb (p0a:(Int×Yq5)×Yq7×Yq8×ByteArray) (p1k:Int):Option (Int×WC):=
 (kL (p0a.1.1,p0a.1.2) p1k).bind fun r1=>(jC (p0a.2.1.1,p0a.2.1.2) r1.1).bind fun r2=>(gi p0a.2.2.1 r2.1).bind fun r3=>some (r3.1,((p0a.1.1,r1.2.2),(r2.2.1,r2.2.2),r3.2,p0a.2.2.2))
def oy (p0a:Yq1) (p1k:Int):Option (Int×(Yq1)):=
 (jl p0a p1k).bind fun r1=>some (r1.1,r1.2)
def kM (p0a:List Int) (s3:Int×Int):Option zp:=
 if decide (s3.2<(p0a.length:Int)) then ((aQ p0a s3.2).bind fun x3=>if x3 !=s3.1 then (some (.ret (-1))) else (some (.nxt (IntKind.i64.wrap (s3.1+1),IntKind.i64.wrap (s3.2+1))))) else (some (.brk (s3.1,s3.2)))
def me (p0a:List Int) (p1k:Int):Option Int:=
 aP (az (kM p0a) aW (p1k,0)) (fun r=>some r) (fun s4=>some s4.1)
def jD (p0a:List Yq4) (s3:Int×Int):Option zp:=
 if decide (s3.2<(p0a.length:Int)) then ((aQ p0a s3.2).bind fun x9=>if x9.1 !=s3.1 then (some (.ret (-1))) else ((aQ p0a s3.2).bind fun x10=>if x10.2.1 !=(IntKind.i64.wrap (s3.1+1)) then (some (.ret (-1))) else ((aQ p0a s3.2).bind fun x11=>if x11.2.2.1 !=(IntKind.i64.wrap ((IntKind.i64.wrap (s3.1+1))+1)) then (some (.ret (-1))) else ((aQ p0a s3.2).bind fun x12=>if x12.2.2.2 !=(IntKind.i64.wrap ((IntKind.i64.wrap ((IntKind.i64.wrap (s3.1+1))+1))+1)) then (some (.ret (-1))) else (some (.nxt (IntKind.i64.wrap ((IntKind.i64.wrap ((IntKind.i64.wrap ((IntKind.i64.wrap (s3.1+1))+1))+1))+1),IntKind.i64.wrap (s3.2+1)))))))) else (some (.brk (s3.1,s3.2)))
def mT (p0a:List Yq4) (p1k:Int):Option Int:=
 aP (az (jD p0a) aW (p1k,0)) (fun r=>some r) (fun s4=>some s4.1)
def iP (p0a:List EZ) (s3:Int×Int):Option zp:=
 if decide (s3.2<(p0a.length:Int)) then ((aQ p0a s3.2).bind fun x5=>(me x5.1 s3.1).bind fun r10=>if decide (r10<0) then (some (.ret (-1))) else ((aQ p0a s3.2).bind fun x6=>(mT x6.2 r10).bind fun r12=>if decide (r12<0) then (some (.ret (-1))) else (some (.nxt (r12,IntKind.i64.wrap (s3.2+1)))))) else (some (.brk (s3.1,s3.2)))
def lV (p0a:List EZ) (p1k:Int):Option Int:=
 aP (az (iP p0a) aW (p1k,0)) (fun r=>some r) (fun s4=>some s4.1)
def kN (p0a:Int×Yq5) (p1k:Int):Option Int:=
 (lV p0a.2 p1k).bind fun r1=>if decide (r1<0) then (some (-1)) else (some r1)
def jE (p0a:List Bool) (s3:Int×Int):Option zp:=
 if decide (s3.2<(p0a.length:Int)) then ((aQ p0a s3.2).bind fun x3=>if x3 !=((Int.tmod s3.1 3)==0) then (some (.ret (-1))) else (some (.nxt (IntKind.i64.wrap (s3.1+1),IntKind.i64.wrap (s3.2+1))))) else (some (.brk (s3.1,s3.2)))
def mU (p0a:List Bool) (p1k:Int):Option Int:=
 aP (az (jE p0a) aW (p1k,0)) (fun r=>some r) (fun s4=>some s4.1)
def jF (p0a:List (List Int)) (s3:Int×Int):Option zp:=
 if decide (s3.2<(p0a.length:Int)) then ((aQ p0a s3.2).bind fun x3=>(me x3 s3.1).bind fun r6=>if decide (r6<0) then (some (.ret (-1))) else (some (.nxt (r6,IntKind.i64.wrap (s3.2+1))))) else (some (.brk (s3.1,s3.2)))
def mV (p0a:List (List Int)) (p1k:Int):Option Int:=
 aP (az (jF p0a) aW (p1k,0)) (fun r=>some r) (fun s4=>some s4.1)
def eW (p0a:List Yq2) (s3:Int×Int):Option zp:=
 if decide (s3.2<(p0a.length:Int)) then ((aQ p0a s3.2).bind fun x7=>if x7.1 !=s3.1 then (some (.ret (-1))) else ((aQ p0a s3.2).bind fun x8=>(mU x8.2.1 (IntKind.i64.wrap (s3.1+1))).bind fun r10=>if decide (r10<0) then (some (.ret (-1))) else ((aQ p0a s3.2).bind fun x9=>(mV x9.2.2 r10).bind fun r12=>if decide (r12<0) then (some (.ret (-1))) else (some (.nxt (r12,IntKind.i64.wrap (s3.2+1))))))) else (some (.brk (s3.1,s3.2)))
def gL (p0a:List Yq2) (p1k:Int):Option Int:=
 aP (az (eW p0a) aW (p1k,0)) (fun r=>some r) (fun s4=>some s4.1)
def iQ (p0a:List Yq4) (s3:Int×Int):Option zp:=
 if decide (s3.2<(p0a.length:Int)) then ((aQ p0a s3.2).bind fun x9=>if x9.1 !=s3.1 then (some (.ret (-1))) else ((aQ p0a s3.2).bind fun x10=>if x10.2.1 !=(IntKind.i64.wrap (s3.1+1)) then (some (.ret (-1))) else ((aQ p0a s3.2).bind fun x11=>if x11.2.2.1 !=(IntKind.i64.wrap ((IntKind.i64.wrap (s3.1+1))+1)) then (some (.ret (-1))) else ((aQ p0a s3.2).bind fun x12=>if x12.2.2.2 !=(IntKind.i64.wrap ((IntKind.i64.wrap ((IntKind.i64.wrap (s3.1+1))+1))+1)) then (some (.ret (-1))) else (some (.nxt (IntKind.i64.wrap ((IntKind.i64.wrap ((IntKind.i64.wrap ((IntKind.i64.wrap (s3.1+1))+1))+1))+1),IntKind.i64.wrap (s3.2+1)))))))) else (some (.brk (s3.1,s3.2)))
def lW (p0a:List Yq4) (p1k:Int):Option Int:=
 aP (az (iQ p0a) aW (p1k,0)) (fun r=>some r) (fun s4=>some s4.1)
def ez (p0a:List Yq9) (s3:Int×Int):Option zp:=
 if decide (s3.2<(p0a.length:Int)) then ((aQ p0a s3.2).bind fun x7=>if x7.1 !=s3.1 then (some (.ret (-1))) else ((aQ p0a s3.2).bind fun x8=>(lW x8.2.1 (IntKind.i64.wrap (s3.1+1))).bind fun r6=>if decide (r6<0) then (some (.ret (-1))) else ((aQ p0a s3.2).bind fun x9=>if x9.2.2 !=r6 then (some (.ret (-1))) else (some (.nxt (IntKind.i64.wrap (r6+1),IntKind.i64.wrap (s3.2+1))))))) else (some (.brk (s3.1,s3.2)))
def gj (p0a:List Yq9) (p1k:Int):Option Int:=
 aP (az (ez p0a) aW (p1k,0)) (fun r=>some r) (fun s4=>some s4.1)
def jG (p0a:(List Yq2)×Yq3) (p1k:Int):Option Int:=
 (gL p0a.1 p1k).bind fun r1=>if decide (r1<0) then (some (-1)) else ((gj p0a.2 r1).bind fun r2=>if decide (r2<0) then (some (-1)) else (some r2))
def eA (p0a:List E3) (s3:Int×Int):Option zp:=
 if decide (s3.2<(p0a.length:Int)) then ((aQ p0a s3.2).bind fun x7=>if x7.1 !=s3.1 then (some (.ret (-1))) else ((aQ p0a s3.2).bind fun x8=>if x8.2.1 !=(IntKind.i64.wrap (s3.1+1)) then (some (.ret (-1))) else ((aQ p0a s3.2).bind fun x9=>if x9.2.2 !=(IntKind.i64.wrap ((IntKind.i64.wrap (s3.1+1))+1)) then (some (.ret (-1))) else (some (.nxt (IntKind.i64.wrap ((IntKind.i64.wrap ((IntKind.i64.wrap (s3.1+1))+1))+1),IntKind.i64.wrap (s3.2+1))))))) else (some (.brk (s3.1,s3.2)))
def gk (p0a:List E3) (p1k:Int):Option Int:=
 aP (az (eA p0a) aW (p1k,0)) (fun r=>some r) (fun s4=>some s4.1)
def gC (p0a:(Int×Yq5)×Yq7×Yq8×ByteArray) (p1k:Int):Option Int:=
 (kN (p0a.1.1,p0a.1.2) p1k).bind fun r1=>if decide (r1<0) then (some (-1)) else ((jG (p0a.2.1.1,p0a.2.1.2) r1).bind fun r2=>if decide (r2<0) then (some (-1)) else ((gk p0a.2.2.1 r2).bind fun r3=>if decide (r3<0) then (some (-1)) else (some r3)))
def de (p0:(Int×Yq5)×Yq7×Yq8×ByteArray) (p1:Int) (p2:Yq1):Option Bool:=
 (om ((p0.1.1,p0.1.2),(p0.2.1.1,p0.2.1.2),p0.2.2.1,p0.2.2.2) 1048576).bind fun r1=>if decide (r1<0) then (some true) else ((pg p2 r1).bind fun r2=>if decide (r2<0) then (some true) else ((gW ((p0.1.1,p0.1.2),(p0.2.1.1,p0.2.1.2),p0.2.2.1,p0.2.2.2)).bind fun r3=>(jT p2).bind fun r4=>(gI ((r3.1.1,r3.1.2),(r3.2.1.1,r3.2.1.2),r3.2.2.1,r3.2.2.2) p1 r4).bind fun r5=>(gW ((p0.1.1,p0.1.2),(p0.2.1.1,p0.2.1.2),p0.2.2.1,p0.2.2.2)).bind fun r6=>(jT p2).bind fun r7=>(eU ((r6.1.1,r6.1.2),(r6.2.1.1,r6.2.1.2),r6.2.2.1,r6.2.2.2) p1 r7).bind fun r8=>(gX ((r8.1.1.1,r8.1.1.2),(r8.1.2.1.1,r8.1.2.1.2),r8.1.2.2.1,r8.1.2.2.2) ((r5.1.1.1,r5.1.1.2),(r5.1.2.1.1,r5.1.2.1.2),r5.1.2.2.1,r5.1.2.2.2)).bind fun r9=>if r9 then (if r8.2 !=r5.2 then (some false) else ((gW ((p0.1.1,p0.1.2),(p0.2.1.1,p0.2.1.2),p0.2.2.1,p0.2.2.2)).bind fun r10=>(gX ((r6.1.1,r6.1.2),(r6.2.1.1,r6.2.1.2),r6.2.2.1,r6.2.2.2) ((r10.1.1,r10.1.2),(r10.2.1.1,r10.2.1.2),r10.2.2.1,r10.2.2.2)).bind fun r11=>if r11 then ((jT p2).bind fun r12=>(pj r7 r12).bind fun r13=>if r13 then ((fb ((r6.1.1,r6.1.2),(r6.2.1.1,r6.2.1.2),r6.2.2.1,r6.2.2.2) 1).bind fun r14=>(oy r7 r14.1).bind fun r15=>if decide (r15.1<0) then (some false) else ((gX ((r8.1.1.1,r8.1.1.2),(r8.1.2.1.1,r8.1.2.1.2),r8.1.2.2.1,r8.1.2.2.2) ((r5.1.1.1,r5.1.1.2),(r5.1.2.1.1,r5.1.2.1.2),r5.1.2.2.1,r5.1.2.2.2)).bind fun r16=>if r16 then (if r8.2 !=r5.2 then (some false) else ((fb ((r8.1.1.1,r8.1.1.2),(r8.1.2.1.1,r8.1.2.1.2),r8.1.2.2.1,r8.1.2.2.2) 1).bind fun r17=>(gC ((r8.1.1.1,r17.2.1.2),(r17.2.2.1.1,r17.2.2.1.2),r17.2.2.2.1,r8.1.2.2.2) 1).bind fun r18=>if decide (r18<0) then (some false) else (if r18 !=r17.1 then (some false) else ((gW ((p0.1.1,p0.1.2),(p0.2.1.1,p0.2.1.2),p0.2.2.1,p0.2.2.2)).bind fun r19=>(jT p2).bind fun r20=>(eU ((r19.1.1,r19.1.2),(r19.2.1.1,r19.2.1.2),r19.2.2.1,r19.2.2.2) p1 r20).bind fun r21=>(gX ((r21.1.1.1,r21.1.1.2),(r21.1.2.1.1,r21.1.2.1.2),r21.1.2.2.1,r21.1.2.2.2) ((r5.1.1.1,r5.1.1.2),(r5.1.2.1.1,r5.1.2.1.2),r5.1.2.2.1,r5.1.2.2.2)).bind fun r22=>if r22 then (if r21.2 !=r5.2 then (some false) else ((gC ((r8.1.1.1,r17.2.1.2),(r17.2.2.1.1,r17.2.2.1.2),r17.2.2.2.1,r8.1.2.2.2) 1).bind fun r23=>if decide (r23<0) then (some false) else (if r23 !=r17.1 then (some false) else (some true)))) else (some false))))) else (some false))) else (some false)) else (some false))) else (some false)))
end D
namespace R
open Go.RowKit
open D
abbrev y3:Ty:=.int .i64
abbrev xW:Ty:=.prod y3 (.prod y3 (.prod y3 y3))
abbrev t313:Ty:=.tree 343 313 xW
abbrev VU:Ty:=.prod y3 (.prod y3 y3)
abbrev Hj:Ty:=.prod y3 (.prod y3 (.prod y3 y3))
abbrev y68:Ty:=.sl 188 xW
abbrev y70:Ty:=.wr y68
abbrev wG:Ty:=.prod y3 (.prod y70 y3)
abbrev y4:Ty:=.bool
abbrev Gv:Ty:=.sl 4 y4
abbrev y83:Ty:=.sl 3 y3
abbrev Lo:Ty:=.sl 83 y83
abbrev mf:Ty:=.prod y3 (.prod Gv Lo)
abbrev Y5:Ty:=.prod y3 (.prod y3 (.prod y3 y3))
abbrev Yv:Ty:=.sl 280 Y5
abbrev Yw:Ty:=.prod y83 Yv
abbrev Y6:Ty:=.prod y3 (.prod y3 y3)
abbrev Y7:Ty:=.prod y3 (.prod y3 (.prod y3 y3))
abbrev ZQ:Ty:=.prod y4 Hj
abbrev y5:Ty:=.int .u8
abbrev y22:Ty:=.sl 5 y5
abbrev y9:Ty:=.str
abbrev Y8:Ty:=.sl 9 y9
abbrev y84:Ty:=.sl 142 Hj
abbrev y86:Ty:=.prod y83 y84
abbrev y24:Ty:=.sl 86 y86
abbrev Yx:Ty:=.prod y3 (.prod Gv Lo)
abbrev y62:Ty:=.sl 190 Y7
abbrev y64:Ty:=.wr y62
abbrev Yy:Ty:=.prod y3 (.prod y64 y3)
abbrev XD:Ty:=.int .u64
abbrev y26:Ty:=.prod y3 y24
abbrev Kc:Ty:=.prod y83 (.prod y3 (.prod y3 (.prod y83 y4)))
abbrev y27:Ty:=.sl 158 mf
abbrev y28:Ty:=.sl 144 wG
abbrev y30:Ty:=.prod y27 y28
abbrev ZR:Ty:=.prod y4 (.prod y3 y3)
abbrev y31:Ty:=.sl 105 VU
abbrev ZS:Ty:=.prod y3 (.prod y3 y4)
abbrev Y9:Ty:=.fro t313
abbrev y33:Ty:=.prod y26 (.prod y30 (.prod y31 y9))
abbrev Yz:Ty:=.sl 313 Y9
abbrev Z7:Ty:=.prod xW Yz
abbrev XE:Ty:=.int .u64
abbrev XF:Ty:=.int .u32
abbrev y45:Ty:=.sl 174 Yw
abbrev y47:Ty:=.prod y3 y45
abbrev y52:Ty:=.sl 245 Yx
abbrev y53:Ty:=.sl 248 Yy
abbrev y55:Ty:=.prod y52 y53
abbrev y56:Ty:=.sl 183 Y6
abbrev y58:Ty:=.prod y47 (.prod y55 (.prod y56 y9))
abbrev y94:Ty:=.sl 214 ZQ
abbrev y96:Ty:=.wr y94
abbrev y99:Ty:=.sl 96 y96
theorem ti3:TI Tryz.prog 3 false 1:=⟨⟨_,Tryz.underlying3,rfl⟩,by kernel_rfl⟩
theorem XG (a0:Int) (a1:Int) (a2:Int) (a3:Int) (b0:Int) (b1:Int) (b2:Int) (b3:Int) (w:World):EqT Tryz.prog 188 (.agg #[.int .i64 a0,.int .i64 a1,.int .i64 a2,.int .i64 a3]) (.agg #[.int .i64 b0,.int .i64 b1,.int .i64 b2,.int .i64 b3]) ((a0==b0)&&((a1==b1)&&((a2==b2)&&((a3==b3)&&true)))) w:=WO w Tryz.underlying188 (by kernel_rfl) (by kernel_rfl) (y7 rfl (xL ti3 rfl) (xL ti3 rfl) (run_equalIn_int w 9998 3 _ _ _ _ Tryz.underlying3) (y7 rfl (xL ti3 rfl) (xL ti3 rfl) (run_equalIn_int w 9998 3 _ _ _ _ Tryz.underlying3) (y7 rfl (xL ti3 rfl) (xL ti3 rfl) (run_equalIn_int w 9998 3 _ _ _ _ Tryz.underlying3) (y7 rfl (xL ti3 rfl) (xL ti3 rfl) (run_equalIn_int w 9998 3 _ _ _ _ Tryz.underlying3) (Uq w)))))
theorem mz3 (w:World):(zeroValue 3).run Tryz.prog w= .ok (.int .i64 0) w:=by kernel_rfl
theorem kk3:KeyOk Tryz.prog 3 (fun n:Int=>Value.int .i64 n) Uv iOk:=WS Tryz.underlying3
theorem ek3:EltOk Tryz.prog 3 (fun n:Int=>Value.int .i64 n) Uv iOk 0:=WU Tryz.underlying3 mz3
def tt:TT:=[(3,⟨false,1,none,y3,[],some 8,none,false,none,none,some (some .i64),false,none⟩),
 (4,⟨false,1,none,y4,[],some 1,none,true,none,none,none,false,none⟩),
 (5,⟨false,1,none,y5,[],some 1,none,false,none,none,some (some .u8),false,none⟩),
 (9,⟨false,1,none,y9,[],some 16,none,false,none,none,some none,false,none⟩),
 (22,⟨false,1,some 5,y22,[],some 24,none,false,none,none,none,false,none⟩),
 (24,⟨false,1,some 86,y24,[],some 24,none,false,none,none,none,false,none⟩),
 (26,⟨true,2,none,y26,[(0,0),(1,0)],some 32,some [(0,1),(1,1)],false,none,none,none,false,none⟩),
 (27,⟨false,1,some 158,y27,[],some 24,none,false,none,none,none,false,none⟩),
 (28,⟨false,1,some 144,y28,[],some 24,none,false,none,none,none,false,none⟩),
 (30,⟨true,2,none,y30,[(0,0),(1,0)],some 48,some [(0,1),(1,1)],false,none,none,none,false,none⟩),
 (31,⟨false,1,some 105,y31,[],some 24,none,false,none,none,none,false,none⟩),
 (33,⟨true,6,none,y33,[(0,1),(2,1),(4,0),(5,0)],some 120,some [(0,2),(2,2),(4,1),(5,1)],false,none,none,none,false,none⟩),
 (45,⟨false,1,some 174,y45,[],some 24,none,false,none,none,none,false,none⟩),
 (47,⟨true,2,none,y47,[(0,0),(1,0)],some 32,some [(0,1),(1,1)],false,none,none,none,false,none⟩),
 (52,⟨false,1,some 245,y52,[],some 24,none,false,none,none,none,false,none⟩),
 (53,⟨false,1,some 248,y53,[],some 24,none,false,none,none,none,false,none⟩),
 (55,⟨true,2,none,y55,[(0,0),(1,0)],some 48,some [(0,1),(1,1)],false,none,none,none,false,none⟩),
 (56,⟨false,1,some 183,y56,[],some 24,none,false,none,none,none,false,none⟩),
 (58,⟨true,6,none,y58,[(0,1),(2,1),(4,0),(5,0)],some 120,some [(0,2),(2,2),(4,1),(5,1)],false,none,none,none,false,none⟩),
 (62,⟨false,1,some 190,y62,[],some 24,none,false,none,none,none,false,none⟩),
 (64,⟨true,1,none,y64,[(0,0)],some 24,some [(0,1)],false,none,none,none,false,none⟩),
 (68,⟨false,1,some 188,y68,[],some 24,none,false,none,none,none,false,none⟩),
 (70,⟨true,1,none,y70,[(0,0)],some 24,some [(0,1)],false,none,none,none,false,none⟩),
 (83,⟨false,1,some 3,y83,[],some 24,none,false,none,none,none,false,none⟩),
 (84,⟨false,1,some 142,y84,[],some 24,none,false,none,none,none,false,none⟩),
 (86,⟨true,2,none,y86,[(0,0),(1,0)],some 48,some [(0,1),(1,1)],false,none,none,none,false,none⟩),
 (94,⟨false,1,some 214,y94,[],some 24,none,false,none,none,none,false,none⟩),
 (96,⟨true,1,none,y96,[(0,0)],some 24,some [(0,1)],false,none,none,none,false,none⟩),
 (99,⟨false,1,some 96,y99,[],some 24,none,false,none,none,none,false,none⟩),
 (105,⟨true,3,none,VU,[(0,0),(1,0),(2,0)],some 24,some [(0,1),(1,1),(2,1)],false,none,none,none,false,none⟩),
 (142,⟨true,4,none,Hj,[(0,0),(1,0),(2,0),(3,0)],some 32,some [(0,1),(1,1),(2,1),(3,1)],false,none,none,none,false,none⟩),
 (144,⟨true,3,none,wG,[(0,0),(1,0),(2,0)],some 40,some [(0,1),(1,1),(2,1)],false,none,none,none,false,none⟩),
 (155,⟨false,1,some 4,Gv,[],some 24,none,false,none,none,none,false,none⟩),
 (156,⟨false,1,some 83,Lo,[],some 24,none,false,none,none,none,false,none⟩),
 (158,⟨true,3,none,mf,[(0,0),(1,0),(2,0)],some 56,some [(0,1),(1,1),(2,1)],false,none,none,none,false,none⟩),
 (159,⟨false,1,none,.bool,[],none,none,false,none,none,none,true,none⟩),
 (161,⟨false,1,none,.bool,[],none,none,false,none,none,none,true,none⟩),
 (167,⟨false,1,none,.bool,[],none,none,false,none,none,none,true,none⟩),
 (169,⟨false,1,none,.bool,[],none,none,false,none,none,none,true,none⟩),
 (172,⟨false,1,some 280,Yv,[],some 24,none,false,none,none,none,false,none⟩),
 (174,⟨true,2,none,Yw,[(0,0),(1,0)],some 48,some [(0,1),(1,1)],false,none,none,none,false,none⟩),
 (183,⟨true,3,none,Y6,[(0,0),(1,0),(2,0)],some 24,some [(0,1),(1,1),(2,1)],false,none,none,none,false,none⟩),
 (188,⟨true,4,none,xW,[(0,0),(1,0),(2,0),(3,0)],some 32,some [(0,1),(1,1),(2,1),(3,1)],false,some [some .i64,some .i64,some .i64,some .i64],none,none,false,none⟩),
 (190,⟨true,4,none,Y7,[(0,0),(1,0),(2,0),(3,0)],some 32,some [(0,1),(1,1),(2,1),(3,1)],false,none,none,none,false,none⟩),
 (214,⟨true,5,none,ZQ,[(0,0),(1,3)],some 40,some [(0,1),(1,4)],false,none,none,none,false,none⟩),
 (222,⟨false,1,some 9,Y8,[],some 24,none,false,none,none,none,false,none⟩),
 (236,⟨false,1,none,.bool,[],none,none,false,none,none,none,true,none⟩),
 (245,⟨true,3,none,Yx,[(0,0),(1,0),(2,0)],some 56,some [(0,1),(1,1),(2,1)],false,none,none,none,false,none⟩),
 (248,⟨true,3,none,Yy,[(0,0),(1,0),(2,0)],some 40,some [(0,1),(1,1),(2,1)],false,none,none,none,false,none⟩),
 (255,⟨false,1,none,XD,[],some 8,none,false,none,none,some (some .u64),false,none⟩),
 (269,⟨true,5,none,Kc,[(0,0),(1,0),(2,0),(3,0),(4,0)],some 72,some [(0,1),(1,1),(2,1),(3,1),(4,1)],false,none,none,none,false,none⟩),
 (280,⟨true,4,none,Y5,[(0,0),(1,0),(2,0),(3,0)],some 32,some [(0,1),(1,1),(2,1),(3,1)],false,none,none,none,false,none⟩),
 (302,⟨true,3,none,ZR,[(0,0),(1,0),(2,0)],some 24,some [(0,1),(1,1),(2,1)],false,none,none,none,false,none⟩),
 (311,⟨true,3,none,ZS,[(0,0),(1,0),(2,0)],some 24,some [(0,1),(1,1),(2,1)],false,none,none,none,false,none⟩),
 (313,⟨false,1,none,Y9,[],some 8,none,false,none,none,none,false,some 343⟩),
 (316,⟨false,1,none,.bool,[],none,none,false,none,none,none,true,none⟩),
 (318,⟨false,1,none,.bool,[],none,none,false,none,none,none,true,none⟩),
 (341,⟨false,1,some 313,Yz,[],some 24,none,false,none,none,none,false,none⟩),
 (343,⟨true,5,none,Z7,[(0,3),(4,0)],some 56,some [(0,4),(4,1)],false,none,none,none,false,none⟩),
 (347,⟨false,1,none,.bool,[],none,none,false,none,some ⟨3,3,.int,.int⟩,none,false,none⟩),
 (349,⟨false,1,none,.bool,[],none,none,false,none,none,none,true,none⟩),
 (366,⟨false,1,none,XE,[],some 8,none,false,none,none,some (some .u64),false,none⟩),
 (394,⟨false,1,none,XF,[],some 4,none,false,none,none,some (some .u32),false,none⟩),
 (399,⟨false,1,none,.bool,[],none,none,false,none,none,none,true,none⟩)]
theorem Lp:TTok Tryz.prog tt:=⟨uq (n:=1) (z:=.int .i64 0) ⟨⟨_,Tryz.underlying3,rfl⟩,by kernel_rfl⟩ rfl (by unfold TZ;kernel_rfl) rfl (bm rfl) (fun h=>by cases h) (fun k h=>by obtain rfl:=ae h;exact Tryz.underlying3),
 uq (n:=1) (z:=.bool false) ⟨⟨_,Tryz.underlying4,rfl⟩,by kernel_rfl⟩ rfl (by unfold TZ;kernel_rfl) rfl (bm rfl) (fun h=>Tryz.underlying4) (fun k h=>by cases h),
 uq (n:=1) (z:=.int .u8 0) ⟨⟨_,Tryz.underlying5,rfl⟩,by kernel_rfl⟩ rfl (by unfold TZ;kernel_rfl) rfl (bm rfl) (fun h=>by cases h) (fun k h=>by obtain rfl:=ae h;exact Tryz.underlying5),
 uq (n:=1) (z:=.string ⟨#[]⟩) ⟨⟨_,Tryz.underlying9,rfl⟩,by kernel_rfl⟩ rfl (by unfold TZ;kernel_rfl) rfl (bm rfl) (fun h=>by cases h) (fun k h=>by obtain rfl:=ae h;exact Tryz.underlying9),
 pf ⟨⟨_,Tryz.underlying22,rfl⟩,by kernel_rfl⟩ Tryz.underlying22 (by unfold TZ;kernel_rfl),
 pf ⟨⟨_,Tryz.underlying24,rfl⟩,by kernel_rfl⟩ Tryz.underlying24 (by unfold TZ;kernel_rfl),
 l5 (z:=.agg #[.int .i64 0,.slice none 0 0]) ⟨⟨_,Tryz.underlying26,rfl⟩,by kernel_rfl⟩ rfl ⟨⟨_,_,Tryz.underlying26,rfl,rfl,by kernel_rfl⟩,⟨_,_,Tryz.underlying26,rfl,rfl,by kernel_rfl⟩,trivial⟩ (by unfold TZ;kernel_rfl) rfl (bm rfl) ⟨_,Tryz.underlying26,by kernel_rfl⟩ (fun ks h=>by cases h),
 pf ⟨⟨_,Tryz.underlying27,rfl⟩,by kernel_rfl⟩ Tryz.underlying27 (by unfold TZ;kernel_rfl),
 pf ⟨⟨_,Tryz.underlying28,rfl⟩,by kernel_rfl⟩ Tryz.underlying28 (by unfold TZ;kernel_rfl),
 l5 (z:=.agg #[.slice none 0 0,.slice none 0 0]) ⟨⟨_,Tryz.underlying30,rfl⟩,by kernel_rfl⟩ rfl ⟨⟨_,_,Tryz.underlying30,rfl,rfl,by kernel_rfl⟩,⟨_,_,Tryz.underlying30,rfl,rfl,by kernel_rfl⟩,trivial⟩ (by unfold TZ;kernel_rfl) rfl (bm rfl) ⟨_,Tryz.underlying30,by kernel_rfl⟩ (fun ks h=>by cases h),
 pf ⟨⟨_,Tryz.underlying31,rfl⟩,by kernel_rfl⟩ Tryz.underlying31 (by unfold TZ;kernel_rfl),
 l5 (z:=.agg #[.int .i64 0,.slice none 0 0,.slice none 0 0,.slice none 0 0,.slice none 0 0,.string ⟨#[]⟩]) ⟨⟨_,Tryz.underlying33,rfl⟩,by kernel_rfl⟩ rfl ⟨⟨_,_,Tryz.underlying33,rfl,rfl,by kernel_rfl⟩,⟨_,_,Tryz.underlying33,rfl,rfl,by kernel_rfl⟩,⟨_,_,Tryz.underlying33,rfl,rfl,by kernel_rfl⟩,⟨_,_,Tryz.underlying33,rfl,rfl,by kernel_rfl⟩,trivial⟩ (by unfold TZ;kernel_rfl) rfl (bm rfl) ⟨_,Tryz.underlying33,by kernel_rfl⟩ (fun ks h=>by cases h),
 pf ⟨⟨_,Tryz.underlying45,rfl⟩,by kernel_rfl⟩ Tryz.underlying45 (by unfold TZ;kernel_rfl),
 l5 (z:=.agg #[.int .i64 0,.slice none 0 0]) ⟨⟨_,Tryz.underlying47,rfl⟩,by kernel_rfl⟩ rfl ⟨⟨_,_,Tryz.underlying47,rfl,rfl,by kernel_rfl⟩,⟨_,_,Tryz.underlying47,rfl,rfl,by kernel_rfl⟩,trivial⟩ (by unfold TZ;kernel_rfl) rfl (bm rfl) ⟨_,Tryz.underlying47,by kernel_rfl⟩ (fun ks h=>by cases h),
 pf ⟨⟨_,Tryz.underlying52,rfl⟩,by kernel_rfl⟩ Tryz.underlying52 (by unfold TZ;kernel_rfl),
 pf ⟨⟨_,Tryz.underlying53,rfl⟩,by kernel_rfl⟩ Tryz.underlying53 (by unfold TZ;kernel_rfl),
 l5 (z:=.agg #[.slice none 0 0,.slice none 0 0]) ⟨⟨_,Tryz.underlying55,rfl⟩,by kernel_rfl⟩ rfl ⟨⟨_,_,Tryz.underlying55,rfl,rfl,by kernel_rfl⟩,⟨_,_,Tryz.underlying55,rfl,rfl,by kernel_rfl⟩,trivial⟩ (by unfold TZ;kernel_rfl) rfl (bm rfl) ⟨_,Tryz.underlying55,by kernel_rfl⟩ (fun ks h=>by cases h),
 pf ⟨⟨_,Tryz.underlying56,rfl⟩,by kernel_rfl⟩ Tryz.underlying56 (by unfold TZ;kernel_rfl),
 l5 (z:=.agg #[.int .i64 0,.slice none 0 0,.slice none 0 0,.slice none 0 0,.slice none 0 0,.string ⟨#[]⟩]) ⟨⟨_,Tryz.underlying58,rfl⟩,by kernel_rfl⟩ rfl ⟨⟨_,_,Tryz.underlying58,rfl,rfl,by kernel_rfl⟩,⟨_,_,Tryz.underlying58,rfl,rfl,by kernel_rfl⟩,⟨_,_,Tryz.underlying58,rfl,rfl,by kernel_rfl⟩,⟨_,_,Tryz.underlying58,rfl,rfl,by kernel_rfl⟩,trivial⟩ (by unfold TZ;kernel_rfl) rfl (bm rfl) ⟨_,Tryz.underlying58,by kernel_rfl⟩ (fun ks h=>by cases h),
 pf ⟨⟨_,Tryz.underlying62,rfl⟩,by kernel_rfl⟩ Tryz.underlying62 (by unfold TZ;kernel_rfl),
 l5 (z:=.agg #[.slice none 0 0]) ⟨⟨_,Tryz.underlying64,rfl⟩,by kernel_rfl⟩ rfl ⟨⟨_,_,Tryz.underlying64,rfl,rfl,by kernel_rfl⟩,trivial⟩ (by unfold TZ;kernel_rfl) rfl (bm rfl) ⟨_,Tryz.underlying64,by kernel_rfl⟩ (fun ks h=>by cases h),
 pf ⟨⟨_,Tryz.underlying68,rfl⟩,by kernel_rfl⟩ Tryz.underlying68 (by unfold TZ;kernel_rfl),
 l5 (z:=.agg #[.slice none 0 0]) ⟨⟨_,Tryz.underlying70,rfl⟩,by kernel_rfl⟩ rfl ⟨⟨_,_,Tryz.underlying70,rfl,rfl,by kernel_rfl⟩,trivial⟩ (by unfold TZ;kernel_rfl) rfl (bm rfl) ⟨_,Tryz.underlying70,by kernel_rfl⟩ (fun ks h=>by cases h),
 pf ⟨⟨_,Tryz.underlying83,rfl⟩,by kernel_rfl⟩ Tryz.underlying83 (by unfold TZ;kernel_rfl),
 pf ⟨⟨_,Tryz.underlying84,rfl⟩,by kernel_rfl⟩ Tryz.underlying84 (by unfold TZ;kernel_rfl),
 l5 (z:=.agg #[.slice none 0 0,.slice none 0 0]) ⟨⟨_,Tryz.underlying86,rfl⟩,by kernel_rfl⟩ rfl ⟨⟨_,_,Tryz.underlying86,rfl,rfl,by kernel_rfl⟩,⟨_,_,Tryz.underlying86,rfl,rfl,by kernel_rfl⟩,trivial⟩ (by unfold TZ;kernel_rfl) rfl (bm rfl) ⟨_,Tryz.underlying86,by kernel_rfl⟩ (fun ks h=>by cases h),
 pf ⟨⟨_,Tryz.underlying94,rfl⟩,by kernel_rfl⟩ Tryz.underlying94 (by unfold TZ;kernel_rfl),
 l5 (z:=.agg #[.slice none 0 0]) ⟨⟨_,Tryz.underlying96,rfl⟩,by kernel_rfl⟩ rfl ⟨⟨_,_,Tryz.underlying96,rfl,rfl,by kernel_rfl⟩,trivial⟩ (by unfold TZ;kernel_rfl) rfl (bm rfl) ⟨_,Tryz.underlying96,by kernel_rfl⟩ (fun ks h=>by cases h),
 pf ⟨⟨_,Tryz.underlying99,rfl⟩,by kernel_rfl⟩ Tryz.underlying99 (by unfold TZ;kernel_rfl),
 l5 (z:=.agg #[.int .i64 0,.int .i64 0,.int .i64 0]) ⟨⟨_,Tryz.underlying105,rfl⟩,by kernel_rfl⟩ rfl ⟨⟨_,_,Tryz.underlying105,rfl,rfl,by kernel_rfl⟩,⟨_,_,Tryz.underlying105,rfl,rfl,by kernel_rfl⟩,⟨_,_,Tryz.underlying105,rfl,rfl,by kernel_rfl⟩,trivial⟩ (by unfold TZ;kernel_rfl) rfl (bm rfl) ⟨_,Tryz.underlying105,by kernel_rfl⟩ (fun ks h=>by cases h),
 l5 (z:=.agg #[.int .i64 0,.int .i64 0,.int .i64 0,.int .i64 0]) ⟨⟨_,Tryz.underlying142,rfl⟩,by kernel_rfl⟩ rfl ⟨⟨_,_,Tryz.underlying142,rfl,rfl,by kernel_rfl⟩,⟨_,_,Tryz.underlying142,rfl,rfl,by kernel_rfl⟩,⟨_,_,Tryz.underlying142,rfl,rfl,by kernel_rfl⟩,⟨_,_,Tryz.underlying142,rfl,rfl,by kernel_rfl⟩,trivial⟩ (by unfold TZ;kernel_rfl) rfl (bm rfl) ⟨_,Tryz.underlying142,by kernel_rfl⟩ (fun ks h=>by cases h),
 l5 (z:=.agg #[.int .i64 0,.slice none 0 0,.int .i64 0]) ⟨⟨_,Tryz.underlying144,rfl⟩,by kernel_rfl⟩ rfl ⟨⟨_,_,Tryz.underlying144,rfl,rfl,by kernel_rfl⟩,⟨_,_,Tryz.underlying144,rfl,rfl,by kernel_rfl⟩,⟨_,_,Tryz.underlying144,rfl,rfl,by kernel_rfl⟩,trivial⟩ (by unfold TZ;kernel_rfl) rfl (bm rfl) ⟨_,Tryz.underlying144,by kernel_rfl⟩ (fun ks h=>by cases h),
 pf ⟨⟨_,Tryz.underlying155,rfl⟩,by kernel_rfl⟩ Tryz.underlying155 (by unfold TZ;kernel_rfl),
 pf ⟨⟨_,Tryz.underlying156,rfl⟩,by kernel_rfl⟩ Tryz.underlying156 (by unfold TZ;kernel_rfl),
 l5 (z:=.agg #[.int .i64 0,.slice none 0 0,.slice none 0 0]) ⟨⟨_,Tryz.underlying158,rfl⟩,by kernel_rfl⟩ rfl ⟨⟨_,_,Tryz.underlying158,rfl,rfl,by kernel_rfl⟩,⟨_,_,Tryz.underlying158,rfl,rfl,by kernel_rfl⟩,⟨_,_,Tryz.underlying158,rfl,rfl,by kernel_rfl⟩,trivial⟩ (by unfold TZ;kernel_rfl) rfl (bm rfl) ⟨_,Tryz.underlying158,by kernel_rfl⟩ (fun ks h=>by cases h),
 D1 (ty:=.bool) (b:=8) ⟨⟨_,Tryz.underlying159,rfl⟩,by kernel_rfl⟩ rfl (by unfold TZ;kernel_rfl),
 D1 (ty:=.bool) (b:=8) ⟨⟨_,Tryz.underlying161,rfl⟩,by kernel_rfl⟩ rfl (by unfold TZ;kernel_rfl),
 D1 (ty:=.bool) (b:=8) ⟨⟨_,Tryz.underlying167,rfl⟩,by kernel_rfl⟩ rfl (by unfold TZ;kernel_rfl),
 D1 (ty:=.bool) (b:=8) ⟨⟨_,Tryz.underlying169,rfl⟩,by kernel_rfl⟩ rfl (by unfold TZ;kernel_rfl),
 pf ⟨⟨_,Tryz.underlying172,rfl⟩,by kernel_rfl⟩ Tryz.underlying172 (by unfold TZ;kernel_rfl),
 l5 (z:=.agg #[.slice none 0 0,.slice none 0 0]) ⟨⟨_,Tryz.underlying174,rfl⟩,by kernel_rfl⟩ rfl ⟨⟨_,_,Tryz.underlying174,rfl,rfl,by kernel_rfl⟩,⟨_,_,Tryz.underlying174,rfl,rfl,by kernel_rfl⟩,trivial⟩ (by unfold TZ;kernel_rfl) rfl (bm rfl) ⟨_,Tryz.underlying174,by kernel_rfl⟩ (fun ks h=>by cases h),
 l5 (z:=.agg #[.int .i64 0,.int .i64 0,.int .i64 0]) ⟨⟨_,Tryz.underlying183,rfl⟩,by kernel_rfl⟩ rfl ⟨⟨_,_,Tryz.underlying183,rfl,rfl,by kernel_rfl⟩,⟨_,_,Tryz.underlying183,rfl,rfl,by kernel_rfl⟩,⟨_,_,Tryz.underlying183,rfl,rfl,by kernel_rfl⟩,trivial⟩ (by unfold TZ;kernel_rfl) rfl (bm rfl) ⟨_,Tryz.underlying183,by kernel_rfl⟩ (fun ks h=>by cases h),
 l5 (z:=.agg #[.int .i64 0,.int .i64 0,.int .i64 0,.int .i64 0]) ⟨⟨_,Tryz.underlying188,rfl⟩,by kernel_rfl⟩ rfl ⟨⟨_,_,Tryz.underlying188,rfl,rfl,by kernel_rfl⟩,⟨_,_,Tryz.underlying188,rfl,rfl,by kernel_rfl⟩,⟨_,_,Tryz.underlying188,rfl,rfl,by kernel_rfl⟩,⟨_,_,Tryz.underlying188,rfl,rfl,by kernel_rfl⟩,trivial⟩ (by unfold TZ;kernel_rfl) rfl (bm rfl) ⟨_,Tryz.underlying188,by kernel_rfl⟩ (fun ks h=>by obtain rfl:=ae h;exact fun w a0 b0 a1 b1 a2 b2 a3 b3=>XG a0 a1 a2 a3 b0 b1 b2 b3 w),
 l5 (z:=.agg #[.int .i64 0,.int .i64 0,.int .i64 0,.int .i64 0]) ⟨⟨_,Tryz.underlying190,rfl⟩,by kernel_rfl⟩ rfl ⟨⟨_,_,Tryz.underlying190,rfl,rfl,by kernel_rfl⟩,⟨_,_,Tryz.underlying190,rfl,rfl,by kernel_rfl⟩,⟨_,_,Tryz.underlying190,rfl,rfl,by kernel_rfl⟩,⟨_,_,Tryz.underlying190,rfl,rfl,by kernel_rfl⟩,trivial⟩ (by unfold TZ;kernel_rfl) rfl (bm rfl) ⟨_,Tryz.underlying190,by kernel_rfl⟩ (fun ks h=>by cases h),
 l5 (z:=.agg #[.bool false,.int .i64 0,.int .i64 0,.int .i64 0,.int .i64 0]) ⟨⟨_,Tryz.underlying214,rfl⟩,by kernel_rfl⟩ rfl ⟨⟨_,_,Tryz.underlying214,rfl,rfl,by kernel_rfl⟩,⟨_,_,Tryz.underlying214,rfl,rfl,by kernel_rfl⟩,trivial⟩ (by unfold TZ;kernel_rfl) rfl (bm rfl) ⟨_,Tryz.underlying214,by kernel_rfl⟩ (fun ks h=>by cases h),
 pf ⟨⟨_,Tryz.underlying222,rfl⟩,by kernel_rfl⟩ Tryz.underlying222 (by unfold TZ;kernel_rfl),
 D1 (ty:=.bool) (b:=8) ⟨⟨_,Tryz.underlying236,rfl⟩,by kernel_rfl⟩ rfl (by unfold TZ;kernel_rfl),
 l5 (z:=.agg #[.int .i64 0,.slice none 0 0,.slice none 0 0]) ⟨⟨_,Tryz.underlying245,rfl⟩,by kernel_rfl⟩ rfl ⟨⟨_,_,Tryz.underlying245,rfl,rfl,by kernel_rfl⟩,⟨_,_,Tryz.underlying245,rfl,rfl,by kernel_rfl⟩,⟨_,_,Tryz.underlying245,rfl,rfl,by kernel_rfl⟩,trivial⟩ (by unfold TZ;kernel_rfl) rfl (bm rfl) ⟨_,Tryz.underlying245,by kernel_rfl⟩ (fun ks h=>by cases h),
 l5 (z:=.agg #[.int .i64 0,.slice none 0 0,.int .i64 0]) ⟨⟨_,Tryz.underlying248,rfl⟩,by kernel_rfl⟩ rfl ⟨⟨_,_,Tryz.underlying248,rfl,rfl,by kernel_rfl⟩,⟨_,_,Tryz.underlying248,rfl,rfl,by kernel_rfl⟩,⟨_,_,Tryz.underlying248,rfl,rfl,by kernel_rfl⟩,trivial⟩ (by unfold TZ;kernel_rfl) rfl (bm rfl) ⟨_,Tryz.underlying248,by kernel_rfl⟩ (fun ks h=>by cases h),
 uq (n:=1) (z:=.int .u64 0) ⟨⟨_,Tryz.underlying255,rfl⟩,by kernel_rfl⟩ rfl (by unfold TZ;kernel_rfl) rfl (bm rfl) (fun h=>by cases h) (fun k h=>by obtain rfl:=ae h;exact Tryz.underlying255),
 l5 (z:=.agg #[.slice none 0 0,.int .i64 0,.int .i64 0,.slice none 0 0,.bool false]) ⟨⟨_,Tryz.underlying269,rfl⟩,by kernel_rfl⟩ rfl ⟨⟨_,_,Tryz.underlying269,rfl,rfl,by kernel_rfl⟩,⟨_,_,Tryz.underlying269,rfl,rfl,by kernel_rfl⟩,⟨_,_,Tryz.underlying269,rfl,rfl,by kernel_rfl⟩,⟨_,_,Tryz.underlying269,rfl,rfl,by kernel_rfl⟩,⟨_,_,Tryz.underlying269,rfl,rfl,by kernel_rfl⟩,trivial⟩ (by unfold TZ;kernel_rfl) rfl (bm rfl) ⟨_,Tryz.underlying269,by kernel_rfl⟩ (fun ks h=>by cases h),
 l5 (z:=.agg #[.int .i64 0,.int .i64 0,.int .i64 0,.int .i64 0]) ⟨⟨_,Tryz.underlying280,rfl⟩,by kernel_rfl⟩ rfl ⟨⟨_,_,Tryz.underlying280,rfl,rfl,by kernel_rfl⟩,⟨_,_,Tryz.underlying280,rfl,rfl,by kernel_rfl⟩,⟨_,_,Tryz.underlying280,rfl,rfl,by kernel_rfl⟩,⟨_,_,Tryz.underlying280,rfl,rfl,by kernel_rfl⟩,trivial⟩ (by unfold TZ;kernel_rfl) rfl (bm rfl) ⟨_,Tryz.underlying280,by kernel_rfl⟩ (fun ks h=>by cases h),
 l5 (z:=.agg #[.bool false,.int .i64 0,.int .i64 0]) ⟨⟨_,Tryz.underlying302,rfl⟩,by kernel_rfl⟩ rfl ⟨⟨_,_,Tryz.underlying302,rfl,rfl,by kernel_rfl⟩,⟨_,_,Tryz.underlying302,rfl,rfl,by kernel_rfl⟩,⟨_,_,Tryz.underlying302,rfl,rfl,by kernel_rfl⟩,trivial⟩ (by unfold TZ;kernel_rfl) rfl (bm rfl) ⟨_,Tryz.underlying302,by kernel_rfl⟩ (fun ks h=>by cases h),
 l5 (z:=.agg #[.int .i64 0,.int .i64 0,.bool false]) ⟨⟨_,Tryz.underlying311,rfl⟩,by kernel_rfl⟩ rfl ⟨⟨_,_,Tryz.underlying311,rfl,rfl,by kernel_rfl⟩,⟨_,_,Tryz.underlying311,rfl,rfl,by kernel_rfl⟩,⟨_,_,Tryz.underlying311,rfl,rfl,by kernel_rfl⟩,trivial⟩ (by unfold TZ;kernel_rfl) rfl (bm rfl) ⟨_,Tryz.underlying311,by kernel_rfl⟩ (fun ks h=>by cases h),
 Y4 (e:=343) (E:=313) (u:=xW) ⟨⟨_,Tryz.underlying313,rfl⟩,by kernel_rfl⟩ Tryz.underlying313 (by unfold TZ;kernel_rfl),
 D1 (ty:=.bool) (b:=8) ⟨⟨_,Tryz.underlying316,rfl⟩,by kernel_rfl⟩ rfl (by unfold TZ;kernel_rfl),
 D1 (ty:=.bool) (b:=8) ⟨⟨_,Tryz.underlying318,rfl⟩,by kernel_rfl⟩ rfl (by unfold TZ;kernel_rfl),
 pf ⟨⟨_,Tryz.underlying341,rfl⟩,by kernel_rfl⟩ Tryz.underlying341 (by unfold TZ;kernel_rfl),
 l5 (z:=.agg #[.int .i64 0,.int .i64 0,.int .i64 0,.int .i64 0,.slice none 0 0]) ⟨⟨_,Tryz.underlying343,rfl⟩,by kernel_rfl⟩ rfl ⟨⟨_,_,Tryz.underlying343,rfl,rfl,by kernel_rfl⟩,⟨_,_,Tryz.underlying343,rfl,rfl,by kernel_rfl⟩,trivial⟩ (by unfold TZ;kernel_rfl) rfl (bm rfl) ⟨_,Tryz.underlying343,by kernel_rfl⟩ (fun ks h=>by cases h),
 Y3 (m:=⟨3,3,.int,.int⟩) (ty:=.bool) ⟨⟨_,Tryz.underlying347,rfl⟩,by kernel_rfl⟩ rfl ⟨Tryz.underlying347,kk3,ek3⟩,
 D1 (ty:=.bool) (b:=8) ⟨⟨_,Tryz.underlying349,rfl⟩,by kernel_rfl⟩ rfl (by unfold TZ;kernel_rfl),
 uq (n:=1) (z:=.int .u64 0) ⟨⟨_,Tryz.underlying366,rfl⟩,by kernel_rfl⟩ rfl (by unfold TZ;kernel_rfl) rfl (bm rfl) (fun h=>by cases h) (fun k h=>by obtain rfl:=ae h;exact Tryz.underlying366),
 uq (n:=1) (z:=.int .u32 0) ⟨⟨_,Tryz.underlying394,rfl⟩,by kernel_rfl⟩ rfl (by unfold TZ;kernel_rfl) rfl (bm rfl) (fun h=>by cases h) (fun k h=>by obtain rfl:=ae h;exact Tryz.underlying394),
 D1 (ty:=.bool) (b:=8) ⟨⟨_,Tryz.underlying399,rfl⟩,by kernel_rfl⟩ rfl (by unfold TZ;kernel_rfl),trivial⟩
theorem mixed:Tryz.prog.follows .mixedOrders=true:=by kernel_rfl
def Ts (fn:Func):Code:=match fn.body with
 | some c=>c
 | none=>.skip
theorem fk {k:FuncId} {fn:Func} {f:FS} (ft:FT) (hF:FTok Tryz.prog ft) (hf:Tryz.prog.funcs[k]? =some fn) (ann:Ann) (an:List (Nat×Ty):=[]) (tr:Trs:=[]) (hb:fn.body=some (Ts fn):=by rfl) (he:(fn.name == "runtime.NumGoroutine")=false:=by kernel_rfl) (hcl:f.cl=none:=by rfl) (hm:Nat.ble f.ps.length fn.ntmps=true:=by rfl) (hdp:(DB f.rs&&zX f.ps)=true:=by rfl)
  (hmod: ∀d,appP f.ps f.m d=ja ⟨tt,ft,an,fn.ntmps,tr⟩ (Ie ⟨tt,ft,an,fn.ntmps,tr⟩ fn.results.toList f.rs f.ps d) (Ts fn) ann (fun r=>some r) (fun _ _=>none) (Ie ⟨tt,ft,an,fn.ntmps,tr⟩ fn.results.toList f.rs f.ps d) (ri (As f.ps d)):=by intro d;kernel_rfl):FOk Tryz.prog k f:=
 fok (V:=⟨tt,ft,an,fn.ntmps,tr⟩) Lp hF mixed hf hb rfl (enters_of hf he hb) hcl (bm hm) hdp ann hmod
def w6:FS:=⟨[.rd y83,.rd y3],[y3],sS,none⟩
def Av:FS:=⟨[.rd Yv,.rd y3],[y3],ur,none⟩
def Aw:FS:=⟨[.rd Yw,.rd y3],[y3],qc,none⟩
def xX:FS:=⟨[.rd y45,.rd y3],[y3],rJ,none⟩
def vE:FS:=⟨[.rd y47,.rd y3],[y3],mK,none⟩
def Ax:FS:=⟨[.rd Gv,.rd y3],[y3],uu,none⟩
def Ay:FS:=⟨[.rd Lo,.rd y3],[y3],uv,none⟩
def rN:FS:=⟨[.rd Yx,.rd y3],[y3],kq,none⟩
def qK:FS:=⟨[.rd y52,.rd y3],[y3],mu,none⟩
def xY:FS:=⟨[.rd y62,.rd y3],[y3],rK,none⟩
def w7:FS:=⟨[.rd y64,.rd y3],[y3],pg,none⟩
def qL:FS:=⟨[.rd Yy,.rd y3],[y3],jn,none⟩
def px:FS:=⟨[.rd y53,.rd y3],[y3],k7,none⟩
def tC:FS:=⟨[.rd y55,.rd y3],[y3],lD,none⟩
def py:FS:=⟨[.rd y56,.rd y3],[y3],k8,none⟩
def xZ:FS:=⟨[.rd y58,.rd y3],[y3],om,none⟩
def w8:FS:=⟨[.rd y83],[y83],ph,none⟩
def CI:FS:=⟨[.rd Y5],[Hj],sU,none⟩
def Az:FS:=⟨[.rd Yv],[y84],qd,none⟩
def AA:FS:=⟨[.rd Yw],[y86],qe,none⟩
def ya:FS:=⟨[.rd y45],[y24],oo,none⟩
def vF:FS:=⟨[.rd y47],[y26],mM,none⟩
def AB:FS:=⟨[.rd Gv],[Gv],qf,none⟩
def AC:FS:=⟨[.rd Lo],[Lo],qg,none⟩
def rO:FS:=⟨[.rd Yx],[mf],ku,none⟩
def qM:FS:=⟨[.rd y52],[y27],jo,none⟩
def AD:FS:=⟨[.rd Y7],[xW],qi,none⟩
def yc:FS:=⟨[.rd y62],[y68],oq,none⟩
def w9:FS:=⟨[.rd y64],[y70],jT,none⟩
def qN:FS:=⟨[.rd Yy],[wG],jq,none⟩
def pz:FS:=⟨[.rd y53],[y28],iB,none⟩
def tD:FS:=⟨[.rd y55],[y30],lH,none⟩
def qO:FS:=⟨[.rd Y6],[VU],jr,none⟩
def pA:FS:=⟨[.rd y56],[y31],iC,none⟩
def yd:FS:=⟨[.rd y58],[y33],gW,none⟩
def xa:FS:=⟨[.rd y83,.rd y83],[y4],sV,none⟩
def CJ:FS:=⟨[.rd Hj,.rd Hj],[y4],sW,none⟩
def AE:FS:=⟨[.rd y84,.rd y84],[y4],uw,none⟩
def AF:FS:=⟨[.rd y86,.rd y86],[y4],qj,none⟩
def ye:FS:=⟨[.rd y24,.rd y24],[y4],rL,none⟩
def vG:FS:=⟨[.rd y26,.rd y26],[y4],mO,none⟩
def AG:FS:=⟨[.rd Gv,.rd Gv],[y4],uy,none⟩
def AH:FS:=⟨[.rd Lo,.rd Lo],[y4],uz,none⟩
def rP:FS:=⟨[.rd mf,.rd mf],[y4],kA,none⟩
def qP:FS:=⟨[.rd y27,.rd y27],[y4],mw,none⟩
def AI:FS:=⟨[.rd xW,.rd xW],[y4],qk,none⟩
def yf:FS:=⟨[.rd y68,.rd y68],[y4],rM,none⟩
def xb:FS:=⟨[.rd y70,.rd y70],[y4],pj,none⟩
def qQ:FS:=⟨[.rd wG,.rd wG],[y4],jt,none⟩
def pB:FS:=⟨[.rd y28,.rd y28],[y4],k9,none⟩
def tE:FS:=⟨[.rd y30,.rd y30],[y4],lL,none⟩
def qR:FS:=⟨[.rd VU,.rd VU],[y4],ju,none⟩
def pC:FS:=⟨[.rd y31,.rd y31],[y4],ld,none⟩
def yg:FS:=⟨[.rd y33,.rd y33],[y4],gX,none⟩
def lX:FS:=⟨[.rd y3,.rd y3,.rd y3],[y4],cN,none⟩
def CK:FS:=⟨[.rd y86,.rd Hj],[y4],CH,none⟩
def qS:FS:=⟨[.rd y86],[y4],gr,none⟩
def vH:FS:=⟨[.rd y83,.rd y83],[y3],nC,none⟩
def kO:FS:=⟨[.rd y26],[y4],m_s_IsValidHistory,none⟩
def ta:FS:=⟨[.rd y68],[y70],gB,none⟩
def rQ:FS:=⟨[.rd y3],[y4],l6,none⟩
def uD:FS:=⟨[.rd xW],[y3],nD,none⟩
def CL:FS:=⟨[.rd y70],[y4],sX,none⟩
def rR:FS:=⟨[.rd y70],[y4],kC,none⟩
def qu:FS:=⟨[.rd y68],[y3],gY,none⟩
def qv (n:Nat):FS:=⟨[.rd y68],[y3],dO n,none⟩
def xc:FS:=⟨[.rd y70,.rd y70,.rd xW],[y70],lf,none⟩
def CM:FS:=⟨[.rd y3],[y70],pn,none⟩
def oz (n:Nat):FS:=⟨[.rd y70,.rd y3,.rd y3],[y70],jU n,none⟩
def mW (n:Nat):FS:=⟨[.rd y68],[y70],cO n,none⟩
def tF:FS:=⟨[.rd y70],[y70,y4],lN,none⟩
def AJ:FS:=⟨[.ptr 269 Kc,.rd y3,.rd y3],[],nE,none⟩
def oA (n:Nat):FS:=⟨[.ptr 269 Kc,.rd y68],[ZR],dh n,none⟩
def oB:FS:=⟨[.rd y70],[Kc,y4],gH,none⟩
def yh:FS:=⟨[.rd Kc,.rd y3,.rd y3],[y3],ou,none⟩
def uE:FS:=⟨[.rd y83,.rd y3],[y3],nF,none⟩
def tG:FS:=⟨[.rd Kc,.rd y3],[y4],lO,none⟩
def tH:FS:=⟨[.rd Kc,.rd y3],[mf,y4],jc,none⟩
def tI:FS:=⟨[],[mf],oU,none⟩
def vI:FS:=⟨[.rd mf,.rd y83,.rd Gv],[mf],iD,none⟩
def uF:FS:=⟨[.rd mf],[Gv],lh,none⟩
def CN:FS:=⟨[.rd mf,.rd y83,.rd y3],[y83],po,none⟩
def tJ:FS:=⟨[.rd mf],[y83],jf,none⟩
def rS:FS:=⟨[.rd mf],[mf],fF,none⟩
def rT:FS:=⟨[.rd y70],[mf,y4],hO,none⟩
def ln:FS:=⟨[.rd mf,.rd mf],[y4],fG,none⟩
def yi:FS:=⟨[.rd y27,.rd mf],[y3],l7,none⟩
def rU:FS:=⟨[.rd y28],[y30,y4],l8,none⟩
def tK:FS:=⟨[.rd y70,.rd y70],[y4],lQ,none⟩
def nI:FS:=⟨[.rd y30,.rd y30],[y4],fX,none⟩
def jP:FS:=⟨[.rd y30],[y4],dP,none⟩
def lq:FS:=⟨[.rd y26],[y3],cB,none⟩
def qw:FS:=⟨[.rd y30,.rd y3],[y3],iF,none⟩
def AK:FS:=⟨[.rd y33],[y4],uA,none⟩
def mX:FS:=⟨[.rd y3],[y9],bY,none⟩
def mz:FS:=⟨[.rd y3],[y9],eH,none⟩
def oV:FS:=⟨[.rd Hj],[y9],jg,none⟩
def nJ:FS:=⟨[.rd y96],[y9],cP,none⟩
def yj:FS:=⟨[.rd y9],[y3],fM,none⟩
def qT:FS:=⟨[.rd y3,.rd y96],[y9],eI,none⟩
def vJ:FS:=⟨[.rd y9,.rd y5],[Y8],hZ,none⟩
def rV:FS:=⟨[.rd y9],[y3,y4],fN,none⟩
def rW:FS:=⟨[.rd y9],[y3,y4],fI,none⟩
def vK:FS:=⟨[.rd y9],[Hj,y4],fY,none⟩
def tL:FS:=⟨[.rd y9],[y96,y4],dH,none⟩
def qU:FS:=⟨[.rd y9],[y3,y96,y4],jw,none⟩
def AL:FS:=⟨[.rd y9],[y83,.sl 96 (.bag y96),y3],m_s_ScanLog,none⟩
def CO:FS:=⟨[.rd y33],[y4],w5,none⟩
def pD:FS:=⟨[.rd y33],[y4],iG,none⟩
def CP:FS:=⟨[.rd y86],[y86],pq,none⟩
def CQ:FS:=⟨[.rd y26],[y26],sY,none⟩
def AM:FS:=⟨[.rd mf],[mf],qm,none⟩
def uG:FS:=⟨[.rd y30],[y30],jO,none⟩
def AN:FS:=⟨[.rd y33],[y33],qn,none⟩
def pE:FS:=⟨[.rd y30,.rd y3,.rd y70],[y30,y4],iH,none⟩
def oC:FS:=⟨[.rd y33,.rd y3,.rd y70],[y33,y4],gI,none⟩
def iR:FS:=⟨[.rd y3,.rd y3,.rd y3],[y4],bZ,none⟩
def xd:FS:=⟨[.rd Hj,.rd y3],[y4],jV,none⟩
def qV:FS:=⟨[.rd y86],[y4],cx,none⟩
def cU:FS:=⟨[.rd y83,.rd y83],[y4],cd,none⟩
def kP:FS:=⟨[.rd y26],[y4],m_i_IsValidHistory,none⟩
def pF:FS:=⟨[.rd y26],[y3],iI,none⟩
def bH:FS:=⟨[.rd y27,.rd y27,.fn [mf,mf] [y4]],[y4],aY,none⟩
def gM:FS:=⟨[.rd Gv,.rd Gv],[y4],dD,none⟩
def cm:FS:=⟨[.rd Lo,.rd Lo,.fn [y83,y83] [y4]],[y4],bL,none⟩
def nK:FS:=⟨[.rd y83,.rd y83],[y4],fZ,none⟩
def lr:FS:=⟨[.rd mf,.rd mf],[y4],dL,none⟩
def bA:FS:=⟨[.rd y28,.rd y28,.fn [wG,wG] [y4]],[y4],aV,none⟩
def fQ:FS:=⟨[.rd y68,.rd y68],[y4],cj,none⟩
def tM:FS:=⟨[.rd y70,.rd y70],[y4],lR,none⟩
def qW:FS:=⟨[.rd wG,.rd wG],[y4],gx,none⟩
def nL:FS:=⟨[.rd y30,.rd y30],[y4],ga,none⟩
def rX:FS:=⟨[.rd y70],[y70],fO,none⟩
def rY:FS:=⟨[.rd y3],[y4],jW,none⟩
def AO:FS:=⟨[.rd xW],[y4],qo,none⟩
def bJ:FS:=⟨[.rd Yz],[Yz],fun _=>none,some (313,8)⟩
def tc:FS:=⟨[.rd y70],[t313],ng,none⟩
def CR:FS:=⟨[.rd y70],[y4],sZ,none⟩
def rZ:FS:=⟨[.rd y70],[y4],kF,none⟩
def lY (n:Nat):FS:=⟨[.rd t313],[y3],bR n,none⟩
def Ke:FS:=⟨[.rd y3],[t313],D2,none⟩
def oD (n:Nat):FS:=⟨[.eat t313,.rd y3,.rd y3],[t313],jX n,none⟩
def kQ (n:Nat):FS:=⟨[.rd t313],[t313],bB n,none⟩
def jH (n:Nat):FS:=⟨[.rd t313,.ptr 70 y70],[],bz n,none⟩
def vL:FS:=⟨[.rd t313],[y70],qq,none⟩
def tN:FS:=⟨[.rd y70],[y70,y4],lS,none⟩
def mG:FS:=⟨[.ptr 269 Kc,.rd y3,.rd y3],[],dA,none⟩
def gl (n:Nat):FS:=⟨[.ptr 269 Kc,.rd t313],[ZS],bC n,none⟩
def oE:FS:=⟨[.rd y70],[Kc,y4],gJ,none⟩
def mA:FS:=⟨[.rd y3,.rd y3,.fn [y3] [y4],.fn [y3,y3] [y3,y4]],[mf,y4],eJ,none⟩
def mg:FS:=⟨[.rd Kc,.rd y3],[y4],dm,none⟩
def nM:FS:=⟨[.rd Kc,.rd y3,.rd y3],[y3],gb,none⟩
def pG:FS:=⟨[.rd y3,.rd y3,.cap 269 Kc],[y3,y4],c7,none⟩
def sa:FS:=⟨[.rd Kc,.rd y3],[mf,y4],ig,none⟩
def bN:FS:=⟨[.rd Gv],[Gv],fun _=>none,some (4,1)⟩
def oF:FS:=⟨[.rd mf],[Gv],eP,none⟩
def eB:FS:=⟨[.rd Lo,.fn [y83] [y4]],[y3],bU,none⟩
def kW:FS:=⟨[.rd y83,.cap 83 y83],[y4],gE,none⟩
def mH:FS:=⟨[.rd mf,.rd y83],[y83,y3],dB,none⟩
def mi:FS:=⟨[.rd mf],[y83],dt,none⟩
def nN:FS:=⟨[.rd XF,.rd XF],[XF,XF],uB,none⟩
def nO:FS:=⟨[.rd XE,.rd XE],[XE,XE],nG,none⟩
def pH:FS:=⟨[.rd XD,.rd XD],[XD,XD],pv,none⟩
def ir:FS:=⟨[.rd y83,.rd y3],[y83],il,none⟩
def AP:FS:=⟨[],[mf],uC,none⟩
def iW:FS:=⟨[.rd y83,.rd y3],[y3],eD,none⟩
def jZ:FS:=⟨[.rd y3,.cap 83 y83],[y3],bc,none⟩
def j4:FS:=⟨[.rd y3,.cap 158 mf,.capf 349 [y3] [y3]],[y4],cE,none⟩
def oG:FS:=⟨[.rd mf,.rd y3,.rd y3],[y3],eQ,none⟩
def j5:FS:=⟨[.rd y3,.rd y3,.cap 158 mf,.capf 349 [y3] [y3],.cap 83 y83],[y3,y4],cF,none⟩
def kX:FS:=⟨[.rd mf],[mf],cn,none⟩
def Gw:FS:=⟨[.rd mf],[mf,y4],Au,none⟩
def sb:FS:=⟨[.rd y70],[mf,y4],im,none⟩
def cT:FS:=⟨[.rd y27,.fn [mf] [y4]],[y3],ba,none⟩
def yk:FS:=⟨[.rd mf,.cap 158 mf],[y4],ma,none⟩
def xe:FS:=⟨[.rd y28],[y30,y4],pw,none⟩
def jQ:FS:=⟨[.rd y30],[y4],cA,none⟩
def cK:FS:=⟨[.rd y28,.fn [wG] [y4]],[y3],bS,none⟩
def sd:FS:=⟨[.rd wG,.cap 3 y3],[y4],kH,none⟩
def qx:FS:=⟨[.rd y30,.rd y3],[y3],iJ,none⟩
def mj:FS:=⟨[.rd y9,.rd y5],[.int .i64],eR,none⟩
def qX:FS:=⟨[.rd y3],[.str],my,none⟩
def qy:FS:=⟨[.rd y3],[y9],db,none⟩
def oW:FS:=⟨[.rd Hj],[y9],jk,none⟩
def qY:FS:=⟨[.rd Y8,.rd y9],[.str],jx,none⟩
def nP:FS:=⟨[.rd y96],[y9],dS,none⟩
def ym:FS:=⟨[.rd y9],[y3],jY,none⟩
def qZ:FS:=⟨[.rd y3,.rd y96],[y9],gy,none⟩
def lu:FS:=⟨[.rd y9,.rd y9],[.sl 9 .str],cG,none⟩
def se:FS:=⟨[.rd y9],[.int .i64,.bool],fP,none⟩
def sf:FS:=⟨[.rd y9,.rd y9],[.str,.str,.bool],cS,none⟩
def vM:FS:=⟨[.rd y9],[Hj,y4],gf,none⟩
def tO:FS:=⟨[.rd y9],[y96,y4],dI,none⟩
def q7:FS:=⟨[.rd y9],[y3,y96,y4],jy,none⟩
def AQ:FS:=⟨[.rd y9],[y83,.sl 96 (.bag y96),y3],m_i_ScanLog,none⟩
def pI:FS:=⟨[.rd y33],[y4],iK,none⟩
def sg:FS:=⟨[.rd y83],[y83],mb,none⟩
def vN:FS:=⟨[.rd y86],[y86],kI,none⟩
def si:FS:=⟨[.rd y26],[y26],kJ,none⟩
def pJ:FS:=⟨[.rd mf],[mf],iL,none⟩
def mB:FS:=⟨[.rd y30],[y30],dy,none⟩
def tP:FS:=⟨[.rd y33],[y33],lT,none⟩
def cY:FS:=⟨[.eat (.sl 144 (.fro wG)),.rd y3,.ow (.sl 144 (.fro wG))],[.sl 144 (.fro wG)],bE,none⟩
def da:FS:=⟨[.rd y28],[.sl 144 (.fro wG)],bG,none⟩
def pK:FS:=⟨[.rd y30,.rd y3,.rd y70],[y30,y4],iM,none⟩
def oH:FS:=⟨[.rd y33,.rd y3,.rd y70],[y33,y4],eU,none⟩
def sj:FS:=⟨[.ow y83,.rd y3],[y3],mc,none⟩
def vO:FS:=⟨[.ow y84,.rd y3],[y3],mQ,none⟩
def tQ:FS:=⟨[.ow y24,.rd y3],[y3],lU,none⟩
def sk:FS:=⟨[.ow y26,.rd y3],[y3],kL,none⟩
def vP:FS:=⟨[.ow Gv,.rd y3],[y3],mR,none⟩
def vQ:FS:=⟨[.ow Lo,.rd y3],[y3],mS,none⟩
def oJ:FS:=⟨[.ow y27,.rd y3],[y3],gK,none⟩
def oX:FS:=⟨[.ow y68,.rd y3],[y3],jl,none⟩
def nQ:FS:=⟨[.ow y28,.rd y3],[y3],gg,none⟩
def q8:FS:=⟨[.ow y30,.rd y3],[y3],jC,none⟩
def nR:FS:=⟨[.ow y31,.rd y3],[y3],gi,none⟩
def tT:FS:=⟨[.ow y33,.rd y3],[y3],fb,none⟩
def yn:FS:=⟨[.ow y70,.rd y3],[y3],oy,none⟩
def sn:FS:=⟨[.rd y83,.rd y3],[y3],me,none⟩
def vR:FS:=⟨[.rd y84,.rd y3],[y3],mT,none⟩
def tU:FS:=⟨[.rd y24,.rd y3],[y3],lV,none⟩
def so:FS:=⟨[.rd y26,.rd y3],[y3],kN,none⟩
def vS:FS:=⟨[.rd Gv,.rd y3],[y3],mU,none⟩
def vT:FS:=⟨[.rd Lo,.rd y3],[y3],mV,none⟩
def oK:FS:=⟨[.rd y27,.rd y3],[y3],gL,none⟩
def tV:FS:=⟨[.rd y68,.rd y3],[y3],lW,none⟩
def nS:FS:=⟨[.rd y28,.rd y3],[y3],gj,none⟩
def q9:FS:=⟨[.rd y30,.rd y3],[y3],jG,none⟩
def nT:FS:=⟨[.rd y31,.rd y3],[y3],gk,none⟩
def tW:FS:=⟨[.rd y33,.rd y3],[y3],gC,none⟩
def oY:FS:=⟨[.rd y58,.rd y3,.rd y64],[y4],de,none⟩
end R
namespace R
open Go.RowKit
open D
theorem CS:FOk Tryz.prog 216 w6:=fk [] trivial Tryz.func216 .no
theorem Ii:FOk Tryz.prog 217 Av:=fk [] trivial Tryz.func217 .no
theorem Ij:FOk Tryz.prog 143 Aw:=fk [(216,w6),(217,Av)] ⟨CS,Ii,trivial⟩ Tryz.func143 .no
theorem Gx:FOk Tryz.prog 74 xX:=fk [(143,Aw)] ⟨Ij,trivial⟩ Tryz.func74 (.two .no (.two .no (.two .no (.two (.two .no (.loop [.slot 1 (.num .i64),.slot 5 (.num .i64)] .no)) .no))))
theorem D3:FOk Tryz.prog 21 vE:=fk [(74,xX)] ⟨Gx,trivial⟩ Tryz.func21 .no
theorem Ik:FOk Tryz.prog 274 Ax:=fk [] trivial Tryz.func274 .no
theorem Il:FOk Tryz.prog 275 Ay:=fk [(216,w6)] ⟨CS,trivial⟩ Tryz.func275 (.two .no (.two .no (.two .no (.two (.two .no (.loop [.slot 1 (.num .i64),.slot 5 (.num .i64)] .no)) .no))))
theorem AR:FOk Tryz.prog 226 rN:=fk [(274,Ax),(275,Ay)] ⟨Ik,Il,trivial⟩ Tryz.func226 .no
theorem yH:FOk Tryz.prog 152 qK:=fk [(226,rN)] ⟨AR,trivial⟩ Tryz.func152 (.two .no (.two .no (.two .no (.two (.two .no (.loop [.slot 1 (.num .i64),.slot 5 (.num .i64)] .no)) .no))))
theorem Gy:FOk Tryz.prog 89 xY:=fk [] trivial Tryz.func89 .no
theorem CT:FOk Tryz.prog 30 w7:=fk [(89,xY)] ⟨Gy,trivial⟩ Tryz.func30 .no
theorem yI:FOk Tryz.prog 227 qL:=fk [(30,w7)] ⟨CT,trivial⟩ Tryz.func227 .no
theorem xf:FOk Tryz.prog 153 px:=fk [(227,qL)] ⟨yI,trivial⟩ Tryz.func153 (.two .no (.two .no (.two .no (.two (.two .no (.loop [.slot 1 (.num .i64),.slot 5 (.num .i64)] .no)) .no))))
theorem BK:FOk Tryz.prog 83 tC:=fk [(152,qK),(153,px)] ⟨yH,xf,trivial⟩ Tryz.func83 .no
theorem xg:FOk Tryz.prog 84 py:=fk [] trivial Tryz.func84 .no
theorem Gz:FOk Tryz.prog 27 xZ:=fk [(21,vE),(83,tC),(84,py)] ⟨D3,BK,xg,trivial⟩ Tryz.func27 .no
theorem CU:FOk Tryz.prog 218 w8:=fk [] trivial Tryz.func218 (.two .no (.two .no (.two (.two .no (.loop [.row 3 3 y3,.slot 4 (.num .i64)] .no)) .no)))
end R
namespace R
open Go.RowKit
open D
theorem Lq:FOk Tryz.prog 268 CI:=fk [] trivial Tryz.func268 .no
theorem Im:FOk Tryz.prog 219 Az:=fk [(268,CI)] ⟨Lq,trivial⟩ Tryz.func219 (.two .no (.two .no (.two (.two .no (.loop [.row 3 142 Hj,.slot 4 (.num .i64)] .no)) .no)))
theorem Io:FOk Tryz.prog 144 AA:=fk [(218,w8),(219,Az)] ⟨CU,Im,trivial⟩ Tryz.func144 .no
theorem GB:FOk Tryz.prog 75 ya:=fk [(144,AA)] ⟨Io,trivial⟩ Tryz.func75 (.two .no (.two .no (.two (.two .no (.loop [.row 3 86 y86,.slot 4 (.num .i64)] .no)) .no)))
theorem D4:FOk Tryz.prog 22 vF:=fk [(75,ya)] ⟨GB,trivial⟩ Tryz.func22 .no
theorem Ip:FOk Tryz.prog 276 AB:=fk [] trivial Tryz.func276 (.two .no (.two .no (.two (.two .no (.loop [.row 3 4 y4,.slot 4 (.num .i64)] .no)) .no)))
theorem Iq:FOk Tryz.prog 277 AC:=fk [(218,w8)] ⟨CU,trivial⟩ Tryz.func277 (.two .no (.two .no (.two (.two .no (.loop [.row 3 83 y83,.slot 4 (.num .i64)] .no)) .no)))
theorem AS:FOk Tryz.prog 228 rO:=fk [(276,AB),(277,AC)] ⟨Ip,Iq,trivial⟩ Tryz.func228 .no
theorem yJ:FOk Tryz.prog 154 qM:=fk [(228,rO)] ⟨AS,trivial⟩ Tryz.func154 (.two .no (.two .no (.two (.two .no (.loop [.row 3 158 mf,.slot 4 (.num .i64)] .no)) .no)))
theorem Ir:FOk Tryz.prog 160 AD:=fk [] trivial Tryz.func160 .no
theorem GC:FOk Tryz.prog 91 yc:=fk [(160,AD)] ⟨Ir,trivial⟩ Tryz.func91 (.two .no (.two .no (.two (.two .no (.loop [.row 3 188 xW,.slot 4 (.num .i64)] .no)) .no)))
theorem CV:FOk Tryz.prog 32 w9:=fk [(91,yc)] ⟨GC,trivial⟩ Tryz.func32 .no
theorem yK:FOk Tryz.prog 229 qN:=fk [(32,w9)] ⟨CV,trivial⟩ Tryz.func229 .no
theorem xh:FOk Tryz.prog 155 pz:=fk [(229,qN)] ⟨yK,trivial⟩ Tryz.func155 (.two .no (.two .no (.two (.two .no (.loop [.row 3 144 wG,.slot 4 (.num .i64)] .no)) .no)))
theorem BL:FOk Tryz.prog 85 tD:=fk [(154,qM),(155,pz)] ⟨yJ,xh,trivial⟩ Tryz.func85 .no
theorem yL:FOk Tryz.prog 156 qO:=fk [] trivial Tryz.func156 .no
theorem xi:FOk Tryz.prog 86 pA:=fk [(156,qO)] ⟨yL,trivial⟩ Tryz.func86 (.two .no (.two .no (.two (.two .no (.loop [.row 3 105 VU,.slot 4 (.num .i64)] .no)) .no)))
end R
namespace R
open Go.RowKit
open D
theorem GD:FOk Tryz.prog 28 yd:=fk [(22,vF),(85,tD),(86,pA)] ⟨D4,BL,xi,trivial⟩ Tryz.func28 .no
theorem CW:FOk Tryz.prog 224 xa:=fk [] trivial Tryz.func224 (.two .no (.two .no (.two (.two .no (.loop [.slot 5 (.num .i64)] .no)) .no)))
theorem Lr:FOk Tryz.prog 273 CJ:=fk [] trivial Tryz.func273 .no
theorem Is:FOk Tryz.prog 225 AE:=fk [(273,CJ)] ⟨Lr,trivial⟩ Tryz.func225 (.two .no (.two .no (.two (.two .no (.loop [.slot 5 (.num .i64)] .no)) .no)))
theorem Iu:FOk Tryz.prog 147 AF:=fk [(224,xa),(225,AE)] ⟨CW,Is,trivial⟩ Tryz.func147 .no
theorem GE:FOk Tryz.prog 80 ye:=fk [(147,AF)] ⟨Iu,trivial⟩ Tryz.func80 (.two .no (.two .no (.two (.two .no (.loop [.slot 5 (.num .i64)] .no)) .no)))
theorem D5:FOk Tryz.prog 24 vG:=fk [(80,ye)] ⟨GE,trivial⟩ Tryz.func24 .no
theorem Iv:FOk Tryz.prog 278 AG:=fk [] trivial Tryz.func278 (.two .no (.two .no (.two (.two .no (.loop [.slot 5 (.num .i64)] .no)) .no)))
theorem Iw:FOk Tryz.prog 279 AH:=fk [(224,xa)] ⟨CW,trivial⟩ Tryz.func279 (.two .no (.two .no (.two (.two .no (.loop [.slot 5 (.num .i64)] .no)) .no)))
theorem AT:FOk Tryz.prog 230 rP:=fk [(278,AG),(279,AH)] ⟨Iv,Iw,trivial⟩ Tryz.func230 .no
theorem yM:FOk Tryz.prog 157 qP:=fk [(230,rP)] ⟨AT,trivial⟩ Tryz.func157 (.two .no (.two .no (.two (.two .no (.loop [.slot 5 (.num .i64)] .no)) .no)))
theorem Ix:FOk Tryz.prog 163 AI:=fk [] trivial Tryz.func163 .no
theorem GF:FOk Tryz.prog 93 yf:=fk [(163,AI)] ⟨Ix,trivial⟩ Tryz.func93 (.two .no (.two .no (.two (.two .no (.loop [.slot 5 (.num .i64)] .no)) .no)))
theorem CX:FOk Tryz.prog 34 xb:=fk [(93,yf)] ⟨GF,trivial⟩ Tryz.func34 .no
theorem yN:FOk Tryz.prog 231 qQ:=fk [(34,xb)] ⟨CX,trivial⟩ Tryz.func231 .no
theorem xj:FOk Tryz.prog 158 pB:=fk [(231,qQ)] ⟨yN,trivial⟩ Tryz.func158 (.two .no (.two .no (.two (.two .no (.loop [.slot 5 (.num .i64)] .no)) .no)))
theorem BM:FOk Tryz.prog 87 tE:=fk [(157,qP),(158,pB)] ⟨yM,xj,trivial⟩ Tryz.func87 .no
end R
namespace R
open Go.RowKit
open D
theorem yO:FOk Tryz.prog 159 qR:=fk [] trivial Tryz.func159 .no
theorem xk:FOk Tryz.prog 88 pC:=fk [(159,qR)] ⟨yO,trivial⟩ Tryz.func88 (.two .no (.two .no (.two (.two .no (.loop [.slot 5 (.num .i64)] .no)) .no)))
theorem GG:FOk Tryz.prog 29 yg:=fk [(24,vG),(87,tE),(88,pC)] ⟨D5,BM,xk,trivial⟩ Tryz.func29 .no
theorem mY:FOk Tryz.prog 106 lX:=fk [] trivial Tryz.func106 .no
theorem Ls:FOk Tryz.prog 114 CK:=fk [(106,lX)] ⟨mY,trivial⟩ Tryz.func114 .no
theorem yP:FOk Tryz.prog 47 qS:=fk [(106,lX),(114,CK)] ⟨mY,Ls,trivial⟩ Tryz.func47 (.two .no (.two (.two .no (.loop [.slot 3 (.num .i64)] .no)) (.two (.two .no (.loop [.slot 4 (.num .i64)] .no)) .no)))
theorem AU:FOk Tryz.prog 131 vH:=fk [] trivial Tryz.func131 (.two .no (.two (.two .no (.loop [.slot 5 (.num .i64)] .no)) .no))
theorem oL:FOk Tryz.prog 62 kO:=fk [(47,qS),(106,lX),(131,vH)] ⟨yP,mY,AU,trivial⟩ Tryz.func62 (.two .no (.two (.two .no (.loop [.slot 3 (.num .i64)] .no)) .no))
theorem xl:FOk Tryz.prog 192 ta:=fk [] trivial Tryz.func192 .no
theorem yo:FOk Tryz.prog 331 rQ:=fk [(106,lX)] ⟨mY,trivial⟩ Tryz.func331 .no
theorem AW:FOk Tryz.prog 363 uD:=fk [(106,lX),(331,rQ)] ⟨mY,yo,trivial⟩ Tryz.func363 (.two .no (.two (.two .no (.join [.slot 5 .boo] .no (.two .no (.two .no (.two .no (.join [.slot 37 .boo] .no .no)))))) .no))
theorem Lt:FOk Tryz.prog 324 CL:=fk [(363,uD)] ⟨AW,trivial⟩ Tryz.func324 (.two .no (.two .no (.two (.two .no (.loop [.slot 3 (.num .i64),.slot 4 (.num .i64)] .no)) .no)))
theorem AX:FOk Tryz.prog 287 rR:=fk [(324,CL)] ⟨Lt,trivial⟩ Tryz.func287 .no
theorem uH:FOk Tryz.prog 334 qu:=fk [(363,uD)] ⟨AW,trivial⟩ Tryz.func334 (.two .no (.two .no (.two .no (.two (.loop [.slot 3 (.num .i64),.slot 4 (.num .i64)] .no) .no))))
theorem AY: ∀n,FOk Tryz.prog 332 (qv n)
 | 0=>ko (f:=qv 0) (enters_of Tryz.func332 (by kernel_rfl) rfl) rfl (fun d=>rfl)
 | n+1=>by
  have ih:=AY n
  exact fk [(332,(qv n)),(334,qu)] ⟨ih,uH,trivial⟩ Tryz.func332 (.two .no (.two .no (.two .no (.two (.two .no (.two (.two .no (.at [.slot 15 .boo] .no)) .no)) .no))))
theorem CY:FOk Tryz.prog 284 xc:=fk [(192,ta)] ⟨xl,trivial⟩ Tryz.func284 .no
theorem Lu:FOk Tryz.prog 282 CM:=fk [] trivial Tryz.func282 .no
end R
namespace R
open Go.RowKit
open D
theorem yp: ∀n,FOk Tryz.prog 373 (oz n)
 | 0=>ko (f:=oz 0) (enters_of Tryz.func373 (by kernel_rfl) rfl) rfl (fun d=>rfl)
 | n+1=>by
  have ih:=yp n
  exact fk [(282,CM),(284,xc),(373,(oz n))] ⟨Lu,CY,ih,trivial⟩ Tryz.func373 .no
theorem vU: ∀n,FOk Tryz.prog 333 (mW n)
 | 0=>ko (f:=mW 0) (enters_of Tryz.func333 (by kernel_rfl) rfl) rfl (fun d=>rfl)
 | n+1=>by
  have ih:=vU n
  exact fk [(284,xc),(333,(mW n)),(334,qu),(373,(oz gp))] ⟨CY,ih,uH,(yp gp),trivial⟩ Tryz.func333 (.two .no (.two .no (.two .no (.two (.two .no (.two (.two .no (.at [.slot 15 .boo] .no)) .no)) .no))))
theorem BN:FOk Tryz.prog 296 tF:=fk [(287,rR),(332,(qv gp)),(333,(mW gp))] ⟨AX,(AY gp),(vU gp),trivial⟩ Tryz.func296 .no
theorem Iy:FOk Tryz.prog 335 AJ:=fk [] trivial Tryz.func335 (.two .no (.loop [.slot 6 (.num .i64),.par 4 [3] 3 y3] (.two .no (.two (.at [.par 4 [3] 3 y3] .no) .no))))
theorem yq: ∀n,FOk Tryz.prog 297 (oA n)
 | 0=>ko (f:=oA 0) (enters_of Tryz.func297 (by kernel_rfl) rfl) rfl (fun d=>rfl)
 | n+1=>by
  have ih:=yq n
  exact fk [(297,(oA n)),(334,qu),(335,AJ)] ⟨ih,uH,Iy,trivial⟩ Tryz.func297 (.two .no (.two .no (.two .no (.two (.two .no (.two .no (.two .no (.two .no (.two .no (.two .no (.two (.two .no (.two .no (.two .no (.two .no (.two .no (.two (.two .no (.at [.box 11 [.boo,(.num .i64),(.num .i64)]] .no)) (.two (.two .no (.at [.box 11 [.boo,(.num .i64),(.num .i64)]] .no)) .no))))))) .no))))))) .no))))
theorem vV:FOk Tryz.prog 258 oB:=fk [(296,tF),(297,(oA gp))] ⟨BN,(yq gp),trivial⟩ Tryz.func258 (.two .no (.two .no (.two .no (.two .no (.two (.two .no (.loop [.slot 6 (.num .i64),.slot 7 (.num .i64)] (.two .no (.two (.at [.slot 6 (.num .i64)] .no) .no)))) .no)))))
theorem GH:FOk Tryz.prog 298 yh:=fk [] trivial Tryz.func298 (.two .no (.two .no (.join [.slot 7 (.num .i64)] .no (.two (.two .no (.loop [.slot 7 (.num .i64),.slot 8 (.num .i64)] (.two .no (.join [.slot 7 (.num .i64)] .no .no)))) (.two .no (.two (.two .no (.loop [.slot 9 (.num .i64),.slot 10 (.num .i64)] (.two .no (.join [.slot 9 (.num .i64)] .no .no)))) .no))))))
theorem AZ:FOk Tryz.prog 299 uE:=fk [] trivial Tryz.func299 (.two .no (.two (.two .no (.loop [.slot 5 (.num .i64)] .no)) .no))
theorem BO:FOk Tryz.prog 300 tG:=fk [] trivial Tryz.func300 .no
theorem BP:FOk Tryz.prog 259 tH:=fk [(298,yh),(299,uE),(300,tG)] ⟨GH,AZ,BO,trivial⟩ Tryz.func259 (.two .no (.two .no (.two .no (.two (.two .no (.loop [.slot 7 (.own 3 y3),.slot 8 (.num .i64),.box 6 [(.num .i64),(.own 4 y4),(.own 83 y83)]] (.two .no (.two (.two .no (.two (.two .no (.loop [.slot 7 (.own 3 y3),.slot 9 (.own 3 y3),.slot 10 (.num .i64)] (.two .no (.two (.two .no (.two .no (.join [.slot 7 (.own 3 y3),.slot 12 (.num .i64)] .no .no))) .no)))) .no)) .no)))) .no))))
theorem BQ:FOk Tryz.prog 336 tI:=fk [] trivial Tryz.func336 (.two .no (.two .no (.two (.two .no (.loop [.slot 1 (.own 3 y3),.slot 2 (.num .i64)] .no)) .no)))
theorem D6:FOk Tryz.prog 301 vI:=fk [(299,uE),(336,tI)] ⟨AZ,BQ,trivial⟩ Tryz.func301 (.two .no (.two .no (.two .no (.two .no (.two .no (.two (.two .no (.loop [.slot 8 (.own 3 y3),.slot 9 (.own 3 y3),.slot 10 (.num .i64),.box 7 [(.num .i64),(.own 4 y4),(.own 83 y83)]] (.two .no (.two (.two .no (.two (.two .no (.loop [.slot 8 (.own 3 y3),.slot 9 (.own 3 y3),.slot 11 (.own 3 y3),.slot 12 (.num .i64)] (.two .no (.two (.two .no (.two .no (.join [.slot 8 (.own 3 y3),.slot 9 (.own 3 y3),.slot 14 (.num .i64)] .no .no))) .no)))) .no)) .no)))) .no))))))
theorem A0:FOk Tryz.prog 303 uF:=fk [] trivial Tryz.func303 (.two .no (.two .no (.two (.two .no (.loop [.row 3 4 y4,.slot 4 (.num .i64)] (.two .no (.two (.two .no (.loop [.row 3 4 y4,.slot 5 (.num .i64)] (.two .no (.two (.two .no (.loop [.row 3 4 y4,.slot 6 (.num .i64)] (.two .no (.join [.row 3 4 y4] .no .no)))) .no)))) .no)))) .no)))
theorem Lv:FOk Tryz.prog 337 CN:=fk [] trivial Tryz.func337 (.two .no (.two .no (.two (.two .no (.loop [.slot 7 (.own 3 y3),.slot 8 (.num .i64)] (.two .no (.join [.slot 7 (.own 3 y3)] .no .no)))) .no)))
theorem BR:FOk Tryz.prog 302 tJ:=fk [(131,vH),(303,uF),(337,CN)] ⟨AU,A0,Lv,trivial⟩ Tryz.func302 (.two .no (.two .no (.two .no (.two (.two .no (.loop [.slot 4 (.own 3 y3),.slot 5 (.num .i64)] (.two .no (.two (.two .no (.two (.two .no (.at [.slot 6 (.num .i64)] .no)) (.two (.two .no (.at [.slot 6 (.num .i64)] .no)) .no))) .no)))) (.two (.two .no (.loop [.slot 4 (.own 3 y3),.slot 7 (.num .i64)] (.two .no (.two (.two .no (.two .no (.two (.two .no (.loop [.slot 8 (.own 83 y83),.slot 9 (.own 3 y3),.slot 10 (.num .i64)] (.two .no (.two (.at [.slot 8 (.own 83 y83),.slot 9 (.own 3 y3)] (.two .no (.two .no (.two .no (.two (.two .no (.loop [.slot 12 (.num .i64),.slot 13 (.num .i64)] (.two .no (.two (.at [.slot 12 (.num .i64)] .no) .no)))) (.two (.two .no (.at [.slot 8 (.own 83 y83),.slot 12 (.num .i64),.gone 11] .no)) .no)))))) .no)))) .no))) .no)))) .no)))))
theorem A1:FOk Tryz.prog 260 rS:=fk [(301,vI),(302,tJ),(303,uF)] ⟨D6,BR,A0,trivial⟩ Tryz.func260 .no
theorem A2:FOk Tryz.prog 204 rT:=fk [(258,oB),(259,tH),(260,rS)] ⟨vV,BP,A1,trivial⟩ Tryz.func204 .no
end R
namespace R
open Go.RowKit
open D
theorem pL:FOk Tryz.prog 206 ln:=fk [(131,vH)] ⟨AU,trivial⟩ Tryz.func206 (.two .no (.two .no (.two (.two .no (.loop [.slot 5 (.num .i64)] .no)) (.two (.two .no (.loop [.slot 6 (.num .i64)] .no)) .no))))
theorem GI:FOk Tryz.prog 205 yi:=fk [(206,ln)] ⟨pL,trivial⟩ Tryz.func205 (.two .no (.two (.two .no (.loop [.slot 5 (.num .i64)] .no)) .no))
theorem yr:FOk Tryz.prog 132 rU:=fk [(106,lX),(192,ta),(204,rT),(205,yi)] ⟨mY,xl,A2,GI,trivial⟩ Tryz.func132 (.two .no (.two .no (.two .no (.two (.two .no (.loop [.slot 5 (.num .i64),.box 4 [(.own 158 mf),(.own 144 wG)]] (.two .no (.two (.two .no (.two .no (.two .no (.join [.slot 8 (.num .i64),.box 4 [(.own 158 mf),(.own 144 wG)],.gone 6] .no .no)))) .no)))) .no))))
theorem BS:FOk Tryz.prog 207 tK:=fk [] trivial Tryz.func207 (.two .no (.two .no (.two (.two .no (.loop [.slot 5 (.num .i64)] .no)) .no)))
theorem uI:FOk Tryz.prog 133 nI:=fk [(206,ln),(207,tK)] ⟨pL,BS,trivial⟩ Tryz.func133 (.two .no (.two .no (.two (.two .no (.loop [.slot 5 (.num .i64)] .no)) (.two (.two .no (.loop [.slot 6 (.num .i64)] .no)) .no))))
theorem nU:FOk Tryz.prog 63 jP:=fk [(132,rU),(133,nI)] ⟨yr,uI,trivial⟩ Tryz.func63 .no
theorem pM:FOk Tryz.prog 20 lq:=fk [(62,kO)] ⟨oL,trivial⟩ Tryz.func20 .no
theorem vW:FOk Tryz.prog 48 qw:=fk [] trivial Tryz.func48 (.two .no (.two (.two .no (.loop [.slot 5 (.num .i64)] .no)) .no))
theorem Iz:FOk Tryz.prog 64 AK:=fk [(20,lq),(48,qw),(106,lX)] ⟨pM,vW,mY,trivial⟩ Tryz.func64 (.two .no (.two (.two .no (.loop [.slot 3 (.num .i64)] .no)) .no))
theorem qz:FOk Tryz.prog 197 mX:=fk [] trivial Tryz.func197 (.two .no (.two .no (.two .no (.two .no (.two (.loop [.slot 0 (.num .i64),.slot 3 .str] (.two .no (.two .no (.two (.two .no (.at [.slot 5 (.num .i64)] .no)) .no)))) .no)))))
theorem ra:FOk Tryz.prog 295 mz:=fk [(331,rQ)] ⟨yo,trivial⟩ Tryz.func295 .no
theorem tX:FOk Tryz.prog 256 oV:=fk [(106,lX),(197,mX),(295,mz)] ⟨mY,qz,ra,trivial⟩ Tryz.func256 .no
theorem sp:FOk Tryz.prog 196 nJ:=fk [(256,oV)] ⟨tX,trivial⟩ Tryz.func196 (.two .no (.two .no (.two .no (.two (.two .no (.loop [.slot 3 .str,.slot 4 (.num .i64)] (.two .no (.two (.atX [.slot 3 .str] (.two .no (.two .no (.two (.two .no (.at [.slot 3 .str] .no)) .no)))) .no)))) .no))))
theorem GJ:FOk Tryz.prog 198 yj:=fk [] trivial Tryz.func198 (.two .no (.two .no (.two (.two .no (.loop [.slot 3 (.num .i64),.slot 4 (.num .i64)] .no)) .no)))
theorem yQ:FOk Tryz.prog 124 qT:=fk [(106,lX),(196,nJ),(197,mX),(198,yj)] ⟨mY,sp,qz,GJ,trivial⟩ Tryz.func124 .no
theorem A3:FOk Tryz.prog 193 vJ:=fk [] trivial Tryz.func193 (.two .no (.two .no (.two .no (.two (.two .no (.loop [.slot 5 (.own 9 y9),.slot 6 (.num .i64),.slot 7 (.num .i64)] (.two .no (.two (.at [.slot 5 (.own 9 y9),.slot 6 (.num .i64)] .no) .no)))) .no))))
theorem yt:FOk Tryz.prog 194 rV:=fk [(197,mX)] ⟨qz,trivial⟩ Tryz.func194 (.two .no (.two .no (.two .no (.two (.two .no (.loop [.slot 4 (.num .i64),.slot 5 (.num .i64),.slot 6 (.num .i64)] (.two .no (.two (.at [.slot 4 (.num .i64),.slot 5 (.num .i64)] .no) .no)))) (.two (.two .no (.at [.slot 4 (.num .i64)] .no)) .no)))))
end R
namespace R
open Go.RowKit
open D
theorem A4:FOk Tryz.prog 294 rW:=fk [(295,mz)] ⟨ra,trivial⟩ Tryz.func294 (.two .no (.two (.two .no (.loop [.slot 4 (.num .i64)] .no)) .no))
theorem D7:FOk Tryz.prog 255 vK:=fk [(193,vJ),(194,rV),(256,oV),(294,rW)] ⟨A3,yt,tX,A4,trivial⟩ Tryz.func255 .no
theorem BT:FOk Tryz.prog 195 tL:=fk [(193,vJ),(196,nJ),(255,vK)] ⟨A3,sp,D7,trivial⟩ Tryz.func195 (.two .no (.two .no (.two .no (.two .no (.two (.two .no (.loop [.slot 6 (.num .i64),.box 4 [(.own 214 (.prod y4 Hj))]] .no)) .no)))))
theorem yR:FOk Tryz.prog 123 qU:=fk [(124,qT),(193,vJ),(194,rV),(195,tL)] ⟨yQ,A3,yt,BT,trivial⟩ Tryz.func123 .no
theorem IA:FOk Tryz.prog 57 AL:=J9 (ps:=[.rd y9]) (A:=y83) (E:=96) (t:=y96) (B:=y3) (m:=m_s_ScanLog) (fk [(123,qU)] ⟨yR,trivial⟩ Tryz.func57 (.two .no (.two .no (.two .no (.two .no (.two (.two .no (.loop [.slot 5 (.own 3 y3),.slot 6 (.own 96 y96),.slot 7 (.num .i64),.slot 8 (.num .i64)] (.two .no (.two (.atX [.slot 5 (.own 3 y3),.slot 6 (.own 96 y96),.slot 7 (.num .i64)] .no) .no)))) .no))))))
theorem Lw:FOk Tryz.prog 65 CO:=fk [(20,lq),(57,AL)] ⟨pM,IA,trivial⟩ Tryz.func65 .no
theorem xm:FOk Tryz.prog 16 pD:=fk [(62,kO),(63,jP),(64,AK),(65,CO)] ⟨oL,nU,Iz,Lw,trivial⟩ Tryz.func16 .no
theorem Lx:FOk Tryz.prog 134 CP:=fk [] trivial Tryz.func134 .no
theorem Ly:FOk Tryz.prog 66 CQ:=fk [(134,CP)] ⟨Lx,trivial⟩ Tryz.func66 (.two .no (.two .no (.two (.two .no (.loop [.slot 4 (.num .i64),.box 3 [(.num .i64),(.own 86 y86)]] .no)) .no)))
theorem IB:FOk Tryz.prog 191 AM:=fk [] trivial Tryz.func191 (.two .no (.two .no (.two (.two .no (.loop [.slot 4 (.num .i64),.box 3 [(.num .i64),(.own 4 y4),(.own 83 y83)]] .no)) .no)))
theorem A5:FOk Tryz.prog 122 uG:=fk [(191,AM),(192,ta)] ⟨IB,xl,trivial⟩ Tryz.func122 (.two .no (.two .no (.two (.two .no (.loop [.slot 4 (.num .i64),.box 3 [(.own 158 mf),(.own 144 wG)]] .no)) (.two (.two .no (.loop [.slot 5 (.num .i64),.box 3 [(.own 158 mf),(.own 144 wG)]] .no)) .no))))
theorem IC:FOk Tryz.prog 56 AN:=fk [(66,CQ),(122,uG)] ⟨Ly,A5,trivial⟩ Tryz.func56 .no
theorem xn:FOk Tryz.prog 90 pE:=fk [(48,qw),(63,jP),(122,uG),(132,rU)] ⟨vW,nU,A5,yr,trivial⟩ Tryz.func90 (.two .no (.two .no (.two .no (.two (.loop [.slot 8 (.num .i64)] .no) .no)))) (an:=[(40,(.fro wG)),(49,(.fro wG))])
theorem vX:FOk Tryz.prog 31 oC:=fk [(16,pD),(56,AN),(90,pE)] ⟨xm,IC,xn,trivial⟩ Tryz.func31 .no
theorem j6:FOk Tryz.prog 71 iR:=fk [] trivial Tryz.func71 .no
theorem CZ:FOk Tryz.prog 208 xd:=fk [(71,iR)] ⟨j6,trivial⟩ Tryz.func208 .no
theorem yS:FOk Tryz.prog 136 qV:=fk [(71,iR),(208,xd)] ⟨j6,CZ,trivial⟩ Tryz.func136 (.two .no (.two .no (.two (.two .no (.loop [.slot 14 (.num .i64)] .no)) (.two (.two .no (.loop [.slot 25 (.num .i64)] .no)) .no))))
end R
namespace R
open Go.RowKit
open D
theorem eE:FOk Tryz.prog 137 cU:=fk [] trivial Tryz.func137 (.two .no (.two .no (.two (.two .no (.loop [.slot 13 (.num .i64)] .no)) .no)))
theorem oM:FOk Tryz.prog 69 kP:=fk [(71,iR),(136,qV),(137,cU)] ⟨j6,yS,eE,trivial⟩ Tryz.func69 (.two .no (.two .no (.two .no (.two (.two .no (.loop [.slot 24 (.num .i64)] .no)) .no))))
theorem xo:FOk Tryz.prog 53 pF:=fk [(69,kP)] ⟨oM,trivial⟩ Tryz.func53 .no
theorem cL:FOk Tryz.prog 127 bH:=fk [] trivial Tryz.func127 (.two .no (.two .no (.two (.two .no (.loop [.slot 17 (.num .i64)] .no)) .no)))
theorem mZ:FOk Tryz.prog 200 gM:=fk [] trivial Tryz.func200 (.two .no (.two .no (.two (.two .no (.loop [.slot 13 (.num .i64)] .no)) .no)))
theorem eX:FOk Tryz.prog 201 cm:=fk [] trivial Tryz.func201 (.two .no (.two .no (.two (.two .no (.loop [.slot 17 (.num .i64)] .no)) .no)))
theorem uJ:FOk Tryz.prog 202 nK:=fk [(137,cU)] ⟨eE,trivial⟩ Tryz.func202 .no
theorem pN:FOk Tryz.prog 128 lr:=fk [(200,gM),(201,cm),(202,nK)] ⟨mZ,eX,uJ,trivial⟩ Tryz.func128 .no
theorem cz:FOk Tryz.prog 129 bA:=fk [] trivial Tryz.func129 (.two .no (.two .no (.two (.two .no (.loop [.slot 17 (.num .i64)] .no)) .no)))
theorem mn:FOk Tryz.prog 257 fQ:=fk [] trivial Tryz.func257 (.two .no (.two .no (.two (.two .no (.loop [.slot 13 (.num .i64)] .no)) .no)))
theorem BU:FOk Tryz.prog 203 tM:=fk [(257,fQ)] ⟨mn,trivial⟩ Tryz.func203 .no
theorem yT:FOk Tryz.prog 130 qW:=fk [(203,tM)] ⟨BU,trivial⟩ Tryz.func130 .no
theorem uK:FOk Tryz.prog 60 nL:=fk [(127,bH),(128,lr),(129,bA),(130,qW)] ⟨cL,pN,cz,yT,trivial⟩ Tryz.func60 .no
theorem yu:FOk Tryz.prog 187 rX:=fk [] trivial Tryz.func187 .no
theorem yw:FOk Tryz.prog 377 rY:=fk [(71,iR)] ⟨j6,trivial⟩ Tryz.func377 .no
theorem ID:FOk Tryz.prog 343 AO:=fk [(71,iR),(377,rY)] ⟨j6,yw,trivial⟩ Tryz.func343 (.two .no (.two (.two .no (.two .no (.two .no (.two .no (.two .no (.join [.slot 37 .boo] .no .no)))))) .no))
theorem mC:FOk Tryz.prog 344 bJ:=Gp (f:=bJ) (ko (f:=⟨bJ.ps,bJ.rs,bJ.m,none⟩) (enters_of Tryz.func344 (by kernel_rfl) rfl) rfl (fun d=>rfl)) (J4 (V:=⟨tt,[],[(5,.raw)],8,[]⟩) Lp trivial mixed Tryz.func344 rfl rfl (enters_of Tryz.func344 (by kernel_rfl) rfl) (bm rfl) .no (fun E bn xs=>by cases bn <;> kernel_rfl))
end R
namespace R
open Go.RowKit
open D
theorem xp:FOk Tryz.prog 306 tc:=fk [(343,AO),(344,bJ)] ⟨ID,mC,trivial⟩ Tryz.func306 (.two .no (.two .no (.two (.two .no (.loop [.slot 3 (.own 313 Y9),.slot 13 (.num .i64)] (.two .no (.two .no (.two (.two .no (.two .no (.two (.two .no (.at [.slot 6 (.num .i64)] (.two (.two .no (.at [.slot 19 .boo] .no)) (.two .no (.two (.two .no (.at [.slot 22 .boo] .no)) .no))))) .no))) .no))))) .no))) (tr:=[(343,313,xW)])
theorem Lz:FOk Tryz.prog 374 CR:=fk [(306,tc)] ⟨xp,trivial⟩ Tryz.func374 .no (tr:=[(343,313,xW)])
theorem A6:FOk Tryz.prog 338 rZ:=fk [(374,CR)] ⟨Lz,trivial⟩ Tryz.func338 .no
theorem tY: ∀n,FOk Tryz.prog 339 (lY n)
 | 0=>ko (f:=lY 0) (enters_of Tryz.func339 (by kernel_rfl) rfl) rfl (fun d=>rfl)
 | n+1=>by
  have ih:=tY n
  exact fk [(339,(lY n))] ⟨ih,trivial⟩ Tryz.func339 (.two .no (.two .no (.two (.two .no (.loop [.slot 3 (.num .i64),.slot 11 (.num .i64)] (.two .no (.two .no (.two (.at [.slot 3 (.num .i64)] .no) .no))))) .no))) (tr:=[(343,313,xW)])
theorem RO:FOk Tryz.prog 398 Ke:=fk [] trivial Tryz.func398 .no (tr:=[(343,313,xW)])
theorem yx: ∀n,FOk Tryz.prog 375 (oD n)
 | 0=>ko (f:=oD 0) (enters_of Tryz.func375 (by kernel_rfl) rfl) rfl (fun d=>rfl)
 | n+1=>by
  have ih:=yx n
  exact fk [(375,(oD n)),(398,Ke)] ⟨ih,RO,trivial⟩ Tryz.func375 .no (tr:=[(343,313,xW)])
theorem sq: ∀n,FOk Tryz.prog 340 (kQ n)
 | 0=>ko (f:=kQ 0) (enters_of Tryz.func340 (by kernel_rfl) rfl) rfl (fun d=>rfl)
 | n+1=>by
  have ih:=sq n
  exact fk [(340,(kQ n)),(375,(oD gp))] ⟨ih,(yx gp),trivial⟩ Tryz.func340 (.two .no (.two .no (.two .no (.two (.two .no (.loop [.slot 41 (.num .i64),.box 3 [(.num .i64),(.num .i64),(.num .i64),(.num .i64),(.own 313 (.tree 343 313 xW))]] .no)) .no)))) (an:=[(52,t313)]) (tr:=[(343,313,xW)])
theorem rb: ∀n,FOk Tryz.prog 376 (jH n)
 | 0=>ko (f:=jH 0) (enters_of Tryz.func376 (by kernel_rfl) rfl) rfl (fun d=>rfl)
 | n+1=>by
  have ih:=rb n
  exact fk [(376,(jH n))] ⟨ih,trivial⟩ Tryz.func376 (.two (.two .no (.loop [.slot 11 (.num .i64),.box 1 [(.own 188 xW)]] .no)) .no) (tr:=[(343,313,xW)])
theorem D8:FOk Tryz.prog 341 vL:=fk [(376,(jH gp))] ⟨(rb gp),trivial⟩ Tryz.func341 .no (tr:=[(343,313,xW)])
theorem BV:FOk Tryz.prog 304 tN:=fk [(306,tc),(338,rZ),(339,(lY gp)),(340,(kQ gp)),(341,vL)] ⟨xp,A6,(tY gp),(sq gp),D8,trivial⟩ Tryz.func304 .no (tr:=[(343,313,xW)])
theorem tv:FOk Tryz.prog 342 mG:=fk [] trivial Tryz.func342 (.two .no (.loop [.slot 12 (.num .i64),.par 4 [3] 3 y3] (.two .no (.two .no (.two (.at [.par 4 [3] 3 y3] .no) .no)))))
theorem nV: ∀n,FOk Tryz.prog 305 (gl n)
 | 0=>ko (f:=gl 0) (enters_of Tryz.func305 (by kernel_rfl) rfl) rfl (fun d=>rfl)
 | n+1=>by
  have ih:=nV n
  exact fk [(305,(gl n)),(342,mG)] ⟨ih,tv,trivial⟩ Tryz.func305 (.two .no (.two (.two .no (.two .no (.two .no (.two .no (.two .no (.two .no (.two .no (.two .no (.two (.two .no (.two .no (.two .no (.two (.two .no (.at [.box 10 [(.num .i64),(.num .i64),.boo]] .no)) (.two (.two .no (.at [.box 10 [(.num .i64),(.num .i64),.boo]] .no)) .no))))) .no))))))))) .no)) (tr:=[(343,313,xW)])
theorem vY:FOk Tryz.prog 261 oE:=fk [(304,tN),(305,(gl gp)),(306,tc)] ⟨BV,(nV gp),xp,trivial⟩ Tryz.func261 (.two .no (.two .no (.two .no (.two .no (.two (.two .no (.loop [.slot 6 (.num .i64),.slot 22 (.num .i64)] (.two .no (.two .no (.two (.at [.slot 6 (.num .i64)] .no) .no))))) .no))))) (tr:=[(343,313,xW)])
theorem re:FOk Tryz.prog 307 mA:=fk [] trivial Tryz.func307 (.two .no (.two .no (.two .no (.two .no (.two (.two .no (.loop [.slot 10 (.own 3 y3),.slot 11 (.map ⟨3,3,.int,.int⟩),.slot 13 (.num .i64),.box 12 [(.num .i64),(.own 4 y4),(.own 83 y83)]] (.two .no (.two (.two .no (.two (.two .no (.loop [.slot 10 (.own 3 y3),.slot 11 (.map ⟨3,3,.int,.int⟩),.slot 14 (.own 3 y3),.slot 15 (.num .i64)] (.two .no (.join [.slot 10 (.own 3 y3),.slot 11 (.map ⟨3,3,.int,.int⟩),.slot 14 (.own 3 y3)] (.two .no (.two .no (.two .no (.join [.slot 10 (.own 3 y3),.slot 11 (.map ⟨3,3,.int,.int⟩),.slot 18 (.num .i64)] .no .no)))) .no)))) .no)) .no)))) .no)))))
theorem su:FOk Tryz.prog 308 mg:=fk [] trivial Tryz.func308 .no
theorem uL:FOk Tryz.prog 310 nM:=fk [] trivial Tryz.func310 (.two .no (.two .no (.join [.slot 7 (.num .i64)] .no (.two (.two .no (.loop [.slot 7 (.num .i64),.slot 21 (.num .i64)] (.two .no (.two .no (.join [.slot 7 (.num .i64)] .no .no))))) (.two .no (.two (.two .no (.loop [.slot 10 (.num .i64),.slot 39 (.num .i64)] (.two .no (.two .no (.join [.slot 10 (.num .i64)] .no .no))))) .no))))))
theorem xq:FOk Tryz.prog 309 pG:=fk [(310,nM)] ⟨uL,trivial⟩ Tryz.func309 .no
end R
namespace R
open Go.RowKit
open D
theorem A7:FOk Tryz.prog 262 sa:=fk [(307,mA),(308,mg),(309,pG)] ⟨re,su,xq,trivial⟩ Tryz.func262 .no
theorem na:FOk Tryz.prog 399 bN:=Gp (f:=bN) (ko (f:=⟨bN.ps,bN.rs,bN.m,none⟩) (enters_of Tryz.func399 (by kernel_rfl) rfl) rfl (fun d=>rfl)) (J4 (V:=⟨tt,[],[(5,.raw)],8,[]⟩) Lp trivial mixed Tryz.func399 rfl rfl (enters_of Tryz.func399 (by kernel_rfl) rfl) (bm rfl) .no (fun E bn xs=>by cases bn <;> kernel_rfl))
theorem vZ:FOk Tryz.prog 378 oF:=fk [(399,bN)] ⟨na,trivial⟩ Tryz.func378 (.two .no (.two .no (.two (.two .no (.loop [.slot 4 .boo,.row 3 4 y4] (.two .no (.two .no (.two .no (.loop [.slot 4 .boo,.slot 16 (.num .i64),.row 3 4 y4] (.two .no (.two .no (.two (.two .no (.two .no (.loop [.slot 4 .boo,.slot 23 (.num .i64),.row 3 4 y4] (.two .no (.two .no (.two (.at [.slot 4 .boo,.row 3 4 y4] .no) .no)))))) .no))))))))) .no)))
theorem kd:FOk Tryz.prog 400 eB:=fk [] trivial Tryz.func400 (.two .no (.two (.two .no (.loop [.slot 8 (.num .i64)] .no)) .no))
theorem rm:FOk Tryz.prog 401 kW:=fk [(137,cU)] ⟨eE,trivial⟩ Tryz.func401 .no
theorem tw:FOk Tryz.prog 379 mH:=fk [(400,eB),(401,kW)] ⟨kd,rm,trivial⟩ Tryz.func379 (.two .no (.two .no (.two .no (.two (.two .no (.loop [.slot 6 (.own 83 y83),.slot 7 (.own 3 y3),.slot 18 (.num .i64)] (.two .no (.two .no (.join [.slot 6 (.own 83 y83),.slot 7 (.own 3 y3)] (.two .no (.two .no (.two .no (.two (.two .no (.loop [.slot 36 (.num .i64),.box 10 [(.own 3 y3)]] (.two .no (.two .no (.two (.two .no (.join [.slot 12 (.num .i64)] .no .no)) .no))))) (.two .no (.join [.slot 6 (.own 83 y83),.slot 13 (.num .i64),.gone 10] .no .no)))))) .no))))) .no))))
theorem sw:FOk Tryz.prog 345 mi:=fk [(378,oF),(379,mH)] ⟨vZ,tw,trivial⟩ Tryz.func345 (.two .no (.two .no (.two (.two .no (.loop [.slot 3 (.own 3 y3),.slot 13 (.num .i64)] (.two .no (.two .no (.join [.slot 3 (.own 3 y3)] .no .no))))) (.two .no (.loop [.slot 3 (.own 3 y3),.slot 6 (.num .i64)] .no)))))
theorem uM:FOk Tryz.prog 413 nN:=fk [] trivial Tryz.func413 .no
theorem uN:FOk Tryz.prog 414 nO:=fk [] trivial Tryz.func414 .no
theorem xr:FOk Tryz.prog 402 pH:=fk [(413,nN),(414,nO)] ⟨uM,uN,trivial⟩ Tryz.func402 .no
theorem nW:FOk Tryz.prog 380 ir:=fk [(402,pH)] ⟨xr,trivial⟩ Tryz.func380 (.two .no (.two .no (.two .no (.two .no (.two .no (.two .no (.two (.loop [.slot 8 (.num .i64),.row 7 3 (.int .i64)] .no) .no))))))) (an:=[(44,.bool)])
theorem IE:FOk Tryz.prog 346 AP:=fk [(380,ir)] ⟨nW,trivial⟩ Tryz.func346 .no
theorem oe:FOk Tryz.prog 348 iW:=fk [] trivial Tryz.func348 (.two .no (.two (.two .no (.loop [.slot 8 (.num .i64)] .no)) .no))
theorem pO:FOk Tryz.prog 347 jZ:=fk [(348,iW)] ⟨oe,trivial⟩ Tryz.func347 .no
theorem pP:FOk Tryz.prog 349 j4:=fk [] trivial Tryz.func349 .no
theorem v7:FOk Tryz.prog 351 oG:=fk [(377,rY)] ⟨yw,trivial⟩ Tryz.func351 .no
theorem pQ:FOk Tryz.prog 350 j5:=fk [(351,oG)] ⟨v7,trivial⟩ Tryz.func350 .no
end R
namespace R
open Go.RowKit
open D
theorem rp:FOk Tryz.prog 311 kX:=fk [(307,mA),(345,mi),(346,AP),(347,jZ),(349,j4),(350,j5)] ⟨re,sw,IE,pO,pP,pQ,trivial⟩ Tryz.func311 .no
theorem Ou:FOk Tryz.prog 263 Gw:=fk [(311,kX)] ⟨rp,trivial⟩ Tryz.func263 .no
theorem A8:FOk Tryz.prog 209 sb:=fk [(261,oE),(262,sa),(263,Gw)] ⟨vY,A7,Ou,trivial⟩ Tryz.func209 .no
theorem gz:FOk Tryz.prog 210 cT:=fk [] trivial Tryz.func210 (.two .no (.two (.two .no (.loop [.slot 8 (.num .i64)] .no)) .no))
theorem GK:FOk Tryz.prog 211 yk:=fk [(128,lr)] ⟨pN,trivial⟩ Tryz.func211 .no
theorem C1:FOk Tryz.prog 138 xe:=fk [(71,iR),(187,rX),(209,sb),(210,cT),(211,yk)] ⟨j6,yu,A8,gz,GK,trivial⟩ Tryz.func138 (.two .no (.two .no (.two (.two .no (.loop [.slot 13 (.num .i64),.box 4 [(.own 158 mf),(.own 144 wG)]] (.two .no (.two .no (.two (.two .no (.two .no (.two .no (.two .no (.join [.slot 9 (.num .i64),.box 4 [(.own 158 mf),(.own 144 wG)],.gone 7] .no .no))))) .no))))) .no)))
theorem nX:FOk Tryz.prog 70 jQ:=fk [(60,nL),(138,xe)] ⟨uK,C1,trivial⟩ Tryz.func70 .no
theorem fL:FOk Tryz.prog 139 cK:=fk [] trivial Tryz.func139 (.two .no (.two (.two .no (.loop [.slot 8 (.num .i64)] .no)) .no))
theorem A9:FOk Tryz.prog 140 sd:=fk [] trivial Tryz.func140 .no
theorem v8:FOk Tryz.prog 72 qx:=fk [(139,cK),(140,sd)] ⟨fL,A9,trivial⟩ Tryz.func72 .no
theorem sy:FOk Tryz.prog 141 mj:=DY D0 (enters_of Tryz.func141 (by kernel_rfl) rfl)
theorem yU:FOk Tryz.prog 254 qX:=RL Ka (enters_of Tryz.func254 (by kernel_rfl) rfl)
theorem wc:FOk Tryz.prog 189 qy:=fk [(254,qX)] ⟨yU,trivial⟩ Tryz.func189 .no
theorem tZ:FOk Tryz.prog 252 oW:=fk [(189,qy),(208,xd)] ⟨wc,CZ,trivial⟩ Tryz.func252 .no
theorem yV:FOk Tryz.prog 253 qY:=RM RN Ot 9 (enters_of Tryz.func253 (by kernel_rfl) rfl)
theorem sA:FOk Tryz.prog 188 nP:=fk [(252,oW),(253,qY)] ⟨tZ,yV,trivial⟩ Tryz.func188 (.two .no (.two .no (.two .no (.two (.two .no (.loop [.slot 3 (.own 9 y9),.slot 15 (.num .i64)] (.two .no (.two .no (.two (.atX [.slot 3 (.own 9 y9)] .no) .no))))) .no))))
theorem GL:FOk Tryz.prog 190 ym:=fk [] trivial Tryz.func190 (.two .no (.two .no (.two (.two .no (.loop [.slot 3 (.num .i64),.slot 4 (.num .i64)] .no)) .no)))
end R
namespace R
open Go.RowKit
open D
theorem yW:FOk Tryz.prog 121 qZ:=fk [(71,iR),(188,nP),(189,qy),(190,ym)] ⟨j6,sA,wc,GL,trivial⟩ Tryz.func121 .no
theorem pR:FOk Tryz.prog 213 lu:=On Oq (by kernel_rfl) (by kernel_rfl) (enters_of Tryz.func213 (by kernel_rfl) rfl)
theorem Ba (n a b:Int) (w:World):Calls Tryz.prog 71 #[.int .i64 n,.int .i64 a,.int .i64 b] w fun e w'=>e= .returned (.bool (decide (a<=n/\n<=b)))/\w'=w:=by
 by_cases h:a<=n
 ·go_enter Tryz.func71,Tryz.ntmps71
  go_wp2
  go_ret
  simp[h]
 ·go_enter Tryz.func71,Tryz.ntmps71
  go_wp2
  go_ret
  simp
  try (intro k;omega)
theorem IF (s:ByteArray) (r:Int×Bool) (w:World) (hr:rI s=some r) (hL:LayW Tryz.prog w):Calls Tryz.prog 214 #[.string s] w fun e w'=>e= .returned (.tuple #[.int .i64 r.1,.bool r.2])/\Below w.heap.size w w':=by
 unfold rI at hr
 by_cases h10:10<s.size
 ·rw[if_pos h10] at hr
  obtain rfl:=ae hr
  go_enter Tryz.func214,Tryz.ntmps214
  go_wp2
  go_ret2
  exact ⟨rfl,Below.refl _ _⟩
 ·rw[if_neg h10] at hr
  have h18:s.size<=18:=by omega
  cases ha:Lib.atoi s.data.toList with
  | none =>
   rw[ha] at hr
   obtain rfl:=ae hr
   obtain ⟨tp,p,hv⟩:=hL.syn
   have hcon:=Any.strconv_Atoi_err_var Kb s h18 ha tp p w hv
   go_enter Tryz.func214,Tryz.ntmps214
   go_wp2_with (go_at_call 266;refine hcon.mono ?_;rintro e w' ⟨N,rfl,hN,hh,hb⟩)
   go_ret2
   exact ⟨rfl,hb⟩
  | some n =>
   rw[ha] at hr
   have hB:=Lib.atoi_bound ha (by simpa using h18)
   have hA:=Any.strconv_Atoi { Kb with } s n h18 ha w
   have hI:=fun t=>Any.strconv_Itoa Ka n (by omega) (by omega) (Lib.bytesWorld w 5 t) (Lib.bytesWorld_var w 5 t hL.tab)
   have hz: ∀t k os,Below w.heap.size w (Go.Sort.grow ((Lib.bytesWorld w 5 t).drewN k) os):=fun t k os=>by
    have h1:=Lib.bytesWorld_below w 5 t
    exact ⟨h1.os,h1.tape,h1.output,by have:=h1.size;simp only[Go.Sort.grow,Array.size_append];exact Nat.le_trans this (Nat.le_add_right _ _),fun b hb=>(Go.Sort.heap_grow_old ((Lib.bytesWorld w 5 t).drewN k) os (aK hb h1.size:b<((Lib.bytesWorld w 5 t).drewN k).heap.size)).trans (h1.block b hb)⟩
   replace hr:(if (⟨(Lib.itoa n).toArray⟩:ByteArray)=s/\ -999999999<=n/\n<=999999999 then some (n,true) else some (0,false))=some r:=hr
   generalize (⟨(Lib.itoa n).toArray⟩:ByteArray)=q at hr hI
   by_cases e1:q=s
   ·subst e1
    by_cases e2: -999999999<=n/\n<=999999999
    ·rw[if_pos ⟨rfl,e2.1,e2.2⟩] at hr
     obtain rfl:=ae hr
     go_enter Tryz.func214,Tryz.ntmps214
     go_wp2_with (first | (go_at_call 266;refine hA.mono ?_;rintro e w' ⟨rfl,t,rfl⟩) | (go_at_call 254;refine (hI _).mono ?_;rintro e w' ⟨rfl,k,os,rfl⟩) | (go_at_call 71;refine (Ba _ _ _ _).mono ?_;rintro e w' ⟨rfl,rfl⟩))
     go_ret2
     exact ⟨rfl,hz _ _ _⟩
    ·rw[if_neg fun k=>e2 k.2] at hr
     obtain rfl:=ae hr
     go_enter Tryz.func214,Tryz.ntmps214
     go_wp2_with (first | (go_at_call 266;refine hA.mono ?_;rintro e w' ⟨rfl,t,rfl⟩) | (go_at_call 254;refine (hI _).mono ?_;rintro e w' ⟨rfl,k,os,rfl⟩) | (go_at_call 71;refine (Ba _ _ _ _).mono ?_;rintro e w' ⟨rfl,rfl⟩))
     go_ret2
     exact ⟨rfl,hz _ _ _⟩
   ·rw[if_neg fun k=>e1 k.1] at hr
    obtain rfl:=ae hr
    have e2: ¬q.toList=s.toList:=fun k=>e1 (Go.WideShapes.bytes_inj (by rw[<-ByteArray.toList_eq,<-ByteArray.toList_eq];exact k))
    go_enter Tryz.func214,Tryz.ntmps214
    go_wp2_with (first | (go_at_call 266;refine hA.mono ?_;rintro e w' ⟨rfl,t,rfl⟩) | (go_at_call 254;refine (hI _).mono ?_;rintro e w' ⟨rfl,k,os,rfl⟩) | (go_at_call 71;refine (Ba _ _ _ _).mono ?_;rintro e w' ⟨rfl,rfl⟩))
    go_ret2
    exact ⟨rfl,hz _ _ _⟩
theorem yy:FOk Tryz.prog 214 se:=Oo (enters_of Tryz.func214 (by kernel_rfl) rfl) IF
theorem Bb:FOk Tryz.prog 317 sf:=VR VT (by kernel_rfl) (enters_of Tryz.func317 (by kernel_rfl) rfl)
theorem D9:FOk Tryz.prog 267 vM:=fk [(214,se),(252,oW),(317,sf)] ⟨yy,tZ,Bb,trivial⟩ Tryz.func267 .no
theorem BW:FOk Tryz.prog 215 tO:=fk [(188,nP),(213,lu),(267,vM)] ⟨sA,pR,D9,trivial⟩ Tryz.func215 (.two .no (.two .no (.two .no (.two (.two .no (.loop [.slot 16 (.num .i64),.box 4 [(.own 214 (.prod y4 Hj))]] .no)) .no))))
theorem yX:FOk Tryz.prog 142 q7:=fk [(121,qZ),(213,lu),(214,se),(215,tO)] ⟨yW,pR,yy,BW,trivial⟩ Tryz.func142 .no
theorem IG:FOk Tryz.prog 73 AQ:=J9 (ps:=[.rd y9]) (A:=y83) (E:=96) (t:=y96) (B:=y3) (m:=m_i_ScanLog) (fk [(141,mj),(142,q7)] ⟨sy,yX,trivial⟩ Tryz.func73 (.two .no (.two .no (.two .no (.two .no (.two (.loop [.slot 5 (.own 3 y3),.slot 6 (.own 96 y96),.slot 7 (.num .i64)] .no) .no))))))
theorem xt:FOk Tryz.prog 19 pI:=fk [(53,pF),(69,kP),(70,jQ),(71,iR),(72,qx),(73,AQ)] ⟨xo,oM,nX,j6,v8,IG,trivial⟩ Tryz.func19 (.two .no (.two .no (.two .no (.two (.two .no (.loop [.slot 37 (.num .i64)] .no)) .no))))
theorem yz:FOk Tryz.prog 220 sg:=fk [] trivial Tryz.func220 .no
theorem Ea:FOk Tryz.prog 145 vN:=fk [(220,sg)] ⟨yz,trivial⟩ Tryz.func145 .no
theorem Bc:FOk Tryz.prog 76 si:=fk [(145,vN)] ⟨Ea,trivial⟩ Tryz.func76 (.two .no (.two .no (.two (.two .no (.loop [.slot 12 (.num .i64),.box 3 [(.num .i64),(.own 86 y86)]] .no)) .no)))
theorem xu:FOk Tryz.prog 186 pJ:=fk [(220,sg)] ⟨yz,trivial⟩ Tryz.func186 (.two .no (.two .no (.two (.two .no (.loop [.slot 16 (.num .i64),.box 3 [(.num .i64),(.own 4 y4),(.own 83 y83)]] .no)) .no)))
theorem rf:FOk Tryz.prog 120 mB:=fk [(186,pJ),(187,rX)] ⟨xu,yu,trivial⟩ Tryz.func120 (.two .no (.two .no (.two (.two .no (.loop [.slot 12 (.num .i64),.box 3 [(.own 158 mf),(.own 144 wG)]] .no)) (.two (.two .no (.loop [.slot 27 (.num .i64),.box 3 [(.own 158 mf),(.own 144 wG)]] .no)) .no))))
theorem BX:FOk Tryz.prog 50 tP:=fk [(76,si),(120,mB)] ⟨Bc,rf,trivial⟩ Tryz.func50 .no
theorem gF:FOk Tryz.prog 161 cY:=VP (n:=2) (z:=(⟨.int .i64 0,rfl⟩,⟨.slice none 0 0,rfl⟩,⟨.int .i64 0,rfl⟩)) rfl rfl (fok (V:=⟨tt,[(232,⟨[],[],none,some (144,0)⟩)],[(12,.raw),(34,.raw),(43,.raw),(50,.raw),(53,.raw),(60,.str),(66,.raw),(73,.raw),(76,.raw),(80,.raw),(86,.raw),(91,.raw)],95,[]⟩) Lp ⟨XB (YR (fn:=Tryz.f232) (tS:=28) (tR:=4) (E:=144) Tryz.func232 (by kernel_rfl) (by kernel_rfl) (by kernel_rfl) (by kernel_rfl) Tryz.underlying28 (TTok.get Lp rfl).ti),trivial⟩ mixed Tryz.func161 rfl rfl (enters_of Tryz.func161 (by kernel_rfl) rfl) rfl (bm rfl) rfl .no (fun d=>by kernel_rfl))
theorem gO:FOk Tryz.prog 162 da:=RI (n:=2) rfl (Ol (t:=fT 2) (V:=⟨tt,[],[(5,(.prod .raw (.prod .raw .raw)))],8,[]⟩) Lp trivial mixed Tryz.func162 rfl rfl (enters_of Tryz.func162 (by kernel_rfl) rfl) (bm rfl) .no rfl (fun bn xs=>by cases bn <;> kernel_rfl))
end R
namespace R
open Go.RowKit
open D
theorem xw:FOk Tryz.prog 92 pK:=fk [(70,jQ),(72,qx),(120,mB),(138,xe),(161,cY),(162,da)] ⟨nX,v8,rf,C1,gF,gO,trivial⟩ Tryz.func92 (.two .no (.two .no (.two .no (.two (.loop [.slot 8 (.num .i64)] .no) .no)))) (an:=[(47,.fro wG)])
theorem we:FOk Tryz.prog 33 oH:=fk [(19,pI),(50,tP),(92,pK)] ⟨xt,BX,xw,trivial⟩ Tryz.func33 .no
theorem yA:FOk Tryz.prog 148 sj:=fk [] trivial Tryz.func148 (.two .no (.two (.two .no (.loop [.par 0 [] 3 y3,.slot 1 (.num .i64),.slot 5 (.num .i64)] .no)) .no))
theorem Eb:FOk Tryz.prog 149 vO:=fk [] trivial Tryz.func149 (.two .no (.two (.two .no (.loop [.par 0 [] 142 Hj,.slot 1 (.num .i64),.slot 5 (.num .i64)] .no)) .no))
theorem BY:FOk Tryz.prog 81 tQ:=fk [(148,sj),(149,vO)] ⟨yA,Eb,trivial⟩ Tryz.func81 (.two .no (.two (.two .no (.loop [.par 0 [] 86 y86,.slot 1 (.num .i64),.slot 5 (.num .i64)] .no)) .no))
theorem Bd:FOk Tryz.prog 25 sk:=fk [(81,tQ)] ⟨BY,trivial⟩ Tryz.func25 .no
theorem Ec:FOk Tryz.prog 234 vP:=fk [] trivial Tryz.func234 (.two .no (.two (.two .no (.loop [.par 0 [] 4 y4,.slot 1 (.num .i64),.slot 5 (.num .i64)] .no)) .no))
theorem Ed:FOk Tryz.prog 235 vQ:=fk [(148,sj)] ⟨yA,trivial⟩ Tryz.func235 (.two .no (.two (.two .no (.loop [.par 0 [] 83 y83,.slot 1 (.num .i64),.slot 5 (.num .i64)] .no)) .no))
theorem wg:FOk Tryz.prog 164 oJ:=fk [(234,vP),(235,vQ)] ⟨Ec,Ed,trivial⟩ Tryz.func164 (.two .no (.two (.two .no (.loop [.par 0 [] 158 mf,.slot 1 (.num .i64),.slot 5 (.num .i64)] .no)) .no))
theorem ua:FOk Tryz.prog 96 oX:=fk [] trivial Tryz.func96 (.two .no (.two (.two .no (.loop [.par 0 [] 188 xW,.slot 1 (.num .i64),.slot 5 (.num .i64)] .no)) .no))
theorem uO:FOk Tryz.prog 165 nQ:=fk [(96,oX)] ⟨ua,trivial⟩ Tryz.func165 (.two .no (.two (.two .no (.loop [.par 0 [] 144 wG,.slot 1 (.num .i64),.slot 5 (.num .i64)] .no)) .no))
theorem yY:FOk Tryz.prog 94 q8:=fk [(164,oJ),(165,nQ)] ⟨wg,uO,trivial⟩ Tryz.func94 .no
theorem uP:FOk Tryz.prog 95 nR:=fk [] trivial Tryz.func95 (.two .no (.two (.two .no (.loop [.par 0 [] 105 VU,.slot 1 (.num .i64),.slot 5 (.num .i64)] .no)) .no))
theorem BZ:FOk Tryz.prog 35 tT:=fk [(25,sk),(94,q8),(95,nR)] ⟨Bd,yY,uP,trivial⟩ Tryz.func35 .no
theorem GM:FOk Tryz.prog 36 yn:=fk [(96,oX)] ⟨ua,trivial⟩ Tryz.func36 .no
theorem yB:FOk Tryz.prog 150 sn:=fk [] trivial Tryz.func150 (.two .no (.two (.two .no (.loop [.slot 1 (.num .i64),.slot 5 (.num .i64)] .no)) .no))
theorem Ee:FOk Tryz.prog 151 vR:=fk [] trivial Tryz.func151 (.two .no (.two (.two .no (.loop [.slot 1 (.num .i64),.slot 5 (.num .i64)] .no)) .no))
end R
end Go.Proofs.YtcobhgbgllfniaaGreatDoor
