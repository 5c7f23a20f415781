/- FnExactQueryAnswers: for every input the law returns true and changes nothing that was there. Part 5 of 7. -/
import Derived.Test.YtakjhbbbjbebdaaGreatYC3
set_option linter.unusedVariables false
set_option linter.unusedSimpArgs false
set_option linter.unnecessarySimpa false
set_option linter.unusedSectionVars false
set_option maxRecDepth 1000000
namespace Go.Proofs.YtakjhbbbjbebdaaGreat
namespace R
open Go.Shelf
def wv:Go.Shelf.Ren:=⟨fun | 189=>187 | 125=>219 | 257=>218 | 128=>254 | 129=>255 | 294=>245 | 295=>246 | 296=>247 | 297=>248 | 298=>249 | 299=>250 | 216=>251 | 300=>252 | 301=>253 | 328=>279 | 329=>280 | 330=>281 | 331=>282 | 332=>283 | 215=>284 | 343=>302 | n=>n,fun | 28=>26 | 3=>3 | 46=>244 | 0=>0 | 51=>281 | 53=>283 | 4=>4 | 183=>273 | 182=>272 | 131=>278 | 5=>5 | 9=>9 | 218=>305 | 222=>309 | 228=>325 | 229=>326 | n=>n,fun | n=>n⟩
theorem DP:Go.Proofs.Lays.n189 Tryz.prog wv:= {
 mixed:=by kernel_rfl
 f125:=Tryz.func219.trans (congrArg some (by kernel_rfl))
 f128:=Tryz.func254.trans (congrArg some (by kernel_rfl))
 f129:=Tryz.func255.trans (congrArg some (by kernel_rfl))
 f189:=Tryz.func187.trans (congrArg some (by kernel_rfl))
 f215:=Tryz.func284.trans (congrArg some (by kernel_rfl))
 f216:=Tryz.func251.trans (congrArg some (by kernel_rfl))
 f257:=Tryz.func218.trans (congrArg some (by kernel_rfl))
 f294:=Tryz.func245.trans (congrArg some (by kernel_rfl))
 f295:=Tryz.func246.trans (congrArg some (by kernel_rfl))
 f296:=Tryz.func247.trans (congrArg some (by kernel_rfl))
 f297:=Tryz.func248.trans (congrArg some (by kernel_rfl))
 f298:=Tryz.func249.trans (congrArg some (by kernel_rfl))
 f299:=Tryz.func250.trans (congrArg some (by kernel_rfl))
 f300:=Tryz.func252.trans (congrArg some (by kernel_rfl))
 f301:=Tryz.func253.trans (congrArg some (by kernel_rfl))
 f328:=Tryz.func279.trans (congrArg some (by kernel_rfl))
 f329:=Tryz.func280.trans (congrArg some (by kernel_rfl))
 f330:=Tryz.func281.trans (congrArg some (by kernel_rfl))
 f331:=Tryz.func282.trans (congrArg some (by kernel_rfl))
 f332:=Tryz.func283.trans (congrArg some (by kernel_rfl))
 f343:=Tryz.func302.trans (congrArg some (by kernel_rfl))
 t0:=Tryz.underlying0
 a0:=Tryz.isAgg0
 z0:=Tryz.sizeOf0
 v0:=Tryz.zeroValue0
 t3:=Tryz.underlying3
 a3:=Tryz.isAgg3
 z3:=Tryz.sizeOf3
 v3:=Tryz.zeroValue3
 t4:=Tryz.underlying4
 a4:=Tryz.isAgg4
 z4:=Tryz.sizeOf4
 v4:=Tryz.zeroValue4
 t5:=Tryz.underlying5
 a5:=Tryz.isAgg5
 z5:=Tryz.sizeOf5
 v5:=Tryz.zeroValue5
 t9:=Tryz.underlying9
 a9:=Tryz.isAgg9
 z9:=Tryz.sizeOf9
 v9:=Tryz.zeroValue9
 t28:=Tryz.underlying26
 a28:=Tryz.isAgg26
 z28:=Tryz.sizeOf26
 v28:=Tryz.zeroValue26
 t46:=Tryz.underlying244
 a46:=Tryz.isAgg244
 z46:=Tryz.sizeOf244
 v46:=Tryz.zeroValue244
 t51:=Tryz.underlying281
 a51:=Tryz.isAgg281
 z51:=Tryz.sizeOf281
 v51:=Tryz.zeroValue281
 t53:=Tryz.underlying283
 a53:=Tryz.isAgg283
 z53:=Tryz.sizeOf283
 v53:=Tryz.zeroValue283
 t131:=Tryz.underlying278
 a131:=Tryz.isAgg278
 z131:=Tryz.sizeOf278
 v131:=Tryz.zeroValue278
 t182:=Tryz.underlying272
 a182:=Tryz.isAgg272
 z182:=Tryz.sizeOf272
 v182:=Tryz.zeroValue272
 t183:=Tryz.underlying273
 a183:=Tryz.isAgg273
 z183:=Tryz.sizeOf273
 v183:=Tryz.zeroValue273
 t218:=Tryz.underlying305
 a218:=Tryz.isAgg305
 z218:=Tryz.sizeOf305
 v218:=Tryz.zeroValue305
 t222:=Tryz.underlying309
 a222:=Tryz.isAgg309
 z222:=Tryz.sizeOf309
 v222:=Tryz.zeroValue309
 t228:=Tryz.underlying325
 a228:=Tryz.isAgg325
 z228:=Tryz.sizeOf325
 v228:=Tryz.zeroValue325
 t229:=Tryz.underlying326
 a229:=Tryz.isAgg326
 z229:=Tryz.sizeOf326
 v229:=Tryz.zeroValue326 }
end R
namespace R
open Go.RowKit
open D
def FldAll (P:Program) (T:TypeId):Nat→List (Nat×Nat)→Prop
 | _,[] =>True
 | i,q::l=>TF P T i q.1 q.2∧FldAll P T (i+1) l
theorem FldAll.get {P:Program} {T:TypeId} : ∀ {l:List (Nat×Nat)} {i:Nat},FldAll P T i l→ ∀f q,l[f]? =some q→TF P T (i+f) q.1 q.2
 | [],_,_,f,q,h=>by simp at h
 | x::l,i,⟨h1,h2⟩,f,q,h=>by
  cases f with
  | zero=>simp at h;subst h;exact h1
  | succ f =>
   have:=FldAll.get h2 f q (by simpa using h)
   rwa [show i+1+f=i+(f+1) from by omega] at this
section
variable {P:Program} {T:TypeId}
theorem wx {n b:Nat} {ty:Ty} {z:Value} {boo:Bool} {ik:Option (Option IntKind)} (h1:TI P T false 1) (h2:ty.size=1) (h3:TZ P T z 1 b) (h4:z.cells=(zeroCells ty).toArray) (h5:1≤b) (h6:boo=true→P.underlying T=some .bool) (h7: ∀k,ik=some k→P.underlying T=some (ikD k)):TDok P T ⟨false,1,none,ty,[],some b,none,boo,none,none,ik,false,none⟩:=
 ⟨h1,rfl,h2,fun E h=>by simp at h,fun f q h=>by simp at h,fun b' h=>by obtain rfl:=Option.some.inj h;exact ⟨z,h3,h4,h5⟩,fun pl h=>by simp at h,h6,(fun ks h=>by cases h),(fun m h=>by cases h),h7,(fun h=>by cases h),fun e h=>by cases h⟩
theorem oU {E:TypeId} {t:Ty} (h1:TI P T false 1) (h2:P.underlying T=some (.slice E)) (h3:TZ P T (.slice none 0 0) 1 24):TDok P T ⟨false,1,some E,.sl E t,[],some 24,none,false,none,none,none,false,none⟩:=
 ⟨h1,rfl,rfl,fun E' h=>by obtain rfl:=Option.some.inj h;exact h2,fun f q h=>by simp at h,fun b' h=>by obtain rfl:=Option.some.inj h;exact ⟨_,h3,rfl,by decide⟩,fun pl h=>by simp at h,(fun h=>by cases h),(fun ks h=>by cases h),(fun m h=>by cases h),(fun k h=>by cases h),(fun h=>by cases h),fun e h=>by cases h⟩
theorem lW {n b:Nat} {ty:Ty} {fs pl:List (Nat×Nat)} {z:Value} {eq:Option (List (Option IntKind))} (h1:TI P T true n) (h2:ty.size=n) (h3:FldAll P T 0 fs) (h4:TZ P T z n b) (h5:z.cells=(zeroCells ty).toArray) (h6:1≤b) (h7:TB P T pl) (h8: ∀ks,eq=some ks→ ∀w,Curq ks fun xs ys r=>EqT P T (.agg xs.toArray) (.agg ys.toArray) r w):TDok P T ⟨true,n,none,ty,fs,some b,some pl,false,eq,none,none,false,none⟩:=
 ⟨h1,rfl,h2,fun E h=>by simp at h,fun f q h=>by have:=h3.get f q h;rwa [Nat.zero_add] at this,fun b' h=>by obtain rfl:=Option.some.inj h;exact ⟨z,h4,h5,h6⟩,fun pl' h=>by obtain rfl:=Option.some.inj h;exact h7,(fun h=>by cases h),h8,(fun m h=>by cases h),(fun k h=>by cases h),(fun h=>by cases h),fun e h=>by cases h⟩
theorem Ag {ty:Ty} {b:Nat} (h1:TI P T false 1) (h2:ty.size=1) (h3:TZ P T .nilFunc 1 b):TDok P T ⟨false,1,none,ty,[],none,none,false,none,none,none,true,none⟩:=
 ⟨h1,rfl,h2,fun E h=>by simp at h,fun f q h=>by simp at h,(fun b' h=>by cases h),(fun pl h=>by cases h),(fun h=>by cases h),(fun ks h=>by cases h),(fun m' h=>by cases h),(fun k h=>by cases h),(fun _=>⟨b,h3⟩),fun e h=>by cases h⟩
theorem Tx {m:MD} {ty:Ty} (h1:TI P T false 1) (h2:ty.size=1) (h3:MDok P T m):TDok P T ⟨false,1,none,ty,[],none,none,false,none,some m,none,false,none⟩:=
 ⟨h1,rfl,h2,fun E h=>by simp at h,fun f q h=>by simp at h,(fun b' h=>by cases h),(fun pl h=>by cases h),(fun h=>by cases h),(fun ks h=>by cases h),(fun m' h=>by obtain rfl:=Option.some.inj h;exact h3),(fun k h=>by cases h),(fun h=>by cases h),fun e h=>by cases h⟩
theorem Tz {e E:TypeId} {u:Ty} (h1:TI P T false 1) (h2:P.underlying T=some (.pointer e)) (h3:TZ P T (.pointer none) 1 8):TDok P T ⟨false,1,none,.fro (.tree e E u),[],some 8,none,false,none,none,none,false,some e⟩:=
 ⟨h1,rfl,rfl,fun E' h=>by simp at h,fun f q h=>by simp at h,fun b' h=>by obtain rfl:=Option.some.inj h;exact ⟨_,h3,rfl,by decide⟩,fun pl h=>by simp at h,(fun h=>by cases h),(fun ks h=>by cases h),(fun m h=>by cases h),(fun k h=>by cases h),(fun h=>by cases h),fun e' h=>by obtain rfl:=Option.some.inj h;exact h2⟩
end
end R
namespace D
open Go.RowKit
def qQ (p0a:List Bool) (p1left:Int):Option Int:=
 if decide (IntKind.i64.wrap (p1left - (p0a.length:Int))<0) then (some (-1)) else (some (IntKind.i64.wrap (p1left - (p0a.length:Int))))
def pO (p0a:List Int) (p1left:Int):Option Int:=
 if decide (IntKind.i64.wrap (p1left - (p0a.length:Int))<0) then (some (-1)) else (some (IntKind.i64.wrap (p1left - (p0a.length:Int))))
def jD (p0a:List (List Int)) (s3:Int×Int):Option (Out Int (Int×Int)):=
 if decide (s3.2<(p0a.length:Int)) then ((az p0a s3.2).bind fun x3=>(pO x3 s3.1).bind fun r6=>if decide (r6<0) then (some (.ret (-1))) else (some (.nxt (r6,IntKind.i64.wrap (s3.2+1))))) else (some (.brk (s3.1,s3.2)))
def qR (p0a:List (List Int)) (p1left:Int):Option Int:=
 if decide (IntKind.i64.wrap (p1left - (p0a.length:Int))<0) then (some (-1)) else (ay (ai (jD p0a) aD (IntKind.i64.wrap (p1left - (p0a.length:Int)),0)) (fun r=>some r) (fun s4=>some s4.1))
def iE (p0a:Int×(List Bool)×(List (List Int))) (p1left:Int):Option Int:=
 (qQ p0a.2.1 p1left).bind fun r1=>if decide (r1<0) then (some (-1)) else ((qR p0a.2.2 r1).bind fun r2=>if decide (r2<0) then (some (-1)) else (some r2))
def eh (p0a:List (Int×(List Bool)×(List (List Int)))) (s3:Int×Int):Option (Out Int (Int×Int)):=
 if decide (s3.2<(p0a.length:Int)) then ((az p0a s3.2).bind fun x3=>(iE (x3.1,x3.2.1,x3.2.2) s3.1).bind fun r9=>if decide (r9<0) then (some (.ret (-1))) else (some (.nxt (r9,IntKind.i64.wrap (s3.2+1))))) else (some (.brk (s3.1,s3.2)))
def ku (p0a:List (Int×(List Bool)×(List (List Int)))) (p1left:Int):Option Int:=
 if decide (IntKind.i64.wrap (p1left - (p0a.length:Int))<0) then (some (-1)) else (ay (ai (eh p0a) aD (IntKind.i64.wrap (p1left - (p0a.length:Int)),0)) (fun r=>some r) (fun s4=>some s4.1))
def oV (p0a:List (Int×Int×Int×Int)) (p1left:Int):Option Int:=
 if decide (IntKind.i64.wrap (p1left - (p0a.length:Int))<0) then (some (-1)) else (some (IntKind.i64.wrap (p1left - (p0a.length:Int))))
def pP (p0a:(List (Int×Int×Int×Int))) (p1left:Int):Option Int:=
 (oV p0a p1left).bind fun r1=>if decide (r1<0) then (some (-1)) else (some r1)
def gx (p0a:Int×((List (Int×Int×Int×Int)))×Int) (p1left:Int):Option Int:=
 (pP p0a.2.1 p1left).bind fun r1=>if decide (r1<0) then (some (-1)) else (some r1)
def dH (p0a:List (Int×((List (Int×Int×Int×Int)))×Int)) (s3:Int×Int):Option (Out Int (Int×Int)):=
 if decide (s3.2<(p0a.length:Int)) then ((az p0a s3.2).bind fun x3=>(gx (x3.1,x3.2.1,x3.2.2) s3.1).bind fun r6=>if decide (r6<0) then (some (.ret (-1))) else (some (.nxt (r6,IntKind.i64.wrap (s3.2+1))))) else (some (.brk (s3.1,s3.2)))
def ji (p0a:List (Int×((List (Int×Int×Int×Int)))×Int)) (p1left:Int):Option Int:=
 if decide (IntKind.i64.wrap (p1left - (p0a.length:Int))<0) then (some (-1)) else (ay (ai (dH p0a) aD (IntKind.i64.wrap (p1left - (p0a.length:Int)),0)) (fun r=>some r) (fun s4=>some s4.1))
def jE (p0a:(List (Int×(List Bool)×(List (List Int))))×(List (Int×((List (Int×Int×Int×Int)))×Int))) (p1left:Int):Option Int:=
 (ku p0a.1 p1left).bind fun r1=>if decide (r1<0) then (some (-1)) else ((ji p0a.2 r1).bind fun r2=>if decide (r2<0) then (some (-1)) else (some r2))
def qS (p0a:List (Int×Int×Int×Int)) (p1left:Int):Option Int:=
 if decide (IntKind.i64.wrap (p1left - (p0a.length:Int))<0) then (some (-1)) else (some (IntKind.i64.wrap (p1left - (p0a.length:Int))))
def nz (p0a:(List Int)×(List (Int×Int×Int×Int))) (p1left:Int):Option Int:=
 (pO p0a.1 p1left).bind fun r1=>if decide (r1<0) then (some (-1)) else ((qS p0a.2 r1).bind fun r2=>if decide (r2<0) then (some (-1)) else (some r2))
def de (p0r:(List (Int×(List Bool)×(List (List Int))))×(List (Int×((List (Int×Int×Int×Int)))×Int))) (p1id:Int) (s3:Int):Option (Out Int Int):=
 if decide (s3<(p0r.2.length:Int)) then ((az p0r.2 s3).bind fun x3=>if x3.1==p1id then (some (.ret s3)) else (some (.nxt (IntKind.i64.wrap (s3+1))))) else (some (.brk s3))
def kN (p0r:(List (Int×(List Bool)×(List (List Int))))×(List (Int×((List (Int×Int×Int×Int)))×Int))) (p1id:Int):Option Int:=
 ay (ai (de p0r p1id) aD 0) (fun r=>some r) (fun s4=>some (-1))
def dm (p0x:Int) (p1low:Int) (p2high:Int):Option Bool:=
 if decide (p0x≥p1low) then (some (decide (p0x≤p2high))) else (some false)
def l7 (p0n:Int):Option Bool:=
 (dm p0n 0 8).bind fun r1=>some r1
def lq (p0:Int×Int×Int×Int):Option Int:=
 Option.bind ((if p0.1==1 then (some (p0.1==1)) else (some (p0.1==2)):Option Bool)) (fun s1=>if s1 then (if p0.2.1 !=0 then (some (-1)) else (if p0.2.2.1 !=0 then (some (-1)) else (if p0.2.2.2 !=0 then (some (-1)) else (some 0)))) else (if p0.1==3 then ((l7 p0.2.1).bind fun r3=>if r3 then (if p0.2.2.1 !=0 then (some (-1)) else (if p0.2.2.2 !=0 then (some (-1)) else (some 0))) else (some (-1))) else (Option.bind ((if p0.1==4 then (some (p0.1==4)) else (some (p0.1==5)):Option Bool)) (fun s2=>if s2 then (if p0.2.1 !=0 then (some (-1)) else (if p0.2.2.1 !=0 then (some (-1)) else (if p0.2.2.2 !=0 then (some (-1)) else (some 2)))) else (if p0.1==6 then (if p0.2.1 !=0 then (some (-1)) else (if p0.2.2.1 !=0 then (some (-1)) else (if p0.2.2.2 !=0 then (some (-1)) else (some 1)))) else (if p0.1==7 then (if p0.2.1 !=0 then (some (-1)) else ((dm p0.2.2.2 1 3).bind fun r1=>if r1 then ((dm p0.2.2.1 0 p0.2.2.2).bind fun r2=>if r2 then (some 1) else (some (-1))) else (some (-1)))) else (some (-1))))))))
def nA (p0e:(List (Int×Int×Int×Int))) (s3:Int×Int):Option (Out Bool (Int×Int)):=
 if decide (s3.2<(p0e.length:Int)) then ((az p0e s3.2).bind fun x3=>(lq (x3.1,x3.2.1,x3.2.2.1,x3.2.2.2)).bind fun r3=>if decide (r3<0) then (some (.ret false)) else (if decide (r3>s3.1) then (some (.ret false)) else (some (.nxt (IntKind.i64.wrap ((IntKind.i64.wrap (s3.1 - r3))+1),IntKind.i64.wrap (s3.2+1)))))) else (some (.brk (s3.1,s3.2)))
def pQ (p0e:(List (Int×Int×Int×Int))):Option Bool:=
 ay (ai (nA p0e) aD (0,0)) (fun r=>some r) (fun s4=>some (s4.1==1))
def iF (p0e:(List (Int×Int×Int×Int))):Option Bool:=
 if decide ((p0e.length:Int)≤24) then ((pQ p0e).bind fun r1=>some r1) else (some false)
def jF (p0l:List (Int×Int×Int×Int)) (s3:Int×Int):Option (Out Int (Int×Int)):=
 if decide (s3.1>0) then ((az p0l (IntKind.i64.wrap (s3.2 - 1))).bind fun x3=>(lq (x3.1,x3.2.1,x3.2.2.1,x3.2.2.2)).bind fun r3=>some (.nxt (IntKind.i64.wrap ((IntKind.i64.wrap (s3.1 - 1))+r3),IntKind.i64.wrap (s3.2 - 1)))) else (some (.brk (s3.1,s3.2)))
def fh (p0l:List (Int×Int×Int×Int)):Option Int:=
 ay (ai (jF p0l) aD (1,(p0l.length:Int))) (fun r=>some r) (fun s4=>some s4.2)
def cP:Nat→(List (Int×Int×Int×Int))→Option Int
 | 0,_=>none
 | n+1,p0l =>
  (az p0l (IntKind.i64.wrap ((p0l.length:Int) - 1))).bind fun x0=>Option.bind ((if x0.1==4 then (some (x0.1==4)) else (some (x0.1==5)):Option Bool)) (fun s1=>if s1 then ((chk (And (0≤(IntKind.i64.wrap ((p0l.length:Int) - 1))) ((IntKind.i64.wrap ((p0l.length:Int) - 1))≤(p0l.length:Int)))).bind fun _=>(fh (p0l.take ((IntKind.i64.wrap ((p0l.length:Int) - 1)).toNat))).bind fun r3=>(chk (And (0≤r3) (r3≤(p0l.length:Int)))).bind fun _=>((cP n) (p0l.take r3.toNat)).bind fun r9=>(chk (And (0≤r3) (And (r3≤(IntKind.i64.wrap ((p0l.length:Int) - 1))) ((IntKind.i64.wrap ((p0l.length:Int) - 1))≤(p0l.length:Int))))).bind fun _=>((cP n) ((p0l.take ((IntKind.i64.wrap ((p0l.length:Int) - 1)).toNat)).drop r3.toNat)).bind fun r11=>some (Min.min 100000 (IntKind.i64.wrap ((IntKind.i64.wrap (r9+r11))+1)))) else (if x0.1==6 then ((chk (And (0≤(IntKind.i64.wrap ((p0l.length:Int) - 1))) ((IntKind.i64.wrap ((p0l.length:Int) - 1))≤(p0l.length:Int)))).bind fun _=>((cP n) (p0l.take ((IntKind.i64.wrap ((p0l.length:Int) - 1)).toNat))).bind fun r13=>some (Min.min 100000 (IntKind.i64.wrap (r13+1)))) else (if x0.1==7 then ((chk (And (0≤(IntKind.i64.wrap ((p0l.length:Int) - 1))) ((IntKind.i64.wrap ((p0l.length:Int) - 1))≤(p0l.length:Int)))).bind fun _=>((cP n) (p0l.take ((IntKind.i64.wrap ((p0l.length:Int) - 1)).toNat))).bind fun r17=>some (Min.min 100000 (IntKind.i64.wrap ((IntKind.i64.wrap ((IntKind.i64.wrap (r17+3))*x0.2.2.2))+1)))) else (some 1))))
def jj (p0l:List (Int×Int×Int×Int)):Option (List (Int×Int×Int×Int)):=
 (cC 32 ([] :List (Int×Int×Int×Int)) p0l).bind fun z1=>some z1
def jk (p0a:(List (Int×Int×Int×Int))) (p1b:(List (Int×Int×Int×Int))) (p2t:Int×Int×Int×Int):Option (List (Int×Int×Int×Int)):=
 (jj p0a).bind fun r1=>(cC 32 r1 p1b).bind fun z1=>(cC 32 z1 ([(p2t.1,p2t.2.1,p2t.2.2.1,p2t.2.2.2)])).bind fun z2=>some z2
def mM (p0kind:Int):Option (List (Int×Int×Int×Int)):=
 some ([(p0kind,0,0,0)])
def gX:Nat→(List (Int×Int×Int×Int))→Int→Int→Option (List (Int×Int×Int×Int))
 | 0,_,_,_=>none
 | n+1,p0e,p1low,p2high =>
  if p2high==0 then ((mM 2).bind fun r0=>some r0) else (((gX n) p0e (Max.max 0 (IntKind.i64.wrap (p1low - 1))) (IntKind.i64.wrap (p2high - 1))).bind fun r3=>(jk p0e r3 (4,0,0,0)).bind fun r4=>if decide (p1low>0) then (some r4) else ((mM 2).bind fun r7=>(jk r4 r7 (5,0,0,0)).bind fun r8=>some r8))
def bP:Nat→(List (Int×Int×Int×Int))→Option (List (Int×Int×Int×Int))
 | 0,_=>none
 | n+1,p0l =>
  (az p0l (IntKind.i64.wrap ((p0l.length:Int) - 1))).bind fun x0=>Option.bind ((if x0.1==4 then (some (x0.1==4)) else (some (x0.1==5)):Option Bool)) (fun s1=>if s1 then ((chk (And (0≤(IntKind.i64.wrap ((p0l.length:Int) - 1))) ((IntKind.i64.wrap ((p0l.length:Int) - 1))≤(p0l.length:Int)))).bind fun _=>(fh (p0l.take ((IntKind.i64.wrap ((p0l.length:Int) - 1)).toNat))).bind fun r3=>(chk (And (0≤r3) (r3≤(p0l.length:Int)))).bind fun _=>((bP n) (p0l.take r3.toNat)).bind fun r10=>(chk (And (0≤r3) (And (r3≤(IntKind.i64.wrap ((p0l.length:Int) - 1))) ((IntKind.i64.wrap ((p0l.length:Int) - 1))≤(p0l.length:Int))))).bind fun _=>((bP n) ((p0l.take ((IntKind.i64.wrap ((p0l.length:Int) - 1)).toNat)).drop r3.toNat)).bind fun r12=>(jk r10 r12 (x0.1,x0.2.1,x0.2.2.1,x0.2.2.2)).bind fun r13=>some r13) else (if x0.1==6 then ((chk (And (0≤(IntKind.i64.wrap ((p0l.length:Int) - 1))) ((IntKind.i64.wrap ((p0l.length:Int) - 1))≤(p0l.length:Int)))).bind fun _=>((bP n) (p0l.take ((IntKind.i64.wrap ((p0l.length:Int) - 1)).toNat))).bind fun r18=>(jk r18 ([] :List (Int×Int×Int×Int)) (x0.1,x0.2.1,x0.2.2.1,x0.2.2.2)).bind fun r19=>some r19) else (if x0.1==7 then ((chk (And (0≤(IntKind.i64.wrap ((p0l.length:Int) - 1))) ((IntKind.i64.wrap ((p0l.length:Int) - 1))≤(p0l.length:Int)))).bind fun _=>((bP n) (p0l.take ((IntKind.i64.wrap ((p0l.length:Int) - 1)).toNat))).bind fun r24=>(gX eK r24 x0.2.2.1 x0.2.2.2).bind fun r25=>some r25) else (some ([(x0.1,x0.2.1,x0.2.2.1,x0.2.2.2)])))))
def jG (p0e:(List (Int×Int×Int×Int))):Option (((List (Int×Int×Int×Int)))×Bool):=
 (iF p0e).bind fun r1=>if r1 then ((cP eK p0e).bind fun r2=>if decide (r2>5000) then (some ([],false)) else ((bP eK p0e).bind fun r3=>if decide ((r3.length:Int)>400) then (some ([],false)) else (some (r3,true)))) else (some ([],false))
def gf (p1from:Int) (p2to:Int) (s2:Int×List Int):Option (Out ((List Int)×Int×Int×(List Int)×Bool) (Int×List Int)):=
 if decide (s2.1<(s2.2.length:Int)) then (Option.bind (((chk (0≤s2.1)).bind fun _=>if (pC (lU p1from s2.1) 1)==1 then ((az s2.2 s2.1).bind fun x6=>(az s2.2 s2.1).bind fun x7=>some (s2.2.set s2.1.toNat (orI x6 p2to))) else (some s2.2):Option (List Int))) (fun s8=>some (.nxt (IntKind.i64.wrap (s2.1+1),s8)))) else (some (.brk (s2.1,s2.2)))
def lr (p0p:(List Int)×Int×Int×(List Int)×Bool) (p1from:Int) (p2to:Int):Option ((List Int)×Int×Int×(List Int)×Bool):=
 ay (ai (gf p1from p2to) aD (0,p0p.2.2.2.1)) (fun r9=>some r9) (fun s10=>some (p0p.1,p0p.2.1,p0p.2.2.1,s10.2,p0p.2.2.2.2))
def cm:Nat→((List Int)×Int×Int×(List Int)×Bool)→(List (Int×Int×Int×Int))→Option ((Bool×Int×Int)×(List Int)×Int×Int×(List Int)×Bool)
 | 0,_,_=>none
 | n+1,p0,p1 =>
  (az p1 (IntKind.i64.wrap ((p1.length:Int) - 1))).bind fun x0=>if x0.1==2 then (some ((true,0,0),p0.1,p0.2.1,p0.2.2.1,p0.2.2.2.1,p0.2.2.2.2)) else (if x0.1==3 then ((cC 8 p0.1 ([x0.2.1])).bind fun z2=>(cC 8 p0.2.2.2.1 ([0])).bind fun z3=>some ((false,sV 1 (p0.1.length:Int),sV 1 (p0.1.length:Int)),z2,p0.2.1,p0.2.2.1,z3,p0.2.2.2.2)) else (if x0.1==4 then ((chk (And (0≤(IntKind.i64.wrap ((p1.length:Int) - 1))) ((IntKind.i64.wrap ((p1.length:Int) - 1))≤(p1.length:Int)))).bind fun _=>(fh (p1.take ((IntKind.i64.wrap ((p1.length:Int) - 1)).toNat))).bind fun r5=>(chk (And (0≤r5) (r5≤(p1.length:Int)))).bind fun _=>((cm n) (p0.1,p0.2.1,p0.2.2.1,p0.2.2.2.1,p0.2.2.2.2) (p1.take r5.toNat)).bind fun r7=>(chk (And (0≤r5) (And (r5≤(IntKind.i64.wrap ((p1.length:Int) - 1))) ((IntKind.i64.wrap ((p1.length:Int) - 1))≤(p1.length:Int))))).bind fun _=>((cm n) (r7.2.1,r7.2.2.1,r7.2.2.2.1,r7.2.2.2.2.1,r7.2.2.2.2.2) ((p1.take ((IntKind.i64.wrap ((p1.length:Int) - 1)).toNat)).drop r5.toNat)).bind fun r9=>(lr (r9.2.1,r9.2.2.1,r9.2.2.2.1,r9.2.2.2.2.1,r9.2.2.2.2.2) r7.1.2.2 r9.1.2.1).bind fun r10=>if r7.1.1 then (Option.bind ((if r7.1.1 then (some (r9.1.1,orI r7.1.2.1 r9.1.2.1,r9.1.2.2)) else (some (r9.1.1,r7.1.2.1,r9.1.2.2)):Option (Bool×Int×Int))) (fun s11=>Option.bind ((if r9.1.1 then (some (s11.1,s11.2.1,orI r7.1.2.2 r9.1.2.2)) else (some (s11.1,s11.2.1,s11.2.2)):Option (Bool×Int×Int))) (fun s12=>some ((s12.1,s12.2.1,s12.2.2),r10.1,r10.2.1,r10.2.2.1,r10.2.2.2.1,r10.2.2.2.2)))) else (Option.bind ((if r7.1.1 then (some (false,orI r7.1.2.1 r9.1.2.1,r9.1.2.2)) else (some (false,r7.1.2.1,r9.1.2.2)):Option (Bool×Int×Int))) (fun s13=>Option.bind ((if r9.1.1 then (some (s13.1,s13.2.1,orI r7.1.2.2 r9.1.2.2)) else (some (s13.1,s13.2.1,s13.2.2)):Option (Bool×Int×Int))) (fun s14=>some ((s14.1,s14.2.1,s14.2.2),r10.1,r10.2.1,r10.2.2.1,r10.2.2.2.1,r10.2.2.2.2))))) else (if x0.1==5 then ((chk (And (0≤(IntKind.i64.wrap ((p1.length:Int) - 1))) ((IntKind.i64.wrap ((p1.length:Int) - 1))≤(p1.length:Int)))).bind fun _=>(fh (p1.take ((IntKind.i64.wrap ((p1.length:Int) - 1)).toNat))).bind fun r16=>(chk (And (0≤r16) (r16≤(p1.length:Int)))).bind fun _=>((cm n) (p0.1,p0.2.1,p0.2.2.1,p0.2.2.2.1,p0.2.2.2.2) (p1.take r16.toNat)).bind fun r18=>(chk (And (0≤r16) (And (r16≤(IntKind.i64.wrap ((p1.length:Int) - 1))) ((IntKind.i64.wrap ((p1.length:Int) - 1))≤(p1.length:Int))))).bind fun _=>((cm n) (r18.2.1,r18.2.2.1,r18.2.2.2.1,r18.2.2.2.2.1,r18.2.2.2.2.2) ((p1.take ((IntKind.i64.wrap ((p1.length:Int) - 1)).toNat)).drop r16.toNat)).bind fun r20=>if r18.1.1 then (some ((true,orI r18.1.2.1 r20.1.2.1,orI r18.1.2.2 r20.1.2.2),r20.2.1,r20.2.2.1,r20.2.2.2.1,r20.2.2.2.2.1,r20.2.2.2.2.2)) else (some ((r20.1.1,orI r18.1.2.1 r20.1.2.1,orI r18.1.2.2 r20.1.2.2),r20.2.1,r20.2.2.1,r20.2.2.2.1,r20.2.2.2.2.1,r20.2.2.2.2.2))) else (if x0.1==6 then ((chk (And (0≤(IntKind.i64.wrap ((p1.length:Int) - 1))) ((IntKind.i64.wrap ((p1.length:Int) - 1))≤(p1.length:Int)))).bind fun _=>((cm n) (p0.1,p0.2.1,p0.2.2.1,p0.2.2.2.1,p0.2.2.2.2) (p1.take ((IntKind.i64.wrap ((p1.length:Int) - 1)).toNat))).bind fun r22=>(lr (r22.2.1,r22.2.2.1,r22.2.2.2.1,r22.2.2.2.2.1,r22.2.2.2.2.2) r22.1.2.2 r22.1.2.1).bind fun r23=>some ((true,r22.1.2.1,r22.1.2.2),r23.1,r23.2.1,r23.2.2.1,r23.2.2.2.1,r23.2.2.2.2)) else (some ((false,0,0),p0.1,p0.2.1,p0.2.2.1,p0.2.2.2.1,p0.2.2.2.2))))))
def cn (r0:(List (Int×Int×Int×Int))×Bool) (s2:Int×Int):Option (Out (((List Int)×Int×Int×(List Int)×Bool)×Bool) (Int×Int)):=
 if decide (s2.2<(r0.1.length:Int)) then (Option.bind (((az r0.1 s2.2).bind fun x3=>if x3.1==3 then (some (IntKind.i64.wrap (s2.1+1))) else (some s2.1):Option Int)) (fun s4=>some (.nxt (s4,IntKind.i64.wrap (s2.2+1))))) else (some (.brk (s2.1,s2.2)))
def eU (p0e:List (Int×Int×Int×Int)):Option (((List Int)×Int×Int×(List Int)×Bool)×Bool):=
 (jG p0e).bind fun r0=>if r0.2 then (ay (ai (cn r0) aD (0,0)) (fun r5=>some r5) (fun s6=>if decide (s6.1>20) then (some ((([] :List Int),0,0,([] :List Int),false),false)) else ((cm eK (([] :List Int),0,0,([] :List Int),false) r0.1).bind fun r7=>some ((r7.2.1,r7.1.2.1,r7.1.2.2,r7.2.2.2.2.1,r7.1.1),true)))) else (some ((([] :List Int),0,0,([] :List Int),false),false))
def fj (p0p:(List Int)×Int×Int×(List Int)×Bool) (p1set:Int) (s6:Int×Int):Option (Out Int (Int×Int)):=
 if decide (s6.2<(p0p.1.length:Int)) then (Option.bind (((chk (0≤IntKind.i64.wrap (s6.2+1))).bind fun _=>if (pC (lU p1set (IntKind.i64.wrap (s6.2+1))) 1)==1 then ((az p0p.2.2.2.1 s6.2).bind fun x6=>some (orI s6.1 x6)) else (some s6.1):Option Int)) (fun s8=>some (.nxt (s8,IntKind.i64.wrap (s6.2+1))))) else (some (.brk (s6.1,s6.2)))
def fl (p0p:(List Int)×Int×Int×(List Int)×Bool) (p2letter:Int) (s7:Int×Int) (s13:Int×Int):Option (Out Int (Int×Int)):=
 if decide (s13.2<(p0p.1.length:Int)) then (Option.bind (((chk (0≤s13.2)).bind fun _=>if (pC (lU s7.1 s13.2) 1)==1 then ((az p0p.1 s13.2).bind fun x12=>if x12==p2letter then ((chk (0≤IntKind.i64.wrap (s13.2+1))).bind fun _=>some (orI s13.1 (sV 1 (IntKind.i64.wrap (s13.2+1))))) else (some s13.1)) else (some s13.1):Option Int)) (fun s15=>some (.nxt (s15,IntKind.i64.wrap (s13.2+1))))) else (some (.brk (s13.1,s13.2)))
def l8 (p0p:(List Int)×Int×Int×(List Int)×Bool) (p1set:Int) (p2letter:Int):Option Int:=
 Option.bind ((if (pC p1set 1)==1 then (some p0p.2.1) else (some 0):Option Int)) (fun s1=>ay (ai (fj p0p p1set) aD (s1,0)) (fun r=>some r) (fun s7=>ay (ai (fl p0p p2letter s7) aD (0,0)) (fun r=>some r) (fun s14=>some s14.1)))
def mB (p0l:List Int) (p1x:Int) (s3:Int):Option (Out Int Int):=
 if decide (s3<(p0l.length:Int)) then ((az p0l s3).bind fun x3=>if x3==p1x then (some (.ret s3)) else (some (.nxt (IntKind.i64.wrap (s3+1))))) else (some (.brk s3))
def lu (p0l:List Int) (p1x:Int):Option Int:=
 ay (ai (mB p0l p1x) aD 0) (fun r=>some r) (fun s4=>some (-1))
def jH (p0p:(List Int)×Int×Int×(List Int)×Bool) (p1set:Int):Option Bool:=
 if (pC p1set 1)==1 then (if p0p.2.2.2.2 then (some true) else (some ((pC (lU p1set 1) p0p.2.2.1) !=0))) else (some ((pC (lU p1set 1) p0p.2.2.1) !=0))
def dP (p0:(List Int)×Int×Int×(List Int)×Bool) (s17:(List Int)×Int×Int×(List Bool)×(List (List Int))) (s23:(List Int)×(List Int)×Int):Option (Out ((Int×(List Bool)×(List (List Int)))×Bool) ((List Int)×(List Int)×Int)):=
 if decide (s23.2.2<9) then ((az s23.1 s17.2.1).bind fun x11=>(l8 (p0.1,p0.2.1,p0.2.2.1,p0.2.2.2.1,p0.2.2.2.2) x11 s23.2.2).bind fun r27=>Option.bind ((if r27 !=0 then ((lu s23.1 r27).bind fun r29=>if decide (r29<0) then ((cC 8 s23.1 ([r27])).bind fun z30=>some (z30,(s23.1.length:Int))) else (some (s23.1,r29))) else (some (s23.1,-1)):Option ((List Int)×Int))) (fun s25=>(cC 8 s23.2.1 ([s25.2])).bind fun z31=>some (.nxt (s25.1,z31,IntKind.i64.wrap (s23.2.2+1))))) else (some (.brk (s23.1,s23.2.1,s23.2.2)))
def dQ (p0:(List Int)×Int×Int×(List Int)×Bool) (p1:Int) (s17:(List Int)×Int×Int×(List Bool)×(List (List Int))):Option (Out ((Int×(List Bool)×(List (List Int)))×Bool) ((List Int)×Int×Int×(List Bool)×(List (List Int)))):=
 if decide (s17.2.1<(s17.1.length:Int)) then (ay (ai (dP p0 s17) aD (s17.1,([] :List Int),0)) (fun r=>some (.ret r)) (fun s24=>if decide ((s24.1.length:Int)>p1) then (some (.ret ((0,[],[]),false))) else ((az s24.1 s17.2.1).bind fun x12=>(jH (p0.1,p0.2.1,p0.2.2.1,p0.2.2.2.1,p0.2.2.2.2) x12).bind fun r30=>(cC 1 s17.2.2.2.1 ([r30])).bind fun z32=>(cC 24 s17.2.2.2.2 ([s24.2.1])).bind fun z33=>some (.nxt (s24.1,IntKind.i64.wrap (s17.2.1+1),s17.2.2.1,z32,z33))))) else (some (.brk (s17.1,s17.2.1,s17.2.2.1,s17.2.2.2.1,s17.2.2.2.2)))
def gg (p0:(List Int)×Int×Int×(List Int)×Bool) (p1:Int):Option ((Int×(List Bool)×(List (List Int)))×Bool):=
 ay (ai (dQ p0 p1) aD ([1],0,0,[],[])) (fun r=>some r) (fun s18=>some ((s18.2.2.1,s18.2.2.2.1,s18.2.2.2.2),true))
def tu (s3:(List Int)×Int):Option (Out (Int×(List Bool)×(List (List Int))) ((List Int)×Int)):=
 if decide (s3.2<9) then ((cC 8 s3.1 ([-1])).bind fun z3=>some (.nxt (z3,IntKind.i64.wrap (s3.2+1)))) else (some (.brk (s3.1,s3.2)))
def mC:Option (Int×(List Bool)×(List (List Int))):=
 ay (ai (tu) aD (([] :List Int),0)) (fun r=>some r) (fun s4=>some (0,[false],[s4.1]))
def eM (p0:Int×(List Bool)×(List (List Int))) (p1:List Int) (p2:List Bool) (s17:(List Int)×(List Int)×Int×Int×(List Bool)×(List (List Int))) (s23:(List Int)×(List Int)×(List Int)×Int):Option (Out (Int×(List Bool)×(List (List Int))) ((List Int)×(List Int)×(List Int)×Int)):=
 if decide (s23.2.2.2<9) then ((az s23.2.1 s17.2.2.1).bind fun x79=>(az p0.2.2 x79).bind fun x80=>(az x80 s23.2.2.2).bind fun x81=>Option.bind ((if decide (x81≥0) then ((az p2 x81).bind fun x85=>if x85 then ((az p1 x81).bind fun x86=>(lu s23.1 x86).bind fun r28=>if decide (r28<0) then ((az p1 x81).bind fun x87=>(cC 8 s23.1 ([x87])).bind fun z47=>(cC 8 s23.2.1 ([x81])).bind fun z48=>some (z47,z48,(s23.1.length:Int))) else (some (s23.1,s23.2.1,r28))) else (some (s23.1,s23.2.1,-1))) else (some (s23.1,s23.2.1,-1)):Option ((List Int)×(List Int)×Int))) (fun s25=>(cC 8 s23.2.2.1 ([s25.2.2])).bind fun z49=>some (.nxt (s25.1,s25.2.1,z49,IntKind.i64.wrap (s23.2.2.2+1))))) else (some (.brk (s23.1,s23.2.1,s23.2.2.1,s23.2.2.2)))
def gy (p0:Int×(List Bool)×(List (List Int))) (p1:List Int) (p2:List Bool) (s17:(List Int)×(List Int)×Int×Int×(List Bool)×(List (List Int))):Option (Out (Int×(List Bool)×(List (List Int))) ((List Int)×(List Int)×Int×Int×(List Bool)×(List (List Int)))):=
 if decide (s17.2.2.1<(s17.1.length:Int)) then (ay (ai (eM p0 p1 p2 s17) aD (s17.1,s17.2.1,([] :List Int),0)) (fun r=>some (.ret r)) (fun s24=>(az s24.2.1 s17.2.2.1).bind fun x88=>(az p0.2.1 x88).bind fun x89=>(cC 1 s17.2.2.2.2.1 ([x89])).bind fun z50=>(cC 24 s17.2.2.2.2.2 ([s24.2.2.1])).bind fun z51=>some (.nxt (s24.1,s24.2.1,IntKind.i64.wrap (s17.2.2.1+1),s17.2.2.2.1,z50,z51)))) else (some (.brk (s17.1,s17.2.1,s17.2.2.1,s17.2.2.2.1,s17.2.2.2.2.1,s17.2.2.2.2.2)))
def fM (p0:Int×(List Bool)×(List (List Int))) (p1:List Int) (p2:List Bool):Option (Int×(List Bool)×(List (List Int))):=
 (az p2 p0.1).bind fun x1=>if x1 then ((az p1 p0.1).bind fun x2=>ay (ai (gy p0 p1 p2) aD ([x2],[p0.1],0,0,[],[])) (fun r=>some r) (fun s18=>some (s18.2.2.2.1,s18.2.2.2.2.1,s18.2.2.2.2.2))) else ((mC).bind fun r1=>some (r1.1,r1.2.1,r1.2.2))
def l9 (p0a:List Int) (p1b:List Int) (s3:Int):Option (Out Int Int):=
 if decide (s3<(p0a.length:Int)) then (if decide (s3<(p1b.length:Int)) then ((az p0a s3).bind fun x9=>(az p1b s3).bind fun x10=>if decide (x9<x10) then (some (.ret (-1))) else ((az p0a s3).bind fun x11=>(az p1b s3).bind fun x12=>if decide (x11>x12) then (some (.ret 1)) else (some (.nxt (IntKind.i64.wrap (s3+1)))))) else (some (.brk s3))) else (some (.brk s3))
def mN (p0a:List Int) (p1b:List Int):Option Int:=
 ay (ai (l9 p0a p1b) aD 0) (fun r=>some r) (fun s4=>if decide ((p0a.length:Int)<(p1b.length:Int)) then (some (-1)) else (if decide ((p0a.length:Int)>(p1b.length:Int)) then (some 1) else (some 0)))
def gh (p0a:Int×(List Bool)×(List (List Int))) (s71:(List Bool)×Int) (s77:(List Bool)×Int):Option (Out (List Bool) ((List Bool)×Int)):=
 if decide (s77.2<9) then (Option.bind (((az p0a.2.2 s71.2).bind fun x319=>(az x319 s77.2).bind fun x320=>if decide (x320≥0) then ((az p0a.2.2 s71.2).bind fun x321=>(az x321 s77.2).bind fun x322=>(az s77.1 x322).bind fun x323=>if x323 then ((az s77.1 s71.2).bind fun x324=>some (s77.1.set s71.2.toNat true)) else (some s77.1)) else (some s77.1):Option (List Bool))) (fun s79=>some (.nxt (s79,IntKind.i64.wrap (s77.2+1))))) else (some (.brk (s77.1,s77.2)))
def gi (p0a:Int×(List Bool)×(List (List Int))) (s71:(List Bool)×Int):Option (Out (List Bool) ((List Bool)×Int)):=
 if decide (s71.2<(p0a.2.1.length:Int)) then (ay (ai (gh p0a s71) aD (s71.1,0)) (fun r=>some (.ret r)) (fun s78=>some (.nxt (s78.1,IntKind.i64.wrap (s71.2+1))))) else (some (.brk (s71.1,s71.2)))
def jI (p0a:Int×(List Bool)×(List (List Int))) (s53:(List Bool)×Int):Option (Out (List Bool) ((List Bool)×Int)):=
 if decide (s53.2<(p0a.2.1.length:Int)) then (ay (ai (gi p0a) aD (s53.1,0)) (fun r=>some (.ret r)) (fun s72=>some (.nxt (s72.1,IntKind.i64.wrap (s53.2+1))))) else (some (.brk (s53.1,s53.2)))
def jl (p0a:Int×(List Bool)×(List (List Int))):Option (List Bool):=
 (cC 1 ([] :List Bool) p0a.2.1).bind fun z1=>ay (ai (jI p0a) aD (z1,0)) (fun r=>some r) (fun s54=>some s54.1)
def kO (p0a:Int×(List Bool)×(List (List Int))) (p1classes:List Int) (p2s:Int) (s5:(List Int)×Int):Option (Out (List Int) ((List Int)×Int)):=
 if decide (s5.2<9) then (Option.bind (((az p0a.2.2 p2s).bind fun x17=>(az x17 s5.2).bind fun x18=>if decide (x18<0) then ((cC 8 s5.1 ([-1])).bind fun z12=>some z12) else ((az p1classes x18).bind fun x19=>(cC 8 s5.1 ([x19])).bind fun z11=>some z11):Option (List Int))) (fun s7=>some (.nxt (s7,IntKind.i64.wrap (s5.2+1))))) else (some (.brk (s5.1,s5.2)))
def mO (p0a:Int×(List Bool)×(List (List Int))) (p1classes:List Int) (p2s:Int):Option (List Int):=
 (az p1classes p2s).bind fun x1=>ay (ai (kO p0a p1classes p2s) aD ([x1],0)) (fun r=>some r) (fun s6=>some s6.1)
def dR (p0:Int×(List Bool)×List (List Int)) (r0:List Bool) (s2:(List Int)×Int):Option (Out (List Int) ((List Int)×Int)):=
 if decide (s2.2<(p0.2.1.length:Int)) then ((az p0.2.1 s2.2).bind fun x3=>Option.bind ((if x3 then (some 1) else (some 0):Option Int)) (fun s4=>(az r0 s2.2).bind fun x5=>Option.bind ((if x5 then (some s4) else (some (-1)):Option Int)) (fun s6=>(cC 8 s2.1 ([s6])).bind fun z7=>some (.nxt (z7,IntKind.i64.wrap (s2.2+1)))))) else (some (.brk (s2.1,s2.2)))
def dS (s13:(List (List Int))×(List Int)×Int) (r16:List Int) (s18:Int×Int):Option (Out (List Int) (Int×Int)):=
 if decide (s18.2<(s13.1.length:Int)) then (Option.bind (((az s13.1 s18.2).bind fun x19=>(mN x19 r16).bind fun r20=>if r20==0 then (some s18.2) else (some s18.1):Option Int)) (fun s21=>some (.nxt (s21,IntKind.i64.wrap (s18.2+1))))) else (some (.brk (s18.1,s18.2)))
def dU (p0:Int×(List Bool)×List (List Int)) (s11:(List Int)×Int) (s13:(List (List Int))×(List Int)×Int):Option (Out (List Int) ((List (List Int))×(List Int)×Int)):=
 if decide (s13.2.2<(p0.2.1.length:Int)) then (Option.bind (((az s11.1 s13.2.2).bind fun x14=>if decide (x14<0) then ((cC 8 s13.2.1 ([(-1)])).bind fun z15=>some (s13.1,z15)) else ((mO (p0.1,p0.2.1,p0.2.2) s11.1 s13.2.2).bind fun r16=>ay (ai (dS s13 r16) aD ((-1),0)) (fun r22=>none) (fun s23=>Option.bind ((if decide (s23.1<0) then ((cC 24 s13.1 ([r16])).bind fun z24=>some (z24,(s13.1.length:Int))) else (some (s13.1,s23.1)):Option ((List (List Int))×Int))) (fun s25=>(cC 8 s13.2.1 ([s25.2])).bind fun z26=>some (s25.1,z26)))):Option ((List (List Int))×List Int))) (fun s27=>some (.nxt (s27.1,s27.2,IntKind.i64.wrap (s13.2.2+1))))) else (some (.brk (s13.1,s13.2.1,s13.2.2)))
def jm (p0:Int×(List Bool)×List (List Int)) (s11:(List Int)×Int):Option (Out (List Int) ((List Int)×Int)):=
 if decide (s11.2≤(p0.2.1.length:Int)) then (ay (ai (dU p0 s11) aD (([] :List (List Int)),([] :List Int),0)) (fun r28=>some (.ret r28)) (fun s29=>(mN s29.2.1 s11.1).bind fun r30=>if r30==0 then (some (.ret s11.1)) else (some (.nxt (s29.2.1,IntKind.i64.wrap (s11.2+1)))))) else (some (.brk (s11.1,s11.2)))
def gj (p0:Int×(List Bool)×List (List Int)):Option (List Int):=
 (jl (p0.1,p0.2.1,p0.2.2)).bind fun r0=>ay (ai (dR p0 r0) aD (([] :List Int),0)) (fun r8=>some r8) (fun s9=>ay (ai (jm p0) aD (s9.1,0)) (fun r31=>some r31) (fun s32=>some s32.1))
def iG (p0a:Int×(List Bool)×(List (List Int))):Option (Int×(List Bool)×(List (List Int))):=
 (gj (p0a.1,p0a.2.1,p0a.2.2)).bind fun r1=>(jl (p0a.1,p0a.2.1,p0a.2.2)).bind fun r2=>(fM (p0a.1,p0a.2.1,p0a.2.2) r1 r2).bind fun r3=>some (r3.1,r3.2.1,r3.2.2)
def fm (p0e:(List (Int×Int×Int×Int))):Option ((Int×(List Bool)×(List (List Int)))×Bool):=
 (eU p0e).bind fun r1=>if r1.2 then ((gg (r1.1.1,r1.1.2.1,r1.1.2.2.1,r1.1.2.2.2.1,r1.1.2.2.2.2) 200).bind fun r2=>if r2.2 then ((iG (r2.1.1,r2.1.2.1,r2.1.2.2)).bind fun r3=>if decide ((r3.2.1.length:Int)>12) then (some ((0,[],[]),false)) else (some ((r3.1,r3.2.1,r3.2.2),true))) else (some ((0,[],[]),false))) else (some ((0,[],[]),false))
def dI (p0:Int×(List Bool)×(List (List Int))) (p1:Int×(List Bool)×(List (List Int))) (s3:Int):Option (Out Bool Int):=
 if decide (s3<(p0.2.1.length:Int)) then ((az p0.2.1 s3).bind fun x5=>(az p1.2.1 s3).bind fun x6=>if x5 !=x6 then (some (.ret false)) else (some (.nxt (IntKind.i64.wrap (s3+1))))) else (some (.brk s3))
def dJ (p0:Int×(List Bool)×(List (List Int))) (p1:Int×(List Bool)×(List (List Int))) (s7:Int):Option (Out Bool Int):=
 if decide (s7<(p0.2.2.length:Int)) then ((az p0.2.2 s7).bind fun x11=>(az p1.2.2 s7).bind fun x12=>(mN x11 x12).bind fun r9=>if r9 !=0 then (some (.ret false)) else (some (.nxt (IntKind.i64.wrap (s7+1))))) else (some (.brk s7))
def dV (p0:Int×(List Bool)×(List (List Int))) (p1:Int×(List Bool)×(List (List Int))):Option Bool:=
 if p0.1 !=p1.1 then (some false) else (if (p0.2.1.length:Int) !=(p1.2.1.length:Int) then (some false) else (if (p0.2.2.length:Int) !=(p1.2.2.length:Int) then (some false) else (ay (ai (dI p0 p1) aD 0) (fun r=>some r) (fun s4=>ay (ai (dJ p0 p1) aD 0) (fun r=>some r) (fun s8=>some true)))))
def fo (p0l:List (Int×(List Bool)×(List (List Int)))) (p1a:Int×(List Bool)×(List (List Int))) (s3:Int):Option (Out Int Int):=
 if decide (s3<(p0l.length:Int)) then ((az p0l s3).bind fun x3=>(dV (x3.1,x3.2.1,x3.2.2) (p1a.1,p1a.2.1,p1a.2.2)).bind fun r9=>if r9 then (some (.ret s3)) else (some (.nxt (IntKind.i64.wrap (s3+1))))) else (some (.brk s3))
def j5 (p0l:List (Int×(List Bool)×(List (List Int)))) (p1a:Int×(List Bool)×(List (List Int))):Option Int:=
 ay (ai (fo p0l p1a) aD 0) (fun r=>some r) (fun s4=>some (-1))
def cq (p0:List (Int×((List (Int×Int×Int×Int)))×Int)) (s7:Int×(List (Int×(List Bool)×(List (List Int))))×(List (Int×((List (Int×Int×Int×Int)))×Int))):Option (Out (((List (Int×(List Bool)×(List (List Int))))×(List (Int×((List (Int×Int×Int×Int)))×Int)))×Bool) (Int×(List (Int×(List Bool)×(List (List Int))))×(List (Int×((List (Int×Int×Int×Int)))×Int)))):=
 if decide (s7.1<(p0.length:Int)) then ((az p0 s7.1).bind fun x17=>(fm x17.2.1).bind fun r20=>if r20.2 then ((az p0 s7.1).bind fun x18=>(dm x18.1 1 99).bind fun r21=>if r21 then (if decide (s7.1>0) then ((az p0 (IntKind.i64.wrap (s7.1 - 1))).bind fun x21=>(az p0 s7.1).bind fun x22=>if decide (x21.1≥x22.1) then (some (.ret (([],[]),false))) else ((j5 s7.2.1 (r20.1.1,r20.1.2.1,r20.1.2.2)).bind fun r25=>Option.bind ((if decide (r25<0) then ((cC 56 s7.2.1 ([(r20.1.1,r20.1.2.1,r20.1.2.2)])).bind fun z17=>some ((s7.2.1.length:Int),z17,s7.2.2)) else (some (r25,s7.2.1,s7.2.2)):Option (Int×(List (Int×(List Bool)×(List (List Int))))×(List (Int×((List (Int×Int×Int×Int)))×Int))))) (fun s10=>(az p0 s7.1).bind fun x23=>(az p0 s7.1).bind fun x24=>(jj x24.2.1).bind fun r27=>(cC 40 s10.2.2 ([(x23.1,r27,s10.1)])).bind fun z18=>some (.nxt (IntKind.i64.wrap (s7.1+1),s10.2.1,z18))))) else ((j5 s7.2.1 (r20.1.1,r20.1.2.1,r20.1.2.2)).bind fun r22=>Option.bind ((if decide (r22<0) then ((cC 56 s7.2.1 ([(r20.1.1,r20.1.2.1,r20.1.2.2)])).bind fun z14=>some ((s7.2.1.length:Int),z14,s7.2.2)) else (some (r22,s7.2.1,s7.2.2)):Option (Int×(List (Int×(List Bool)×(List (List Int))))×(List (Int×((List (Int×Int×Int×Int)))×Int))))) (fun s9=>(az p0 s7.1).bind fun x19=>(az p0 s7.1).bind fun x20=>(jj x20.2.1).bind fun r24=>(cC 40 s9.2.2 ([(x19.1,r24,s9.1)])).bind fun z15=>some (.nxt (IntKind.i64.wrap (s7.1+1),s9.2.1,z15))))) else (some (.ret (([],[]),false)))) else (some (.ret (([],[]),false)))) else (some (.brk (s7.1,s7.2.1,s7.2.2)))
def ma (p0:List (Int×((List (Int×Int×Int×Int)))×Int)):Option (((List (Int×(List Bool)×(List (List Int))))×(List (Int×((List (Int×Int×Int×Int)))×Int)))×Bool):=
 if decide ((p0.length:Int)>4) then (some (([],[]),false)) else (ay (ai (cq p0) aD (0,[],[])) (fun r=>some r) (fun s8=>some ((s8.2.1,s8.2.2),true)))
def fN (p0a:(List (Int×Int×Int×Int))) (p1b:(List (Int×Int×Int×Int))) (s3:Int):Option (Out Bool Int):=
 if decide (s3<(p0a.length:Int)) then ((az p0a s3).bind fun x5=>(az p1b s3).bind fun x6=>if (x5.1==x6.1)&&((x5.2.1==x6.2.1)&&((x5.2.2.1==x6.2.2.1)&&((x5.2.2.2==x6.2.2.2)&&true))) then (some (.nxt (IntKind.i64.wrap (s3+1)))) else (some (.ret false))) else (some (.brk s3))
def jJ (p0a:(List (Int×Int×Int×Int))) (p1b:(List (Int×Int×Int×Int))):Option Bool:=
 if (p0a.length:Int) !=(p1b.length:Int) then (some false) else (ay (ai (fN p0a p1b) aD 0) (fun r=>some r) (fun s4=>some true))
def cY (p0:(List (Int×(List Bool)×(List (List Int))))×(List (Int×((List (Int×Int×Int×Int)))×Int))) (p1:(List (Int×(List Bool)×(List (List Int))))×(List (Int×((List (Int×Int×Int×Int)))×Int))) (s3:Int):Option (Out Bool Int):=
 if decide (s3<(p0.1.length:Int)) then ((az p0.1 s3).bind fun x5=>(az p1.1 s3).bind fun x6=>(dV (x5.1,x5.2.1,x5.2.2) (x6.1,x6.2.1,x6.2.2)).bind fun r15=>if r15 then (some (.nxt (IntKind.i64.wrap (s3+1)))) else (some (.ret false))) else (some (.brk s3))
def cZ (p0:(List (Int×(List Bool)×(List (List Int))))×(List (Int×((List (Int×Int×Int×Int)))×Int))) (p1:(List (Int×(List Bool)×(List (List Int))))×(List (Int×((List (Int×Int×Int×Int)))×Int))) (s7:Int):Option (Out Bool Int):=
 if decide (s7<(p0.2.length:Int)) then ((az p0.2 s7).bind fun x19=>(az p1.2 s7).bind fun x20=>if x19.1 !=x20.1 then (some (.ret false)) else ((az p0.2 s7).bind fun x21=>(az p1.2 s7).bind fun x22=>(jJ x21.2.1 x22.2.1).bind fun r24=>if r24 then ((az p0.2 s7).bind fun x23=>(az p1.2 s7).bind fun x24=>if x23.2.2 !=x24.2.2 then (some (.ret false)) else (some (.nxt (IntKind.i64.wrap (s7+1))))) else (some (.ret false)))) else (some (.brk s7))
def ep (p0:(List (Int×(List Bool)×(List (List Int))))×(List (Int×((List (Int×Int×Int×Int)))×Int))) (p1:(List (Int×(List Bool)×(List (List Int))))×(List (Int×((List (Int×Int×Int×Int)))×Int))):Option Bool:=
 if (p0.1.length:Int) !=(p1.1.length:Int) then (some false) else (if (p0.2.length:Int) !=(p1.2.length:Int) then (some false) else (ay (ai (cY p0 p1) aD 0) (fun r=>some r) (fun s4=>ay (ai (cZ p0 p1) aD 0) (fun r=>some r) (fun s8=>some true))))
def eu (p0r:(List (Int×(List Bool)×(List (List Int))))×(List (Int×((List (Int×Int×Int×Int)))×Int))):Option Bool:=
 (ma p0r.2).bind fun r1=>if r1.2 then ((ep (r1.1.1,r1.1.2) (p0r.1,p0r.2)).bind fun r2=>some r2) else (some false)
def gk (p0a:Int×(List Bool)×(List (List Int))) (s3:Int×Int×(List Bool)×(List (List Int))):Option (Out (Int×(List Bool)×(List (List Int))) (Int×Int×(List Bool)×(List (List Int)))):=
 if decide (s3.1<(p0a.2.2.length:Int)) then ((az p0a.2.2 s3.1).bind fun x3=>(cC 8 ([] :List Int) x3).bind fun z6=>(cC 24 s3.2.2.2 ([z6])).bind fun z7=>some (.nxt (IntKind.i64.wrap (s3.1+1),s3.2.1,s3.2.2.1,z7))) else (some (.brk (s3.1,s3.2.1,s3.2.2.1,s3.2.2.2)))
def nB (p0a:Int×(List Bool)×(List (List Int))):Option (Int×(List Bool)×(List (List Int))):=
 (cC 1 ([] :List Bool) p0a.2.1).bind fun z1=>ay (ai (gk p0a) aD (0,p0a.1,z1,[])) (fun r=>some r) (fun s4=>some (s4.2.1,s4.2.2.1,s4.2.2.2))
def dn (p0r:(List (Int×(List Bool)×(List (List Int))))×(List (Int×((List (Int×Int×Int×Int)))×Int))) (p1id:Int):Option ((Int×(List Bool)×(List (List Int)))×Bool):=
 (kN (p0r.1,p0r.2) p1id).bind fun r1=>(eu (p0r.1,p0r.2)).bind fun r2=>if r2 then (if decide (r1<0) then (some ((0,[],[]),false)) else ((az p0r.2 r1).bind fun x1=>(az p0r.1 x1.2.2).bind fun x2=>(nB (x2.1,x2.2.1,x2.2.2)).bind fun r5=>some ((r5.1,r5.2.1,r5.2.2),true))) else (some ((0,[],[]),false))
def yO (p0g:(List Int)×(List (Int×Int×Int×Int))) (p1e:Int×Int×Int×Int):Option Bool:=
 (dm p1e.1 1 99).bind fun r1=>if r1 then ((dm p1e.2.1 0 (IntKind.i64.wrap ((p0g.1.length:Int) - 1))).bind fun r2=>if r2 then ((dm p1e.2.2.1 0 (IntKind.i64.wrap ((p0g.1.length:Int) - 1))).bind fun r3=>if r3 then ((dm p1e.2.2.2 0 2).bind fun r4=>some r4) else (some false)) else (some false)) else (some false)
def lx (p0g:(List Int)×(List (Int×Int×Int×Int))) (s3:Int):Option (Out Bool Int):=
 if decide (s3<(p0g.1.length:Int)) then ((az p0g.1 s3).bind fun x3=>(dm x3 0 2).bind fun r3=>if r3 then (some (.nxt (IntKind.i64.wrap (s3+1)))) else (some (.ret false))) else (some (.brk s3))
def gN (p0g:(List Int)×(List (Int×Int×Int×Int))) (s7:Int):Option (Out Bool Int):=
 if decide (s7<(p0g.2.length:Int)) then ((az p0g.2 s7).bind fun x10=>(yO (p0g.1,p0g.2) (x10.1,x10.2.1,x10.2.2.1,x10.2.2.2)).bind fun r6=>if r6 then (if decide (s7>0) then ((az p0g.2 (IntKind.i64.wrap (s7 - 1))).bind fun x11=>(az p0g.2 s7).bind fun x12=>if decide (x11.1≥x12.1) then (some (.ret false)) else (some (.nxt (IntKind.i64.wrap (s7+1))))) else (some (.nxt (IntKind.i64.wrap (s7+1))))) else (some (.ret false))) else (some (.brk s7))
def bV (p0g:(List Int)×(List (Int×Int×Int×Int))):Option Bool:=
 ay (ai (lx p0g) aD 0) (fun r=>some r) (fun s4=>ay (ai (gN p0g) aD 0) (fun r=>some r) (fun s8=>(dm (p0g.1.length:Int) 1 5).bind fun r7=>if r7 then (some (decide ((p0g.2.length:Int)≤12))) else (some false)))
def eR (p0a:Int×(List Bool)×(List (List Int))) (s11:Int) (s15:Int):Option (Out Bool Int):=
 if decide (s15<9) then ((az p0a.2.2 s11).bind fun x20=>(az x20 s15).bind fun x21=>(dm x21 (-1) (IntKind.i64.wrap ((p0a.2.1.length:Int) - 1))).bind fun r22=>if r22 then (some (.nxt (IntKind.i64.wrap (s15+1)))) else (some (.ret false))) else (some (.brk s15))
def jK (p0a:Int×(List Bool)×(List (List Int))) (s11:Int):Option (Out Bool Int):=
 if decide (s11<(p0a.2.1.length:Int)) then ((az p0a.2.2 s11).bind fun x15=>if (x15.length:Int) !=9 then (some (.ret false)) else (ay (ai (eR p0a s11) aD 0) (fun r=>some (.ret r)) (fun s16=>some (.nxt (IntKind.i64.wrap (s11+1)))))) else (some (.brk s11))
def lz (p0a:Int×(List Bool)×(List (List Int))):Option Bool:=
 (dm p0a.1 0 (IntKind.i64.wrap ((p0a.2.1.length:Int) - 1))).bind fun r1=>if r1 then (if (p0a.2.2.length:Int) !=(p0a.2.1.length:Int) then (some false) else (ay (ai (jK p0a) aD 0) (fun r=>some r) (fun s12=>some true))) else (some false)
def bT (p0a:Int×(List Bool)×(List (List Int))):Option Bool:=
 if decide ((p0a.2.1.length:Int)≤12) then ((lz (p0a.1,p0a.2.1,p0a.2.2)).bind fun r1=>some r1) else (some false)
def gO (p0g:(List Int)×(List (Int×Int×Int×Int))) (p1a:Int×(List Bool)×(List (List Int))) (p2node:Int) (p3s:Int):Option Bool:=
 (bV (p0g.1,p0g.2)).bind fun r1=>if r1 then ((bT (p1a.1,p1a.2.1,p1a.2.2)).bind fun r2=>if r2 then ((dm p2node 0 (IntKind.i64.wrap ((p0g.1.length:Int) - 1))).bind fun r3=>if r3 then ((dm p3s 0 (IntKind.i64.wrap ((p1a.2.1.length:Int) - 1))).bind fun r4=>some r4) else (some false)) else (some false)) else (some false)
def jn (p0a:Int×(List Bool)×(List (List Int))) (p2v:Int) (s3:Int×Int):Option (Out Int (Int×Int)):=
 if decide (s3.1≥0) then ((chk (0≤s3.1)).bind fun _=>if (pC (lU s3.2 s3.1) 1)==0 then ((chk (0≤s3.1)).bind fun _=>(az p0a.2.2 s3.1).bind fun x5=>(az x5 (IntKind.i64.wrap (6+p2v))).bind fun x6=>some (.nxt (x6,orI s3.2 (sV 1 s3.1)))) else (some (.brk (s3.1,s3.2)))) else (some (.brk (s3.1,s3.2)))
def dA (p0a:Int×(List Bool)×(List (List Int))) (p1s:Int) (p2v:Int):Option Int:=
 ay (ai (jn p0a p2v) aD (p1s,0)) (fun r=>some r) (fun s4=>some s4.2)
def iH (p0g:(List Int)×(List (Int×Int×Int×Int))) (p1node:Int) (s9:(List (Int×Bool))×Int):Option (Out (List (Int×Bool)) ((List (Int×Bool))×Int)):=
 if decide (s9.2<(p0g.2.length:Int)) then (Option.bind ((Option.bind (((az p0g.2 s9.2).bind fun x33=>if x33.2.1==p1node then ((az p0g.2 s9.2).bind fun x34=>(cC 16 s9.1 ([(x34.1,false)])).bind fun z17=>some z17) else (some s9.1):Option (List (Int×Bool)))) (fun s13=>(az p0g.2 s9.2).bind fun x35=>if x35.2.2.1==p1node then ((az p0g.2 s9.2).bind fun x36=>(cC 16 s13 ([(x36.1,true)])).bind fun z18=>some z18) else (some s13)):Option (List (Int×Bool)))) (fun s12=>some (.nxt (s12,IntKind.i64.wrap (s9.2+1))))) else (some (.brk (s9.1,s9.2)))
def mP (p0g:(List Int)×(List (Int×Int×Int×Int))) (p1node:Int):Option (List (Int×Bool)):=
 ay (ai (iH p0g p1node) aD (([] :List (Int×Bool)),0)) (fun r=>some r) (fun s10=>some s10.1)
def ky (p0g:(List Int)×(List (Int×Int×Int×Int))) (p1id:Int) (s3:Int):Option (Out Int Int):=
 if decide (s3<(p0g.2.length:Int)) then ((az p0g.2 s3).bind fun x3=>if x3.1==p1id then (some (.ret s3)) else (some (.nxt (IntKind.i64.wrap (s3+1))))) else (some (.brk s3))
def fO (p0g:(List Int)×(List (Int×Int×Int×Int))) (p1id:Int):Option Int:=
 ay (ai (ky p0g p1id) aD 0) (fun r=>some r) (fun s4=>some (-1))
def ez (p0e:Int×Int×Int×Int) (p1inverse:Bool):Option Int:=
 if p1inverse then (some (IntKind.i64.wrap ((IntKind.i64.wrap (2*p0e.2.2.2))+1))) else (some (IntKind.i64.wrap (2*p0e.2.2.2)))
def lA (p0e:Int×Int×Int×Int) (p1inverse:Bool):Option Int:=
 if p1inverse then (some p0e.2.1) else (some p0e.2.2.1)
def fp (p1:Int×(List Bool)×(List (List Int))) (r1:Int) (r2:List (Int×Bool)) (s31:(List ((Int×Bool)×Int×Int))×Int) (x67:Int×Int×Int×Int) (s37:Int×Int):Option (Out (List ((Int×Bool)×Int×Int)) (Int×Int)):=
 if decide (s37.2<(p1.2.1.length:Int)) then (Option.bind (((az p1.2.2 s37.2).bind fun x83=>(az r2 s31.2).bind fun x84=>(ez (x67.1,x67.2.1,x67.2.2.1,x67.2.2.2) x84.2).bind fun r53=>(az x83 r53).bind fun x85=>(chk (0≤s37.2)).bind fun _=>if (pC (lU r1 s37.2) 1)==1 then (if decide (x85≥0) then ((chk (0≤x85)).bind fun _=>some (orI s37.1 (sV 1 x85))) else (some s37.1)) else (some s37.1):Option Int)) (fun s39=>some (.nxt (s39,IntKind.i64.wrap (s37.2+1))))) else (some (.brk (s37.1,s37.2)))
def fq (p1:Int×(List Bool)×(List (List Int))) (r2:List (Int×Bool)) (s31:(List ((Int×Bool)×Int×Int))×Int) (x67:Int×Int×Int×Int) (s38:Int×Int) (s44:(List ((Int×Bool)×Int×Int))×Int):Option (Out (List ((Int×Bool)×Int×Int)) ((List ((Int×Bool)×Int×Int))×Int)):=
 if decide (s44.2<(p1.2.1.length:Int)) then (Option.bind (((chk (0≤s44.2)).bind fun _=>if (pC (lU s38.1 s44.2) 1)==1 then ((az r2 s31.2).bind fun x96=>(az r2 s31.2).bind fun x97=>(lA (x67.1,x67.2.1,x67.2.2.1,x67.2.2.2) x97.2).bind fun r59=>(cC 32 s44.1 ([((x96.1,x96.2),r59,s44.2)])).bind fun z18=>some z18) else (some s44.1):Option (List ((Int×Bool)×Int×Int)))) (fun s46=>some (.nxt (s46,IntKind.i64.wrap (s44.2+1))))) else (some (.brk (s44.1,s44.2)))
def fu (p0:(List Int)×(List (Int×Int×Int×Int))) (p1:Int×(List Bool)×(List (List Int))) (r1:Int) (r2:List (Int×Bool)) (s31:(List ((Int×Bool)×Int×Int))×Int):Option (Out (List ((Int×Bool)×Int×Int)) ((List ((Int×Bool)×Int×Int))×Int)):=
 if decide (s31.2<(r2.length:Int)) then ((az r2 s31.2).bind fun x66=>(fO (p0.1,p0.2) x66.1).bind fun r41=>(az p0.2 r41).bind fun x67=>ay (ai (fp p1 r1 r2 s31 x67) aD (0,0)) (fun r=>some (.ret r)) (fun s38=>ay (ai (fq p1 r2 s31 x67 s38) aD (s31.1,0)) (fun r=>some (.ret r)) (fun s45=>some (.nxt (s45.1,IntKind.i64.wrap (s31.2+1)))))) else (some (.brk (s31.1,s31.2)))
def gY (p0:(List Int)×(List (Int×Int×Int×Int))) (p1:Int×(List Bool)×(List (List Int))) (p2:Int) (p3:Int):Option (List ((Int×Bool)×Int×Int)):=
 (az p0.1 p2).bind fun x1=>(dA (p1.1,p1.2.1,p1.2.2) p3 x1).bind fun r1=>(mP (p0.1,p0.2) p2).bind fun r2=>ay (ai (fu p0 p1 r1 r2) aD (([] :List ((Int×Bool)×Int×Int)),0)) (fun r=>some r) (fun s32=>some s32.1)
def fv (p0:(List Int)×(List (Int×Int×Int×Int))) (p1:Int×(List Bool)×(List (List Int))) (s3:(List Int)×Int):Option (Out (List Int) ((List Int)×Int)):=
 if decide (s3.2<IntKind.i64.wrap ((p0.1.length:Int)*(p1.2.1.length:Int))) then ((cC 8 s3.1 ([-1])).bind fun z3=>some (.nxt (z3,IntKind.i64.wrap (s3.2+1)))) else (some (.brk (s3.1,s3.2)))
def fw (p1:Int×(List Bool)×(List (List Int))) (s21:(List Int)×(List Int)×Int) (r3:List ((Int×Bool)×Int×Int)) (s27:(List Int)×(List Int)×Int):Option (Out (List Int) ((List Int)×(List Int)×Int)):=
 if decide (s27.2.2<(r3.length:Int)) then (Option.bind (((az r3 s27.2.2).bind fun x111=>(az r3 s27.2.2).bind fun x112=>(az s27.1 (IntKind.i64.wrap ((IntKind.i64.wrap (x111.2.1*(p1.2.1.length:Int)))+x112.2.2))).bind fun x113=>if decide (x113<0) then ((az s27.2.1 s21.2.2).bind fun x114=>(az s27.1 x114).bind fun x115=>(az s27.1 (IntKind.i64.wrap ((IntKind.i64.wrap (x111.2.1*(p1.2.1.length:Int)))+x112.2.2))).bind fun x116=>(cC 8 s27.2.1 ([IntKind.i64.wrap ((IntKind.i64.wrap (x111.2.1*(p1.2.1.length:Int)))+x112.2.2)])).bind fun z21=>some (s27.1.set (IntKind.i64.wrap ((IntKind.i64.wrap (x111.2.1*(p1.2.1.length:Int)))+x112.2.2)).toNat (IntKind.i64.wrap (x115+1)),z21)) else (some (s27.1,s27.2.1)):Option ((List Int)×(List Int)))) (fun s29=>some (.nxt (s29.1,s29.2,IntKind.i64.wrap (s27.2.2+1))))) else (some (.brk (s27.1,s27.2.1,s27.2.2)))
def fx (p0:(List Int)×(List (Int×Int×Int×Int))) (p1:Int×(List Bool)×(List (List Int))) (s21:(List Int)×(List Int)×Int):Option (Out (List Int) ((List Int)×(List Int)×Int)):=
 if decide (s21.2.2<(s21.2.1.length:Int)) then ((az s21.2.1 s21.2.2).bind fun x79=>(chk ((p1.2.1.length:Int)≠0)).bind fun _=>(az s21.2.1 s21.2.2).bind fun x80=>(chk ((p1.2.1.length:Int)≠0)).bind fun _=>(gY (p0.1,p0.2) (p1.1,p1.2.1,p1.2.2) (C2 x79 (p1.2.1.length:Int)) (Int.tmod x80 (p1.2.1.length:Int))).bind fun r3=>ay (ai (fw p1 s21 r3) aD (s21.1,s21.2.1,0)) (fun r=>some (.ret r)) (fun s28=>some (.nxt (s28.1,s28.2.1,IntKind.i64.wrap (s21.2.2+1))))) else (some (.brk (s21.1,s21.2.1,s21.2.2)))
def j6 (p0:(List Int)×(List (Int×Int×Int×Int))) (p1:Int×(List Bool)×(List (List Int))) (p2:Int):Option (List Int):=
 ay (ai (fv p0 p1) aD (([] :List Int),0)) (fun r=>some r) (fun s4=>(az ([IntKind.i64.wrap ((IntKind.i64.wrap (p2*(p1.2.1.length:Int)))+p1.1)]) 0).bind fun x1=>(az s4.1 x1).bind fun x2=>ay (ai (fx p0 p1) aD (s4.1.set x1.toNat 0,[IntKind.i64.wrap ((IntKind.i64.wrap (p2*(p1.2.1.length:Int)))+p1.1)],0)) (fun r=>some r) (fun s22=>some s22.1))
def dW (p1a:Int×(List Bool)×(List (List Int))) (r1:Int) (s3:Int):Option (Out Bool Int):=
 if decide (s3<(p1a.2.1.length:Int)) then ((chk (0≤s3)).bind fun _=>if (pC (lU r1 s3) 1)==1 then ((az p1a.2.1 s3).bind fun x4=>if x4 then (some (.ret true)) else (some (.nxt (IntKind.i64.wrap (s3+1))))) else (some (.nxt (IntKind.i64.wrap (s3+1))))) else (some (.brk s3))
def gl (p0g:(List Int)×(List (Int×Int×Int×Int))) (p1a:Int×(List Bool)×(List (List Int))) (p2node:Int) (p3s:Int):Option Bool:=
 (az p0g.1 p2node).bind fun x1=>(dA (p1a.1,p1a.2.1,p1a.2.2) p3s x1).bind fun r1=>ay (ai (dW p1a r1) aD 0) (fun r=>some r) (fun s4=>some false)
def j7 (p0m:Int) (s5:(List Int)×Int):Option (Out (List Int) ((List Int)×Int)):=
 if decide (s5.2<30) then (Option.bind (((chk (0≤s5.2)).bind fun _=>if (pC (lU p0m s5.2) 1)==1 then ((cC 8 s5.1 ([s5.2])).bind fun z6=>some z6) else (some s5.1):Option (List Int))) (fun s7=>some (.nxt (s7,IntKind.i64.wrap (s5.2+1))))) else (some (.brk (s5.1,s5.2)))
def rY (p0m:Int):Option (List Int):=
 ay (ai (j7 p0m) aD (([] :List Int),0)) (fun r=>some r) (fun s6=>some s6.1)
def gm (p0g:(List Int)×(List (Int×Int×Int×Int))) (p1a:Int×(List Bool)×(List (List Int))) (r1:List Int) (s5:Int×Int):Option (Out (List Int) (Int×Int)):=
 if decide (s5.2<(r1.length:Int)) then (Option.bind (((az r1 s5.2).bind fun x6=>if decide (x6≥0) then ((chk ((p1a.2.1.length:Int)≠0)).bind fun _=>(chk ((p1a.2.1.length:Int)≠0)).bind fun _=>(gl (p0g.1,p0g.2) (p1a.1,p1a.2.1,p1a.2.2) (C2 s5.2 (p1a.2.1.length:Int)) (Int.tmod s5.2 (p1a.2.1.length:Int))).bind fun r7=>if r7 then ((chk ((p1a.2.1.length:Int)≠0)).bind fun _=>(chk (0≤C2 s5.2 (p1a.2.1.length:Int))).bind fun _=>some (orI s5.1 (sV 1 (C2 s5.2 (p1a.2.1.length:Int))))) else (some s5.1)) else (some s5.1):Option Int)) (fun s7=>some (.nxt (s7,IntKind.i64.wrap (s5.2+1))))) else (some (.brk (s5.1,s5.2)))
def lB (p0g:(List Int)×(List (Int×Int×Int×Int))) (p1a:Int×(List Bool)×(List (List Int))) (p2source:Int):Option (List Int):=
 (j6 (p0g.1,p0g.2) (p1a.1,p1a.2.1,p1a.2.2) p2source).bind fun r1=>ay (ai (gm p0g p1a r1) aD (0,0)) (fun r=>some r) (fun s6=>(rY s6.1).bind fun r8=>some r8)
def jo (s11:(List (Int×Int))×Int) (r6:List Int) (s15:(List (Int×Int))×Int):Option (Out (List (Int×Int)) ((List (Int×Int))×Int)):=
 if decide (s15.2<(r6.length:Int)) then ((az r6 s15.2).bind fun x9=>(cC 16 s15.1 ([(s11.2,x9)])).bind fun z9=>some (.nxt (z9,IntKind.i64.wrap (s15.2+1)))) else (some (.brk (s15.1,s15.2)))
def b7 (p0g:(List Int)×(List (Int×Int×Int×Int))) (p1a:Int×(List Bool)×(List (List Int))) (s11:(List (Int×Int))×Int):Option (Out (List (Int×Int)) ((List (Int×Int))×Int)):=
 if decide (s11.2<(p0g.1.length:Int)) then ((gO (p0g.1,p0g.2) (p1a.1,p1a.2.1,p1a.2.2) 0 0).bind fun r5=>if r5 then ((lB (p0g.1,p0g.2) (p1a.1,p1a.2.1,p1a.2.2) s11.2).bind fun r6=>ay (ai (jo s11 r6) aD (s11.1,0)) (fun r=>some (.ret r)) (fun s16=>some (.nxt (s16.1,IntKind.i64.wrap (s11.2+1))))) else (some (.brk (s11.1,s11.2)))) else (some (.brk (s11.1,s11.2)))
def gp (p0g:(List Int)×(List (Int×Int×Int×Int))) (p1a:Int×(List Bool)×(List (List Int))):Option (List (Int×Int)):=
 ay (ai (b7 p0g p1a) aD (([] :List (Int×Int)),0)) (fun r=>some r) (fun s12=>some s12.1)
def gz (p0r:(List (Int×(List Bool)×(List (List Int))))×(List (Int×((List (Int×Int×Int×Int)))×Int))) (p1g:(List Int)×(List (Int×Int×Int×Int))) (p2id:Int):Option ((List (Int×Int))×Bool):=
 (dn (p0r.1,p0r.2) p2id).bind fun r1=>if r1.2 then ((bV (p1g.1,p1g.2)).bind fun r2=>if r2 then ((gp (p1g.1,p1g.2) (r1.1.1,r1.1.2.1,r1.1.2.2)).bind fun r3=>some (r3,true)) else (some (([] :List (Int×Int)),false))) else (some (([] :List (Int×Int)),false))
def jL (p0a:List Bool) (s3:(List Bool)×Int):Option (Out (List Bool) ((List Bool)×Int)):=
 if decide (s3.2<(p0a.length:Int)) then ((az p0a s3.2).bind fun x6=>(az s3.1 s3.2).bind fun x7=>some (.nxt (s3.1.set s3.2.toNat x6,IntKind.i64.wrap (s3.2+1)))) else (some (.brk (s3.1,s3.2)))
def nC (p0a:List Bool):Option (List Bool):=
 (mkI 1 (p0a.length:Int) (false:Bool)).bind fun x1=>ay (ai (jL p0a) aD (x1,0)) (fun r=>some r) (fun s4=>some s4.1)
def kP (p0a:List Int) (s3:(List Int)×Int):Option (Out (List Int) ((List Int)×Int)):=
 if decide (s3.2<(p0a.length:Int)) then ((az p0a s3.2).bind fun x6=>(az s3.1 s3.2).bind fun x7=>some (.nxt (s3.1.set s3.2.toNat x6,IntKind.i64.wrap (s3.2+1)))) else (some (.brk (s3.1,s3.2)))
def mQ (p0a:List Int):Option (List Int):=
 (mkI 8 (p0a.length:Int) (0:Int)).bind fun x1=>ay (ai (kP p0a) aD (x1,0)) (fun r=>some r) (fun s4=>some s4.1)
def jM (p0a:List (List Int)) (s3:(List (List Int))×Int):Option (Out (List (List Int)) ((List (List Int))×Int)):=
 if decide (s3.2<(p0a.length:Int)) then ((az p0a s3.2).bind fun x6=>(mQ x6).bind fun r6=>(az s3.1 s3.2).bind fun x7=>some (.nxt (s3.1.set s3.2.toNat r6,IntKind.i64.wrap (s3.2+1)))) else (some (.brk (s3.1,s3.2)))
def nD (p0a:List (List Int)):Option (List (List Int)):=
 (mkI 24 (p0a.length:Int) ([] :List Int)).bind fun x1=>ay (ai (jM p0a) aD (x1,0)) (fun r=>some r) (fun s4=>some s4.1)
def iI (p0a:Int×(List Bool)×(List (List Int))):Option (Int×(List Bool)×(List (List Int))):=
 (nC p0a.2.1).bind fun r1=>(nD p0a.2.2).bind fun r2=>some (p0a.1,r1,r2)
def eA (p0a:List (Int×(List Bool)×(List (List Int)))) (s3:(List (Int×(List Bool)×(List (List Int))))×Int):Option (Out (List (Int×(List Bool)×(List (List Int)))) ((List (Int×(List Bool)×(List (List Int))))×Int)):=
 if decide (s3.2<(p0a.length:Int)) then ((az p0a s3.2).bind fun x6=>(iI (x6.1,x6.2.1,x6.2.2)).bind fun r9=>(az s3.1 s3.2).bind fun x7=>some (.nxt (s3.1.set s3.2.toNat (r9.1,r9.2.1,r9.2.2),IntKind.i64.wrap (s3.2+1)))) else (some (.brk (s3.1,s3.2)))
def gA (p0a:List (Int×(List Bool)×(List (List Int)))):Option (List (Int×(List Bool)×(List (List Int)))):=
 (mkI 56 (p0a.length:Int) ((0,[],[]):Int×(List Bool)×(List (List Int)))).bind fun x1=>ay (ai (eA p0a) aD (x1,0)) (fun r=>some r) (fun s4=>some s4.1)
def nE (p0a:Int×Int×Int×Int):Option (Int×Int×Int×Int):=
 some (p0a.1,p0a.2.1,p0a.2.2.1,p0a.2.2.2)
def iJ (p0a:List (Int×Int×Int×Int)) (s3:(List (Int×Int×Int×Int))×Int):Option (Out (List (Int×Int×Int×Int)) ((List (Int×Int×Int×Int))×Int)):=
 if decide (s3.2<(p0a.length:Int)) then ((az p0a s3.2).bind fun x6=>(nE (x6.1,x6.2.1,x6.2.2.1,x6.2.2.2)).bind fun r3=>(az s3.1 s3.2).bind fun x7=>some (.nxt (s3.1.set s3.2.toNat (r3.1,r3.2.1,r3.2.2.1,r3.2.2.2),IntKind.i64.wrap (s3.2+1)))) else (some (.brk (s3.1,s3.2)))
def mb (p0a:List (Int×Int×Int×Int)):Option (List (Int×Int×Int×Int)):=
 (mkI 32 (p0a.length:Int) ((0,0,0,0):Int×Int×Int×Int)).bind fun x1=>ay (ai (iJ p0a) aD (x1,0)) (fun r=>some r) (fun s4=>some s4.1)
def pR (p0a:(List (Int×Int×Int×Int))):Option (List (Int×Int×Int×Int)):=
 (mb p0a).bind fun r1=>some r1
def gB (p0a:Int×((List (Int×Int×Int×Int)))×Int):Option (Int×((List (Int×Int×Int×Int)))×Int):=
 (pR p0a.2.1).bind fun r1=>some (p0a.1,r1,p0a.2.2)
def dK (p0a:List (Int×((List (Int×Int×Int×Int)))×Int)) (s3:(List (Int×((List (Int×Int×Int×Int)))×Int))×Int):Option (Out (List (Int×((List (Int×Int×Int×Int)))×Int)) ((List (Int×((List (Int×Int×Int×Int)))×Int))×Int)):=
 if decide (s3.2<(p0a.length:Int)) then ((az p0a s3.2).bind fun x6=>(gB (x6.1,x6.2.1,x6.2.2)).bind fun r6=>(az s3.1 s3.2).bind fun x7=>some (.nxt (s3.1.set s3.2.toNat (r6.1,r6.2.1,r6.2.2),IntKind.i64.wrap (s3.2+1)))) else (some (.brk (s3.1,s3.2)))
def fP (p0a:List (Int×((List (Int×Int×Int×Int)))×Int)):Option (List (Int×((List (Int×Int×Int×Int)))×Int)):=
 (mkI 40 (p0a.length:Int) ((0,[],0):Int×((List (Int×Int×Int×Int)))×Int)).bind fun x1=>ay (ai (dK p0a) aD (x1,0)) (fun r=>some r) (fun s4=>some s4.1)
def dB (p0a:(List (Int×(List Bool)×(List (List Int))))×(List (Int×((List (Int×Int×Int×Int)))×Int))):Option ((List (Int×(List Bool)×(List (List Int))))×(List (Int×((List (Int×Int×Int×Int)))×Int))):=
 (gA p0a.1).bind fun r1=>(fP p0a.2).bind fun r2=>some (r1,r2)
def pS (p0a:Int×Int×Int×Int):Option (Int×Int×Int×Int):=
 some (p0a.1,p0a.2.1,p0a.2.2.1,p0a.2.2.2)
def jN (p0a:List (Int×Int×Int×Int)) (s3:(List (Int×Int×Int×Int))×Int):Option (Out (List (Int×Int×Int×Int)) ((List (Int×Int×Int×Int))×Int)):=
 if decide (s3.2<(p0a.length:Int)) then ((az p0a s3.2).bind fun x6=>(pS (x6.1,x6.2.1,x6.2.2.1,x6.2.2.2)).bind fun r3=>(az s3.1 s3.2).bind fun x7=>some (.nxt (s3.1.set s3.2.toNat (r3.1,r3.2.1,r3.2.2.1,r3.2.2.2),IntKind.i64.wrap (s3.2+1)))) else (some (.brk (s3.1,s3.2)))
def nF (p0a:List (Int×Int×Int×Int)):Option (List (Int×Int×Int×Int)):=
 (mkI 32 (p0a.length:Int) ((0,0,0,0):Int×Int×Int×Int)).bind fun x1=>ay (ai (jN p0a) aD (x1,0)) (fun r=>some r) (fun s4=>some s4.1)
def gP (p0a:(List Int)×(List (Int×Int×Int×Int))):Option ((List Int)×(List (Int×Int×Int×Int))):=
 (mQ p0a.1).bind fun r1=>(nF p0a.2).bind fun r2=>some (r1,r2)
def aM (p0s:List (Int×((List (Int×Int×Int×Int)))×Int)) (p1f:(Int×((List (Int×Int×Int×Int)))×Int)→Option Bool) (s3:Int):Option (Out Int Int):=
 if decide (s3<(p0s.length:Int)) then ((az p0s s3).bind fun x3=>(p1f (x3.1,x3.2.1,x3.2.2)).bind fun r6=>if r6 then (some (.ret s3)) else (some (.nxt (IntKind.i64.wrap (s3+1))))) else (some (.brk s3))
def bd (p0s:List (Int×((List (Int×Int×Int×Int)))×Int)) (p1f:(Int×((List (Int×Int×Int×Int)))×Int)→Option Bool):Option Int:=
 ay (ai (aM p0s p1f) aD 0) (fun r=>some r) (fun s4=>some (-1))
def iK (p0q:Int×((List (Int×Int×Int×Int)))×Int) (q0:Int):Option Bool:=
 some (p0q.1==q0)
def kQ (p0r:(List (Int×(List Bool)×(List (List Int))))×(List (Int×((List (Int×Int×Int×Int)))×Int))) (p1id:Int):Option Int:=
 (bd p0r.2 (fun a0=>iK a0 p1id)).bind fun r1=>some r1
def bI (p0n:Int) (p1a:Int) (p2b:Int):Option Bool:=
 if decide (p0n≥p1a) then (some (decide (p0n≤p2b))) else (some false)
def gZ (p0n:Int):Option Bool:=
 (bI p0n 0 8).bind fun r1=>some r1
def nG (p0t:Int×Int×Int×Int):Option Bool:=
 if p0t.1==3 then ((gZ p0t.2.1).bind fun r3=>if r3 then (if p0t.2.2.1==0 then (some (p0t.2.2.2==0)) else (some false)) else (some false)) else (if p0t.1==7 then (if p0t.2.1==0 then ((bI p0t.2.2.1 0 p0t.2.2.2).bind fun r1=>if r1 then ((bI p0t.2.2.2 1 3).bind fun r2=>some r2) else (some false)) else (some false)) else (Option.bind ((if p0t.1==1 then (some (p0t.1==1)) else (if p0t.1==2 then (some (p0t.1==2)) else (if p0t.1==4 then (some (p0t.1==4)) else (if p0t.1==5 then (some (p0t.1==5)) else (some (p0t.1==6))))):Option Bool)) (fun s1=>if s1 then (some ((p0t.1==p0t.1)&&((p0t.2.1==0)&&((p0t.2.2.1==0)&&((p0t.2.2.2==0)&&true))))) else (some false))))
def nH (p0e:List (Int×Int×Int×Int)) (s1:(List (Tr (Int×Int×Int×Int)))×Int):Option (Out (Tr (Int×Int×Int×Int)) ((List (Tr (Int×Int×Int×Int)))×Int)):=
 if decide (s1.2<(p0e.length:Int)) then ((az p0e s1.2).bind fun x2=>Option.bind ((Option.bind ((if x2.1==4 then (some (x2.1==4)) else (some (x2.1==5)):Option Bool)) (fun s3=>if s3 then (some 2) else (Option.bind ((if x2.1==6 then (some (x2.1==6)) else (some (x2.1==7)):Option Bool)) (fun s4=>if s4 then (some 1) else (some 0)))):Option Int)) (fun s5=>(nG (x2.1,x2.2.1,x2.2.2.1,x2.2.2.2)).bind fun r6=>if r6 then (if decide ((IntKind.i64.wrap ((s1.1.length:Int) - s5))<0) then (some (.ret Tr.nil)) else ((chk (And (0≤(IntKind.i64.wrap ((s1.1.length:Int) - s5))) ((IntKind.i64.wrap ((s1.1.length:Int) - s5))≤(s1.1.length:Int)))).bind fun _=>(cC 8 ([] :List (Tr (Int×Int×Int×Int))) (s1.1.drop ((IntKind.i64.wrap ((s1.1.length:Int) - s5)).toNat))).bind fun z10=>(chk (And (0≤(IntKind.i64.wrap ((s1.1.length:Int) - s5))) ((IntKind.i64.wrap ((s1.1.length:Int) - s5))≤(s1.1.length:Int)))).bind fun _=>(cC 8 (s1.1.take ((IntKind.i64.wrap ((s1.1.length:Int) - s5)).toNat)) ([Tr.node (x2.1,x2.2.1,x2.2.2.1,x2.2.2.2) z10])).bind fun z12=>some (.nxt (z12,IntKind.i64.wrap (s1.2+1))))) else (some (.ret Tr.nil)))) else (some (.brk (s1.1,s1.2)))
def k9 (p0e:List (Int×Int×Int×Int)):Option (Tr (Int×Int×Int×Int)):=
 ay (ai (nH p0e) aD (([] :List (Tr (Int×Int×Int×Int))),0)) (fun r13=>some r13) (fun s14=>if (s14.1.length:Int) !=1 then (some Tr.nil) else ((az s14.1 0).bind fun x15=>some x15))
def pT (p0e:List (Int×Int×Int×Int)):Option Bool:=
 (k9 p0e).bind fun r0=>some (cond.match_1 (fun (u4:Bool)=>Bool) (Tr.isNil r0) (fun (u5:Unit)=>false) (fun (u6:Unit)=>true))
def iL (p0e:(List (Int×Int×Int×Int))):Option Bool:=
 if decide ((p0e.length:Int)≤24) then ((pT p0e).bind fun r1=>some r1) else (some false)
def aU (mrec:(Tr (Int×Int×Int×Int))→Option Int) (p0x:Tr (Int×Int×Int×Int)) (z1:(Int×Int×Int×Int)×List (Tr (Int×Int×Int×Int))) (s3:Int×Int):Option (Out Int (Int×Int)):=
 if decide (s3.2<(z1.2.length:Int)) then (Option.bind (((az z1.2 s3.2).bind fun x4=>(Tr.get p0x).bind fun z5=>(Tr.get p0x).bind fun z6=>if z6.1.1==7 then ((mrec x4).bind fun r10=>(Tr.get p0x).bind fun z11=>(Tr.get p0x).bind fun z12=>some (IntKind.i64.wrap (s3.1+(IntKind.i64.wrap ((IntKind.i64.wrap (r10+3))*z12.1.2.2.2))))) else ((mrec x4).bind fun r13=>some (IntKind.i64.wrap (s3.1+r13))):Option Int)) (fun s14=>some (.nxt (s14,IntKind.i64.wrap (s3.2+1))))) else (some (.brk (s3.1,s3.2)))
def bc:Nat→(Tr (Int×Int×Int×Int))→Option Int
 | 0,_=>none
 | n+1,p0x =>
  (Tr.get p0x).bind fun z0=>(Tr.get p0x).bind fun z1=>ay (ai (aU (bc n) p0x z1) aD (1,0)) (fun r15=>some r15) (fun s16=>some (Min.min s16.1 100000))
def Ah (p0kind:Int):Option (Tr (Int×Int×Int×Int)):=
 some (Tr.node (p0kind,0,0,0) ([] :List (Tr (Int×Int×Int×Int))))
def hO:Nat→(Tr (Int×Int×Int×Int))→Int→Int→Option (Tr (Int×Int×Int×Int))
 | 0,_,_,_=>none
 | n+1,p0x,p1low,p2high =>
  if p2high==0 then ((Ah 2).bind fun r0=>some r0) else (((hO n) p0x (Max.max 0 (IntKind.i64.wrap (p1low - 1))) (IntKind.i64.wrap (p2high - 1))).bind fun r1=>if decide (p1low>0) then (some (Tr.node (4,0,0,0) ([p0x,r1]))) else ((Ah 2).bind fun r2=>some (Tr.node (5,0,0,0) ([Tr.node (4,0,0,0) ([p0x,r1]),r2]))))
def aN (mrec:(Tr (Int×Int×Int×Int))→Option (Tr (Int×Int×Int×Int))) (z23:(Int×Int×Int×Int)×List (Tr (Int×Int×Int×Int))) (s26:Int×Int×Int×Int×Int×List (Tr (Int×Int×Int×Int))):Option (Out (Tr (Int×Int×Int×Int)) (Int×Int×Int×Int×Int×List (Tr (Int×Int×Int×Int)))):=
 if decide (s26.1<(z23.2.length:Int)) then ((az z23.2 s26.1).bind fun x27=>(mrec x27).bind fun r30=>(cC 8 s26.2.2.2.2.2 ([r30])).bind fun z31=>some (.nxt (IntKind.i64.wrap (s26.1+1),s26.2.1,s26.2.2.1,s26.2.2.2.1,s26.2.2.2.2.1,z31))) else (some (.brk (s26.1,s26.2.1,s26.2.2.1,s26.2.2.2.1,s26.2.2.2.2.1,s26.2.2.2.2.2)))
def aR:Nat→(Tr (Int×Int×Int×Int))→Option (Tr (Int×Int×Int×Int))
 | 0,_=>none
 | n+1,p0x =>
  (Tr.get p0x).bind fun z0=>(Tr.get p0x).bind fun z1=>if z1.1.1==7 then ((Tr.get p0x).bind fun z11=>(Tr.get p0x).bind fun z12=>(az z12.2 0).bind fun x13=>((aR n) x13).bind fun r14=>(Tr.get p0x).bind fun z15=>(Tr.get p0x).bind fun z16=>(Tr.get p0x).bind fun z17=>(Tr.get p0x).bind fun z18=>(hO eK r14 z16.1.2.2.1 z18.1.2.2.2).bind fun r19=>some r19) else ((Tr.get p0x).bind fun z20=>(Tr.get p0x).bind fun z21=>(Tr.get p0x).bind fun z22=>(Tr.get p0x).bind fun z23=>ay (ai (aN (aR n) z23) aD (0,z21.1.1,z21.1.2.1,z21.1.2.2.1,z21.1.2.2.2,([] :List (Tr (Int×Int×Int×Int))))) (fun r32=>some r32) (fun s33=>some (Tr.node (s33.2.1,s33.2.2.1,s33.2.2.2.1,s33.2.2.2.2.1) s33.2.2.2.2.2)))
def aL (mrec:(Tr (Int×Int×Int×Int))→(List (Int×Int×Int×Int))→Option (List (Int×Int×Int×Int))) (z1:(Int×Int×Int×Int)×List (Tr (Int×Int×Int×Int))) (s4:Int×List (Int×Int×Int×Int)):Option (Out (List (Int×Int×Int×Int)) (Int×List (Int×Int×Int×Int))):=
 if decide (s4.1<(z1.2.length:Int)) then ((az z1.2 s4.1).bind fun x5=>(mrec x5 s4.2).bind fun r6=>some (.nxt (IntKind.i64.wrap (s4.1+1),r6))) else (some (.brk (s4.1,s4.2)))
def aP:Nat→(Tr (Int×Int×Int×Int))→(List (Int×Int×Int×Int))→Option (List (Int×Int×Int×Int))
 | 0,_,_=>none
 | n+1,p0x,p1out =>
  (Tr.get p0x).bind fun z0=>(Tr.get p0x).bind fun z1=>ay (ai (aL (aP n) z1) aD (0,p1out)) (fun r7=>some r7) (fun s8=>(Tr.get p0x).bind fun z12=>(Tr.get p0x).bind fun z13=>(cC 32 s8.2 ([(z13.1.1,z13.1.2.1,z13.1.2.2.1,z13.1.2.2.2)])).bind fun z14=>some z14)
def nI (p0x:Tr (Int×Int×Int×Int)):Option (List (Int×Int×Int×Int)):=
 (aP eK p0x ([] :List (Int×Int×Int×Int))).bind fun r0=>some r0
def jO (p0e:List (Int×Int×Int×Int)):Option ((List (Int×Int×Int×Int))×Bool):=
 (iL p0e).bind fun r0=>if r0 then ((k9 p0e).bind fun r1=>(bc eK r1).bind fun r2=>if decide (r2>5000) then (some (([] :List (Int×Int×Int×Int)),false)) else ((aR eK r1).bind fun r3=>(nI r3).bind fun r4=>if decide ((r4.length:Int)>400) then (some (([] :List (Int×Int×Int×Int)),false)) else (some (r4,true)))) else (some (([] :List (Int×Int×Int×Int)),false))
def bQ (p0p:(List Int)×Int×Int×(List Int)×Bool) (p1last:Int) (p2first:Int) (s2:Int×List Int):Option (Out ((List Int)×Int×Int×(List Int)×Bool) (Int×List Int)):=
 if decide (s2.1<(p0p.2.2.2.1.length:Int)) then (Option.bind (((chk (0≤s2.1)).bind fun _=>if (pC (lU p1last s2.1) 1)==1 then ((az s2.2 s2.1).bind fun x4=>(az s2.2 s2.1).bind fun x5=>some (s2.2.set s2.1.toNat (orI x4 p2first))) else (some s2.2):Option (List Int))) (fun s6=>some (.nxt (IntKind.i64.wrap (s2.1+1),s6)))) else (some (.brk (s2.1,s2.2)))
def cz (p0p:(List Int)×Int×Int×(List Int)×Bool) (p1last:Int) (p2first:Int):Option ((List Int)×Int×Int×(List Int)×Bool):=
 ay (ai (bQ p0p p1last p2first) aD (0,p0p.2.2.2.1)) (fun r7=>some r7) (fun s8=>some (p0p.1,p0p.2.1,p0p.2.2.1,s8.2,p0p.2.2.2.2))
def aS:Nat→((List Int)×Int×Int×(List Int)×Bool)→(Tr (Int×Int×Int×Int))→Option ((Int×Int×Bool)×(List Int)×Int×Int×(List Int)×Bool)
 | 0,_,_=>none
 | n+1,p0,p1 =>
  (Tr.get p1).bind fun z0=>(Tr.get p1).bind fun z1=>if z1.1.1==2 then (some ((0,0,true),p0.1,p0.2.1,p0.2.2.1,p0.2.2.2.1,p0.2.2.2.2)) else (if z1.1.1==3 then ((Tr.get p1).bind fun z5=>(Tr.get p1).bind fun z6=>(cC 8 p0.1 ([z6.1.2.1])).bind fun z7=>(cC 8 p0.2.2.2.1 ([0])).bind fun z8=>some ((sV 1 (p0.1.length:Int),sV 1 (p0.1.length:Int),false),z7,p0.2.1,p0.2.2.1,z8,p0.2.2.2.2)) else (if z1.1.1==5 then ((Tr.get p1).bind fun z17=>(Tr.get p1).bind fun z18=>(az z18.2 0).bind fun x19=>((aS n) (p0.1,p0.2.1,p0.2.2.1,p0.2.2.2.1,p0.2.2.2.2) x19).bind fun r20=>(Tr.get p1).bind fun z21=>(Tr.get p1).bind fun z22=>(az z22.2 1).bind fun x23=>((aS n) r20.2 x23).bind fun r24=>if r20.1.2.2 then (some ((orI r20.1.1 r24.1.1,orI r20.1.2.1 r24.1.2.1,true),r24.2.1,r24.2.2.1,r24.2.2.2.1,r24.2.2.2.2.1,r24.2.2.2.2.2)) else (some ((orI r20.1.1 r24.1.1,orI r20.1.2.1 r24.1.2.1,r24.1.2.2),r24.2.1,r24.2.2.1,r24.2.2.2.1,r24.2.2.2.2.1,r24.2.2.2.2.2))) else (if z1.1.1==4 then ((Tr.get p1).bind fun z33=>(Tr.get p1).bind fun z34=>(az z34.2 0).bind fun x35=>((aS n) (p0.1,p0.2.1,p0.2.2.1,p0.2.2.2.1,p0.2.2.2.2) x35).bind fun r36=>(Tr.get p1).bind fun z37=>(Tr.get p1).bind fun z38=>(az z38.2 1).bind fun x39=>((aS n) r36.2 x39).bind fun r40=>(cz (r40.2.1,r40.2.2.1,r40.2.2.2.1,r40.2.2.2.2.1,r40.2.2.2.2.2) r36.1.2.1 r40.1.1).bind fun r41=>if r36.1.2.2 then (Option.bind ((if r36.1.2.2 then (some (orI r36.1.1 r40.1.1,r40.1.2.1,r40.1.2.2)) else (some (r36.1.1,r40.1.2.1,r40.1.2.2)):Option (Int×Int×Bool))) (fun s42=>Option.bind ((if r40.1.2.2 then (some (s42.1,orI s42.2.1 r36.1.2.1,s42.2.2)) else (some (s42.1,s42.2.1,s42.2.2)):Option (Int×Int×Bool))) (fun s43=>some ((s43.1,s43.2.1,s43.2.2),r41.1,r41.2.1,r41.2.2.1,r41.2.2.2.1,r41.2.2.2.2)))) else (Option.bind ((if r36.1.2.2 then (some (orI r36.1.1 r40.1.1,r40.1.2.1,false)) else (some (r36.1.1,r40.1.2.1,false)):Option (Int×Int×Bool))) (fun s44=>Option.bind ((if r40.1.2.2 then (some (s44.1,orI s44.2.1 r36.1.2.1,s44.2.2)) else (some (s44.1,s44.2.1,s44.2.2)):Option (Int×Int×Bool))) (fun s45=>some ((s45.1,s45.2.1,s45.2.2),r41.1,r41.2.1,r41.2.2.1,r41.2.2.2.1,r41.2.2.2.2))))) else (if z1.1.1==6 then ((Tr.get p1).bind fun z46=>(Tr.get p1).bind fun z47=>(az z47.2 0).bind fun x48=>((aS n) (p0.1,p0.2.1,p0.2.2.1,p0.2.2.2.1,p0.2.2.2.2) x48).bind fun r49=>(cz (r49.2.1,r49.2.2.1,r49.2.2.2.1,r49.2.2.2.2.1,r49.2.2.2.2.2) r49.1.2.1 r49.1.1).bind fun r50=>some ((r49.1.1,r49.1.2.1,true),r50.1,r50.2.1,r50.2.2.1,r50.2.2.2.1,r50.2.2.2.2)) else (some ((0,0,false),p0.1,p0.2.1,p0.2.2.1,p0.2.2.2.1,p0.2.2.2.2))))))
def cr (r0:(List (Int×Int×Int×Int))×Bool) (s2:Int×Int):Option (Out (((List Int)×Int×Int×(List Int)×Bool)×Bool) (Int×Int)):=
 if decide (s2.2<(r0.1.length:Int)) then (Option.bind (((az r0.1 s2.2).bind fun x3=>if x3.1==3 then (some (IntKind.i64.wrap (s2.1+1))) else (some s2.1):Option Int)) (fun s4=>some (.nxt (s4,IntKind.i64.wrap (s2.2+1))))) else (some (.brk (s2.1,s2.2)))
def eV (p0e:List (Int×Int×Int×Int)):Option (((List Int)×Int×Int×(List Int)×Bool)×Bool):=
 (jO p0e).bind fun r0=>if r0.2 then (ay (ai (cr r0) aD (0,0)) (fun r5=>some r5) (fun s6=>if decide (s6.1>20) then (some ((([] :List Int),0,0,([] :List Int),false),false)) else ((k9 r0.1).bind fun r7=>(aS eK (([] :List Int),0,0,([] :List Int),false) r7).bind fun r8=>some ((r8.2.1,r8.1.1,r8.1.2.1,r8.2.2.2.2.1,r8.1.2.2),true)))) else (some ((([] :List Int),0,0,([] :List Int),false),false))
def cQ (p3:Int→Int→Option (Int×Bool)) (s29:(List Int)×(List (Int×Int))×Int×Int×(List Bool)×(List (List Int))) (s39:(List Int)×(List (Int×Int))×(List Int)×Int):Option (Out ((Int×(List Bool)×(List (List Int)))×Bool) ((List Int)×(List (Int×Int))×(List Int)×Int)):=
 if decide (s39.2.2.2<9) then (Option.bind (((az s39.1 s29.2.2.1).bind fun x20=>(p3 x20 s39.2.2.2).bind fun r20=>if r20.2 then ((chk (iOk r20.1=true)).bind fun _=>Option.bind ((if (lkM s39.2.1 r20.1).isSome then (some (s39.1,s39.2.1,(lkM s39.2.1 r20.1).getD 0)) else ((HU s39.2.1 iOk iOk r20.1 (s39.1.length:Int)).bind fun m37=>(cC 8 s39.1 ([r20.1])).bind fun z75=>some (z75,m37,(s39.1.length:Int))):Option ((List Int)×(List (Int×Int))×Int))) (fun s43=>(cC 8 s39.2.2.1 ([s43.2.2])).bind fun z76=>some (s43.1,s43.2.1,z76))) else ((cC 8 s39.2.2.1 ([-1])).bind fun z73=>some (s39.1,s39.2.1,z73)):Option ((List Int)×(List (Int×Int))×(List Int)))) (fun s42=>some (.nxt (s42.1,s42.2.1,s42.2.2,IntKind.i64.wrap (s39.2.2.2+1))))) else (some (.brk (s39.1,s39.2.1,s39.2.2.1,s39.2.2.2)))
def bq (p1:Int) (p2:Int→Option Bool) (p3:Int→Int→Option (Int×Bool)) (s29:(List Int)×(List (Int×Int))×Int×Int×(List Bool)×(List (List Int))):Option (Out ((Int×(List Bool)×(List (List Int)))×Bool) ((List Int)×(List (Int×Int))×Int×Int×(List Bool)×(List (List Int)))):=
 if decide (s29.2.2.1<(s29.1.length:Int)) then (ay (ai (cQ p3 s29) aD (s29.1,s29.2.1,([] :List Int),0)) (fun r=>some (.ret r)) (fun s40=>if decide ((s40.1.length:Int)>p1) then (some (.ret ((0,[],[]),false))) else ((az s40.1 s29.2.2.1).bind fun x21=>(p2 x21).bind fun r21=>(cC 1 s29.2.2.2.2.1 ([r21])).bind fun z77=>(cC 24 s29.2.2.2.2.2 ([s40.2.2.1])).bind fun z78=>some (.nxt (s40.1,s40.2.1,IntKind.i64.wrap (s29.2.2.1+1),s29.2.2.2.1,z77,z78))))) else (some (.brk (s29.1,s29.2.1,s29.2.2.1,s29.2.2.2.1,s29.2.2.2.2.1,s29.2.2.2.2.2)))
def df (p0:Int) (p1:Int) (p2:Int→Option Bool) (p3:Int→Int→Option (Int×Bool)):Option ((Int×(List Bool)×(List (List Int)))×Bool):=
 (HU ([] :List (Int×Int)) iOk iOk p0 0).bind fun m1=>ay (ai (bq p1 p2 p3) aD ([p0],m1,0,0,[],[])) (fun r=>some r) (fun s30=>some ((s30.2.2.2.1,s30.2.2.2.2.1,s30.2.2.2.2.2),true))
def ct (p0p:(List Int)×Int×Int×(List Int)×Bool) (p1set:Int):Option Bool:=
 if (pC p1set 1)==1 then (if p0p.2.2.2.2 then (some true) else (some ((pC (lU p1set 1) p0p.2.2.1) !=0))) else (some ((pC (lU p1set 1) p0p.2.2.1) !=0))
def bY (p0p:(List Int)×Int×Int×(List Int)×Bool) (p1set:Int) (s6:Int×Int):Option (Out Int (Int×Int)):=
 if decide (s6.2<(p0p.2.2.2.1.length:Int)) then (Option.bind (((az p0p.2.2.2.1 s6.2).bind fun x6=>(chk (0≤IntKind.i64.wrap (s6.2+1))).bind fun _=>if (pC (lU p1set (IntKind.i64.wrap (s6.2+1))) 1)==1 then (some (orI s6.1 x6)) else (some s6.1):Option Int)) (fun s8=>some (.nxt (s8,IntKind.i64.wrap (s6.2+1))))) else (some (.brk (s6.1,s6.2)))
def bZ (p0p:(List Int)×Int×Int×(List Int)×Bool) (p2letter:Int) (s7:Int×Int) (s13:Int×Int):Option (Out Int (Int×Int)):=
 if decide (s13.2<(p0p.1.length:Int)) then (Option.bind (((az p0p.1 s13.2).bind fun x12=>if x12==p2letter then ((chk (0≤s13.2)).bind fun _=>if (pC (lU s7.1 s13.2) 1)==1 then ((chk (0≤IntKind.i64.wrap (s13.2+1))).bind fun _=>some (orI s13.1 (sV 1 (IntKind.i64.wrap (s13.2+1))))) else (some s13.1)) else (some s13.1):Option Int)) (fun s15=>some (.nxt (s15,IntKind.i64.wrap (s13.2+1))))) else (some (.brk (s13.1,s13.2)))
def eB (p0p:(List Int)×Int×Int×(List Int)×Bool) (p1set:Int) (p2letter:Int):Option Int:=
 Option.bind ((if (pC p1set 1)==1 then (some p0p.2.1) else (some 0):Option Int)) (fun s1=>ay (ai (bY p0p p1set) aD (s1,0)) (fun r=>some r) (fun s7=>ay (ai (bZ p0p p2letter s7) aD (0,0)) (fun r=>some r) (fun s14=>some s14.1)))
def b8 (p0set:Int) (p1letter:Int) (q0:(List Int)×Int×Int×(List Int)×Bool):Option (Int×Bool):=
 (eB (q0.1,q0.2.1,q0.2.2.1,q0.2.2.2.1,q0.2.2.2.2) p0set p1letter).bind fun r1=>some (r1,r1 !=0)
def fy (p0p:(List Int)×Int×Int×(List Int)×Bool) (p1most:Int):Option ((Int×(List Bool)×(List (List Int)))×Bool):=
 (df 1 p1most (fun a0=>ct (p0p.1,p0p.2.1,p0p.2.2.1,p0p.2.2.2.1,p0p.2.2.2.2) a0) (fun a0 a1=>b8 a0 a1 (p0p.1,p0p.2.1,p0p.2.2.1,p0p.2.2.2.1,p0p.2.2.2.2))).bind fun r1=>some ((r1.1.1,r1.1.2.1,r1.1.2.2),r1.2)
def cv (s5:Bool×Int×List Bool) (x6:List Int) (s8:Bool×Int×List Bool):Option (Out (List Bool) (Bool×Int×List Bool)):=
 if decide (s8.2.1<(x6.length:Int)) then (Option.bind (((az x6 s8.2.1).bind fun x9=>if decide (x9≥0) then ((az s8.2.2 x9).bind fun x10=>if x10 then ((az s8.2.2 s5.2.1).bind fun x11=>if x11 then (some (s8.1,s8.2.2)) else ((az s8.2.2 s5.2.1).bind fun x12=>some (true,s8.2.2.set s5.2.1.toNat true))) else (some (s8.1,s8.2.2))) else (some (s8.1,s8.2.2)):Option (Bool×List Bool))) (fun s13=>some (.nxt (s13.1,IntKind.i64.wrap (s8.2.1+1),s13.2)))) else (some (.brk (s8.1,s8.2.1,s8.2.2)))
def cw (p0a:Int×(List Bool)×List (List Int)) (s5:Bool×Int×List Bool):Option (Out (List Bool) (Bool×Int×List Bool)):=
 if decide (s5.2.1<(p0a.2.2.length:Int)) then ((az p0a.2.2 s5.2.1).bind fun x6=>ay (ai (cv s5 x6) aD (s5.1,0,s5.2.2)) (fun r14=>some (.ret r14)) (fun s15=>some (.nxt (s15.1,IntKind.i64.wrap (s5.2.1+1),s15.2.2)))) else (some (.brk (s5.1,s5.2.1,s5.2.2)))
def fA (p0a:Int×(List Bool)×List (List Int)) (s3:Bool×List Bool):Option (Out (List Bool) (Bool×List Bool)):=
 if s3.1 then (ay (ai (cw p0a) aD (false,0,s3.2)) (fun r16=>some (.ret r16)) (fun s17=>some (.nxt (s17.1,s17.2.2)))) else (some (.brk (s3.1,s3.2)))
def dq (p0a:Int×(List Bool)×List (List Int)):Option (List Bool):=
 (cC 1 ([] :List Bool) p0a.2.1).bind fun z0=>ay (ai (fA p0a) aD (true,z0)) (fun r18=>some r18) (fun s19=>some s19.2)
def bz (p0s:List (List Int)) (p1f:(List Int)→Option Bool) (s3:Int):Option (Out Int Int):=
 if decide (s3<(p0s.length:Int)) then ((az p0s s3).bind fun x3=>(p1f x3).bind fun r6=>if r6 then (some (.ret s3)) else (some (.nxt (IntKind.i64.wrap (s3+1))))) else (some (.brk s3))
def bf (p0s:List (List Int)) (p1f:(List Int)→Option Bool):Option Int:=
 ay (ai (bz p0s p1f) aD 0) (fun r=>some r) (fun s4=>some (-1))
def bF (p0s1:List Int) (p1s2:List Int) (s3:Int):Option (Out Bool Int):=
 if decide (s3<(p0s1.length:Int)) then ((az p0s1 s3).bind fun x5=>(az p1s2 s3).bind fun x6=>if x5 !=x6 then (some (.ret false)) else (some (.nxt (IntKind.i64.wrap (s3+1))))) else (some (.brk s3))
def bX (p0s1:List Int) (p1s2:List Int):Option Bool:=
 if (p0s1.length:Int) !=(p1s2.length:Int) then (some false) else (ay (ai (bF p0s1 p1s2) aD 0) (fun r=>some r) (fun s4=>some true))
def eS (p0x:List Int) (q0:List Int):Option Bool:=
 (bX p0x q0).bind fun r1=>some r1
def bR (p1:List Int) (x57:List Int) (s52:Int×(List Int)):Option (Out ((List Int)×Int) (Int×(List Int))):=
 if decide (s52.1<(x57.length:Int)) then ((az x57 s52.1).bind fun x64=>Option.bind ((if decide (x64≥0) then ((az p1 x64).bind fun x66=>some x66) else (some x64):Option Int)) (fun s54=>(cC 8 s52.2 ([s54])).bind fun z38=>some (.nxt (IntKind.i64.wrap (s52.1+1),z38)))) else (some (.brk (s52.1,s52.2)))
def cD (p0:Int×(List Bool)×(List (List Int))) (p1:List Int) (s37:(List (List Int))×(List Int)×Int):Option (Out ((List Int)×Int) ((List (List Int))×(List Int)×Int)):=
 if decide (s37.2.2<(p1.length:Int)) then (Option.bind (((az p1 s37.2.2).bind fun x56=>if decide (x56<0) then ((cC 8 s37.2.1 ([-1])).bind fun z42=>some (s37.1,z42)) else ((az p0.2.2 s37.2.2).bind fun x57=>ay (ai (bR p1 x57) aD (0,[x56])) (fun _=>none) (fun s53=>(bf s37.1 (fun a0=>eS a0 s53.2)).bind fun r12=>Option.bind ((if decide (r12<0) then ((cC 24 s37.1 ([s53.2])).bind fun z40=>some (z40,(s37.1.length:Int))) else (some (s37.1,r12)):Option ((List (List Int))×Int))) (fun s55=>(cC 8 s37.2.1 ([s55.2])).bind fun z41=>some (s55.1,z41)))):Option ((List (List Int))×(List Int)))) (fun s47=>some (.nxt (s47.1,s47.2,IntKind.i64.wrap (s37.2.2+1))))) else (some (.brk (s37.1,s37.2.1,s37.2.2)))
def cA (p0:Int×(List Bool)×(List (List Int))) (p1:List Int):Option ((List Int)×Int):=
 ay (ai (cD p0 p1) aD (([] :List (List Int)),([] :List Int),0)) (fun r=>some r) (fun s38=>some (s38.2.1,(s38.1.length:Int)))
def bJ (p0a:Int×(List Bool)×(List (List Int))) (r1:List Bool) (s5:(List Int)×Int):Option (Out (List Int) ((List Int)×Int)):=
 if decide (s5.2<(r1.length:Int)) then (Option.bind (((az r1 s5.2).bind fun x11=>if x11 then ((az p0a.2.1 s5.2).bind fun x12=>if x12 then ((cC 8 s5.1 ([1])).bind fun z18=>some z18) else ((cC 8 s5.1 ([0])).bind fun z17=>some z17)) else ((cC 8 s5.1 ([-1])).bind fun z16=>some z16):Option (List Int))) (fun s7=>some (.nxt (s7,IntKind.i64.wrap (s5.2+1))))) else (some (.brk (s5.1,s5.2)))
def dX (p0a:Int×(List Bool)×(List (List Int))) (s10:(List Int)×Int):Option (Out (List Int) ((List Int)×Int)):=
 (cA (p0a.1,p0a.2.1,p0a.2.2) s10.1).bind fun r4=>if r4.2==s10.2 then (some (.ret r4.1)) else (some (.nxt (r4.1,r4.2)))
def cx (p0a:Int×(List Bool)×(List (List Int))):Option (List Int):=
 (dq (p0a.1,p0a.2.1,p0a.2.2)).bind fun r1=>ay (ai (bJ p0a r1) aD (([] :List Int),0)) (fun r=>some r) (fun s6=>ay (ai (dX p0a) aD (s6.1,-1)) (fun r=>some r) (fun s11=>none))
def qT (p0x:Int) (p1y:Int):Option (Int×Int):=
 some (IntKind.u32.wrap (lU (IntKind.u64.wrap ((IntKind.u64.wrap p0x)*(IntKind.u64.wrap p1y))) 32),IntKind.u32.wrap (IntKind.u64.wrap ((IntKind.u64.wrap p0x)*(IntKind.u64.wrap p1y))))
def lC (p0x:Int) (p1y:Int):Option (Int×Int):=
 some (IntKind.u64.wrap ((IntKind.u64.wrap ((IntKind.u64.wrap ((lU p0x 32)*(lU p1y 32)))+(lU (IntKind.u64.wrap ((IntKind.u64.wrap ((lU p0x 32)*(KT p1y 4294967295)))+(lU (IntKind.u64.wrap ((KT p0x 4294967295)*(KT p1y 4294967295))) 32))) 32)))+(lU (IntKind.u64.wrap ((KT (IntKind.u64.wrap ((IntKind.u64.wrap ((lU p0x 32)*(KT p1y 4294967295)))+(lU (IntKind.u64.wrap ((KT p0x 4294967295)*(KT p1y 4294967295))) 32))) 4294967295)+(IntKind.u64.wrap ((KT p0x 4294967295)*(lU p1y 32))))) 32)),IntKind.u64.wrap (p0x*p1y))
def mR (p0x:Int) (p1y:Int):Option (Int×Int):=
 (lC p0x p1y).bind fun r1=>some (r1.1,r1.2)
def j8 (s4:Int×List Int):Option (Out (List Int) (Int×List Int)):=
 if decide (s4.1<(s4.2.length:Int)) then ((chk (And (0≤s4.1) (s4.1≤(s4.2.length:Int)))).bind fun _=>(chk (And (0≤s4.1) (s4.1≤(s4.2.length:Int)))).bind fun _=>(chk (And (0≤s4.1) (s4.1≤(s4.2.length:Int)))).bind fun _=>(chk (And (0≤s4.1) (s4.1≤(s4.2.length:Int)))).bind fun _=>some (.nxt (IntKind.i64.wrap (s4.1+((Min.min ((s4.2.take s4.1.toNat).length) (s4.2.length - s4.1.toNat):Nat):Int)),xH s4.2 s4.1.toNat (s4.2.take s4.1.toNat)))) else (some (.brk (s4.1,s4.2)))
def br (p0x:List Int) (p1count:Int):Option (List Int):=
 if decide (p1count<0) then (none) else ((mR (IntKind.u64.wrap (p0x.length:Int)) (IntKind.u64.wrap p1count)).bind fun r0=>if decide (r0.1>0) then (none) else (if decide (r0.2>9223372036854775807) then (none) else ((mkI 8 (IntKind.i64.wrap r0.2) 0).bind fun z1=>ay (ai (j8) aD (((Min.min p0x.length (z1.length - 0):Nat):Int),xH z1 0 p0x)) (fun r13=>some r13) (fun s14=>some s14.2))))
def qU:Option (Int×(List Bool)×(List (List Int))):=
 (br ([-1]) 9).bind fun r1=>some (0,[false],[r1])
def cy (p0s:List Int) (p1v:Int) (s3:Int):Option (Out Int Int):=
 if decide (s3<(p0s.length:Int)) then ((az p0s s3).bind fun x3=>if p1v==x3 then (some (.ret s3)) else (some (.nxt (IntKind.i64.wrap (s3+1))))) else (some (.brk s3))
def da (p0s:List Int) (p1v:Int):Option Int:=
 ay (ai (cy p0s p1v) aD 0) (fun r=>some r) (fun s4=>some (-1))
def aJ (p0class:Int) (q0:List Int):Option Int:=
 (da q0 p0class).bind fun r1=>some r1
def bK (p0c:Int) (q0:Int×(List Bool)×(List (List Int))) (q1:Int→Option Int):Option Bool:=
 (q1 p0c).bind fun r1=>(az q0.2.1 r1).bind fun x1=>some x1
def aW (p0a:Int×(List Bool)×(List (List Int))) (p1s:Int) (p2letter:Int):Option Int:=
 if decide (p1s<0) then (some (-1)) else ((gZ p2letter).bind fun r1=>if r1 then ((az p0a.2.2 p1s).bind fun x1=>(az x1 p2letter).bind fun x2=>some x2) else (some (-1)))
def bL (p0c:Int) (p1letter:Int) (q0:Int×(List Bool)×(List (List Int))) (q1:Int→Option Int) (q2:List Int):Option (Int×Bool):=
 (q1 p0c).bind fun r1=>(aW (q0.1,q0.2.1,q0.2.2) r1 p1letter).bind fun r2=>if decide (r2<0) then (some (0,false)) else ((az q2 r2).bind fun x1=>if decide (x1<0) then (some (0,false)) else ((az q2 r2).bind fun x2=>some (x2,true)))
def c7 (p0a:Int×(List Bool)×(List (List Int))):Option (Int×(List Bool)×(List (List Int))):=
 (cx (p0a.1,p0a.2.1,p0a.2.2)).bind fun r1=>(az r1 p0a.1).bind fun x1=>if decide (x1<0) then ((qU).bind fun r3=>some (r3.1,r3.2.1,r3.2.2)) else ((az r1 p0a.1).bind fun x2=>(df x2 (r1.length:Int) (fun a0=>bK a0 (p0a.1,p0a.2.1,p0a.2.2) (fun a0=>aJ a0 r1)) (fun a0 a1=>bL a0 a1 (p0a.1,p0a.2.1,p0a.2.2) (fun a0=>aJ a0 r1) r1)).bind fun r2=>some (r2.1.1,r2.1.2.1,r2.1.2.2))
def wz (p0a:Int×(List Bool)×(List (List Int))):Option ((Int×(List Bool)×(List (List Int)))×Bool):=
 (c7 (p0a.1,p0a.2.1,p0a.2.2)).bind fun r1=>if decide ((r1.2.1.length:Int)>12) then (some ((0,[],[]),false)) else (some ((r1.1,r1.2.1,r1.2.2),true))
def fB (p0e:(List (Int×Int×Int×Int))):Option ((Int×(List Bool)×(List (List Int)))×Bool):=
 (eV p0e).bind fun r1=>if r1.2 then ((fy (r1.1.1,r1.1.2.1,r1.1.2.2.1,r1.1.2.2.2.1,r1.1.2.2.2.2) 200).bind fun r2=>if r2.2 then ((wz (r2.1.1,r2.1.2.1,r2.1.2.2)).bind fun r3=>some ((r3.1.1,r3.1.2.1,r3.1.2.2),r3.2)) else (some ((0,[],[]),false))) else (some ((0,[],[]),false))
def a7 (p0s:List (Int×(List Bool)×(List (List Int)))) (p1f:(Int×(List Bool)×(List (List Int)))→Option Bool) (s3:Int):Option (Out Int Int):=
 if decide (s3<(p0s.length:Int)) then ((az p0s s3).bind fun x3=>(p1f (x3.1,x3.2.1,x3.2.2)).bind fun r9=>if r9 then (some (.ret s3)) else (some (.nxt (IntKind.i64.wrap (s3+1))))) else (some (.brk s3))
def aI (p0s:List (Int×(List Bool)×(List (List Int)))) (p1f:(Int×(List Bool)×(List (List Int)))→Option Bool):Option Int:=
 ay (ai (a7 p0s p1f) aD 0) (fun r=>some r) (fun s4=>some (-1))
def bs (p0s1:List Bool) (p1s2:List Bool) (s3:Int):Option (Out Bool Int):=
 if decide (s3<(p0s1.length:Int)) then ((az p0s1 s3).bind fun x5=>(az p1s2 s3).bind fun x6=>if x5 !=x6 then (some (.ret false)) else (some (.nxt (IntKind.i64.wrap (s3+1))))) else (some (.brk s3))
def cE (p0s1:List Bool) (p1s2:List Bool):Option Bool:=
 if (p0s1.length:Int) !=(p1s2.length:Int) then (some false) else (ay (ai (bs p0s1 p1s2) aD 0) (fun r=>some r) (fun s4=>some true))
def aG (p0s1:List (List Int)) (p1s2:List (List Int)) (p2eq:(List Int)→(List Int)→Option Bool) (s3:Int):Option (Out Bool Int):=
 if decide (s3<(p0s1.length:Int)) then ((az p0s1 s3).bind fun x5=>(az p1s2 s3).bind fun x6=>(p2eq x5 x6).bind fun r9=>if r9 then (some (.nxt (IntKind.i64.wrap (s3+1)))) else (some (.ret false))) else (some (.brk s3))
def aX (p0s1:List (List Int)) (p1s2:List (List Int)) (p2eq:(List Int)→(List Int)→Option Bool):Option Bool:=
 if (p0s1.length:Int) !=(p1s2.length:Int) then (some false) else (ay (ai (aG p0s1 p1s2 p2eq) aD 0) (fun r=>some r) (fun s4=>some true))
def eC (p0x:List Int) (p1y:List Int):Option Bool:=
 (bX p0x p1y).bind fun r1=>some r1
def cK (p0a:Int×(List Bool)×(List (List Int))) (p1b:Int×(List Bool)×(List (List Int))):Option Bool:=
 if p0a.1==p1b.1 then ((cE p0a.2.1 p1b.2.1).bind fun r1=>if r1 then ((aX p0a.2.2 p1b.2.2 (fun a0 a1=>eC a0 a1)).bind fun r2=>some r2) else (some false)) else (some false)
def j9 (p0b:Int×(List Bool)×(List (List Int))) (q0:Int×(List Bool)×(List (List Int))):Option Bool:=
 (cK (q0.1,q0.2.1,q0.2.2) (p0b.1,p0b.2.1,p0b.2.2)).bind fun r1=>some r1
def ka (p0e:(List (Int×Int×Int×Int))):Option (List (Int×Int×Int×Int)):=
 (cC 32 ([] :List (Int×Int×Int×Int)) p0e).bind fun z1=>some z1
def iM (p0:List (Int×((List (Int×Int×Int×Int)))×Int)) (s7:Int×(List (Int×(List Bool)×(List (List Int))))×(List (Int×((List (Int×Int×Int×Int)))×Int))):Option (Out (((List (Int×(List Bool)×(List (List Int))))×(List (Int×((List (Int×Int×Int×Int)))×Int)))×Bool) (Int×(List (Int×(List Bool)×(List (List Int))))×(List (Int×((List (Int×Int×Int×Int)))×Int)))):=
 if decide (s7.1<(p0.length:Int)) then ((az p0 s7.1).bind fun x5=>(fB x5.2.1).bind fun r16=>if r16.2 then ((bI x5.1 1 99).bind fun r17=>if r17 then (if decide (s7.1>0) then ((az p0 (IntKind.i64.wrap (s7.1 - 1))).bind fun x6=>if decide (x6.1≥x5.1) then (some (.ret (([],[]),false))) else ((aI s7.2.1 (fun a0=>j9 a0 (r16.1.1,r16.1.2.1,r16.1.2.2))).bind fun r20=>Option.bind ((if decide (r20<0) then ((cC 56 s7.2.1 ([(r16.1.1,r16.1.2.1,r16.1.2.2)])).bind fun z17=>some ((s7.2.1.length:Int),z17,s7.2.2)) else (some (r20,s7.2.1,s7.2.2)):Option (Int×(List (Int×(List Bool)×(List (List Int))))×(List (Int×((List (Int×Int×Int×Int)))×Int))))) (fun s10=>(ka x5.2.1).bind fun r21=>(cC 40 s10.2.2 ([(x5.1,r21,s10.1)])).bind fun z18=>some (.nxt (IntKind.i64.wrap (s7.1+1),s10.2.1,z18))))) else ((aI s7.2.1 (fun a0=>j9 a0 (r16.1.1,r16.1.2.1,r16.1.2.2))).bind fun r18=>Option.bind ((if decide (r18<0) then ((cC 56 s7.2.1 ([(r16.1.1,r16.1.2.1,r16.1.2.2)])).bind fun z14=>some ((s7.2.1.length:Int),z14,s7.2.2)) else (some (r18,s7.2.1,s7.2.2)):Option (Int×(List (Int×(List Bool)×(List (List Int))))×(List (Int×((List (Int×Int×Int×Int)))×Int))))) (fun s9=>(ka x5.2.1).bind fun r19=>(cC 40 s9.2.2 ([(x5.1,r19,s9.1)])).bind fun z15=>some (.nxt (IntKind.i64.wrap (s7.1+1),s9.2.1,z15))))) else (some (.ret (([],[]),false)))) else (some (.ret (([],[]),false)))) else (some (.brk (s7.1,s7.2.1,s7.2.2)))
def pU (p0:List (Int×((List (Int×Int×Int×Int)))×Int)):Option (((List (Int×(List Bool)×(List (List Int))))×(List (Int×((List (Int×Int×Int×Int)))×Int)))×Bool):=
 ay (ai (iM p0) aD (0,[],[])) (fun r=>some r) (fun s8=>some ((s8.2.1,s8.2.2),decide ((p0.length:Int)≤4)))
def ax (p0s1:List (Int×(List Bool)×(List (List Int)))) (p1s2:List (Int×(List Bool)×(List (List Int)))) (p2eq:(Int×(List Bool)×(List (List Int)))→(Int×(List Bool)×(List (List Int)))→Option Bool) (s3:Int):Option (Out Bool Int):=
 if decide (s3<(p0s1.length:Int)) then ((az p0s1 s3).bind fun x5=>(az p1s2 s3).bind fun x6=>(p2eq (x5.1,x5.2.1,x5.2.2) (x6.1,x6.2.1,x6.2.2)).bind fun r15=>if r15 then (some (.nxt (IntKind.i64.wrap (s3+1)))) else (some (.ret false))) else (some (.brk s3))
def aF (p0s1:List (Int×(List Bool)×(List (List Int)))) (p1s2:List (Int×(List Bool)×(List (List Int)))) (p2eq:(Int×(List Bool)×(List (List Int)))→(Int×(List Bool)×(List (List Int)))→Option Bool):Option Bool:=
 if (p0s1.length:Int) !=(p1s2.length:Int) then (some false) else (ay (ai (ax p0s1 p1s2 p2eq) aD 0) (fun r=>some r) (fun s4=>some true))
def au (p0s1:List (Int×((List (Int×Int×Int×Int)))×Int)) (p1s2:List (Int×((List (Int×Int×Int×Int)))×Int)) (p2eq:(Int×((List (Int×Int×Int×Int)))×Int)→(Int×((List (Int×Int×Int×Int)))×Int)→Option Bool) (s3:Int):Option (Out Bool Int):=
 if decide (s3<(p0s1.length:Int)) then ((az p0s1 s3).bind fun x5=>(az p1s2 s3).bind fun x6=>(p2eq (x5.1,x5.2.1,x5.2.2) (x6.1,x6.2.1,x6.2.2)).bind fun r9=>if r9 then (some (.nxt (IntKind.i64.wrap (s3+1)))) else (some (.ret false))) else (some (.brk s3))
def aE (p0s1:List (Int×((List (Int×Int×Int×Int)))×Int)) (p1s2:List (Int×((List (Int×Int×Int×Int)))×Int)) (p2eq:(Int×((List (Int×Int×Int×Int)))×Int)→(Int×((List (Int×Int×Int×Int)))×Int)→Option Bool):Option Bool:=
 if (p0s1.length:Int) !=(p1s2.length:Int) then (some false) else (ay (ai (au p0s1 p1s2 p2eq) aD 0) (fun r=>some r) (fun s4=>some true))
def bj (p0s1:List (Int×Int×Int×Int)) (p1s2:List (Int×Int×Int×Int)) (s3:Int):Option (Out Bool Int):=
 if decide (s3<(p0s1.length:Int)) then ((az p0s1 s3).bind fun x5=>(az p1s2 s3).bind fun x6=>if (x5.1==x6.1)&&((x5.2.1==x6.2.1)&&((x5.2.2.1==x6.2.2.1)&&((x5.2.2.2==x6.2.2.2)&&true))) then (some (.nxt (IntKind.i64.wrap (s3+1)))) else (some (.ret false))) else (some (.brk s3))
def bB (p0s1:List (Int×Int×Int×Int)) (p1s2:List (Int×Int×Int×Int)):Option Bool:=
 if (p0s1.length:Int) !=(p1s2.length:Int) then (some false) else (ay (ai (bj p0s1 p1s2) aD 0) (fun r=>some r) (fun s4=>some true))
def jP (p0a:(List (Int×Int×Int×Int))) (p1b:(List (Int×Int×Int×Int))):Option Bool:=
 (bB p0a p1b).bind fun r1=>some r1
def eN (p0a:Int×((List (Int×Int×Int×Int)))×Int) (p1b:Int×((List (Int×Int×Int×Int)))×Int):Option Bool:=
 if p0a.1==p1b.1 then ((jP p0a.2.1 p1b.2.1).bind fun r1=>if r1 then (some (p0a.2.2==p1b.2.2)) else (some false)) else (some false)
def eD (p0a:(List (Int×(List Bool)×(List (List Int))))×(List (Int×((List (Int×Int×Int×Int)))×Int))) (p1b:(List (Int×(List Bool)×(List (List Int))))×(List (Int×((List (Int×Int×Int×Int)))×Int))):Option Bool:=
 (aF p0a.1 p1b.1 (fun a0 a1=>cK a0 a1)).bind fun r1=>if r1 then ((aE p0a.2 p1b.2 (fun a0 a1=>eN a0 a1)).bind fun r2=>some r2) else (some false)
def eE (p0r:(List (Int×(List Bool)×(List (List Int))))×(List (Int×((List (Int×Int×Int×Int)))×Int))):Option Bool:=
 (pU p0r.2).bind fun r1=>if r1.2 then ((eD (r1.1.1,r1.1.2) (p0r.1,p0r.2)).bind fun r2=>some r2) else (some false)
def kc (p0l:List Int):Option (List Int):=
 (cC 8 ([] :List Int) p0l).bind fun z1=>some z1
def cB (p0a:Int×(List Bool)×(List (List Int))) (s3:Int×Int×(List Bool)×(List (List Int))):Option (Out (Int×(List Bool)×(List (List Int))) (Int×Int×(List Bool)×(List (List Int)))):=
 if decide (s3.1<(p0a.2.2.length:Int)) then ((az p0a.2.2 s3.1).bind fun x3=>(kc x3).bind fun r6=>(cC 24 s3.2.2.2 ([r6])).bind fun z4=>some (.nxt (IntKind.i64.wrap (s3.1+1),s3.2.1,s3.2.2.1,z4))) else (some (.brk (s3.1,s3.2.1,s3.2.2.1,s3.2.2.2)))
def fQ (p0a:Int×(List Bool)×(List (List Int))):Option (Int×(List Bool)×(List (List Int))):=
 (cC 1 ([] :List Bool) p0a.2.1).bind fun z1=>ay (ai (cB p0a) aD (0,p0a.1,z1,[])) (fun r=>some r) (fun s4=>some (s4.2.1,s4.2.2.1,s4.2.2.2))
def dt (p0r:(List (Int×(List Bool)×(List (List Int))))×(List (Int×((List (Int×Int×Int×Int)))×Int))) (p1id:Int):Option ((Int×(List Bool)×(List (List Int)))×Bool):=
 (kQ (p0r.1,p0r.2) p1id).bind fun r1=>if decide (r1<0) then (some ((0,[],[]),false)) else ((eE (p0r.1,p0r.2)).bind fun r2=>if r2 then ((az p0r.2 r1).bind fun x1=>(az p0r.1 x1.2.2).bind fun x2=>(fQ (x2.1,x2.2.1,x2.2.2)).bind fun r5=>some ((r5.1,r5.2.1,r5.2.2),true)) else (some ((0,[],[]),false)))
def mS (p0e:Int×Int×Int×Int) (p1nodes:Int):Option Bool:=
 (bI p0e.1 1 99).bind fun r1=>if r1 then ((bI p0e.2.1 0 (IntKind.i64.wrap (p1nodes - 1))).bind fun r2=>if r2 then ((bI p0e.2.2.1 0 (IntKind.i64.wrap (p1nodes - 1))).bind fun r3=>if r3 then ((bI p0e.2.2.2 0 2).bind fun r4=>some r4) else (some false)) else (some false)) else (some false)
def cR (p0g:(List Int)×(List (Int×Int×Int×Int))) (s3:Int):Option (Out Bool Int):=
 if decide (s3<(p0g.1.length:Int)) then ((az p0g.1 s3).bind fun x3=>(bI x3 0 2).bind fun r3=>if r3 then (some (.nxt (IntKind.i64.wrap (s3+1)))) else (some (.ret false))) else (some (.brk s3))
def b9 (p0g:(List Int)×(List (Int×Int×Int×Int))) (s7:Int):Option (Out Bool Int):=
 if decide (s7<(p0g.2.length:Int)) then ((az p0g.2 s7).bind fun x8=>(mS (x8.1,x8.2.1,x8.2.2.1,x8.2.2.2) (p0g.1.length:Int)).bind fun r6=>if r6 then (if decide (s7>0) then ((az p0g.2 (IntKind.i64.wrap (s7 - 1))).bind fun x9=>if decide (x9.1≥x8.1) then (some (.ret false)) else (some (.nxt (IntKind.i64.wrap (s7+1))))) else (some (.nxt (IntKind.i64.wrap (s7+1))))) else (some (.ret false))) else (some (.brk s7))
def be (p0g:(List Int)×(List (Int×Int×Int×Int))):Option Bool:=
 ay (ai (cR p0g) aD 0) (fun r=>some r) (fun s4=>ay (ai (b9 p0g) aD 0) (fun r=>some r) (fun s8=>(bI (p0g.1.length:Int) 1 5).bind fun r7=>if r7 then (some (decide ((p0g.2.length:Int)≤12))) else (some false)))
def bt (p0a:Int×(List Bool)×(List (List Int))) (x9:List Int) (s15:Int):Option (Out Bool Int):=
 if decide (s15<(x9.length:Int)) then ((az x9 s15).bind fun x12=>(bI x12 (-1) (IntKind.i64.wrap ((p0a.2.1.length:Int) - 1))).bind fun r14=>if r14 then (some (.nxt (IntKind.i64.wrap (s15+1)))) else (some (.ret false))) else (some (.brk s15))
def cF (p0a:Int×(List Bool)×(List (List Int))) (s11:Int):Option (Out Bool Int):=
 if decide (s11<(p0a.2.2.length:Int)) then ((az p0a.2.2 s11).bind fun x9=>ay (ai (bt p0a x9) aD 0) (fun r=>some (.ret r)) (fun s16=>if (x9.length:Int) !=9 then (some (.ret false)) else (some (.nxt (IntKind.i64.wrap (s11+1)))))) else (some (.brk s11))
def bA (p0a:Int×(List Bool)×(List (List Int))):Option Bool:=
 (bI (p0a.2.1.length:Int) 1 12).bind fun r1=>if r1 then ((bI p0a.1 0 (IntKind.i64.wrap ((p0a.2.1.length:Int) - 1))).bind fun r2=>if r2 then (if (p0a.2.2.length:Int) !=(p0a.2.1.length:Int) then (some false) else (ay (ai (cF p0a) aD 0) (fun r=>some r) (fun s12=>some true))) else (some false)) else (some false)
def cf (p0g:(List Int)×(List (Int×Int×Int×Int))) (p2nodes:List Int) (s3:Int):Option (Out Bool Int):=
 if decide (s3<(p2nodes.length:Int)) then ((az p2nodes s3).bind fun x3=>(bI x3 0 (IntKind.i64.wrap ((p0g.1.length:Int) - 1))).bind fun r3=>if r3 then (some (.nxt (IntKind.i64.wrap (s3+1)))) else (some (.ret false))) else (some (.brk s3))
def bU (p0g:(List Int)×(List (Int×Int×Int×Int))) (p1a:Int×(List Bool)×(List (List Int))) (p2nodes:List Int):Option Bool:=
 ay (ai (cf p0g p2nodes) aD 0) (fun r=>some r) (fun s4=>(be (p0g.1,p0g.2)).bind fun r4=>if r4 then ((bA (p1a.1,p1a.2.1,p1a.2.2)).bind fun r5=>some r5) else (some false))
def iN (p1:List Int) (s3:(List Int)×Int×List Int):Option (Out (List Int) ((List Int)×Int×List Int)):=
 if decide (s3.2.1<(p1.length:Int)) then ((az p1 s3.2.1).bind fun x4=>(az s3.2.2 x4).bind fun x5=>(cC 8 s3.1 ([x4])).bind fun z6=>some (.nxt (z6,IntKind.i64.wrap (s3.2.1+1),s3.2.2.set x4.toNat 0))) else (some (.brk (s3.1,s3.2.1,s3.2.2)))
def iO (x13:List Int) (s15:(List Int)×Int×List Int):Option (Out (List Int) ((List Int)×Int×List Int)):=
 if decide (s15.2.1<(x13.length:Int)) then (Option.bind (((az x13 s15.2.1).bind fun x16=>(az s15.2.2 x16).bind fun x17=>if decide (x17<0) then ((az s15.1 0).bind fun x18=>(az s15.2.2 x18).bind fun x19=>(az s15.2.2 x16).bind fun x20=>(cC 8 s15.1 ([x16])).bind fun z21=>some (z21,s15.2.2.set x16.toNat (IntKind.i64.wrap (x19+1)))) else (some (s15.1,s15.2.2)):Option ((List Int)×List Int))) (fun s22=>some (.nxt (s22.1,IntKind.i64.wrap (s15.2.1+1),s22.2)))) else (some (.brk (s15.1,s15.2.1,s15.2.2)))
def iP (p0:List (List Int)) (s11:(List Int)×List Int):Option (Out (List Int) ((List Int)×List Int)):=
 if decide ((s11.1.length:Int)>0) then ((az s11.1 0).bind fun x12=>(az p0 x12).bind fun x13=>ay (ai (iO x13) aD (s11.1,0,s11.2)) (fun r23=>some (.ret r23)) (fun s24=>(chk (And ((0:Int)≤1) (1≤(s24.1.length:Int)))).bind fun _=>some (.nxt (s24.1.drop 1,s24.2.2)))) else (some (.brk (s11.1,s11.2)))
def pV (p0:List (List Int)) (p1:List Int):Option (List Int):=
 (br ([(-1)]) (p0.length:Int)).bind fun r0=>ay (ai (iN p1) aD (([] :List Int),0,r0)) (fun r7=>some r7) (fun s8=>ay (ai (iP p0) aD (s8.1,s8.2.2)) (fun r26=>some r26) (fun s27=>some s27.2))
def mD (p0set:Int) (s5:(List Int)×Int):Option (Out (List Int) ((List Int)×Int)):=
 (chk (0≤s5.2)).bind fun _=>if (lU p0set s5.2) !=0 then (Option.bind (((chk (0≤s5.2)).bind fun _=>if (pC (lU p0set s5.2) 1)==1 then ((cC 8 s5.1 ([s5.2])).bind fun z6=>some z6) else (some s5.1):Option (List Int))) (fun s7=>some (.nxt (s7,IntKind.i64.wrap (s5.2+1))))) else (some (.brk (s5.1,s5.2)))
def fC (p0set:Int):Option (List Int):=
 ay (ai (mD p0set) aD (([] :List Int),0)) (fun r=>some r) (fun s6=>some s6.1)
def oW (p0e:Int×Int×Int×Int) (p1inverse:Bool):Option Int:=
 if p1inverse then (some (IntKind.i64.wrap ((IntKind.i64.wrap (2*p0e.2.2.2))+1))) else (some (IntKind.i64.wrap (2*p0e.2.2.2)))
def lD (p0g:(List Int)×List (Int×Int×Int×Int)) (s3:Int×List (List ((Int×Bool)×Int×Int))):Option (Out (List (List ((Int×Bool)×Int×Int))) (Int×List (List ((Int×Bool)×Int×Int)))):=
 if decide (s3.1<(p0g.2.length:Int)) then ((az p0g.2 s3.1).bind fun x4=>(az s3.2 x4.2.1).bind fun x11=>(oW (x4.1,x4.2.1,x4.2.2.1,x4.2.2.2) false).bind fun r12=>(cC 32 x11 ([((x4.1,false),r12,x4.2.2.1)])).bind fun z13=>(az s3.2 x4.2.1).bind fun x14=>(chk (x4.2.1<((s3.2.set x4.2.1.toNat ([] :List ((Int×Bool)×Int×Int))).length:Int))).bind fun _=>(chk (x4.2.1=x4.2.1)).bind fun _=>(az (s3.2.set x4.2.1.toNat z13) x4.2.2.1).bind fun x23=>(oW (x4.1,x4.2.1,x4.2.2.1,x4.2.2.2) true).bind fun r24=>(cC 32 x23 ([((x4.1,true),r24,x4.2.1)])).bind fun z25=>(az (s3.2.set x4.2.1.toNat z13) x4.2.2.1).bind fun x26=>(chk (x4.2.2.1<(((s3.2.set x4.2.1.toNat z13).set x4.2.2.1.toNat ([] :List ((Int×Bool)×Int×Int))).length:Int))).bind fun _=>(chk (x4.2.2.1=x4.2.2.1)).bind fun _=>some (.nxt (IntKind.i64.wrap (s3.1+1),(s3.2.set x4.2.1.toNat z13).set x4.2.2.1.toNat z25))) else (some (.brk (s3.1,s3.2)))
def rZ (p0g:(List Int)×List (Int×Int×Int×Int)):Option (List (List ((Int×Bool)×Int×Int))):=
 (mkI 24 (p0g.1.length:Int) ([] :List ((Int×Bool)×Int×Int))).bind fun z0=>ay (ai (lD p0g) aD (0,z0)) (fun r29=>some r29) (fun s30=>some s30.2)
def cg (p0a:Int×(List Bool)×(List (List Int))) (p2value:Int) (s3:Int×Int):Option (Out Int (Int×Int)):=
 if decide (s3.2≥0) then ((chk (0≤s3.2)).bind fun _=>if (pC (lU s3.1 s3.2) 1)==0 then ((chk (0≤s3.2)).bind fun _=>(aW (p0a.1,p0a.2.1,p0a.2.2) s3.2 (IntKind.i64.wrap (6+p2value))).bind fun r3=>some (.nxt (orI s3.1 (sV 1 s3.2),r3))) else (some (.brk (s3.1,s3.2)))) else (some (.brk (s3.1,s3.2)))
def dC (p0a:Int×(List Bool)×(List (List Int))) (p1state:Int) (p2value:Int):Option Int:=
 ay (ai (cg p0a p2value) aD (0,p1state)) (fun r=>some r) (fun s4=>some s4.1)
def kd (p0a:Int×(List Bool)×(List (List Int))) (p3letter:Int) (r19:List Int) (s23:Int×Int):Option (Out Int (Int×Int)):=
 if decide (s23.2<(r19.length:Int)) then (Option.bind (((az r19 s23.2).bind fun x21=>(aW (p0a.1,p0a.2.1,p0a.2.2) x21 p3letter).bind fun r25=>if decide (r25≥0) then ((chk (0≤r25)).bind fun _=>some (orI s23.1 (sV 1 r25))) else (some s23.1):Option Int)) (fun s25=>some (.nxt (s25,IntKind.i64.wrap (s23.2+1))))) else (some (.brk (s23.1,s23.2)))
def fD (p0a:Int×(List Bool)×(List (List Int))) (p2value:Int) (p3letter:Int) (r1:List Int) (s17:Int×Int):Option (Out Int (Int×Int)):=
 if decide (s17.2<(r1.length:Int)) then ((az r1 s17.2).bind fun x15=>(dC (p0a.1,p0a.2.1,p0a.2.2) x15 p2value).bind fun r18=>(fC r18).bind fun r19=>ay (ai (kd p0a p3letter r19) aD (s17.1,0)) (fun r=>some (.ret r)) (fun s24=>some (.nxt (s24.1,IntKind.i64.wrap (s17.2+1))))) else (some (.brk (s17.1,s17.2)))
def oX (p0a:Int×(List Bool)×(List (List Int))) (p1set:Int) (p2value:Int) (p3letter:Int):Option Int:=
 (fC p1set).bind fun r1=>ay (ai (fD p0a p2value p3letter r1) aD (0,0)) (fun r=>some r) (fun s18=>some s18.1)
def cd (p1:Int×(List Bool)×List (List Int)) (s4:Int×List (List Int)) (s7:Int×List (List Int)) (x10:(Int×Bool)×Int×Int) (r18:List Int) (s20:Int×List (List Int)):Option (Out (List (List Int)) (Int×List (List Int))):=
 if decide (s20.1<(r18.length:Int)) then ((az r18 s20.1).bind fun x21=>(az s20.2 (IntKind.i64.wrap ((IntKind.i64.wrap (s4.1*(p1.2.1.length:Int)))+s7.1))).bind fun x27=>(cC 8 x27 ([IntKind.i64.wrap ((IntKind.i64.wrap (x10.2.2*(p1.2.1.length:Int)))+x21)])).bind fun z28=>(az s20.2 (IntKind.i64.wrap ((IntKind.i64.wrap (s4.1*(p1.2.1.length:Int)))+s7.1))).bind fun x29=>(chk ((IntKind.i64.wrap ((IntKind.i64.wrap (s4.1*(p1.2.1.length:Int)))+s7.1))<((s20.2.set ((IntKind.i64.wrap ((IntKind.i64.wrap (s4.1*(p1.2.1.length:Int)))+s7.1)).toNat) ([] :List Int)).length:Int))).bind fun _=>(chk ((IntKind.i64.wrap ((IntKind.i64.wrap (s4.1*(p1.2.1.length:Int)))+s7.1))=(IntKind.i64.wrap ((IntKind.i64.wrap (s4.1*(p1.2.1.length:Int)))+s7.1)))).bind fun _=>some (.nxt (IntKind.i64.wrap (s20.1+1),s20.2.set ((IntKind.i64.wrap ((IntKind.i64.wrap (s4.1*(p1.2.1.length:Int)))+s7.1)).toNat) z28))) else (some (.brk (s20.1,s20.2)))
def cT (p0:(List Int)×List (Int×Int×Int×Int)) (p1:Int×(List Bool)×List (List Int)) (s4:Int×List (List Int)) (x5:List ((Int×Bool)×Int×Int)) (s7:Int×List (List Int)) (s9:Int×List (List Int)):Option (Out (List (List Int)) (Int×List (List Int))):=
 if decide (s9.1<(x5.length:Int)) then ((az x5 s9.1).bind fun x10=>(chk (0≤s7.1)).bind fun _=>(az p0.1 s4.1).bind fun x16=>(oX (p1.1,p1.2.1,p1.2.2) (sV 1 s7.1) x16 x10.2.1).bind fun r17=>(fC r17).bind fun r18=>ay (ai (cd p1 s4 s7 x10 r18) aD (0,s9.2)) (fun r32=>some (.ret r32)) (fun s33=>some (.nxt (IntKind.i64.wrap (s9.1+1),s33.2)))) else (some (.brk (s9.1,s9.2)))
def cU (p0:(List Int)×List (Int×Int×Int×Int)) (p1:Int×(List Bool)×List (List Int)) (s4:Int×List (List Int)) (x5:List ((Int×Bool)×Int×Int)) (s7:Int×List (List Int)):Option (Out (List (List Int)) (Int×List (List Int))):=
 if decide (s7.1<(p1.2.1.length:Int)) then (ay (ai (cT p0 p1 s4 x5 s7) aD (0,s7.2)) (fun r34=>some (.ret r34)) (fun s35=>some (.nxt (IntKind.i64.wrap (s7.1+1),s35.2)))) else (some (.brk (s7.1,s7.2)))
def eF (p0:(List Int)×List (Int×Int×Int×Int)) (p1:Int×(List Bool)×List (List Int)) (r1:List (List ((Int×Bool)×Int×Int))) (s4:Int×List (List Int)):Option (Out (List (List Int)) (Int×List (List Int))):=
 if decide (s4.1<(r1.length:Int)) then ((az r1 s4.1).bind fun x5=>ay (ai (cU p0 p1 s4 x5) aD (0,s4.2)) (fun r36=>some (.ret r36)) (fun s37=>some (.nxt (IntKind.i64.wrap (s4.1+1),s37.2)))) else (some (.brk (s4.1,s4.2)))
def dg (p0:(List Int)×List (Int×Int×Int×Int)) (p1:Int×(List Bool)×List (List Int)):Option (List (List Int)):=
 (mkI 24 (IntKind.i64.wrap ((p1.2.1.length:Int)*(p0.1.length:Int))) ([] :List Int)).bind fun z0=>(rZ (p0.1,p0.2)).bind fun r1=>ay (ai (eF p0 p1 r1) aD (0,z0)) (fun r38=>some r38) (fun s39=>some s39.2)
def dY (p0g:(List Int)×List (Int×Int×Int×Int)) (p1a:Int×(List Bool)×List (List Int)) (p2source:Int):Option (List Int):=
 (bU (p0g.1,p0g.2) (p1a.1,p1a.2.1,p1a.2.2) ([p2source])).bind fun r0=>if r0 then ((dg (p0g.1,p0g.2) (p1a.1,p1a.2.1,p1a.2.2)).bind fun r3=>(pV r3 ([IntKind.i64.wrap ((IntKind.i64.wrap (p2source*(p1a.2.1.length:Int)))+p1a.1)])).bind fun r4=>((chk (0<(r4.length:Int))).bind fun _=>some r4).bind fun r6=>some r6) else (some ([] :List Int))
def gC (p0a:Int×(List Bool)×(List (List Int))) (r7:List Int) (s15:Int):Option (Out Bool Int):=
 if decide (s15<(r7.length:Int)) then ((az r7 s15).bind fun x20=>(az p0a.2.1 x20).bind fun x21=>if x21 then (some (.ret true)) else (some (.nxt (IntKind.i64.wrap (s15+1))))) else (some (.brk s15))
def dh (p0a:Int×(List Bool)×(List (List Int))) (p2value:Int) (r1:List Int) (s11:Int):Option (Out Bool Int):=
 if decide (s11<(r1.length:Int)) then ((az r1 s11).bind fun x15=>(dC (p0a.1,p0a.2.1,p0a.2.2) x15 p2value).bind fun r6=>(fC r6).bind fun r7=>ay (ai (gC p0a r7) aD 0) (fun r=>some (.ret r)) (fun s16=>some (.nxt (IntKind.i64.wrap (s11+1))))) else (some (.brk s11))
def iQ (p0a:Int×(List Bool)×(List (List Int))) (p1set:Int) (p2value:Int):Option Bool:=
 (fC p1set).bind fun r1=>ay (ai (dh p0a p2value r1) aD 0) (fun r=>some r) (fun s12=>some false)
def dD (p0:List Int):Option (List Int):=R.MM p0
def bu (p0s:List Int) (s1:Int) (s8:Int×Int×List Int):Option (Out (List Int) (Int×Int×List Int)):=
 if decide (s8.2.1<((0+((p0s.length:Int) - 0)) - (0+s1))) then (Option.bind (((chk (And (0≤s8.2.1) (s8.2.1<((0+((p0s.length:Int) - 0)) - (0+s1))))).bind fun _=>(az s8.2.2 ((0+s1)+s8.2.1)).bind fun x14=>(chk (And (0≤(IntKind.i64.wrap (s8.2.1 - 1))) ((IntKind.i64.wrap (s8.2.1 - 1))<((0+((p0s.length:Int) - 0)) - (0+s1))))).bind fun _=>(az s8.2.2 ((0+s1)+(IntKind.i64.wrap (s8.2.1 - 1)))).bind fun x16=>if x14 !=x16 then ((chk (And (0≤s8.2.1) (s8.2.1<((0+((p0s.length:Int) - 0)) - (0+s1))))).bind fun _=>(az s8.2.2 ((0+s1)+s8.2.1)).bind fun x18=>(az s8.2.2 s8.1).bind fun x19=>some (IntKind.i64.wrap (s8.1+1),s8.2.2.set s8.1.toNat x18)) else (some (s8.1,s8.2.2)):Option (Int×List Int))) (fun s20=>some (.nxt (s20.1,IntKind.i64.wrap (s8.2.1+1),s20.2)))) else (some (.brk (s8.1,s8.2.1,s8.2.2)))
def a8 (p0s:List Int) (s1:Int):Option (Out (List Int) Int):=
 if decide (s1<(p0s.length:Int)) then ((az p0s s1).bind fun x4=>(az p0s (IntKind.i64.wrap (s1 - 1))).bind fun x5=>if x4==x5 then ((chk (And (0≤s1) (And (s1≤((p0s.length:Int) - 0)) ((0+((p0s.length:Int) - 0))≤(p0s.length:Int))))).bind fun _=>ay (ai (bu p0s s1) aD (s1,1,p0s)) (fun r21=>some (.ret r21)) (fun s22=>(chk (And (0≤s22.1) (And (s22.1≤((s22.2.2.length:Int) - 0)) ((0+((s22.2.2.length:Int) - 0))≤(s22.2.2.length:Int))))).bind fun _=>(chk (And ((0+s22.1)≤(0+((s22.2.2.length:Int) - 0))) ((0+((s22.2.2.length:Int) - 0))≤(s22.2.2.length:Int)))).bind fun _=>(chk (And ((0:Int)≤0) (And (0≤s22.1) ((0+s22.1)≤((qd s22.2.2 ((0+s22.1).toNat) ((0+((s22.2.2.length:Int) - 0)).toNat) 0).length:Int))))).bind fun _=>some (.ret (((qd s22.2.2 ((0+s22.1).toNat) ((0+((s22.2.2.length:Int) - 0)).toNat) 0).take ((0+s22.1).toNat)).drop 0)))) else (some (.nxt (IntKind.i64.wrap (s1+1))))) else (some (.brk s1))
def bM (p0s:List Int):Option (List Int):=
 if decide ((p0s.length:Int)<2) then (some p0s) else (ay (ai (a8 p0s) aD 1) (fun r26=>some r26) (fun s27=>some p0s))
def iR (p0l:List Int):Option (List Int):=
 (kc p0l).bind fun r0=>(dD r0).bind fun r1=>(bM r1).bind fun r2=>some r2
def sb (s2:(List Int)×Int):Option (Out (List Int) ((List Int)×Int)):=
 if decide (s2.2<((0:Nat):Int)) then (none) else (some (.brk (s2.1,s2.2)))
def du (p0g:(List Int)×List (Int×Int×Int×Int)) (p1a:Int×(List Bool)×List (List Int)) (r0:List Int) (s7:(List Int)×Int):Option (Out (List Int) ((List Int)×Int)):=
 if decide (s7.2<(r0.length:Int)) then (Option.bind (((az r0 s7.2).bind fun x8=>if decide (x8≥0) then ((chk ((p1a.2.1.length:Int)≠0)).bind fun _=>(chk (0≤(Int.tmod s7.2 (p1a.2.1.length:Int)))).bind fun _=>(chk ((p1a.2.1.length:Int)≠0)).bind fun _=>(az p0g.1 (C2 s7.2 (p1a.2.1.length:Int))).bind fun x17=>(iQ (p1a.1,p1a.2.1,p1a.2.2) (sV 1 (Int.tmod s7.2 (p1a.2.1.length:Int))) x17).bind fun r18=>if r18 then ((chk ((p1a.2.1.length:Int)≠0)).bind fun _=>(cC 8 s7.1 ([C2 s7.2 (p1a.2.1.length:Int)])).bind fun z20=>some z20) else (some s7.1)) else (some s7.1):Option (List Int))) (fun s21=>some (.nxt (s21,IntKind.i64.wrap (s7.2+1))))) else (some (.brk (s7.1,s7.2)))
def fE (p0g:(List Int)×List (Int×Int×Int×Int)) (p1a:Int×(List Bool)×List (List Int)) (p2source:Int):Option (List Int):=
 (dY (p0g.1,p0g.2) (p1a.1,p1a.2.1,p1a.2.2) p2source).bind fun r0=>if decide ((r0.length:Int)=0) then (ay (ai (sb) aD (([] :List Int),0)) (fun r3=>some r3) (fun s4=>(iR s4.1).bind fun r5=>some r5)) else (ay (ai (du p0g p1a r0) aD (([] :List Int),0)) (fun r22=>some r22) (fun s23=>(iR s23.1).bind fun r24=>some r24))
def jq (s11:(List (Int×Int))×Int) (r4:List Int) (s15:(List (Int×Int))×Int):Option (Out (List (Int×Int)) ((List (Int×Int))×Int)):=
 if decide (s15.2<(r4.length:Int)) then ((az r4 s15.2).bind fun x9=>(cC 16 s15.1 ([(s11.2,x9)])).bind fun z9=>some (.nxt (z9,IntKind.i64.wrap (s15.2+1)))) else (some (.brk (s15.1,s15.2)))
def dZ (p0g:(List Int)×(List (Int×Int×Int×Int))) (p1a:Int×(List Bool)×(List (List Int))) (s11:(List (Int×Int))×Int):Option (Out (List (Int×Int)) ((List (Int×Int))×Int)):=
 if decide (s11.2<(p0g.1.length:Int)) then ((fE (p0g.1,p0g.2) (p1a.1,p1a.2.1,p1a.2.2) s11.2).bind fun r4=>ay (ai (jq s11 r4) aD (s11.1,0)) (fun r=>some (.ret r)) (fun s16=>some (.nxt (s16.1,IntKind.i64.wrap (s11.2+1))))) else (some (.brk (s11.1,s11.2)))
def gq (p0g:(List Int)×(List (Int×Int×Int×Int))) (p1a:Int×(List Bool)×(List (List Int))):Option (List (Int×Int)):=
 (bU (p0g.1,p0g.2) (p1a.1,p1a.2.1,p1a.2.2) ([])).bind fun r1=>if r1 then (ay (ai (dZ p0g p1a) aD (([] :List (Int×Int)),0)) (fun r=>some r) (fun s12=>some s12.1)) else (some ([]))
def eO (p0r:(List (Int×(List Bool)×(List (List Int))))×(List (Int×((List (Int×Int×Int×Int)))×Int))) (p1g:(List Int)×(List (Int×Int×Int×Int))) (p2id:Int):Option ((List (Int×Int))×Bool):=
 (dt (p0r.1,p0r.2) p2id).bind fun r1=>if r1.2 then ((be (p1g.1,p1g.2)).bind fun r2=>if r2 then ((gq (p1g.1,p1g.2) (r1.1.1,r1.1.2.1,r1.1.2.2)).bind fun r3=>some (r3,true)) else (some ([],false))) else (some ([],false))
def pW (p0a:Int×Int) (p1b:Int×Int):Option Bool:=
 if p0a.1 !=p1b.1 then (some false) else (if p0a.2 !=p1b.2 then (some false) else (some true))
def jQ (p0a:List (Int×Int)) (p1b:List (Int×Int)) (s3:Int):Option (Out Bool Int):=
 if decide (s3<(p0a.length:Int)) then ((az p0a s3).bind fun x5=>(az p1b s3).bind fun x6=>(pW (x5.1,x5.2) (x6.1,x6.2)).bind fun r3=>if r3 then (some (.nxt (IntKind.i64.wrap (s3+1)))) else (some (.ret false))) else (some (.brk s3))
def lE (p0a:List (Int×Int)) (p1b:List (Int×Int)):Option Bool:=
 if (p0a.length:Int) !=(p1b.length:Int) then (some false) else (ay (ai (jQ p0a p1b) aD 0) (fun r=>some r) (fun s4=>some true))
def jR (p0a:List Bool) (p1b:List Bool) (s3:Int):Option (Out Bool Int):=
 if decide (s3<(p0a.length:Int)) then ((az p0a s3).bind fun x5=>(az p1b s3).bind fun x6=>if x5 !=x6 then (some (.ret false)) else (some (.nxt (IntKind.i64.wrap (s3+1))))) else (some (.brk s3))
def qV (p0a:List Bool) (p1b:List Bool):Option Bool:=
 if (p0a.length:Int) !=(p1b.length:Int) then (some false) else (ay (ai (jR p0a p1b) aD 0) (fun r=>some r) (fun s4=>some true))
def kR (p0a:List Int) (p1b:List Int) (s3:Int):Option (Out Bool Int):=
 if decide (s3<(p0a.length:Int)) then ((az p0a s3).bind fun x5=>(az p1b s3).bind fun x6=>if x5 !=x6 then (some (.ret false)) else (some (.nxt (IntKind.i64.wrap (s3+1))))) else (some (.brk s3))
def pX (p0a:List Int) (p1b:List Int):Option Bool:=
 if (p0a.length:Int) !=(p1b.length:Int) then (some false) else (ay (ai (kR p0a p1b) aD 0) (fun r=>some r) (fun s4=>some true))
def jS (p0a:List (List Int)) (p1b:List (List Int)) (s3:Int):Option (Out Bool Int):=
 if decide (s3<(p0a.length:Int)) then ((az p0a s3).bind fun x5=>(az p1b s3).bind fun x6=>(pX x5 x6).bind fun r9=>if r9 then (some (.nxt (IntKind.i64.wrap (s3+1)))) else (some (.ret false))) else (some (.brk s3))
def qW (p0a:List (List Int)) (p1b:List (List Int)):Option Bool:=
 if (p0a.length:Int) !=(p1b.length:Int) then (some false) else (ay (ai (jS p0a p1b) aD 0) (fun r=>some r) (fun s4=>some true))
def iS (p0a:Int×(List Bool)×(List (List Int))) (p1b:Int×(List Bool)×(List (List Int))):Option Bool:=
 if p0a.1 !=p1b.1 then (some false) else ((qV p0a.2.1 p1b.2.1).bind fun r1=>if r1 then ((qW p0a.2.2 p1b.2.2).bind fun r2=>if r2 then (some true) else (some false)) else (some false))
def eG (p0a:List (Int×(List Bool)×(List (List Int)))) (p1b:List (Int×(List Bool)×(List (List Int)))) (s3:Int):Option (Out Bool Int):=
 if decide (s3<(p0a.length:Int)) then ((az p0a s3).bind fun x5=>(az p1b s3).bind fun x6=>(iS (x5.1,x5.2.1,x5.2.2) (x6.1,x6.2.1,x6.2.2)).bind fun r15=>if r15 then (some (.nxt (IntKind.i64.wrap (s3+1)))) else (some (.ret false))) else (some (.brk s3))
def kz (p0a:List (Int×(List Bool)×(List (List Int)))) (p1b:List (Int×(List Bool)×(List (List Int)))):Option Bool:=
 if (p0a.length:Int) !=(p1b.length:Int) then (some false) else (ay (ai (eG p0a p1b) aD 0) (fun r=>some r) (fun s4=>some true))
def nJ (p0a:Int×Int×Int×Int) (p1b:Int×Int×Int×Int):Option Bool:=
 if p0a.1 !=p1b.1 then (some false) else (if p0a.2.1 !=p1b.2.1 then (some false) else (if p0a.2.2.1 !=p1b.2.2.1 then (some false) else (if p0a.2.2.2 !=p1b.2.2.2 then (some false) else (some true))))
def iT (p0a:List (Int×Int×Int×Int)) (p1b:List (Int×Int×Int×Int)) (s3:Int):Option (Out Bool Int):=
 if decide (s3<(p0a.length:Int)) then ((az p0a s3).bind fun x5=>(az p1b s3).bind fun x6=>(nJ (x5.1,x5.2.1,x5.2.2.1,x5.2.2.2) (x6.1,x6.2.1,x6.2.2.1,x6.2.2.2)).bind fun r3=>if r3 then (some (.nxt (IntKind.i64.wrap (s3+1)))) else (some (.ret false))) else (some (.brk s3))
def oY (p0a:List (Int×Int×Int×Int)) (p1b:List (Int×Int×Int×Int)):Option Bool:=
 if (p0a.length:Int) !=(p1b.length:Int) then (some false) else (ay (ai (iT p0a p1b) aD 0) (fun r=>some r) (fun s4=>some true))
def pY (p0a:(List (Int×Int×Int×Int))) (p1b:(List (Int×Int×Int×Int))):Option Bool:=
 (oY p0a p1b).bind fun r1=>if r1 then (some true) else (some false)
def gD (p0a:Int×((List (Int×Int×Int×Int)))×Int) (p1b:Int×((List (Int×Int×Int×Int)))×Int):Option Bool:=
 if p0a.1 !=p1b.1 then (some false) else ((pY p0a.2.1 p1b.2.1).bind fun r1=>if r1 then (if p0a.2.2 !=p1b.2.2 then (some false) else (some true)) else (some false))
def dL (p0a:List (Int×((List (Int×Int×Int×Int)))×Int)) (p1b:List (Int×((List (Int×Int×Int×Int)))×Int)) (s3:Int):Option (Out Bool Int):=
 if decide (s3<(p0a.length:Int)) then ((az p0a s3).bind fun x5=>(az p1b s3).bind fun x6=>(gD (x5.1,x5.2.1,x5.2.2) (x6.1,x6.2.1,x6.2.2)).bind fun r9=>if r9 then (some (.nxt (IntKind.i64.wrap (s3+1)))) else (some (.ret false))) else (some (.brk s3))
def jr (p0a:List (Int×((List (Int×Int×Int×Int)))×Int)) (p1b:List (Int×((List (Int×Int×Int×Int)))×Int)):Option Bool:=
 if (p0a.length:Int) !=(p1b.length:Int) then (some false) else (ay (ai (dL p0a p1b) aD 0) (fun r=>some r) (fun s4=>some true))
def jT (p0a:(List (Int×(List Bool)×(List (List Int))))×(List (Int×((List (Int×Int×Int×Int)))×Int))) (p1b:(List (Int×(List Bool)×(List (List Int))))×(List (Int×((List (Int×Int×Int×Int)))×Int))):Option Bool:=
 (kz p0a.1 p1b.1).bind fun r1=>if r1 then ((jr p0a.2 p1b.2).bind fun r2=>if r2 then (some true) else (some false)) else (some false)
def pZ (p0a:Int×Int×Int×Int) (p1b:Int×Int×Int×Int):Option Bool:=
 if p0a.1 !=p1b.1 then (some false) else (if p0a.2.1 !=p1b.2.1 then (some false) else (if p0a.2.2.1 !=p1b.2.2.1 then (some false) else (if p0a.2.2.2 !=p1b.2.2.2 then (some false) else (some true))))
def jU (p0a:List (Int×Int×Int×Int)) (p1b:List (Int×Int×Int×Int)) (s3:Int):Option (Out Bool Int):=
 if decide (s3<(p0a.length:Int)) then ((az p0a s3).bind fun x5=>(az p1b s3).bind fun x6=>(pZ (x5.1,x5.2.1,x5.2.2.1,x5.2.2.2) (x6.1,x6.2.1,x6.2.2.1,x6.2.2.2)).bind fun r3=>if r3 then (some (.nxt (IntKind.i64.wrap (s3+1)))) else (some (.ret false))) else (some (.brk s3))
def qX (p0a:List (Int×Int×Int×Int)) (p1b:List (Int×Int×Int×Int)):Option Bool:=
 if (p0a.length:Int) !=(p1b.length:Int) then (some false) else (ay (ai (jU p0a p1b) aD 0) (fun r=>some r) (fun s4=>some true))
def nK (p0a:(List Int)×(List (Int×Int×Int×Int))) (p1b:(List Int)×(List (Int×Int×Int×Int))):Option Bool:=
 (pX p0a.1 p1b.1).bind fun r1=>if r1 then ((qX p0a.2 p1b.2).bind fun r2=>if r2 then (some true) else (some false)) else (some false)
def gE (s3:(List Bool)×Int×Int):Option (Out (Int×(List Bool)) ((List Bool)×Int×Int)):=
 if decide (s3.2.2<(s3.1.length:Int)) then ((az s3.1 s3.2.2).bind fun x3=>some (.nxt (s3.1.set s3.2.2.toNat ((Int.tmod s3.2.1 3)==0),IntKind.i64.wrap (s3.2.1+1),IntKind.i64.wrap (s3.2.2+1)))) else (some (.brk (s3.1,s3.2.1,s3.2.2)))
def kS (p0a:List Bool) (p1k:Int):Option (Int×(List Bool)):=
 ay (ai (gE) aD (p0a,p1k,0)) (fun r=>some r) (fun s4=>some (s4.2.1,s4.1))
def iU (s3:(List Int)×Int×Int):Option (Out (Int×(List Int)) ((List Int)×Int×Int)):=
 if decide (s3.2.2<(s3.1.length:Int)) then ((az s3.1 s3.2.2).bind fun x3=>some (.nxt (s3.1.set s3.2.2.toNat s3.2.1,IntKind.i64.wrap (s3.2.1+1),IntKind.i64.wrap (s3.2.2+1)))) else (some (.brk (s3.1,s3.2.1,s3.2.2)))
def ke (p0a:List Int) (p1k:Int):Option (Int×(List Int)):=
 ay (ai (iU) aD (p0a,p1k,0)) (fun r=>some r) (fun s4=>some (s4.2.1,s4.1))
def gF (s3:(List (List Int))×Int×Int):Option (Out (Int×(List (List Int))) ((List (List Int))×Int×Int)):=
 if decide (s3.2.2<(s3.1.length:Int)) then ((az s3.1 s3.2.2).bind fun x3=>(ke x3 s3.2.1).bind fun r6=>some (.nxt (s3.1.set s3.2.2.toNat r6.2,r6.1,IntKind.i64.wrap (s3.2.2+1)))) else (some (.brk (s3.1,s3.2.1,s3.2.2)))
def kT (p0a:List (List Int)) (p1k:Int):Option (Int×(List (List Int))):=
 ay (ai (gF) aD (p0a,p1k,0)) (fun r=>some r) (fun s4=>some (s4.2.1,s4.1))
def dw (s3:(List (Int×(List Bool)×(List (List Int))))×Int×Int):Option (Out (Int×(List (Int×(List Bool)×(List (List Int))))) ((List (Int×(List Bool)×(List (List Int))))×Int×Int)):=
 if decide (s3.2.2<(s3.1.length:Int)) then ((az s3.1 s3.2.2).bind fun x7=>(az (s3.1.set s3.2.2.toNat (s3.2.1,x7.2.1,x7.2.2)) s3.2.2).bind fun x8=>(kS x8.2.1 (IntKind.i64.wrap (s3.2.1+1))).bind fun r10=>(az ((s3.1.set s3.2.2.toNat (s3.2.1,x7.2.1,x7.2.2)).set s3.2.2.toNat (x8.1,r10.2,x8.2.2)) s3.2.2).bind fun x9=>(kT x9.2.2 r10.1).bind fun r12=>some (.nxt (((s3.1.set s3.2.2.toNat (s3.2.1,x7.2.1,x7.2.2)).set s3.2.2.toNat (x8.1,r10.2,x8.2.2)).set s3.2.2.toNat (x9.1,x9.2.1,r12.2),r12.1,IntKind.i64.wrap (s3.2.2+1)))) else (some (.brk (s3.1,s3.2.1,s3.2.2)))
def eW (p0a:List (Int×(List Bool)×(List (List Int)))) (p1k:Int):Option (Int×(List (Int×(List Bool)×(List (List Int))))):=
 ay (ai (dw) aD (p0a,p1k,0)) (fun r=>some r) (fun s4=>some (s4.2.1,s4.1))
def fR (s3:(List (Int×Int×Int×Int))×Int×Int):Option (Out (Int×(List (Int×Int×Int×Int))) ((List (Int×Int×Int×Int))×Int×Int)):=
 if decide (s3.2.2<(s3.1.length:Int)) then ((az s3.1 s3.2.2).bind fun x9=>(az (s3.1.set s3.2.2.toNat (s3.2.1,x9.2.1,x9.2.2.1,x9.2.2.2)) s3.2.2).bind fun x10=>(az ((s3.1.set s3.2.2.toNat (s3.2.1,x9.2.1,x9.2.2.1,x9.2.2.2)).set s3.2.2.toNat (x10.1,IntKind.i64.wrap (s3.2.1+1),x10.2.2.1,x10.2.2.2)) s3.2.2).bind fun x11=>(az (((s3.1.set s3.2.2.toNat (s3.2.1,x9.2.1,x9.2.2.1,x9.2.2.2)).set s3.2.2.toNat (x10.1,IntKind.i64.wrap (s3.2.1+1),x10.2.2.1,x10.2.2.2)).set s3.2.2.toNat (x11.1,x11.2.1,IntKind.i64.wrap ((IntKind.i64.wrap (s3.2.1+1))+1),x11.2.2.2)) s3.2.2).bind fun x12=>some (.nxt ((((s3.1.set s3.2.2.toNat (s3.2.1,x9.2.1,x9.2.2.1,x9.2.2.2)).set s3.2.2.toNat (x10.1,IntKind.i64.wrap (s3.2.1+1),x10.2.2.1,x10.2.2.2)).set s3.2.2.toNat (x11.1,x11.2.1,IntKind.i64.wrap ((IntKind.i64.wrap (s3.2.1+1))+1),x11.2.2.2)).set s3.2.2.toNat (x12.1,x12.2.1,x12.2.2.1,IntKind.i64.wrap ((IntKind.i64.wrap ((IntKind.i64.wrap (s3.2.1+1))+1))+1)),IntKind.i64.wrap ((IntKind.i64.wrap ((IntKind.i64.wrap ((IntKind.i64.wrap (s3.2.1+1))+1))+1))+1),IntKind.i64.wrap (s3.2.2+1)))) else (some (.brk (s3.1,s3.2.1,s3.2.2)))
def jV (p0a:List (Int×Int×Int×Int)) (p1k:Int):Option (Int×(List (Int×Int×Int×Int))):=
 ay (ai (fR) aD (p0a,p1k,0)) (fun r=>some r) (fun s4=>some (s4.2.1,s4.1))
def c8 (s3:(List (Int×((List (Int×Int×Int×Int)))×Int))×Int×Int):Option (Out (Int×(List (Int×((List (Int×Int×Int×Int)))×Int))) ((List (Int×((List (Int×Int×Int×Int)))×Int))×Int×Int)):=
 if decide (s3.2.2<(s3.1.length:Int)) then ((az s3.1 s3.2.2).bind fun x7=>(az (s3.1.set s3.2.2.toNat (s3.2.1,x7.2.1,x7.2.2)) s3.2.2).bind fun x8=>(jV x8.2.1 (IntKind.i64.wrap (s3.2.1+1))).bind fun r6=>(az ((s3.1.set s3.2.2.toNat (s3.2.1,x7.2.1,x7.2.2)).set s3.2.2.toNat (x8.1,(r6.2),x8.2.2)) s3.2.2).bind fun x9=>some (.nxt (((s3.1.set s3.2.2.toNat (s3.2.1,x7.2.1,x7.2.2)).set s3.2.2.toNat (x8.1,(r6.2),x8.2.2)).set s3.2.2.toNat (x9.1,x9.2.1,r6.1),IntKind.i64.wrap (r6.1+1),IntKind.i64.wrap (s3.2.2+1)))) else (some (.brk (s3.1,s3.2.1,s3.2.2)))
def eH (p0a:List (Int×((List (Int×Int×Int×Int)))×Int)) (p1k:Int):Option (Int×(List (Int×((List (Int×Int×Int×Int)))×Int))):=
 ay (ai (c8) aD (p0a,p1k,0)) (fun r=>some r) (fun s4=>some (s4.2.1,s4.1))
def eP (p0a:(List (Int×(List Bool)×(List (List Int))))×(List (Int×((List (Int×Int×Int×Int)))×Int))) (p1k:Int):Option (Int×((List (Int×(List Bool)×(List (List Int))))×(List (Int×((List (Int×Int×Int×Int)))×Int)))):=
 (eW p0a.1 p1k).bind fun r1=>(eH p0a.2 r1.1).bind fun r2=>some (r2.1,(r1.2,r2.2))
def gG (s3:(List (Int×Int×Int×Int))×Int×Int):Option (Out (Int×(List (Int×Int×Int×Int))) ((List (Int×Int×Int×Int))×Int×Int)):=
 if decide (s3.2.2<(s3.1.length:Int)) then ((az s3.1 s3.2.2).bind fun x9=>(az (s3.1.set s3.2.2.toNat (s3.2.1,x9.2.1,x9.2.2.1,x9.2.2.2)) s3.2.2).bind fun x10=>(az ((s3.1.set s3.2.2.toNat (s3.2.1,x9.2.1,x9.2.2.1,x9.2.2.2)).set s3.2.2.toNat (x10.1,IntKind.i64.wrap (s3.2.1+1),x10.2.2.1,x10.2.2.2)) s3.2.2).bind fun x11=>(az (((s3.1.set s3.2.2.toNat (s3.2.1,x9.2.1,x9.2.2.1,x9.2.2.2)).set s3.2.2.toNat (x10.1,IntKind.i64.wrap (s3.2.1+1),x10.2.2.1,x10.2.2.2)).set s3.2.2.toNat (x11.1,x11.2.1,IntKind.i64.wrap ((IntKind.i64.wrap (s3.2.1+1))+1),x11.2.2.2)) s3.2.2).bind fun x12=>some (.nxt ((((s3.1.set s3.2.2.toNat (s3.2.1,x9.2.1,x9.2.2.1,x9.2.2.2)).set s3.2.2.toNat (x10.1,IntKind.i64.wrap (s3.2.1+1),x10.2.2.1,x10.2.2.2)).set s3.2.2.toNat (x11.1,x11.2.1,IntKind.i64.wrap ((IntKind.i64.wrap (s3.2.1+1))+1),x11.2.2.2)).set s3.2.2.toNat (x12.1,x12.2.1,x12.2.2.1,IntKind.i64.wrap ((IntKind.i64.wrap ((IntKind.i64.wrap (s3.2.1+1))+1))+1)),IntKind.i64.wrap ((IntKind.i64.wrap ((IntKind.i64.wrap ((IntKind.i64.wrap (s3.2.1+1))+1))+1))+1),IntKind.i64.wrap (s3.2.2+1)))) else (some (.brk (s3.1,s3.2.1,s3.2.2)))
def kU (p0a:List (Int×Int×Int×Int)) (p1k:Int):Option (Int×(List (Int×Int×Int×Int))):=
 ay (ai (gG) aD (p0a,p1k,0)) (fun r=>some r) (fun s4=>some (s4.2.1,s4.1))
def kV (p0a:(List Int)×(List (Int×Int×Int×Int))) (p1k:Int):Option (Int×((List Int)×(List (Int×Int×Int×Int)))):=
 (ke p0a.1 p1k).bind fun r1=>(kU p0a.2 r1.1).bind fun r2=>some (r2.1,(r1.2,r2.2))
def gH (s3:(List (Int×Int))×Int×Int):Option (Out (Int×(List (Int×Int))) ((List (Int×Int))×Int×Int)):=
 if decide (s3.2.2<(s3.1.length:Int)) then ((az s3.1 s3.2.2).bind fun x5=>(az (s3.1.set s3.2.2.toNat (s3.2.1,x5.2)) s3.2.2).bind fun x6=>some (.nxt ((s3.1.set s3.2.2.toNat (s3.2.1,x5.2)).set s3.2.2.toNat (x6.1,IntKind.i64.wrap (s3.2.1+1)),IntKind.i64.wrap ((IntKind.i64.wrap (s3.2.1+1))+1),IntKind.i64.wrap (s3.2.2+1)))) else (some (.brk (s3.1,s3.2.1,s3.2.2)))
def iV (p0a:List (Int×Int)) (p1k:Int):Option (Int×(List (Int×Int))):=
 ay (ai (gH) aD (p0a,p1k,0)) (fun r=>some r) (fun s4=>some (s4.2.1,s4.1))
def gI (p0a:List (Int×Int)) (s3:Int×Int):Option (Out Int (Int×Int)):=
 if decide (s3.2<(p0a.length:Int)) then ((az p0a s3.2).bind fun x5=>if x5.1 !=s3.1 then (some (.ret (-1))) else ((az p0a s3.2).bind fun x6=>if x6.2 !=(IntKind.i64.wrap (s3.1+1)) then (some (.ret (-1))) else (some (.nxt (IntKind.i64.wrap ((IntKind.i64.wrap (s3.1+1))+1),IntKind.i64.wrap (s3.2+1)))))) else (some (.brk (s3.1,s3.2)))
def fS (p0a:List (Int×Int)) (p1k:Int):Option Int:=
 ay (ai (gI p0a) aD (p1k,0)) (fun r=>some r) (fun s4=>some s4.1)
def cG (p0:(List (Int×(List Bool)×(List (List Int))))×(List (Int×((List (Int×Int×Int×Int)))×Int))) (p1:(List Int)×(List (Int×Int×Int×Int))) (p2:Int):Option Bool:=
 (jE (p0.1,p0.2) 1048576).bind fun r1=>if decide (r1<0) then (some true) else ((nz (p1.1,p1.2) r1).bind fun r2=>if decide (r2<0) then (some true) else ((dB (p0.1,p0.2)).bind fun r3=>(gP (p1.1,p1.2)).bind fun r4=>(gz (r3.1,r3.2) (r4.1,r4.2) p2).bind fun r5=>(dB (p0.1,p0.2)).bind fun r6=>(gP (p1.1,p1.2)).bind fun r7=>(eO (r6.1,r6.2) (r7.1,r7.2) p2).bind fun r8=>(lE r8.1 r5.1).bind fun r9=>if r9 then (if r8.2 !=r5.2 then (some false) else ((dB (p0.1,p0.2)).bind fun r10=>(jT (r6.1,r6.2) (r10.1,r10.2)).bind fun r11=>if r11 then ((gP (p1.1,p1.2)).bind fun r12=>(nK (r7.1,r7.2) (r12.1,r12.2)).bind fun r13=>if r13 then ((eP (r6.1,r6.2) 1).bind fun r14=>(kV (r7.1,r7.2) r14.1).bind fun r15=>if decide (r15.1<0) then (some false) else ((lE r8.1 r5.1).bind fun r16=>if r16 then (if r8.2 !=r5.2 then (some false) else ((iV r8.1 1).bind fun r17=>(fS r17.2 1).bind fun r18=>if decide (r18<0) then (some false) else (if r18 !=r17.1 then (some false) else ((dB (p0.1,p0.2)).bind fun r19=>(gP (p1.1,p1.2)).bind fun r20=>(eO (r19.1,r19.2) (r20.1,r20.2) p2).bind fun r21=>(lE r21.1 r5.1).bind fun r22=>if r22 then (if r21.2 !=r5.2 then (some false) else ((fS r17.2 1).bind fun r23=>if decide (r23<0) then (some false) else (if r23 !=r17.1 then (some false) else (some true)))) else (some false))))) else (some false))) else (some false)) else (some false))) else (some false)))
end D
namespace R
open Go.RowKit
open D
abbrev y3:Ty:=.int .i64
abbrev uj:Ty:=.prod y3 (.prod y3 (.prod y3 y3))
abbrev t263:Ty:=.tree 294 263 uj
abbrev MN:Ty:=.prod y3 y3
abbrev y4:Ty:=.bool
abbrev y89:Ty:=.sl 4 y4
abbrev y26:Ty:=.sl 3 y3
abbrev y90:Ty:=.sl 26 y26
abbrev SX:Ty:=.prod y3 (.prod y89 y90)
abbrev TA:Ty:=.prod y3 (.prod y3 (.prod y3 y3))
abbrev SY:Ty:=.sl 232 TA
abbrev SZ:Ty:=.wr SY
abbrev S4:Ty:=.prod y3 (.prod SZ y3)
abbrev GP:Ty:=.sl 188 uj
abbrev p7:Ty:=.wr GP
abbrev Cd:Ty:=.prod y3 (.prod p7 y3)
abbrev Hz:Ty:=.prod y3 (.prod y3 (.prod y3 y3))
abbrev TC:Ty:=.prod y3 (.prod y3 (.prod y3 y3))
abbrev Ql:Ty:=.prod y3 y4
abbrev RZ:Ty:=.prod Ql (.prod y3 y3)
abbrev Uu:Ty:=.sl 205 RZ
abbrev y22:Ty:=.sl 133 SX
abbrev Fz:Ty:=.prod y26 (.prod y3 (.prod y3 (.prod y26 y4)))
abbrev Uv:Ty:=.sl 203 Ql
abbrev y23:Ty:=.sl 139 S4
abbrev Uw:Ty:=.prod Ql (.prod y3 y3)
abbrev TE:Ty:=.sl 240 Uw
abbrev Ux:Ty:=.sl 238 TE
abbrev R0:Ty:=.int .u64
abbrev y25:Ty:=.prod y22 y23
abbrev Uy:Ty:=.prod y4 (.prod y3 y3)
abbrev Uz:Ty:=.prod y3 (.prod y3 y4)
abbrev TG:Ty:=.fro t263
abbrev y27:Ty:=.sl 156 TC
abbrev R1:Ty:=.int .u32
abbrev R2:Ty:=.int .u64
abbrev y29:Ty:=.prod y26 y27
abbrev S5:Ty:=.sl 263 TG
abbrev UO:Ty:=.prod uj S5
abbrev y32:Ty:=.sl 103 MN
abbrev y92:Ty:=.prod y3 (.prod y89 y90)
abbrev y35:Ty:=.sl 92 y92
abbrev y36:Ty:=.sl 146 Cd
abbrev y38:Ty:=.prod y35 y36
abbrev y40:Ty:=.sl 150 Hz
abbrev y42:Ty:=.prod y26 y40
theorem ti3:TI Tryz.prog 3 false 1:=⟨⟨_,Tryz.underlying3,rfl⟩,by kernel_rfl⟩
theorem R3 (a0:Int) (a1:Int) (a2:Int) (a3:Int) (b0:Int) (b1:Int) (b2:Int) (b3:Int) (w:World):EqT Tryz.prog 188 (.agg #[.int .i64 a0,.int .i64 a1,.int .i64 a2,.int .i64 a3]) (.agg #[.int .i64 b0,.int .i64 b1,.int .i64 b2,.int .i64 b3]) ((a0==b0)&&((a1==b1)&&((a2==b2)&&((a3==b3)&&true)))) w:=Rj w Tryz.underlying188 (by kernel_rfl) (by kernel_rfl) (uY rfl (tX ti3 rfl) (tX ti3 rfl) (run_equalIn_int w 9998 3 _ _ _ _ Tryz.underlying3) (uY rfl (tX ti3 rfl) (tX ti3 rfl) (run_equalIn_int w 9998 3 _ _ _ _ Tryz.underlying3) (uY rfl (tX ti3 rfl) (tX ti3 rfl) (run_equalIn_int w 9998 3 _ _ _ _ Tryz.underlying3) (uY rfl (tX ti3 rfl) (tX ti3 rfl) (run_equalIn_int w 9998 3 _ _ _ _ Tryz.underlying3) (Pb w)))))
theorem mz3 (w:World):(zeroValue 3).run Tryz.prog w= .ok (.int .i64 0) w:=by kernel_rfl
theorem kk3:KeyOk Tryz.prog 3 (fun n:Int=>Value.int .i64 n) Pf iOk:=Rm Tryz.underlying3
theorem ek3:EltOk Tryz.prog 3 (fun n:Int=>Value.int .i64 n) Pf iOk 0:=Rn Tryz.underlying3 mz3
def tt:TT:=[(3,⟨false,1,none,y3,[],some 8,none,false,none,none,some (some .i64),false,none⟩),
 (4,⟨false,1,none,y4,[],some 1,none,true,none,none,none,false,none⟩),
 (22,⟨false,1,some 133,y22,[],some 24,none,false,none,none,none,false,none⟩),
 (23,⟨false,1,some 139,y23,[],some 24,none,false,none,none,none,false,none⟩),
 (25,⟨true,2,none,y25,[(0,0),(1,0)],some 48,some [(0,1),(1,1)],false,none,none,none,false,none⟩),
 (26,⟨false,1,some 3,y26,[],some 24,none,false,none,none,none,false,none⟩),
 (27,⟨false,1,some 156,y27,[],some 24,none,false,none,none,none,false,none⟩),
 (29,⟨true,2,none,y29,[(0,0),(1,0)],some 48,some [(0,1),(1,1)],false,none,none,none,false,none⟩),
 (32,⟨false,1,some 103,y32,[],some 24,none,false,none,none,none,false,none⟩),
 (35,⟨false,1,some 92,y35,[],some 24,none,false,none,none,none,false,none⟩),
 (36,⟨false,1,some 146,y36,[],some 24,none,false,none,none,none,false,none⟩),
 (38,⟨true,2,none,y38,[(0,0),(1,0)],some 48,some [(0,1),(1,1)],false,none,none,none,false,none⟩),
 (40,⟨false,1,some 150,y40,[],some 24,none,false,none,none,none,false,none⟩),
 (42,⟨true,2,none,y42,[(0,0),(1,0)],some 48,some [(0,1),(1,1)],false,none,none,none,false,none⟩),
 (89,⟨false,1,some 4,y89,[],some 24,none,false,none,none,none,false,none⟩),
 (90,⟨false,1,some 26,y90,[],some 24,none,false,none,none,none,false,none⟩),
 (92,⟨true,3,none,y92,[(0,0),(1,0),(2,0)],some 56,some [(0,1),(1,1),(2,1)],false,none,none,none,false,none⟩),
 (103,⟨true,2,none,MN,[(0,0),(1,0)],some 16,some [(0,1),(1,1)],false,none,none,none,false,none⟩),
 (106,⟨false,1,none,.bool,[],none,none,false,none,none,none,true,none⟩),
 (133,⟨true,3,none,SX,[(0,0),(1,0),(2,0)],some 56,some [(0,1),(1,1),(2,1)],false,none,none,none,false,none⟩),
 (135,⟨false,1,some 232,SY,[],some 24,none,false,none,none,none,false,none⟩),
 (137,⟨true,1,none,SZ,[(0,0)],some 24,some [(0,1)],false,none,none,none,false,none⟩),
 (139,⟨true,3,none,S4,[(0,0),(1,0),(2,0)],some 40,some [(0,1),(1,1),(2,1)],false,none,none,none,false,none⟩),
 (142,⟨false,1,some 188,GP,[],some 24,none,false,none,none,none,false,none⟩),
 (144,⟨true,1,none,p7,[(0,0)],some 24,some [(0,1)],false,none,none,none,false,none⟩),
 (146,⟨true,3,none,Cd,[(0,0),(1,0),(2,0)],some 40,some [(0,1),(1,1),(2,1)],false,none,none,none,false,none⟩),
 (150,⟨true,4,none,Hz,[(0,0),(1,0),(2,0),(3,0)],some 32,some [(0,1),(1,1),(2,1),(3,1)],false,none,none,none,false,none⟩),
 (156,⟨true,4,none,TC,[(0,0),(1,0),(2,0),(3,0)],some 32,some [(0,1),(1,1),(2,1),(3,1)],false,none,none,none,false,none⟩),
 (159,⟨false,1,none,.bool,[],none,none,false,none,none,none,true,none⟩),
 (160,⟨false,1,none,.bool,[],none,none,false,none,none,none,true,none⟩),
 (176,⟨false,1,none,.bool,[],none,none,false,none,none,none,true,none⟩),
 (182,⟨false,1,none,.bool,[],none,none,false,none,none,none,true,none⟩),
 (188,⟨true,4,none,uj,[(0,0),(1,0),(2,0),(3,0)],some 32,some [(0,1),(1,1),(2,1),(3,1)],false,some [some .i64,some .i64,some .i64,some .i64],none,none,false,none⟩),
 (200,⟨false,1,some 205,Uu,[],some 24,none,false,none,none,none,false,none⟩),
 (203,⟨true,2,none,Ql,[(0,0),(1,0)],some 16,some [(0,1),(1,1)],false,none,none,none,false,none⟩),
 (205,⟨true,4,none,RZ,[(0,1),(2,0),(3,0)],some 32,some [(0,2),(2,1),(3,1)],false,none,none,none,false,none⟩),
 (224,⟨true,5,none,Fz,[(0,0),(1,0),(2,0),(3,0),(4,0)],some 72,some [(0,1),(1,1),(2,1),(3,1),(4,1)],false,none,none,none,false,none⟩),
 (228,⟨false,1,some 203,Uv,[],some 24,none,false,none,none,none,false,none⟩),
 (232,⟨true,4,none,TA,[(0,0),(1,0),(2,0),(3,0)],some 32,some [(0,1),(1,1),(2,1),(3,1)],false,none,none,none,false,none⟩),
 (236,⟨false,1,some 238,Ux,[],some 24,none,false,none,none,none,false,none⟩),
 (238,⟨false,1,some 240,TE,[],some 24,none,false,none,none,none,false,none⟩),
 (240,⟨true,4,none,Uw,[(0,1),(2,0),(3,0)],some 32,some [(0,2),(2,1),(3,1)],false,none,none,none,false,none⟩),
 (244,⟨false,1,none,R0,[],some 8,none,false,none,none,some (some .u64),false,none⟩),
 (252,⟨true,3,none,Uy,[(0,0),(1,0),(2,0)],some 24,some [(0,1),(1,1),(2,1)],false,none,none,none,false,none⟩),
 (261,⟨true,3,none,Uz,[(0,0),(1,0),(2,0)],some 24,some [(0,1),(1,1),(2,1)],false,none,none,none,false,none⟩),
 (263,⟨false,1,none,TG,[],some 8,none,false,none,none,none,false,some 294⟩),
 (266,⟨false,1,none,.bool,[],none,none,false,none,none,none,true,none⟩),
 (267,⟨false,1,none,.bool,[],none,none,false,none,none,none,true,none⟩),
 (281,⟨false,1,none,R1,[],some 4,none,false,none,none,some (some .u32),false,none⟩),
 (283,⟨false,1,none,R2,[],some 8,none,false,none,none,some (some .u64),false,none⟩),
 (292,⟨false,1,some 263,S5,[],some 24,none,false,none,none,none,false,none⟩),
 (294,⟨true,5,none,UO,[(0,3),(4,0)],some 56,some [(0,4),(4,1)],false,none,none,none,false,none⟩),
 (298,⟨false,1,none,.bool,[],none,none,false,none,some ⟨3,3,.int,.int⟩,none,false,none⟩),
 (300,⟨false,1,none,.bool,[],none,none,false,none,none,none,true,none⟩),
 (333,⟨false,1,none,.bool,[],none,none,false,none,none,none,true,none⟩)]
theorem al:TTok Tryz.prog tt:=⟨wx (n:=1) (z:=.int .i64 0) ⟨⟨_,Tryz.underlying3,rfl⟩,by kernel_rfl⟩ rfl (by unfold TZ;kernel_rfl) rfl (Nat.le_of_ble_eq_true rfl) (fun h=>by cases h) (fun k h=>by obtain rfl:=Option.some.inj h;exact Tryz.underlying3),
 wx (n:=1) (z:=.bool false) ⟨⟨_,Tryz.underlying4,rfl⟩,by kernel_rfl⟩ rfl (by unfold TZ;kernel_rfl) rfl (Nat.le_of_ble_eq_true rfl) (fun h=>Tryz.underlying4) (fun k h=>by cases h),
 oU ⟨⟨_,Tryz.underlying22,rfl⟩,by kernel_rfl⟩ Tryz.underlying22 (by unfold TZ;kernel_rfl),
 oU ⟨⟨_,Tryz.underlying23,rfl⟩,by kernel_rfl⟩ Tryz.underlying23 (by unfold TZ;kernel_rfl),
 lW (z:=.agg #[.slice none 0 0,.slice none 0 0]) ⟨⟨_,Tryz.underlying25,rfl⟩,by kernel_rfl⟩ rfl ⟨⟨_,_,Tryz.underlying25,rfl,rfl,by kernel_rfl⟩,⟨_,_,Tryz.underlying25,rfl,rfl,by kernel_rfl⟩,trivial⟩ (by unfold TZ;kernel_rfl) rfl (Nat.le_of_ble_eq_true rfl) ⟨_,Tryz.underlying25,by kernel_rfl⟩ (fun ks h=>by cases h),
 oU ⟨⟨_,Tryz.underlying26,rfl⟩,by kernel_rfl⟩ Tryz.underlying26 (by unfold TZ;kernel_rfl),
 oU ⟨⟨_,Tryz.underlying27,rfl⟩,by kernel_rfl⟩ Tryz.underlying27 (by unfold TZ;kernel_rfl),
 lW (z:=.agg #[.slice none 0 0,.slice none 0 0]) ⟨⟨_,Tryz.underlying29,rfl⟩,by kernel_rfl⟩ rfl ⟨⟨_,_,Tryz.underlying29,rfl,rfl,by kernel_rfl⟩,⟨_,_,Tryz.underlying29,rfl,rfl,by kernel_rfl⟩,trivial⟩ (by unfold TZ;kernel_rfl) rfl (Nat.le_of_ble_eq_true rfl) ⟨_,Tryz.underlying29,by kernel_rfl⟩ (fun ks h=>by cases h),
 oU ⟨⟨_,Tryz.underlying32,rfl⟩,by kernel_rfl⟩ Tryz.underlying32 (by unfold TZ;kernel_rfl),
 oU ⟨⟨_,Tryz.underlying35,rfl⟩,by kernel_rfl⟩ Tryz.underlying35 (by unfold TZ;kernel_rfl),
 oU ⟨⟨_,Tryz.underlying36,rfl⟩,by kernel_rfl⟩ Tryz.underlying36 (by unfold TZ;kernel_rfl),
 lW (z:=.agg #[.slice none 0 0,.slice none 0 0]) ⟨⟨_,Tryz.underlying38,rfl⟩,by kernel_rfl⟩ rfl ⟨⟨_,_,Tryz.underlying38,rfl,rfl,by kernel_rfl⟩,⟨_,_,Tryz.underlying38,rfl,rfl,by kernel_rfl⟩,trivial⟩ (by unfold TZ;kernel_rfl) rfl (Nat.le_of_ble_eq_true rfl) ⟨_,Tryz.underlying38,by kernel_rfl⟩ (fun ks h=>by cases h),
 oU ⟨⟨_,Tryz.underlying40,rfl⟩,by kernel_rfl⟩ Tryz.underlying40 (by unfold TZ;kernel_rfl),
 lW (z:=.agg #[.slice none 0 0,.slice none 0 0]) ⟨⟨_,Tryz.underlying42,rfl⟩,by kernel_rfl⟩ rfl ⟨⟨_,_,Tryz.underlying42,rfl,rfl,by kernel_rfl⟩,⟨_,_,Tryz.underlying42,rfl,rfl,by kernel_rfl⟩,trivial⟩ (by unfold TZ;kernel_rfl) rfl (Nat.le_of_ble_eq_true rfl) ⟨_,Tryz.underlying42,by kernel_rfl⟩ (fun ks h=>by cases h),
 oU ⟨⟨_,Tryz.underlying89,rfl⟩,by kernel_rfl⟩ Tryz.underlying89 (by unfold TZ;kernel_rfl),
 oU ⟨⟨_,Tryz.underlying90,rfl⟩,by kernel_rfl⟩ Tryz.underlying90 (by unfold TZ;kernel_rfl),
 lW (z:=.agg #[.int .i64 0,.slice none 0 0,.slice none 0 0]) ⟨⟨_,Tryz.underlying92,rfl⟩,by kernel_rfl⟩ rfl ⟨⟨_,_,Tryz.underlying92,rfl,rfl,by kernel_rfl⟩,⟨_,_,Tryz.underlying92,rfl,rfl,by kernel_rfl⟩,⟨_,_,Tryz.underlying92,rfl,rfl,by kernel_rfl⟩,trivial⟩ (by unfold TZ;kernel_rfl) rfl (Nat.le_of_ble_eq_true rfl) ⟨_,Tryz.underlying92,by kernel_rfl⟩ (fun ks h=>by cases h),
 lW (z:=.agg #[.int .i64 0,.int .i64 0]) ⟨⟨_,Tryz.underlying103,rfl⟩,by kernel_rfl⟩ rfl ⟨⟨_,_,Tryz.underlying103,rfl,rfl,by kernel_rfl⟩,⟨_,_,Tryz.underlying103,rfl,rfl,by kernel_rfl⟩,trivial⟩ (by unfold TZ;kernel_rfl) rfl (Nat.le_of_ble_eq_true rfl) ⟨_,Tryz.underlying103,by kernel_rfl⟩ (fun ks h=>by cases h),
 Ag (ty:=.bool) (b:=8) ⟨⟨_,Tryz.underlying106,rfl⟩,by kernel_rfl⟩ rfl (by unfold TZ;kernel_rfl),
 lW (z:=.agg #[.int .i64 0,.slice none 0 0,.slice none 0 0]) ⟨⟨_,Tryz.underlying133,rfl⟩,by kernel_rfl⟩ rfl ⟨⟨_,_,Tryz.underlying133,rfl,rfl,by kernel_rfl⟩,⟨_,_,Tryz.underlying133,rfl,rfl,by kernel_rfl⟩,⟨_,_,Tryz.underlying133,rfl,rfl,by kernel_rfl⟩,trivial⟩ (by unfold TZ;kernel_rfl) rfl (Nat.le_of_ble_eq_true rfl) ⟨_,Tryz.underlying133,by kernel_rfl⟩ (fun ks h=>by cases h),
 oU ⟨⟨_,Tryz.underlying135,rfl⟩,by kernel_rfl⟩ Tryz.underlying135 (by unfold TZ;kernel_rfl),
 lW (z:=.agg #[.slice none 0 0]) ⟨⟨_,Tryz.underlying137,rfl⟩,by kernel_rfl⟩ rfl ⟨⟨_,_,Tryz.underlying137,rfl,rfl,by kernel_rfl⟩,trivial⟩ (by unfold TZ;kernel_rfl) rfl (Nat.le_of_ble_eq_true rfl) ⟨_,Tryz.underlying137,by kernel_rfl⟩ (fun ks h=>by cases h),
 lW (z:=.agg #[.int .i64 0,.slice none 0 0,.int .i64 0]) ⟨⟨_,Tryz.underlying139,rfl⟩,by kernel_rfl⟩ rfl ⟨⟨_,_,Tryz.underlying139,rfl,rfl,by kernel_rfl⟩,⟨_,_,Tryz.underlying139,rfl,rfl,by kernel_rfl⟩,⟨_,_,Tryz.underlying139,rfl,rfl,by kernel_rfl⟩,trivial⟩ (by unfold TZ;kernel_rfl) rfl (Nat.le_of_ble_eq_true rfl) ⟨_,Tryz.underlying139,by kernel_rfl⟩ (fun ks h=>by cases h),
 oU ⟨⟨_,Tryz.underlying142,rfl⟩,by kernel_rfl⟩ Tryz.underlying142 (by unfold TZ;kernel_rfl),
 lW (z:=.agg #[.slice none 0 0]) ⟨⟨_,Tryz.underlying144,rfl⟩,by kernel_rfl⟩ rfl ⟨⟨_,_,Tryz.underlying144,rfl,rfl,by kernel_rfl⟩,trivial⟩ (by unfold TZ;kernel_rfl) rfl (Nat.le_of_ble_eq_true rfl) ⟨_,Tryz.underlying144,by kernel_rfl⟩ (fun ks h=>by cases h),
 lW (z:=.agg #[.int .i64 0,.slice none 0 0,.int .i64 0]) ⟨⟨_,Tryz.underlying146,rfl⟩,by kernel_rfl⟩ rfl ⟨⟨_,_,Tryz.underlying146,rfl,rfl,by kernel_rfl⟩,⟨_,_,Tryz.underlying146,rfl,rfl,by kernel_rfl⟩,⟨_,_,Tryz.underlying146,rfl,rfl,by kernel_rfl⟩,trivial⟩ (by unfold TZ;kernel_rfl) rfl (Nat.le_of_ble_eq_true rfl) ⟨_,Tryz.underlying146,by kernel_rfl⟩ (fun ks h=>by cases h),
 lW (z:=.agg #[.int .i64 0,.int .i64 0,.int .i64 0,.int .i64 0]) ⟨⟨_,Tryz.underlying150,rfl⟩,by kernel_rfl⟩ rfl ⟨⟨_,_,Tryz.underlying150,rfl,rfl,by kernel_rfl⟩,⟨_,_,Tryz.underlying150,rfl,rfl,by kernel_rfl⟩,⟨_,_,Tryz.underlying150,rfl,rfl,by kernel_rfl⟩,⟨_,_,Tryz.underlying150,rfl,rfl,by kernel_rfl⟩,trivial⟩ (by unfold TZ;kernel_rfl) rfl (Nat.le_of_ble_eq_true rfl) ⟨_,Tryz.underlying150,by kernel_rfl⟩ (fun ks h=>by cases h),
 lW (z:=.agg #[.int .i64 0,.int .i64 0,.int .i64 0,.int .i64 0]) ⟨⟨_,Tryz.underlying156,rfl⟩,by kernel_rfl⟩ rfl ⟨⟨_,_,Tryz.underlying156,rfl,rfl,by kernel_rfl⟩,⟨_,_,Tryz.underlying156,rfl,rfl,by kernel_rfl⟩,⟨_,_,Tryz.underlying156,rfl,rfl,by kernel_rfl⟩,⟨_,_,Tryz.underlying156,rfl,rfl,by kernel_rfl⟩,trivial⟩ (by unfold TZ;kernel_rfl) rfl (Nat.le_of_ble_eq_true rfl) ⟨_,Tryz.underlying156,by kernel_rfl⟩ (fun ks h=>by cases h),
 Ag (ty:=.bool) (b:=8) ⟨⟨_,Tryz.underlying159,rfl⟩,by kernel_rfl⟩ rfl (by unfold TZ;kernel_rfl),
 Ag (ty:=.bool) (b:=8) ⟨⟨_,Tryz.underlying160,rfl⟩,by kernel_rfl⟩ rfl (by unfold TZ;kernel_rfl),
 Ag (ty:=.bool) (b:=8) ⟨⟨_,Tryz.underlying176,rfl⟩,by kernel_rfl⟩ rfl (by unfold TZ;kernel_rfl),
 Ag (ty:=.bool) (b:=8) ⟨⟨_,Tryz.underlying182,rfl⟩,by kernel_rfl⟩ rfl (by unfold TZ;kernel_rfl),
 lW (z:=.agg #[.int .i64 0,.int .i64 0,.int .i64 0,.int .i64 0]) ⟨⟨_,Tryz.underlying188,rfl⟩,by kernel_rfl⟩ rfl ⟨⟨_,_,Tryz.underlying188,rfl,rfl,by kernel_rfl⟩,⟨_,_,Tryz.underlying188,rfl,rfl,by kernel_rfl⟩,⟨_,_,Tryz.underlying188,rfl,rfl,by kernel_rfl⟩,⟨_,_,Tryz.underlying188,rfl,rfl,by kernel_rfl⟩,trivial⟩ (by unfold TZ;kernel_rfl) rfl (Nat.le_of_ble_eq_true rfl) ⟨_,Tryz.underlying188,by kernel_rfl⟩ (fun ks h=>by obtain rfl:=Option.some.inj h;exact fun w a0 b0 a1 b1 a2 b2 a3 b3=>R3 a0 a1 a2 a3 b0 b1 b2 b3 w),
 oU ⟨⟨_,Tryz.underlying200,rfl⟩,by kernel_rfl⟩ Tryz.underlying200 (by unfold TZ;kernel_rfl),
 lW (z:=.agg #[.int .i64 0,.bool false]) ⟨⟨_,Tryz.underlying203,rfl⟩,by kernel_rfl⟩ rfl ⟨⟨_,_,Tryz.underlying203,rfl,rfl,by kernel_rfl⟩,⟨_,_,Tryz.underlying203,rfl,rfl,by kernel_rfl⟩,trivial⟩ (by unfold TZ;kernel_rfl) rfl (Nat.le_of_ble_eq_true rfl) ⟨_,Tryz.underlying203,by kernel_rfl⟩ (fun ks h=>by cases h),
 lW (z:=.agg #[.int .i64 0,.bool false,.int .i64 0,.int .i64 0]) ⟨⟨_,Tryz.underlying205,rfl⟩,by kernel_rfl⟩ rfl ⟨⟨_,_,Tryz.underlying205,rfl,rfl,by kernel_rfl⟩,⟨_,_,Tryz.underlying205,rfl,rfl,by kernel_rfl⟩,⟨_,_,Tryz.underlying205,rfl,rfl,by kernel_rfl⟩,trivial⟩ (by unfold TZ;kernel_rfl) rfl (Nat.le_of_ble_eq_true rfl) ⟨_,Tryz.underlying205,by kernel_rfl⟩ (fun ks h=>by cases h),
 lW (z:=.agg #[.slice none 0 0,.int .i64 0,.int .i64 0,.slice none 0 0,.bool false]) ⟨⟨_,Tryz.underlying224,rfl⟩,by kernel_rfl⟩ rfl ⟨⟨_,_,Tryz.underlying224,rfl,rfl,by kernel_rfl⟩,⟨_,_,Tryz.underlying224,rfl,rfl,by kernel_rfl⟩,⟨_,_,Tryz.underlying224,rfl,rfl,by kernel_rfl⟩,⟨_,_,Tryz.underlying224,rfl,rfl,by kernel_rfl⟩,⟨_,_,Tryz.underlying224,rfl,rfl,by kernel_rfl⟩,trivial⟩ (by unfold TZ;kernel_rfl) rfl (Nat.le_of_ble_eq_true rfl) ⟨_,Tryz.underlying224,by kernel_rfl⟩ (fun ks h=>by cases h),
 oU ⟨⟨_,Tryz.underlying228,rfl⟩,by kernel_rfl⟩ Tryz.underlying228 (by unfold TZ;kernel_rfl),
 lW (z:=.agg #[.int .i64 0,.int .i64 0,.int .i64 0,.int .i64 0]) ⟨⟨_,Tryz.underlying232,rfl⟩,by kernel_rfl⟩ rfl ⟨⟨_,_,Tryz.underlying232,rfl,rfl,by kernel_rfl⟩,⟨_,_,Tryz.underlying232,rfl,rfl,by kernel_rfl⟩,⟨_,_,Tryz.underlying232,rfl,rfl,by kernel_rfl⟩,⟨_,_,Tryz.underlying232,rfl,rfl,by kernel_rfl⟩,trivial⟩ (by unfold TZ;kernel_rfl) rfl (Nat.le_of_ble_eq_true rfl) ⟨_,Tryz.underlying232,by kernel_rfl⟩ (fun ks h=>by cases h),
 oU ⟨⟨_,Tryz.underlying236,rfl⟩,by kernel_rfl⟩ Tryz.underlying236 (by unfold TZ;kernel_rfl),
 oU ⟨⟨_,Tryz.underlying238,rfl⟩,by kernel_rfl⟩ Tryz.underlying238 (by unfold TZ;kernel_rfl),
 lW (z:=.agg #[.int .i64 0,.bool false,.int .i64 0,.int .i64 0]) ⟨⟨_,Tryz.underlying240,rfl⟩,by kernel_rfl⟩ rfl ⟨⟨_,_,Tryz.underlying240,rfl,rfl,by kernel_rfl⟩,⟨_,_,Tryz.underlying240,rfl,rfl,by kernel_rfl⟩,⟨_,_,Tryz.underlying240,rfl,rfl,by kernel_rfl⟩,trivial⟩ (by unfold TZ;kernel_rfl) rfl (Nat.le_of_ble_eq_true rfl) ⟨_,Tryz.underlying240,by kernel_rfl⟩ (fun ks h=>by cases h),
 wx (n:=1) (z:=.int .u64 0) ⟨⟨_,Tryz.underlying244,rfl⟩,by kernel_rfl⟩ rfl (by unfold TZ;kernel_rfl) rfl (Nat.le_of_ble_eq_true rfl) (fun h=>by cases h) (fun k h=>by obtain rfl:=Option.some.inj h;exact Tryz.underlying244),
 lW (z:=.agg #[.bool false,.int .i64 0,.int .i64 0]) ⟨⟨_,Tryz.underlying252,rfl⟩,by kernel_rfl⟩ rfl ⟨⟨_,_,Tryz.underlying252,rfl,rfl,by kernel_rfl⟩,⟨_,_,Tryz.underlying252,rfl,rfl,by kernel_rfl⟩,⟨_,_,Tryz.underlying252,rfl,rfl,by kernel_rfl⟩,trivial⟩ (by unfold TZ;kernel_rfl) rfl (Nat.le_of_ble_eq_true rfl) ⟨_,Tryz.underlying252,by kernel_rfl⟩ (fun ks h=>by cases h),
 lW (z:=.agg #[.int .i64 0,.int .i64 0,.bool false]) ⟨⟨_,Tryz.underlying261,rfl⟩,by kernel_rfl⟩ rfl ⟨⟨_,_,Tryz.underlying261,rfl,rfl,by kernel_rfl⟩,⟨_,_,Tryz.underlying261,rfl,rfl,by kernel_rfl⟩,⟨_,_,Tryz.underlying261,rfl,rfl,by kernel_rfl⟩,trivial⟩ (by unfold TZ;kernel_rfl) rfl (Nat.le_of_ble_eq_true rfl) ⟨_,Tryz.underlying261,by kernel_rfl⟩ (fun ks h=>by cases h),
 Tz (e:=294) (E:=263) (u:=uj) ⟨⟨_,Tryz.underlying263,rfl⟩,by kernel_rfl⟩ Tryz.underlying263 (by unfold TZ;kernel_rfl),
 Ag (ty:=.bool) (b:=8) ⟨⟨_,Tryz.underlying266,rfl⟩,by kernel_rfl⟩ rfl (by unfold TZ;kernel_rfl),
 Ag (ty:=.bool) (b:=8) ⟨⟨_,Tryz.underlying267,rfl⟩,by kernel_rfl⟩ rfl (by unfold TZ;kernel_rfl),
 wx (n:=1) (z:=.int .u32 0) ⟨⟨_,Tryz.underlying281,rfl⟩,by kernel_rfl⟩ rfl (by unfold TZ;kernel_rfl) rfl (Nat.le_of_ble_eq_true rfl) (fun h=>by cases h) (fun k h=>by obtain rfl:=Option.some.inj h;exact Tryz.underlying281),
 wx (n:=1) (z:=.int .u64 0) ⟨⟨_,Tryz.underlying283,rfl⟩,by kernel_rfl⟩ rfl (by unfold TZ;kernel_rfl) rfl (Nat.le_of_ble_eq_true rfl) (fun h=>by cases h) (fun k h=>by obtain rfl:=Option.some.inj h;exact Tryz.underlying283),
 oU ⟨⟨_,Tryz.underlying292,rfl⟩,by kernel_rfl⟩ Tryz.underlying292 (by unfold TZ;kernel_rfl),
 lW (z:=.agg #[.int .i64 0,.int .i64 0,.int .i64 0,.int .i64 0,.slice none 0 0]) ⟨⟨_,Tryz.underlying294,rfl⟩,by kernel_rfl⟩ rfl ⟨⟨_,_,Tryz.underlying294,rfl,rfl,by kernel_rfl⟩,⟨_,_,Tryz.underlying294,rfl,rfl,by kernel_rfl⟩,trivial⟩ (by unfold TZ;kernel_rfl) rfl (Nat.le_of_ble_eq_true rfl) ⟨_,Tryz.underlying294,by kernel_rfl⟩ (fun ks h=>by cases h),
 Tx (m:=⟨3,3,.int,.int⟩) (ty:=.bool) ⟨⟨_,Tryz.underlying298,rfl⟩,by kernel_rfl⟩ rfl ⟨Tryz.underlying298,kk3,ek3⟩,
 Ag (ty:=.bool) (b:=8) ⟨⟨_,Tryz.underlying300,rfl⟩,by kernel_rfl⟩ rfl (by unfold TZ;kernel_rfl),
 Ag (ty:=.bool) (b:=8) ⟨⟨_,Tryz.underlying333,rfl⟩,by kernel_rfl⟩ rfl (by unfold TZ;kernel_rfl),trivial⟩
theorem mixed:Tryz.prog.follows .mixedOrders=true:=by kernel_rfl
def wA:FS:=⟨[.rd y89,.rd y3],[y3],qQ,none⟩
def tv:FS:=⟨[.rd y26,.rd y3],[y3],pO,none⟩
def wB:FS:=⟨[.rd y90,.rd y3],[y3],qR,none⟩
def oZ:FS:=⟨[.rd SX,.rd y3],[y3],iE,none⟩
def nZ:FS:=⟨[.rd y22,.rd y3],[y3],ku,none⟩
def uk:FS:=⟨[.rd SY,.rd y3],[y3],oV,none⟩
def yP:FS:=⟨[.rd SZ,.rd y3],[y3],pP,none⟩
def n7:FS:=⟨[.rd S4,.rd y3],[y3],gx,none⟩
def mT:FS:=⟨[.rd y23,.rd y3],[y3],ji,none⟩
def qj:FS:=⟨[.rd y25,.rd y3],[y3],jE,none⟩
def wC:FS:=⟨[.rd y27,.rd y3],[y3],qS,none⟩
def wD:FS:=⟨[.rd y29,.rd y3],[y3],nz,none⟩
def sd:FS:=⟨[.rd y38,.rd y3],[y3],kN,none⟩
def mc:FS:=⟨[.rd y3,.rd y3,.rd y3],[y4],dm,none⟩
def um:FS:=⟨[.rd y3],[y4],l7,none⟩
def qY:FS:=⟨[.rd uj],[y3],lq,none⟩
def yQ:FS:=⟨[.rd p7],[y4],pQ,none⟩
def o0:FS:=⟨[.rd p7],[y4],iF,none⟩
def nL:FS:=⟨[.rd GP],[y3],fh,none⟩
def nM (n:Nat):FS:=⟨[.rd GP],[y3],cP n,none⟩
def tw:FS:=⟨[.rd GP],[p7],jj,none⟩
def tx:FS:=⟨[.rd p7,.rd p7,.rd uj],[p7],jk,none⟩
def yR:FS:=⟨[.rd y3],[p7],mM,none⟩
def me (n:Nat):FS:=⟨[.rd p7,.rd y3,.rd y3],[p7],gX n,none⟩
def kW (n:Nat):FS:=⟨[.rd GP],[p7],bP n,none⟩
def qk:FS:=⟨[.rd p7],[p7,y4],jG,none⟩
def wE:FS:=⟨[.ptr 224 Fz,.rd y3,.rd y3],[],lr,none⟩
def mf (n:Nat):FS:=⟨[.ptr 224 Fz,.rd GP],[Uy],cm n,none⟩
def mg:FS:=⟨[.rd p7],[Fz,y4],eU,none⟩
def uo:FS:=⟨[.rd Fz,.rd y3,.rd y3],[y3],l8,none⟩
def qZ:FS:=⟨[.rd y26,.rd y3],[y3],lu,none⟩
def ql:FS:=⟨[.rd Fz,.rd y3],[y4],jH,none⟩
def qm:FS:=⟨[.rd Fz,.rd y3],[y92,y4],gg,none⟩
def qn:FS:=⟨[],[y92],mC,none⟩
def se:FS:=⟨[.rd y92,.rd y26,.rd y89],[y92],fM,none⟩
def wF:FS:=⟨[.rd y26,.rd y26],[y3],mN,none⟩
def q7:FS:=⟨[.rd y92],[y89],jl,none⟩
def yS:FS:=⟨[.rd y92,.rd y26,.rd y3],[y26],mO,none⟩
def qo:FS:=⟨[.rd y92],[y26],gj,none⟩
def o6:FS:=⟨[.rd y92],[y92],iG,none⟩
def o7:FS:=⟨[.rd p7],[y92,y4],fm,none⟩
def jt:FS:=⟨[.rd y92,.rd y92],[y4],dV,none⟩
def uq:FS:=⟨[.rd y35,.rd y92],[y3],j5,none⟩
def ur:FS:=⟨[.rd y36],[y38,y4],ma,none⟩
def qp:FS:=⟨[.rd p7,.rd p7],[y4],jJ,none⟩
def lF:FS:=⟨[.rd y38,.rd y38],[y4],ep,none⟩
def lG:FS:=⟨[.rd y38],[y4],eu,none⟩
def wG:FS:=⟨[.rd y92],[y92],nB,none⟩
def mi:FS:=⟨[.rd y38,.rd y3],[y92,y4],dn,none⟩
def yT:FS:=⟨[.rd y42,.rd Hz],[y4],yO,none⟩
def kA:FS:=⟨[.rd y42],[y4],bV,none⟩
def wH:FS:=⟨[.rd y92],[y4],lz,none⟩
def kG:FS:=⟨[.rd y92],[y4],bT,none⟩
def wI:FS:=⟨[.rd y42,.rd y92,.rd y3,.rd y3],[y4],gO,none⟩
def mE:FS:=⟨[.rd y92,.rd y3,.rd y3],[y3],dA,none⟩
def yU:FS:=⟨[.rd y42,.rd y3],[Uv],mP,none⟩
def sf:FS:=⟨[.rd y42,.rd y3],[y3],fO,none⟩
def sg:FS:=⟨[.rd Hz,.rd y4],[y3],ez,none⟩
def Ce:FS:=⟨[.rd Hz,.rd y4],[y3],lA,none⟩
def uu:FS:=⟨[.rd y42,.rd y92,.rd y3,.rd y3],[Uu],gY,none⟩
def uv:FS:=⟨[.rd y42,.rd y92,.rd y3],[y26],j6,none⟩
def qq:FS:=⟨[.rd y42,.rd y92,.rd y3,.rd y3],[y4],gl,none⟩
def Cf:FS:=⟨[.rd y3],[y26],rY,none⟩
def wJ:FS:=⟨[.rd y42,.rd y92,.rd y3],[y26],lB,none⟩
def qu:FS:=⟨[.rd y42,.rd y92],[y32],gp,none⟩
def n8:FS:=⟨[.rd y38,.rd y42,.rd y3],[y32,y4],gz,none⟩
def wK:FS:=⟨[.rd y89],[y89],nC,none⟩
def tz:FS:=⟨[.rd y26],[y26],mQ,none⟩
def wL:FS:=⟨[.rd y90],[y90],nD,none⟩
def o8:FS:=⟨[.rd SX],[y92],iI,none⟩
def n9:FS:=⟨[.rd y22],[y35],gA,none⟩
def wM:FS:=⟨[.rd TA],[uj],nE,none⟩
def uw:FS:=⟨[.rd SY],[GP],mb,none⟩
def yV:FS:=⟨[.rd SZ],[p7],pR,none⟩
def oc:FS:=⟨[.rd S4],[Cd],gB,none⟩
def mU:FS:=⟨[.rd y23],[y36],fP,none⟩
def qv:FS:=⟨[.rd y25],[y38],dB,none⟩
def yW:FS:=⟨[.rd TC],[Hz],pS,none⟩
def wN:FS:=⟨[.rd y27],[y40],nF,none⟩
def wO:FS:=⟨[.rd y29],[y42],gP,none⟩
def bN:FS:=⟨[.rd y36,.fn [Cd] [y4]],[y3],bd,none⟩
def o9:FS:=⟨[.rd Cd,.cap 3 y3],[y4],iK,none⟩
def si:FS:=⟨[.rd y38,.rd y3],[y3],kQ,none⟩
def hY:FS:=⟨[.rd y3,.rd y3,.rd y3],[y4],bI,none⟩
def pa:FS:=⟨[.rd y3],[y4],gZ,none⟩
def wP:FS:=⟨[.rd uj],[y4],nG,none⟩
def aV:FS:=⟨[.rd S5],[S5],fun _=>none,some (263,8)⟩
def p8:FS:=⟨[.rd p7],[t263],k9,none⟩
def yX:FS:=⟨[.rd p7],[y4],pT,none⟩
def pb:FS:=⟨[.rd p7],[y4],iL,none⟩
def jW (n:Nat):FS:=⟨[.rd t263],[y3],bc n,none⟩
def FA:FS:=⟨[.rd y3],[t263],Ah,none⟩
def mj (n:Nat):FS:=⟨[.eat t263,.rd y3,.rd y3],[t263],hO n,none⟩
def iW (n:Nat):FS:=⟨[.rd t263],[t263],aR n,none⟩
def gJ (n:Nat):FS:=⟨[.rd t263,.ptr 144 p7],[],aP n,none⟩
def sj:FS:=⟨[.rd t263],[p7],nI,none⟩
def qw:FS:=⟨[.rd p7],[p7,y4],jO,none⟩
def kH:FS:=⟨[.ptr 224 Fz,.rd y3,.rd y3],[],cz,none⟩
def eI (n:Nat):FS:=⟨[.ptr 224 Fz,.rd t263],[Uz],aS n,none⟩
def mn:FS:=⟨[.rd p7],[Fz,y4],eV,none⟩
def kB:FS:=⟨[.rd y3,.rd y3,.fn [y3] [y4],.fn [y3,y3] [y3,y4]],[y92,y4],df,none⟩
def kg:FS:=⟨[.rd Fz,.rd y3],[y4],ct,none⟩
def lH:FS:=⟨[.rd Fz,.rd y3,.rd y3],[y3],eB,none⟩
def mV:FS:=⟨[.rd y3,.rd y3,.cap 224 Fz],[y3,y4],b8,none⟩
def pc:FS:=⟨[.rd Fz,.rd y3],[y92,y4],fy,none⟩
def aZ:FS:=⟨[.rd y89],[y89],fun _=>none,some (4,1)⟩
def mo:FS:=⟨[.rd y92],[y89],dq,none⟩
def c9:FS:=⟨[.rd y90,.fn [y26] [y4]],[y3],bf,none⟩
def db:FS:=⟨[.rd y26,.rd y26],[y4],bX,none⟩
def jc:FS:=⟨[.rd y26,.cap 26 y26],[y4],eS,none⟩
def kI:FS:=⟨[.rd y92,.rd y26],[y26,y3],cA,none⟩
def kh:FS:=⟨[.rd y92],[y26],cx,none⟩
def lI:FS:=⟨[.rd R1,.rd R1],[R1,R1],qT,none⟩
def lJ:FS:=⟨[.rd R2,.rd R2],[R2,R2],lC,none⟩
def mW:FS:=⟨[.rd R0,.rd R0],[R0,R0],mR,none⟩
def cV:FS:=⟨[.rd y26,.rd y3],[y26],br,none⟩
def wQ:FS:=⟨[],[y92],qU,none⟩
def fW:FS:=⟨[.rd y26,.rd y3],[y3],da,none⟩
def hZ:FS:=⟨[.rd y3,.cap 26 y26],[y3],aJ,none⟩
def ic:FS:=⟨[.rd y3,.cap 92 y92,.capf 300 [y3] [y3]],[y4],bK,none⟩
def eX:FS:=⟨[.rd y92,.rd y3,.rd y3],[y3],aW,none⟩
def ig:FS:=⟨[.rd y3,.rd y3,.cap 92 y92,.capf 300 [y3] [y3],.cap 26 y26],[y3,y4],bL,none⟩
def jd:FS:=⟨[.rd y92],[y92],c7,none⟩
def Cg:FS:=⟨[.rd y92],[y92,y4],wz,none⟩
def pd:FS:=⟨[.rd p7],[y92,y4],fB,none⟩
def bW:FS:=⟨[.rd y35,.fn [y92] [y4]],[y3],aI,none⟩
def eY:FS:=⟨[.rd y89,.rd y89],[y4],cE,none⟩
def bC:FS:=⟨[.rd y90,.rd y90,.fn [y26,y26] [y4]],[y4],aX,none⟩
def lK:FS:=⟨[.rd y26,.rd y26],[y4],eC,none⟩
def ju:FS:=⟨[.rd y92,.rd y92],[y4],cK,none⟩
def uy:FS:=⟨[.rd y92,.cap 92 y92],[y4],j9,none⟩
def uz:FS:=⟨[.rd p7],[p7],ka,none⟩
def yY:FS:=⟨[.rd y36],[y38,y4],pU,none⟩
def aT:FS:=⟨[.rd y35,.rd y35,.fn [y92,y92] [y4]],[y4],aF,none⟩
def aQ:FS:=⟨[.rd y36,.rd y36,.fn [Cd,Cd] [y4]],[y4],aE,none⟩
def ed:FS:=⟨[.rd GP,.rd GP],[y4],bB,none⟩
def qx:FS:=⟨[.rd p7,.rd p7],[y4],jP,none⟩
def od:FS:=⟨[.rd Cd,.rd Cd],[y4],eN,none⟩
def lL:FS:=⟨[.rd y38,.rd y38],[y4],eD,none⟩
def lM:FS:=⟨[.rd y38],[y4],eE,none⟩
def pe:FS:=⟨[.rd y26],[y26],kc,none⟩
def mX:FS:=⟨[.rd y92],[y92],fQ,none⟩
def mq:FS:=⟨[.rd y38,.rd y3],[y92,y4],dt,none⟩
def yZ:FS:=⟨[.rd Hz,.rd y3],[y4],mS,none⟩
def kC:FS:=⟨[.rd y42],[y4],be,none⟩
def kJ:FS:=⟨[.rd y92],[y4],bA,none⟩
def tC:FS:=⟨[.rd y42,.rd y92,.rd y26],[y4],bU,none⟩
def y5:FS:=⟨[.rd y90,.rd y26],[y26],pV,none⟩
def nO:FS:=⟨[.rd y3],[y26],fC,none⟩
def Ci:FS:=⟨[.rd Hz,.rd y4],[y3],oW,none⟩
def FC:FS:=⟨[.rd y42],[Ux],rZ,none⟩
def q8:FS:=⟨[.rd y92,.rd y3,.rd y3],[y3],dC,none⟩
def Cj:FS:=⟨[.rd y92,.rd y3,.rd y3,.rd y3],[y3],oX,none⟩
def oe:FS:=⟨[.rd y42,.rd y92],[y90],dg,none⟩
def mY:FS:=⟨[.rd y42,.rd y92,.rd y3],[y26],dY,some (0,7)⟩
def sk:FS:=⟨[.rd y92,.rd y3,.rd y3],[y4],iQ,none⟩
def gr:FS:=⟨[.ow (.sl 3 y3)],[],dD,none⟩
def eZ:FS:=⟨[.eat (.sl 3 y3)],[.sl 3 y3],bM,none⟩
def sn:FS:=⟨[.rd y26],[y26],iR,none⟩
def pf:FS:=⟨[.rd y42,.rd y92,.rd y3],[y26],fE,none⟩
def qy:FS:=⟨[.rd y42,.rd y92],[y32],gq,none⟩
def oh:FS:=⟨[.rd y38,.rd y42,.rd y3],[y32,y4],eO,none⟩
def y6:FS:=⟨[.rd MN,.rd MN],[y4],pW,none⟩
def wR:FS:=⟨[.rd y32,.rd y32],[y4],lE,none⟩
def wS:FS:=⟨[.rd y89,.rd y89],[y4],qV,none⟩
def tD:FS:=⟨[.rd y26,.rd y26],[y4],pX,none⟩
def wT:FS:=⟨[.rd y90,.rd y90],[y4],qW,none⟩
def pg:FS:=⟨[.rd y92,.rd y92],[y4],iS,none⟩
def oi:FS:=⟨[.rd y35,.rd y35],[y4],kz,none⟩
def wU:FS:=⟨[.rd uj,.rd uj],[y4],nJ,none⟩
def uA:FS:=⟨[.rd GP,.rd GP],[y4],oY,none⟩
def y7:FS:=⟨[.rd p7,.rd p7],[y4],pY,none⟩
def oj:FS:=⟨[.rd Cd,.rd Cd],[y4],gD,none⟩
def mZ:FS:=⟨[.rd y36,.rd y36],[y4],jr,none⟩
def qz:FS:=⟨[.rd y38,.rd y38],[y4],jT,none⟩
def y8:FS:=⟨[.rd Hz,.rd Hz],[y4],pZ,none⟩
def wV:FS:=⟨[.rd y40,.rd y40],[y4],qX,none⟩
def wW:FS:=⟨[.rd y42,.rd y42],[y4],nK,none⟩
def so:FS:=⟨[.ow y89,.rd y3],[y3],kS,none⟩
def ph:FS:=⟨[.ow y26,.rd y3],[y3],ke,none⟩
def sp:FS:=⟨[.ow y90,.rd y3],[y3],kT,none⟩
def mr:FS:=⟨[.ow y35,.rd y3],[y3],eW,none⟩
def qA:FS:=⟨[.ow GP,.rd y3],[y3],jV,none⟩
def lN:FS:=⟨[.ow y36,.rd y3],[y3],eH,none⟩
def om:FS:=⟨[.ow y38,.rd y3],[y3],eP,none⟩
def sq:FS:=⟨[.ow y40,.rd y3],[y3],kU,none⟩
def sr:FS:=⟨[.ow y42,.rd y3],[y3],kV,none⟩
def ss:FS:=⟨[.ow y32,.rd y3],[y3],iV,none⟩
def su:FS:=⟨[.rd y32,.rd y3],[y3],fS,none⟩
def nP:FS:=⟨[.rd y25,.rd y29,.rd y3],[y4],cG,none⟩
end R
namespace R
open Go.RowKit
open D
theorem DQ:FOk Tryz.prog 126 wA:=fok (V:=⟨tt,[],[],12,[]⟩) al trivial mixed Tryz.func126 rfl rfl (enters_of Tryz.func126 (by kernel_rfl) rfl) rfl (Nat.le_of_ble_eq_true rfl) rfl .no (fun d=>by kernel_rfl)
theorem y9:FOk Tryz.prog 45 tv:=fok (V:=⟨tt,[],[],12,[]⟩) al trivial mixed Tryz.func45 rfl rfl (enters_of Tryz.func45 (by kernel_rfl) rfl) rfl (Nat.le_of_ble_eq_true rfl) rfl .no (fun d=>by kernel_rfl)
theorem DR:FOk Tryz.prog 127 wB:=fok (V:=⟨tt,[(45,tv)],[],27,[]⟩) al ⟨y9,trivial⟩ mixed Tryz.func127 rfl rfl (enters_of Tryz.func127 (by kernel_rfl) rfl) rfl (Nat.le_of_ble_eq_true rfl) rfl (.two .no (.two .no (.two .no (.two (.two .no (.loop [.slot 1 (.num .i64),.slot 5 (.num .i64)] .no)) .no)))) (fun d=>by kernel_rfl)
theorem wX:FOk Tryz.prog 87 oZ:=fok (V:=⟨tt,[(126,wA),(127,wB)],[],18,[]⟩) al ⟨DQ,DR,trivial⟩ mixed Tryz.func87 rfl rfl (enters_of Tryz.func87 (by kernel_rfl) rfl) rfl (Nat.le_of_ble_eq_true rfl) rfl .no (fun d=>by kernel_rfl)
theorem uL:FOk Tryz.prog 43 nZ:=fok (V:=⟨tt,[(87,oZ)],[],27,[]⟩) al ⟨wX,trivial⟩ mixed Tryz.func43 rfl rfl (enters_of Tryz.func43 (by kernel_rfl) rfl) rfl (Nat.le_of_ble_eq_true rfl) rfl (.two .no (.two .no (.two .no (.two (.two .no (.loop [.slot 1 (.num .i64),.slot 5 (.num .i64)] .no)) .no)))) (fun d=>by kernel_rfl)
theorem Ck:FOk Tryz.prog 165 uk:=fok (V:=⟨tt,[],[],12,[]⟩) al trivial mixed Tryz.func165 rfl rfl (enters_of Tryz.func165 (by kernel_rfl) rfl) rfl (Nat.le_of_ble_eq_true rfl) rfl .no (fun d=>by kernel_rfl)
theorem GQ:FOk Tryz.prog 128 yP:=fok (V:=⟨tt,[(165,uk)],[],12,[]⟩) al ⟨Ck,trivial⟩ mixed Tryz.func128 rfl rfl (enters_of Tryz.func128 (by kernel_rfl) rfl) rfl (Nat.le_of_ble_eq_true rfl) rfl .no (fun d=>by kernel_rfl)
theorem uM:FOk Tryz.prog 88 n7:=fok (V:=⟨tt,[(128,yP)],[],12,[]⟩) al ⟨GQ,trivial⟩ mixed Tryz.func88 rfl rfl (enters_of Tryz.func88 (by kernel_rfl) rfl) rfl (Nat.le_of_ble_eq_true rfl) rfl .no (fun d=>by kernel_rfl)
theorem tE:FOk Tryz.prog 44 mT:=fok (V:=⟨tt,[(88,n7)],[],27,[]⟩) al ⟨uM,trivial⟩ mixed Tryz.func44 rfl rfl (enters_of Tryz.func44 (by kernel_rfl) rfl) rfl (Nat.le_of_ble_eq_true rfl) rfl (.two .no (.two .no (.two .no (.two (.two .no (.loop [.slot 1 (.num .i64),.slot 5 (.num .i64)] .no)) .no)))) (fun d=>by kernel_rfl)
theorem xN:FOk Tryz.prog 8 qj:=fok (V:=⟨tt,[(43,nZ),(44,mT)],[],18,[]⟩) al ⟨uL,tE,trivial⟩ mixed Tryz.func8 rfl rfl (enters_of Tryz.func8 (by kernel_rfl) rfl) rfl (Nat.le_of_ble_eq_true rfl) rfl .no (fun d=>by kernel_rfl)
theorem DS:FOk Tryz.prog 46 wC:=fok (V:=⟨tt,[],[],12,[]⟩) al trivial mixed Tryz.func46 rfl rfl (enters_of Tryz.func46 (by kernel_rfl) rfl) rfl (Nat.le_of_ble_eq_true rfl) rfl .no (fun d=>by kernel_rfl)
theorem DT:FOk Tryz.prog 9 wD:=fok (V:=⟨tt,[(45,tv),(46,wC)],[],18,[]⟩) al ⟨y9,DS,trivial⟩ mixed Tryz.func9 rfl rfl (enters_of Tryz.func9 (by kernel_rfl) rfl) rfl (Nat.le_of_ble_eq_true rfl) rfl .no (fun d=>by kernel_rfl)
theorem Ai:FOk Tryz.prog 89 sd:=fok (V:=⟨tt,[],[],22,[]⟩) al trivial mixed Tryz.func89 rfl rfl (enters_of Tryz.func89 (by kernel_rfl) rfl) rfl (Nat.le_of_ble_eq_true rfl) rfl (.two .no (.two (.two .no (.loop [.slot 5 (.num .i64)] .no)) .no)) (fun d=>by kernel_rfl)
theorem nQ:FOk Tryz.prog 92 mc:=fok (V:=⟨tt,[],[],15,[]⟩) al trivial mixed Tryz.func92 rfl rfl (enters_of Tryz.func92 (by kernel_rfl) rfl) rfl (Nat.le_of_ble_eq_true rfl) rfl .no (fun d=>by kernel_rfl)
theorem Cl:FOk Tryz.prog 307 um:=fok (V:=⟨tt,[(92,mc)],[],5,[]⟩) al ⟨nQ,trivial⟩ mixed Tryz.func307 rfl rfl (enters_of Tryz.func307 (by kernel_rfl) rfl) rfl (Nat.le_of_ble_eq_true rfl) rfl .no (fun d=>by kernel_rfl)
theorem wY:FOk Tryz.prog 296 qY:=fok (V:=⟨tt,[(92,mc),(307,um)],[],87,[]⟩) al ⟨nQ,Cl,trivial⟩ mixed Tryz.func296 rfl rfl (enters_of Tryz.func296 (by kernel_rfl) rfl) rfl (Nat.le_of_ble_eq_true rfl) rfl (.two .no (.two (.two .no (.join [.slot 5 .boo] .no (.two .no (.two .no (.two .no (.join [.slot 37 .boo] .no .no)))))) .no)) (fun d=>by kernel_rfl)
theorem GR:FOk Tryz.prog 293 yQ:=fok (V:=⟨tt,[(296,qY)],[],32,[]⟩) al ⟨wY,trivial⟩ mixed Tryz.func293 rfl rfl (enters_of Tryz.func293 (by kernel_rfl) rfl) rfl (Nat.le_of_ble_eq_true rfl) rfl (.two .no (.two .no (.two (.two .no (.loop [.slot 3 (.num .i64),.slot 4 (.num .i64)] .no)) .no))) (fun d=>by kernel_rfl)
end R
namespace R
open Go.RowKit
open D
theorem wZ:FOk Tryz.prog 257 o0:=fok (V:=⟨tt,[(293,yQ)],[],11,[]⟩) al ⟨GR,trivial⟩ mixed Tryz.func257 rfl rfl (enters_of Tryz.func257 (by kernel_rfl) rfl) rfl (Nat.le_of_ble_eq_true rfl) rfl .no (fun d=>by kernel_rfl)
theorem q9:FOk Tryz.prog 260 nL:=fok (V:=⟨tt,[(296,qY)],[],20,[]⟩) al ⟨wY,trivial⟩ mixed Tryz.func260 rfl rfl (enters_of Tryz.func260 (by kernel_rfl) rfl) rfl (Nat.le_of_ble_eq_true rfl) rfl (.two .no (.two .no (.two .no (.two (.loop [.slot 3 (.num .i64),.slot 4 (.num .i64)] .no) .no)))) (fun d=>by kernel_rfl)
theorem w1: ∀n,FOk Tryz.prog 258 (nM n)
 | 0=>iD (f:=nM 0) (enters_of Tryz.func258 (by kernel_rfl) rfl) rfl (fun d=>rfl)
 | n+1=>by
  have ih:=w1 n
  exact fok (V:=⟨tt,[(258,(nM n)),(260,nL)],[],54,[]⟩) al ⟨ih,q9,trivial⟩ mixed Tryz.func258 rfl rfl (enters_of Tryz.func258 (by kernel_rfl) rfl) rfl (Nat.le_of_ble_eq_true rfl) rfl (.two .no (.two .no (.two .no (.two (.two .no (.two (.two .no (.at [.slot 15 .boo] .no)) .no)) .no)))) (fun d=>by kernel_rfl)
theorem za:FOk Tryz.prog 168 tw:=fok (V:=⟨tt,[],[],7,[]⟩) al trivial mixed Tryz.func168 rfl rfl (enters_of Tryz.func168 (by kernel_rfl) rfl) rfl (Nat.le_of_ble_eq_true rfl) rfl .no (fun d=>by kernel_rfl)
theorem zb:FOk Tryz.prog 294 tx:=fok (V:=⟨tt,[(168,tw)],[],24,[]⟩) al ⟨za,trivial⟩ mixed Tryz.func294 rfl rfl (enters_of Tryz.func294 (by kernel_rfl) rfl) rfl (Nat.le_of_ble_eq_true rfl) rfl .no (fun d=>by kernel_rfl)
theorem GS:FOk Tryz.prog 306 yR:=fok (V:=⟨tt,[],[],7,[]⟩) al trivial mixed Tryz.func306 rfl rfl (enters_of Tryz.func306 (by kernel_rfl) rfl) rfl (Nat.le_of_ble_eq_true rfl) rfl .no (fun d=>by kernel_rfl)
theorem uB: ∀n,FOk Tryz.prog 295 (me n)
 | 0=>iD (f:=me 0) (enters_of Tryz.func295 (by kernel_rfl) rfl) rfl (fun d=>rfl)
 | n+1=>by
  have ih:=uB n
  exact fok (V:=⟨tt,[(294,tx),(295,(me n)),(306,yR)],[],28,[]⟩) al ⟨zb,ih,GS,trivial⟩ mixed Tryz.func295 rfl rfl (enters_of Tryz.func295 (by kernel_rfl) rfl) rfl (Nat.le_of_ble_eq_true rfl) rfl .no (fun d=>by kernel_rfl)
theorem sv: ∀n,FOk Tryz.prog 259 (kW n)
 | 0=>iD (f:=kW 0) (enters_of Tryz.func259 (by kernel_rfl) rfl) rfl (fun d=>rfl)
 | n+1=>by
  have ih:=sv n
  exact fok (V:=⟨tt,[(259,(kW n)),(260,nL),(294,tx),(295,(me eK))],[],56,[]⟩) al ⟨ih,q9,zb,(uB eK),trivial⟩ mixed Tryz.func259 rfl rfl (enters_of Tryz.func259 (by kernel_rfl) rfl) rfl (Nat.le_of_ble_eq_true rfl) rfl (.two .no (.two .no (.two .no (.two (.two .no (.two (.two .no (.at [.slot 15 .boo] .no)) .no)) .no)))) (fun d=>by kernel_rfl)
theorem xO:FOk Tryz.prog 225 qk:=fok (V:=⟨tt,[(257,o0),(258,(nM eK)),(259,(kW eK))],[],24,[]⟩) al ⟨wZ,(w1 eK),(sv eK),trivial⟩ mixed Tryz.func225 rfl rfl (enters_of Tryz.func225 (by kernel_rfl) rfl) rfl (Nat.le_of_ble_eq_true rfl) rfl .no (fun d=>by kernel_rfl)
theorem DU:FOk Tryz.prog 261 wE:=fok (V:=⟨tt,[],[],36,[]⟩) al trivial mixed Tryz.func261 rfl rfl (enters_of Tryz.func261 (by kernel_rfl) rfl) rfl (Nat.le_of_ble_eq_true rfl) rfl (.two .no (.loop [.slot 6 (.num .i64),.par 3 [3] 3 y3] (.two .no (.two (.at [.par 3 [3] 3 y3] .no) .no)))) (fun d=>by kernel_rfl)
theorem uC: ∀n,FOk Tryz.prog 226 (mf n)
 | 0=>iD (f:=mf 0) (enters_of Tryz.func226 (by kernel_rfl) rfl) rfl (fun d=>rfl)
 | n+1=>by
  have ih:=uC n
  exact fok (V:=⟨tt,[(226,(mf n)),(260,nL),(261,wE)],[],163,[]⟩) al ⟨ih,q9,DU,trivial⟩ mixed Tryz.func226 rfl rfl (enters_of Tryz.func226 (by kernel_rfl) rfl) rfl (Nat.le_of_ble_eq_true rfl) rfl (.two .no (.two .no (.two .no (.two (.two .no (.two .no (.two .no (.two .no (.two .no (.two .no (.two (.two .no (.two .no (.two .no (.two .no (.two .no (.two (.two .no (.at [.box 11 [.boo,(.num .i64),(.num .i64)]] .no)) (.two (.two .no (.at [.box 11 [.boo,(.num .i64),(.num .i64)]] .no)) .no))))))) .no))))))) .no)))) (fun d=>by kernel_rfl)
theorem sw:FOk Tryz.prog 199 mg:=fok (V:=⟨tt,[(225,qk),(226,(mf eK))],[],51,[]⟩) al ⟨xO,(uC eK),trivial⟩ mixed Tryz.func199 rfl rfl (enters_of Tryz.func199 (by kernel_rfl) rfl) rfl (Nat.le_of_ble_eq_true rfl) rfl (.two .no (.two .no (.two .no (.two .no (.two (.two .no (.loop [.slot 6 (.num .i64),.slot 7 (.num .i64)] (.two .no (.two (.at [.slot 6 (.num .i64)] .no) .no)))) .no))))) (fun d=>by kernel_rfl)
theorem Cm:FOk Tryz.prog 227 uo:=fok (V:=⟨tt,[],[],63,[]⟩) al trivial mixed Tryz.func227 rfl rfl (enters_of Tryz.func227 (by kernel_rfl) rfl) rfl (Nat.le_of_ble_eq_true rfl) rfl (.two .no (.two .no (.join [.slot 7 (.num .i64)] .no (.two (.two .no (.loop [.slot 7 (.num .i64),.slot 8 (.num .i64)] (.two .no (.join [.slot 7 (.num .i64)] .no .no)))) (.two .no (.two (.two .no (.loop [.slot 9 (.num .i64),.slot 10 (.num .i64)] (.two .no (.join [.slot 9 (.num .i64)] .no .no)))) .no)))))) (fun d=>by kernel_rfl)
theorem w4:FOk Tryz.prog 228 qZ:=fok (V:=⟨tt,[],[],19,[]⟩) al trivial mixed Tryz.func228 rfl rfl (enters_of Tryz.func228 (by kernel_rfl) rfl) rfl (Nat.le_of_ble_eq_true rfl) rfl (.two .no (.two (.two .no (.loop [.slot 5 (.num .i64)] .no)) .no)) (fun d=>by kernel_rfl)
theorem xP:FOk Tryz.prog 229 ql:=fok (V:=⟨tt,[],[],20,[]⟩) al trivial mixed Tryz.func229 rfl rfl (enters_of Tryz.func229 (by kernel_rfl) rfl) rfl (Nat.le_of_ble_eq_true rfl) rfl .no (fun d=>by kernel_rfl)
theorem xQ:FOk Tryz.prog 200 qm:=fok (V:=⟨tt,[(227,uo),(228,qZ),(229,ql)],[],73,[]⟩) al ⟨Cm,w4,xP,trivial⟩ mixed Tryz.func200 rfl rfl (enters_of Tryz.func200 (by kernel_rfl) rfl) rfl (Nat.le_of_ble_eq_true rfl) rfl (.two .no (.two .no (.two .no (.two (.two .no (.loop [.slot 7 (.own 3 y3),.slot 8 (.num .i64),.box 6 [(.num .i64),(.own 4 y4),(.own 26 y26)]] (.two .no (.two (.two .no (.two (.two .no (.loop [.slot 7 (.own 3 y3),.slot 9 (.own 3 y3),.slot 10 (.num .i64)] (.two .no (.two (.two .no (.two .no (.join [.slot 7 (.own 3 y3),.slot 12 (.num .i64)] .no .no))) .no)))) .no)) .no)))) .no)))) (fun d=>by kernel_rfl)
theorem xR:FOk Tryz.prog 262 qn:=fok (V:=⟨tt,[],[],15,[]⟩) al trivial mixed Tryz.func262 rfl rfl (enters_of Tryz.func262 (by kernel_rfl) rfl) rfl (Nat.le_of_ble_eq_true rfl) rfl (.two .no (.two .no (.two (.two .no (.loop [.slot 1 (.own 3 y3),.slot 2 (.num .i64)] .no)) .no))) (fun d=>by kernel_rfl)
end R
namespace R
open Go.RowKit
open D
theorem Aj:FOk Tryz.prog 230 se:=fok (V:=⟨tt,[(228,qZ),(262,qn)],[],107,[]⟩) al ⟨w4,xR,trivial⟩ mixed Tryz.func230 rfl rfl (enters_of Tryz.func230 (by kernel_rfl) rfl) rfl (Nat.le_of_ble_eq_true rfl) rfl (.two .no (.two .no (.two .no (.two .no (.two .no (.two (.two .no (.loop [.slot 8 (.own 3 y3),.slot 9 (.own 3 y3),.slot 10 (.num .i64),.box 7 [(.num .i64),(.own 4 y4),(.own 26 y26)]] (.two .no (.two (.two .no (.two (.two .no (.loop [.slot 8 (.own 3 y3),.slot 9 (.own 3 y3),.slot 11 (.own 3 y3),.slot 12 (.num .i64)] (.two .no (.two (.two .no (.two .no (.join [.slot 8 (.own 3 y3),.slot 9 (.own 3 y3),.slot 14 (.num .i64)] .no .no))) .no)))) .no)) .no)))) .no)))))) (fun d=>by kernel_rfl)
theorem Cn:FOk Tryz.prog 150 wF:=fok (V:=⟨tt,[],[],46,[]⟩) al trivial mixed Tryz.func150 rfl rfl (enters_of Tryz.func150 (by kernel_rfl) rfl) rfl (Nat.le_of_ble_eq_true rfl) rfl (.two .no (.two (.two .no (.loop [.slot 5 (.num .i64)] .no)) .no)) (fun d=>by kernel_rfl)
theorem w5:FOk Tryz.prog 232 q7:=fok (V:=⟨tt,[],[],55,[]⟩) al trivial mixed Tryz.func232 rfl rfl (enters_of Tryz.func232 (by kernel_rfl) rfl) rfl (Nat.le_of_ble_eq_true rfl) rfl (.two .no (.two .no (.two (.two .no (.loop [.row 3 4 y4,.slot 4 (.num .i64)] (.two .no (.two (.two .no (.loop [.row 3 4 y4,.slot 5 (.num .i64)] (.two .no (.two (.two .no (.loop [.row 3 4 y4,.slot 6 (.num .i64)] (.two .no (.join [.row 3 4 y4] .no .no)))) .no)))) .no)))) .no))) (fun d=>by kernel_rfl)
theorem GT:FOk Tryz.prog 263 yS:=fok (V:=⟨tt,[],[],40,[]⟩) al trivial mixed Tryz.func263 rfl rfl (enters_of Tryz.func263 (by kernel_rfl) rfl) rfl (Nat.le_of_ble_eq_true rfl) rfl (.two .no (.two .no (.two (.two .no (.loop [.slot 7 (.own 3 y3),.slot 8 (.num .i64)] (.two .no (.join [.slot 7 (.own 3 y3)] .no .no)))) .no))) (fun d=>by kernel_rfl)
theorem xS:FOk Tryz.prog 231 qo:=fok (V:=⟨tt,[(150,wF),(232,q7),(263,yS)],[],99,[]⟩) al ⟨Cn,w5,GT,trivial⟩ mixed Tryz.func231 rfl rfl (enters_of Tryz.func231 (by kernel_rfl) rfl) rfl (Nat.le_of_ble_eq_true rfl) rfl (.two .no (.two .no (.two .no (.two (.two .no (.loop [.slot 4 (.own 3 y3),.slot 5 (.num .i64)] (.two .no (.two (.two .no (.two (.two .no (.at [.slot 6 (.num .i64)] .no)) (.two (.two .no (.at [.slot 6 (.num .i64)] .no)) .no))) .no)))) (.two (.two .no (.loop [.slot 4 (.own 3 y3),.slot 7 (.num .i64)] (.two .no (.two (.two .no (.two .no (.two (.two .no (.loop [.slot 8 (.own 26 y26),.slot 9 (.own 3 y3),.slot 10 (.num .i64)] (.two .no (.two (.at [.slot 8 (.own 26 y26),.slot 9 (.own 3 y3)] (.two .no (.two .no (.two .no (.two (.two .no (.loop [.slot 12 (.num .i64),.slot 13 (.num .i64)] (.two .no (.two (.at [.slot 12 (.num .i64)] .no) .no)))) (.two (.two .no (.at [.slot 8 (.own 26 y26),.slot 12 (.num .i64),.gone 11] .no)) .no)))))) .no)))) .no))) .no)))) .no))))) (fun d=>by kernel_rfl)
theorem w6:FOk Tryz.prog 201 o6:=fok (V:=⟨tt,[(230,se),(231,qo),(232,q7)],[],9,[]⟩) al ⟨Aj,xS,w5,trivial⟩ mixed Tryz.func201 rfl rfl (enters_of Tryz.func201 (by kernel_rfl) rfl) rfl (Nat.le_of_ble_eq_true rfl) rfl .no (fun d=>by kernel_rfl)
theorem w7:FOk Tryz.prog 166 o7:=fok (V:=⟨tt,[(199,mg),(200,qm),(201,o6)],[],33,[]⟩) al ⟨sw,xQ,w6,trivial⟩ mixed Tryz.func166 rfl rfl (enters_of Tryz.func166 (by kernel_rfl) rfl) rfl (Nat.le_of_ble_eq_true rfl) rfl .no (fun d=>by kernel_rfl)
theorem m6:FOk Tryz.prog 169 jt:=fok (V:=⟨tt,[(150,wF)],[],67,[]⟩) al ⟨Cn,trivial⟩ mixed Tryz.func169 rfl rfl (enters_of Tryz.func169 (by kernel_rfl) rfl) rfl (Nat.le_of_ble_eq_true rfl) rfl (.two .no (.two .no (.two (.two .no (.loop [.slot 5 (.num .i64)] .no)) (.two (.two .no (.loop [.slot 6 (.num .i64)] .no)) .no)))) (fun d=>by kernel_rfl)
theorem Co:FOk Tryz.prog 167 uq:=fok (V:=⟨tt,[(169,jt)],[],19,[]⟩) al ⟨m6,trivial⟩ mixed Tryz.func167 rfl rfl (enters_of Tryz.func167 (by kernel_rfl) rfl) rfl (Nat.le_of_ble_eq_true rfl) rfl (.two .no (.two (.two .no (.loop [.slot 5 (.num .i64)] .no)) .no)) (fun d=>by kernel_rfl)
theorem Cp:FOk Tryz.prog 129 ur:=fok (V:=⟨tt,[(92,mc),(166,o7),(167,uq),(168,tw)],[],94,[]⟩) al ⟨nQ,w7,Co,za,trivial⟩ mixed Tryz.func129 rfl rfl (enters_of Tryz.func129 (by kernel_rfl) rfl) rfl (Nat.le_of_ble_eq_true rfl) rfl (.two .no (.two .no (.two .no (.two (.two .no (.loop [.slot 5 (.num .i64),.box 4 [(.own 92 y92),(.own 146 Cd)]] (.two .no (.two (.two .no (.two .no (.two .no (.join [.slot 8 (.num .i64),.box 4 [(.own 92 y92),(.own 146 Cd)],.gone 6] .no .no)))) .no)))) .no)))) (fun d=>by kernel_rfl)
theorem xT:FOk Tryz.prog 170 qp:=fok (V:=⟨tt,[],[],31,[]⟩) al trivial mixed Tryz.func170 rfl rfl (enters_of Tryz.func170 (by kernel_rfl) rfl) rfl (Nat.le_of_ble_eq_true rfl) rfl (.two .no (.two .no (.two (.two .no (.loop [.slot 5 (.num .i64)] .no)) .no))) (fun d=>by kernel_rfl)
theorem ra:FOk Tryz.prog 130 lF:=fok (V:=⟨tt,[(169,jt),(170,qp)],[],93,[]⟩) al ⟨m6,xT,trivial⟩ mixed Tryz.func130 rfl rfl (enters_of Tryz.func130 (by kernel_rfl) rfl) rfl (Nat.le_of_ble_eq_true rfl) rfl (.two .no (.two .no (.two (.two .no (.loop [.slot 5 (.num .i64)] .no)) (.two (.two .no (.loop [.slot 6 (.num .i64)] .no)) .no)))) (fun d=>by kernel_rfl)
theorem rb:FOk Tryz.prog 90 lG:=fok (V:=⟨tt,[(129,ur),(130,lF)],[],17,[]⟩) al ⟨Cp,ra,trivial⟩ mixed Tryz.func90 rfl rfl (enters_of Tryz.func90 (by kernel_rfl) rfl) rfl (Nat.le_of_ble_eq_true rfl) rfl .no (fun d=>by kernel_rfl)
theorem DV:FOk Tryz.prog 91 wG:=fok (V:=⟨tt,[],[],32,[]⟩) al trivial mixed Tryz.func91 rfl rfl (enters_of Tryz.func91 (by kernel_rfl) rfl) rfl (Nat.le_of_ble_eq_true rfl) rfl (.two .no (.two .no (.two (.two .no (.loop [.slot 4 (.num .i64),.box 3 [(.num .i64),(.own 4 y4),(.own 26 y26)]] .no)) .no))) (fun d=>by kernel_rfl)
theorem sx:FOk Tryz.prog 47 mi:=fok (V:=⟨tt,[(89,sd),(90,lG),(91,wG)],[],29,[]⟩) al ⟨Ai,rb,DV,trivial⟩ mixed Tryz.func47 rfl rfl (enters_of Tryz.func47 (by kernel_rfl) rfl) rfl (Nat.le_of_ble_eq_true rfl) rfl .no (fun d=>by kernel_rfl)
theorem GU:FOk Tryz.prog 93 yT:=fok (V:=⟨tt,[(92,mc)],[],30,[]⟩) al ⟨nQ,trivial⟩ mixed Tryz.func93 rfl rfl (enters_of Tryz.func93 (by kernel_rfl) rfl) rfl (Nat.le_of_ble_eq_true rfl) rfl .no (fun d=>by kernel_rfl)
theorem oo:FOk Tryz.prog 48 kA:=fok (V:=⟨tt,[(92,mc),(93,yT)],[],64,[]⟩) al ⟨nQ,GU,trivial⟩ mixed Tryz.func48 rfl rfl (enters_of Tryz.func48 (by kernel_rfl) rfl) rfl (Nat.le_of_ble_eq_true rfl) rfl (.two .no (.two (.two .no (.loop [.slot 3 (.num .i64)] .no)) (.two (.two .no (.loop [.slot 4 (.num .i64)] .no)) .no))) (fun d=>by kernel_rfl)
end R
namespace R
open Go.RowKit
open D
theorem DW:FOk Tryz.prog 171 wH:=fok (V:=⟨tt,[(92,mc)],[],50,[]⟩) al ⟨nQ,trivial⟩ mixed Tryz.func171 rfl rfl (enters_of Tryz.func171 (by kernel_rfl) rfl) rfl (Nat.le_of_ble_eq_true rfl) rfl (.two .no (.two .no (.two .no (.two (.two .no (.loop [.slot 4 (.num .i64)] (.two .no (.two (.two .no (.two .no (.loop [.slot 5 (.num .i64)] .no))) .no)))) .no)))) (fun d=>by kernel_rfl)
theorem qe:FOk Tryz.prog 131 kG:=fok (V:=⟨tt,[(171,wH)],[],11,[]⟩) al ⟨DW,trivial⟩ mixed Tryz.func131 rfl rfl (enters_of Tryz.func131 (by kernel_rfl) rfl) rfl (Nat.le_of_ble_eq_true rfl) rfl .no (fun d=>by kernel_rfl)
theorem DX:FOk Tryz.prog 94 wI:=fok (V:=⟨tt,[(48,kA),(92,mc),(131,kG)],[],31,[]⟩) al ⟨oo,nQ,qe,trivial⟩ mixed Tryz.func94 rfl rfl (enters_of Tryz.func94 (by kernel_rfl) rfl) rfl (Nat.le_of_ble_eq_true rfl) rfl .no (fun d=>by kernel_rfl)
theorem qB:FOk Tryz.prog 173 mE:=fok (V:=⟨tt,[],[],31,[]⟩) al trivial mixed Tryz.func173 rfl rfl (enters_of Tryz.func173 (by kernel_rfl) rfl) rfl (Nat.le_of_ble_eq_true rfl) rfl (.two .no (.two .no (.two (.loop [.slot 1 (.num .i64),.slot 7 (.num .i64)] .no) .no))) (fun d=>by kernel_rfl)
theorem GV:FOk Tryz.prog 202 yU:=fok (V:=⟨tt,[],[],52,[]⟩) al trivial mixed Tryz.func202 rfl rfl (enters_of Tryz.func202 (by kernel_rfl) rfl) rfl (Nat.le_of_ble_eq_true rfl) rfl (.two .no (.two .no (.two (.two .no (.loop [.slot 5 (.own 203 Ql),.slot 6 (.num .i64)] (.two .no (.join [.slot 5 (.own 203 Ql)] (.join [.slot 5 (.own 203 Ql)] .no .no) .no)))) .no))) (fun d=>by kernel_rfl)
theorem Ak:FOk Tryz.prog 203 sf:=fok (V:=⟨tt,[],[],22,[]⟩) al trivial mixed Tryz.func203 rfl rfl (enters_of Tryz.func203 (by kernel_rfl) rfl) rfl (Nat.le_of_ble_eq_true rfl) rfl (.two .no (.two (.two .no (.loop [.slot 5 (.num .i64)] .no)) .no)) (fun d=>by kernel_rfl)
theorem Al:FOk Tryz.prog 204 sg:=fok (V:=⟨tt,[],[],13,[]⟩) al trivial mixed Tryz.func204 rfl rfl (enters_of Tryz.func204 (by kernel_rfl) rfl) rfl (Nat.le_of_ble_eq_true rfl) rfl .no (fun d=>by kernel_rfl)
theorem JB:FOk Tryz.prog 205 Ce:=fok (V:=⟨tt,[],[],10,[]⟩) al trivial mixed Tryz.func205 rfl rfl (enters_of Tryz.func205 (by kernel_rfl) rfl) rfl (Nat.le_of_ble_eq_true rfl) rfl .no (fun d=>by kernel_rfl)
theorem Cq:FOk Tryz.prog 172 uu:=fok (V:=⟨tt,[(173,mE),(202,yU),(203,sf),(204,sg),(205,Ce)],[],110,[]⟩) al ⟨qB,GV,Ak,Al,JB,trivial⟩ mixed Tryz.func172 rfl rfl (enters_of Tryz.func172 (by kernel_rfl) rfl) rfl (Nat.le_of_ble_eq_true rfl) rfl (.two .no (.two .no (.two .no (.two .no (.two (.two .no (.loop [.slot 9 (.own 205 RZ),.slot 12 (.num .i64)] (.two .no (.two (.two .no (.two .no (.two (.two .no (.loop [.slot 14 (.num .i64),.slot 15 (.num .i64)] (.two .no (.join [.slot 14 (.num .i64)] .no .no)))) (.two .no (.loop [.slot 9 (.own 205 RZ),.slot 17 (.num .i64)] (.two .no (.join [.slot 9 (.own 205 RZ)] .no .no))))))) .no)))) .no))))) (fun d=>by kernel_rfl)
theorem Cr:FOk Tryz.prog 132 uv:=fok (V:=⟨tt,[(172,uu)],[],104,[]⟩) al ⟨Cq,trivial⟩ mixed Tryz.func132 rfl rfl (enters_of Tryz.func132 (by kernel_rfl) rfl) rfl (Nat.le_of_ble_eq_true rfl) rfl (.two .no (.two .no (.two .no (.two (.two .no (.loop [.slot 8 (.own 3 y3),.slot 9 (.num .i64)] .no)) (.two .no (.two .no (.two (.two .no (.loop [.row 8 3 y3,.slot 10 (.own 3 y3),.slot 11 (.num .i64)] (.two .no (.two (.two .no (.two .no (.loop [.row 8 3 y3,.slot 10 (.own 3 y3),.slot 13 (.num .i64)] (.two .no (.join [.row 8 3 y3,.slot 10 (.own 3 y3)] .no .no))))) .no)))) .no))))))) (fun d=>by kernel_rfl)
theorem xU:FOk Tryz.prog 133 qq:=fok (V:=⟨tt,[(173,mE)],[],38,[]⟩) al ⟨qB,trivial⟩ mixed Tryz.func133 rfl rfl (enters_of Tryz.func133 (by kernel_rfl) rfl) rfl (Nat.le_of_ble_eq_true rfl) rfl (.two .no (.two .no (.two (.two .no (.loop [.slot 10 (.num .i64)] .no)) .no))) (fun d=>by kernel_rfl)
theorem JC:FOk Tryz.prog 134 Cf:=fok (V:=⟨tt,[],[],20,[]⟩) al trivial mixed Tryz.func134 rfl rfl (enters_of Tryz.func134 (by kernel_rfl) rfl) rfl (Nat.le_of_ble_eq_true rfl) rfl (.two .no (.two .no (.two (.two .no (.loop [.slot 3 (.own 3 y3),.slot 4 (.num .i64)] (.two .no (.join [.slot 3 (.own 3 y3)] .no .no)))) .no))) (fun d=>by kernel_rfl)
theorem DY:FOk Tryz.prog 95 wJ:=fok (V:=⟨tt,[(132,uv),(133,qq),(134,Cf)],[],48,[]⟩) al ⟨Cr,xU,JC,trivial⟩ mixed Tryz.func95 rfl rfl (enters_of Tryz.func95 (by kernel_rfl) rfl) rfl (Nat.le_of_ble_eq_true rfl) rfl (.two .no (.two .no (.two .no (.two .no (.two (.two .no (.loop [.slot 9 (.num .i64),.slot 10 (.num .i64)] (.two .no (.join [.slot 9 (.num .i64)] .no .no)))) .no))))) (fun d=>by kernel_rfl)
theorem xV:FOk Tryz.prog 49 qu:=fok (V:=⟨tt,[(94,wI),(95,wJ)],[],42,[]⟩) al ⟨DX,DY,trivial⟩ mixed Tryz.func49 rfl rfl (enters_of Tryz.func49 (by kernel_rfl) rfl) rfl (Nat.le_of_ble_eq_true rfl) rfl (.two .no (.two .no (.two (.two .no (.loop [.slot 5 (.own 103 MN),.slot 6 (.num .i64)] (.two .no (.two (.two .no (.two .no (.loop [.slot 5 (.own 103 MN),.slot 8 (.num .i64)] .no))) .no)))) .no))) (fun d=>by kernel_rfl)
theorem uN:FOk Tryz.prog 10 n8:=fok (V:=⟨tt,[(47,mi),(48,kA),(49,qu)],[],27,[]⟩) al ⟨sx,oo,xV,trivial⟩ mixed Tryz.func10 rfl rfl (enters_of Tryz.func10 (by kernel_rfl) rfl) rfl (Nat.le_of_ble_eq_true rfl) rfl .no (fun d=>by kernel_rfl)
theorem DZ:FOk Tryz.prog 135 wK:=fok (V:=⟨tt,[],[],22,[]⟩) al trivial mixed Tryz.func135 rfl rfl (enters_of Tryz.func135 (by kernel_rfl) rfl) rfl (Nat.le_of_ble_eq_true rfl) rfl (.two .no (.two .no (.two (.two .no (.loop [.row 3 4 y4,.slot 4 (.num .i64)] .no)) .no))) (fun d=>by kernel_rfl)
theorem ze:FOk Tryz.prog 52 tz:=fok (V:=⟨tt,[],[],22,[]⟩) al trivial mixed Tryz.func52 rfl rfl (enters_of Tryz.func52 (by kernel_rfl) rfl) rfl (Nat.le_of_ble_eq_true rfl) rfl (.two .no (.two .no (.two (.two .no (.loop [.row 3 3 y3,.slot 4 (.num .i64)] .no)) .no))) (fun d=>by kernel_rfl)
end R
namespace R
open Go.RowKit
open D
theorem D0:FOk Tryz.prog 136 wL:=fok (V:=⟨tt,[(52,tz)],[],23,[]⟩) al ⟨ze,trivial⟩ mixed Tryz.func136 rfl rfl (enters_of Tryz.func136 (by kernel_rfl) rfl) rfl (Nat.le_of_ble_eq_true rfl) rfl (.two .no (.two .no (.two (.two .no (.loop [.row 3 26 y26,.slot 4 (.num .i64)] .no)) .no))) (fun d=>by kernel_rfl)
theorem w8:FOk Tryz.prog 96 o8:=fok (V:=⟨tt,[(135,wK),(136,wL)],[],16,[]⟩) al ⟨DZ,D0,trivial⟩ mixed Tryz.func96 rfl rfl (enters_of Tryz.func96 (by kernel_rfl) rfl) rfl (Nat.le_of_ble_eq_true rfl) rfl .no (fun d=>by kernel_rfl)
theorem uO:FOk Tryz.prog 50 n9:=fok (V:=⟨tt,[(96,o8)],[],23,[]⟩) al ⟨w8,trivial⟩ mixed Tryz.func50 rfl rfl (enters_of Tryz.func50 (by kernel_rfl) rfl) rfl (Nat.le_of_ble_eq_true rfl) rfl (.two .no (.two .no (.two (.two .no (.loop [.row 3 92 y92,.slot 4 (.num .i64)] .no)) .no))) (fun d=>by kernel_rfl)
theorem D1:FOk Tryz.prog 206 wM:=fok (V:=⟨tt,[],[],17,[]⟩) al trivial mixed Tryz.func206 rfl rfl (enters_of Tryz.func206 (by kernel_rfl) rfl) rfl (Nat.le_of_ble_eq_true rfl) rfl .no (fun d=>by kernel_rfl)
theorem Cs:FOk Tryz.prog 174 uw:=fok (V:=⟨tt,[(206,wM)],[],23,[]⟩) al ⟨D1,trivial⟩ mixed Tryz.func174 rfl rfl (enters_of Tryz.func174 (by kernel_rfl) rfl) rfl (Nat.le_of_ble_eq_true rfl) rfl (.two .no (.two .no (.two (.two .no (.loop [.row 3 188 uj,.slot 4 (.num .i64)] .no)) .no))) (fun d=>by kernel_rfl)
theorem GW:FOk Tryz.prog 137 yV:=fok (V:=⟨tt,[(174,uw)],[],9,[]⟩) al ⟨Cs,trivial⟩ mixed Tryz.func137 rfl rfl (enters_of Tryz.func137 (by kernel_rfl) rfl) rfl (Nat.le_of_ble_eq_true rfl) rfl .no (fun d=>by kernel_rfl)
theorem uP:FOk Tryz.prog 97 oc:=fok (V:=⟨tt,[(137,yV)],[],15,[]⟩) al ⟨GW,trivial⟩ mixed Tryz.func97 rfl rfl (enters_of Tryz.func97 (by kernel_rfl) rfl) rfl (Nat.le_of_ble_eq_true rfl) rfl .no (fun d=>by kernel_rfl)
theorem tF:FOk Tryz.prog 51 mU:=fok (V:=⟨tt,[(97,oc)],[],23,[]⟩) al ⟨uP,trivial⟩ mixed Tryz.func51 rfl rfl (enters_of Tryz.func51 (by kernel_rfl) rfl) rfl (Nat.le_of_ble_eq_true rfl) rfl (.two .no (.two .no (.two (.two .no (.loop [.row 3 146 Cd,.slot 4 (.num .i64)] .no)) .no))) (fun d=>by kernel_rfl)
theorem xW:FOk Tryz.prog 11 qv:=fok (V:=⟨tt,[(50,n9),(51,mU)],[],13,[]⟩) al ⟨uO,tF,trivial⟩ mixed Tryz.func11 rfl rfl (enters_of Tryz.func11 (by kernel_rfl) rfl) rfl (Nat.le_of_ble_eq_true rfl) rfl .no (fun d=>by kernel_rfl)
theorem GX:FOk Tryz.prog 98 yW:=fok (V:=⟨tt,[],[],17,[]⟩) al trivial mixed Tryz.func98 rfl rfl (enters_of Tryz.func98 (by kernel_rfl) rfl) rfl (Nat.le_of_ble_eq_true rfl) rfl .no (fun d=>by kernel_rfl)
theorem D2:FOk Tryz.prog 53 wN:=fok (V:=⟨tt,[(98,yW)],[],23,[]⟩) al ⟨GX,trivial⟩ mixed Tryz.func53 rfl rfl (enters_of Tryz.func53 (by kernel_rfl) rfl) rfl (Nat.le_of_ble_eq_true rfl) rfl (.two .no (.two .no (.two (.two .no (.loop [.row 3 150 Hz,.slot 4 (.num .i64)] .no)) .no))) (fun d=>by kernel_rfl)
theorem D3:FOk Tryz.prog 12 wO:=fok (V:=⟨tt,[(52,tz),(53,wN)],[],13,[]⟩) al ⟨ze,D2,trivial⟩ mixed Tryz.func12 rfl rfl (enters_of Tryz.func12 (by kernel_rfl) rfl) rfl (Nat.le_of_ble_eq_true rfl) rfl .no (fun d=>by kernel_rfl)
theorem eb:FOk Tryz.prog 138 bN:=fok (V:=⟨tt,[],[],19,[]⟩) al trivial mixed Tryz.func138 rfl rfl (enters_of Tryz.func138 (by kernel_rfl) rfl) rfl (Nat.le_of_ble_eq_true rfl) rfl (.two .no (.two (.two .no (.loop [.slot 8 (.num .i64)] .no)) .no)) (fun d=>by kernel_rfl)
theorem w9:FOk Tryz.prog 139 o9:=fok (V:=⟨tt,[],[],8,[]⟩) al trivial mixed Tryz.func139 rfl rfl (enters_of Tryz.func139 (by kernel_rfl) rfl) rfl (Nat.le_of_ble_eq_true rfl) rfl .no (fun d=>by kernel_rfl)
theorem Am:FOk Tryz.prog 99 si:=fok (V:=⟨tt,[(138,bN),(139,o9)],[],9,[]⟩) al ⟨eb,w9,trivial⟩ mixed Tryz.func99 rfl rfl (enters_of Tryz.func99 (by kernel_rfl) rfl) rfl (Nat.le_of_ble_eq_true rfl) rfl .no (fun d=>by kernel_rfl)
theorem jv:FOk Tryz.prog 102 hY:=fok (V:=⟨tt,[],[],15,[]⟩) al trivial mixed Tryz.func102 rfl rfl (enters_of Tryz.func102 (by kernel_rfl) rfl) rfl (Nat.le_of_ble_eq_true rfl) rfl .no (fun d=>by kernel_rfl)
theorem uD:FOk Tryz.prog 244 pa:=fok (V:=⟨tt,[(102,hY)],[],5,[]⟩) al ⟨jv,trivial⟩ mixed Tryz.func244 rfl rfl (enters_of Tryz.func244 (by kernel_rfl) rfl) rfl (Nat.le_of_ble_eq_true rfl) rfl .no (fun d=>by kernel_rfl)
end R
namespace R
open Go.RowKit
open D
theorem D4:FOk Tryz.prog 269 wP:=fok (V:=⟨tt,[(102,hY),(244,pa)],[],48,[]⟩) al ⟨jv,uD,trivial⟩ mixed Tryz.func269 rfl rfl (enters_of Tryz.func269 (by kernel_rfl) rfl) rfl (Nat.le_of_ble_eq_true rfl) rfl (.two .no (.two (.two .no (.two .no (.two .no (.two .no (.two .no (.join [.slot 37 .boo] .no .no)))))) .no)) (fun d=>by kernel_rfl)
theorem kD:FOk Tryz.prog 270 aV:=Cc (f:=aV) (iD (f:=⟨aV.ps,aV.rs,aV.m,none⟩) (enters_of Tryz.func270 (by kernel_rfl) rfl) rfl (fun d=>rfl)) (Fy (V:=⟨tt,[],[(5,.raw)],8,[]⟩) al trivial mixed Tryz.func270 rfl rfl (enters_of Tryz.func270 (by kernel_rfl) rfl) (Nat.le_of_ble_eq_true rfl) .no (fun E bn xs=>by cases bn <;> kernel_rfl))
theorem tG:FOk Tryz.prog 235 p8:=fok (V:=⟨tt,[(269,wP),(270,aV)],[],56,[(294,263,uj)]⟩) al ⟨D4,kD,trivial⟩ mixed Tryz.func235 rfl rfl (enters_of Tryz.func235 (by kernel_rfl) rfl) rfl (Nat.le_of_ble_eq_true rfl) rfl (.two .no (.two .no (.two (.two .no (.loop [.slot 3 (.own 263 TG),.slot 13 (.num .i64)] (.two .no (.two .no (.two (.two .no (.two .no (.two (.two .no (.at [.slot 6 (.num .i64)] (.two (.two .no (.at [.slot 19 .boo] .no)) (.two .no (.two (.two .no (.at [.slot 22 .boo] .no)) .no))))) .no))) .no))))) .no))) (fun d=>by kernel_rfl)
theorem GY:FOk Tryz.prog 297 yX:=fok (V:=⟨tt,[(235,p8)],[],6,[(294,263,uj)]⟩) al ⟨tG,trivial⟩ mixed Tryz.func297 rfl rfl (enters_of Tryz.func297 (by kernel_rfl) rfl) rfl (Nat.le_of_ble_eq_true rfl) rfl .no (fun d=>by kernel_rfl)
theorem xa:FOk Tryz.prog 264 pb:=fok (V:=⟨tt,[(297,yX)],[],11,[]⟩) al ⟨GY,trivial⟩ mixed Tryz.func264 rfl rfl (enters_of Tryz.func264 (by kernel_rfl) rfl) rfl (Nat.le_of_ble_eq_true rfl) rfl .no (fun d=>by kernel_rfl)
theorem qC: ∀n,FOk Tryz.prog 265 (jW n)
 | 0=>iD (f:=jW 0) (enters_of Tryz.func265 (by kernel_rfl) rfl) rfl (fun d=>rfl)
 | n+1=>by
  have ih:=qC n
  exact fok (V:=⟨tt,[(265,(jW n))],[],39,[(294,263,uj)]⟩) al ⟨ih,trivial⟩ mixed Tryz.func265 rfl rfl (enters_of Tryz.func265 (by kernel_rfl) rfl) rfl (Nat.le_of_ble_eq_true rfl) rfl (.two .no (.two .no (.two (.two .no (.loop [.slot 3 (.num .i64),.slot 11 (.num .i64)] (.two .no (.two .no (.two (.at [.slot 3 (.num .i64)] .no) .no))))) .no))) (fun d=>by kernel_rfl)
theorem MO:FOk Tryz.prog 308 FA:=fok (V:=⟨tt,[],[],7,[(294,263,uj)]⟩) al trivial mixed Tryz.func308 rfl rfl (enters_of Tryz.func308 (by kernel_rfl) rfl) rfl (Nat.le_of_ble_eq_true rfl) rfl .no (fun d=>by kernel_rfl)
theorem uE: ∀n,FOk Tryz.prog 298 (mj n)
 | 0=>iD (f:=mj 0) (enters_of Tryz.func298 (by kernel_rfl) rfl) rfl (fun d=>rfl)
 | n+1=>by
  have ih:=uE n
  exact fok (V:=⟨tt,[(298,(mj n)),(308,FA)],[],32,[(294,263,uj)]⟩) al ⟨ih,MO,trivial⟩ mixed Tryz.func298 rfl rfl (enters_of Tryz.func298 (by kernel_rfl) rfl) rfl (Nat.le_of_ble_eq_true rfl) rfl .no (fun d=>by kernel_rfl)
theorem pj: ∀n,FOk Tryz.prog 266 (iW n)
 | 0=>iD (f:=iW 0) (enters_of Tryz.func266 (by kernel_rfl) rfl) rfl (fun d=>rfl)
 | n+1=>by
  have ih:=pj n
  exact fok (V:=⟨tt,[(266,(iW n)),(298,(mj eK))],[(52,t263)],58,[(294,263,uj)]⟩) al ⟨ih,(uE eK),trivial⟩ mixed Tryz.func266 rfl rfl (enters_of Tryz.func266 (by kernel_rfl) rfl) rfl (Nat.le_of_ble_eq_true rfl) rfl (.two .no (.two .no (.two .no (.two (.two .no (.loop [.slot 41 (.num .i64),.box 3 [(.num .i64),(.num .i64),(.num .i64),(.num .i64),(.own 263 (.tree 294 263 uj))]] .no)) .no)))) (fun d=>by kernel_rfl)
theorem oq: ∀n,FOk Tryz.prog 299 (gJ n)
 | 0=>iD (f:=gJ 0) (enters_of Tryz.func299 (by kernel_rfl) rfl) rfl (fun d=>rfl)
 | n+1=>by
  have ih:=oq n
  exact fok (V:=⟨tt,[(299,(gJ n))],[],32,[(294,263,uj)]⟩) al ⟨ih,trivial⟩ mixed Tryz.func299 rfl rfl (enters_of Tryz.func299 (by kernel_rfl) rfl) rfl (Nat.le_of_ble_eq_true rfl) rfl (.two (.two .no (.loop [.slot 11 (.num .i64),.box 1 [(.own 188 uj)]] .no)) .no) (fun d=>by kernel_rfl)
theorem An:FOk Tryz.prog 267 sj:=fok (V:=⟨tt,[(299,(gJ eK))],[],8,[(294,263,uj)]⟩) al ⟨(oq eK),trivial⟩ mixed Tryz.func267 rfl rfl (enters_of Tryz.func267 (by kernel_rfl) rfl) rfl (Nat.le_of_ble_eq_true rfl) rfl .no (fun d=>by kernel_rfl)
theorem xX:FOk Tryz.prog 233 qw:=fok (V:=⟨tt,[(235,p8),(264,pb),(265,(jW eK)),(266,(iW eK)),(267,sj)],[],25,[(294,263,uj)]⟩) al ⟨tG,xa,(qC eK),(pj eK),An,trivial⟩ mixed Tryz.func233 rfl rfl (enters_of Tryz.func233 (by kernel_rfl) rfl) rfl (Nat.le_of_ble_eq_true rfl) rfl .no (fun d=>by kernel_rfl)
theorem qf:FOk Tryz.prog 268 kH:=fok (V:=⟨tt,[],[],31,[]⟩) al trivial mixed Tryz.func268 rfl rfl (enters_of Tryz.func268 (by kernel_rfl) rfl) rfl (Nat.le_of_ble_eq_true rfl) rfl (.two .no (.loop [.slot 12 (.num .i64),.par 3 [3] 3 y3] (.two .no (.two .no (.two (.at [.par 3 [3] 3 y3] .no) .no))))) (fun d=>by kernel_rfl)
theorem lO: ∀n,FOk Tryz.prog 234 (eI n)
 | 0=>iD (f:=eI 0) (enters_of Tryz.func234 (by kernel_rfl) rfl) rfl (fun d=>rfl)
 | n+1=>by
  have ih:=lO n
  exact fok (V:=⟨tt,[(234,(eI n)),(268,kH)],[],163,[(294,263,uj)]⟩) al ⟨ih,qf,trivial⟩ mixed Tryz.func234 rfl rfl (enters_of Tryz.func234 (by kernel_rfl) rfl) rfl (Nat.le_of_ble_eq_true rfl) rfl (.two .no (.two (.two .no (.two .no (.two .no (.two .no (.two .no (.two .no (.two .no (.two .no (.two (.two .no (.two .no (.two .no (.two (.two .no (.at [.box 10 [(.num .i64),(.num .i64),.boo]] .no)) (.two (.two .no (.at [.box 10 [(.num .i64),(.num .i64),.boo]] .no)) .no))))) .no))))))))) .no)) (fun d=>by kernel_rfl)
theorem sy:FOk Tryz.prog 207 mn:=fok (V:=⟨tt,[(233,qw),(234,(eI eK)),(235,p8)],[],49,[(294,263,uj)]⟩) al ⟨xX,(lO eK),tG,trivial⟩ mixed Tryz.func207 rfl rfl (enters_of Tryz.func207 (by kernel_rfl) rfl) rfl (Nat.le_of_ble_eq_true rfl) rfl (.two .no (.two .no (.two .no (.two .no (.two (.two .no (.loop [.slot 6 (.num .i64),.slot 22 (.num .i64)] (.two .no (.two .no (.two (.at [.slot 6 (.num .i64)] .no) .no))))) .no))))) (fun d=>by kernel_rfl)
theorem ot:FOk Tryz.prog 236 kB:=fok (V:=⟨tt,[],[],96,[]⟩) al trivial mixed Tryz.func236 rfl rfl (enters_of Tryz.func236 (by kernel_rfl) rfl) rfl (Nat.le_of_ble_eq_true rfl) rfl (.two .no (.two .no (.two .no (.two .no (.two (.two .no (.loop [.slot 10 (.own 3 y3),.slot 11 (.map ⟨3,3,.int,.int⟩),.slot 13 (.num .i64),.box 12 [(.num .i64),(.own 4 y4),(.own 26 y26)]] (.two .no (.two (.two .no (.two (.two .no (.loop [.slot 10 (.own 3 y3),.slot 11 (.map ⟨3,3,.int,.int⟩),.slot 14 (.own 3 y3),.slot 15 (.num .i64)] (.two .no (.join [.slot 10 (.own 3 y3),.slot 11 (.map ⟨3,3,.int,.int⟩),.slot 14 (.own 3 y3)] (.two .no (.two .no (.two .no (.join [.slot 10 (.own 3 y3),.slot 11 (.map ⟨3,3,.int,.int⟩),.slot 18 (.num .i64)] .no .no)))) .no)))) .no)) .no)))) .no))))) (fun d=>by kernel_rfl)
theorem pn:FOk Tryz.prog 237 kg:=fok (V:=⟨tt,[],[],20,[]⟩) al trivial mixed Tryz.func237 rfl rfl (enters_of Tryz.func237 (by kernel_rfl) rfl) rfl (Nat.le_of_ble_eq_true rfl) rfl .no (fun d=>by kernel_rfl)
end R
namespace R
open Go.RowKit
open D
theorem re:FOk Tryz.prog 239 lH:=fok (V:=⟨tt,[],[],61,[]⟩) al trivial mixed Tryz.func239 rfl rfl (enters_of Tryz.func239 (by kernel_rfl) rfl) rfl (Nat.le_of_ble_eq_true rfl) rfl (.two .no (.two .no (.join [.slot 7 (.num .i64)] .no (.two (.two .no (.loop [.slot 7 (.num .i64),.slot 21 (.num .i64)] (.two .no (.two .no (.join [.slot 7 (.num .i64)] .no .no))))) (.two .no (.two (.two .no (.loop [.slot 10 (.num .i64),.slot 39 (.num .i64)] (.two .no (.two .no (.join [.slot 10 (.num .i64)] .no .no))))) .no)))))) (fun d=>by kernel_rfl)
theorem tH:FOk Tryz.prog 238 mV:=fok (V:=⟨tt,[(239,lH)],[],15,[]⟩) al ⟨re,trivial⟩ mixed Tryz.func238 rfl rfl (enters_of Tryz.func238 (by kernel_rfl) rfl) rfl (Nat.le_of_ble_eq_true rfl) rfl .no (fun d=>by kernel_rfl)
theorem xb:FOk Tryz.prog 208 pc:=fok (V:=⟨tt,[(236,kB),(237,kg),(238,mV)],[],13,[]⟩) al ⟨ot,pn,tH,trivial⟩ mixed Tryz.func208 rfl rfl (enters_of Tryz.func208 (by kernel_rfl) rfl) rfl (Nat.le_of_ble_eq_true rfl) rfl .no (fun d=>by kernel_rfl)
theorem kX:FOk Tryz.prog 309 aZ:=Cc (f:=aZ) (iD (f:=⟨aZ.ps,aZ.rs,aZ.m,none⟩) (enters_of Tryz.func309 (by kernel_rfl) rfl) rfl (fun d=>rfl)) (Fy (V:=⟨tt,[],[(5,.raw)],8,[]⟩) al trivial mixed Tryz.func309 rfl rfl (enters_of Tryz.func309 (by kernel_rfl) rfl) (Nat.le_of_ble_eq_true rfl) .no (fun E bn xs=>by cases bn <;> kernel_rfl))
theorem sA:FOk Tryz.prog 300 mo:=fok (V:=⟨tt,[(309,aZ)],[],48,[]⟩) al ⟨kX,trivial⟩ mixed Tryz.func300 rfl rfl (enters_of Tryz.func300 (by kernel_rfl) rfl) rfl (Nat.le_of_ble_eq_true rfl) rfl (.two .no (.two .no (.two (.two .no (.loop [.slot 4 .boo,.row 3 4 y4] (.two .no (.two .no (.two .no (.loop [.slot 4 .boo,.slot 16 (.num .i64),.row 3 4 y4] (.two .no (.two .no (.two (.two .no (.two .no (.loop [.slot 4 .boo,.slot 23 (.num .i64),.row 3 4 y4] (.two .no (.two .no (.two (.at [.slot 4 .boo,.row 3 4 y4] .no) .no)))))) .no))))))))) .no))) (fun d=>by kernel_rfl)
theorem ir:FOk Tryz.prog 310 c9:=fok (V:=⟨tt,[],[],19,[]⟩) al trivial mixed Tryz.func310 rfl rfl (enters_of Tryz.func310 (by kernel_rfl) rfl) rfl (Nat.le_of_ble_eq_true rfl) rfl (.two .no (.two (.two .no (.loop [.slot 8 (.num .i64)] .no)) .no)) (fun d=>by kernel_rfl)
theorem fX:FOk Tryz.prog 152 db:=fok (V:=⟨tt,[],[],26,[]⟩) al trivial mixed Tryz.func152 rfl rfl (enters_of Tryz.func152 (by kernel_rfl) rfl) rfl (Nat.le_of_ble_eq_true rfl) rfl (.two .no (.two .no (.two (.two .no (.loop [.slot 13 (.num .i64)] .no)) .no))) (fun d=>by kernel_rfl)
theorem oA:FOk Tryz.prog 311 jc:=fok (V:=⟨tt,[(152,db)],[],7,[]⟩) al ⟨fX,trivial⟩ mixed Tryz.func311 rfl rfl (enters_of Tryz.func311 (by kernel_rfl) rfl) rfl (Nat.le_of_ble_eq_true rfl) rfl .no (fun d=>by kernel_rfl)
theorem qg:FOk Tryz.prog 301 kI:=fok (V:=⟨tt,[(310,c9),(311,jc)],[],70,[]⟩) al ⟨ir,oA,trivial⟩ mixed Tryz.func301 rfl rfl (enters_of Tryz.func301 (by kernel_rfl) rfl) rfl (Nat.le_of_ble_eq_true rfl) rfl (.two .no (.two .no (.two .no (.two (.two .no (.loop [.slot 6 (.own 26 y26),.slot 7 (.own 3 y3),.slot 18 (.num .i64)] (.two .no (.two .no (.join [.slot 6 (.own 26 y26),.slot 7 (.own 3 y3)] (.two .no (.two .no (.two .no (.two (.two .no (.loop [.slot 36 (.num .i64),.box 10 [(.own 3 y3)]] (.two .no (.two .no (.two (.two .no (.join [.slot 12 (.num .i64)] .no .no)) .no))))) (.two .no (.join [.slot 6 (.own 26 y26),.slot 13 (.num .i64),.gone 10] .no .no)))))) .no))))) .no)))) (fun d=>by kernel_rfl)
theorem po:FOk Tryz.prog 271 kh:=fok (V:=⟨tt,[(300,mo),(301,kI)],[],49,[]⟩) al ⟨sA,qg,trivial⟩ mixed Tryz.func271 rfl rfl (enters_of Tryz.func271 (by kernel_rfl) rfl) rfl (Nat.le_of_ble_eq_true rfl) rfl (.two .no (.two .no (.two (.two .no (.loop [.slot 3 (.own 3 y3),.slot 13 (.num .i64)] (.two .no (.two .no (.join [.slot 3 (.own 3 y3)] .no .no))))) (.two .no (.loop [.slot 3 (.own 3 y3),.slot 6 (.num .i64)] .no))))) (fun d=>by kernel_rfl)
theorem rf:FOk Tryz.prog 277 lI:=fok (V:=⟨tt,[],[],17,[]⟩) al trivial mixed Tryz.func277 rfl rfl (enters_of Tryz.func277 (by kernel_rfl) rfl) rfl (Nat.le_of_ble_eq_true rfl) rfl .no (fun d=>by kernel_rfl)
theorem rh:FOk Tryz.prog 278 lJ:=fok (V:=⟨tt,[],[],51,[]⟩) al trivial mixed Tryz.func278 rfl rfl (enters_of Tryz.func278 (by kernel_rfl) rfl) rfl (Nat.le_of_ble_eq_true rfl) rfl .no (fun d=>by kernel_rfl)
theorem tI:FOk Tryz.prog 242 mW:=fok (V:=⟨tt,[(277,lI),(278,lJ)],[],30,[]⟩) al ⟨rf,rh,trivial⟩ mixed Tryz.func242 rfl rfl (enters_of Tryz.func242 (by kernel_rfl) rfl) rfl (Nat.le_of_ble_eq_true rfl) rfl .no (fun d=>by kernel_rfl)
theorem fF:FOk Tryz.prog 214 cV:=fok (V:=⟨tt,[(242,mW)],[(44,.bool)],48,[]⟩) al ⟨tI,trivial⟩ mixed Tryz.func214 rfl rfl (enters_of Tryz.func214 (by kernel_rfl) rfl) rfl (Nat.le_of_ble_eq_true rfl) rfl (.two .no (.two .no (.two .no (.two .no (.two .no (.two .no (.two (.loop [.slot 8 (.num .i64),.row 7 3 (.int .i64)] .no) .no))))))) (fun d=>by kernel_rfl)
theorem D5:FOk Tryz.prog 272 wQ:=fok (V:=⟨tt,[(214,cV)],[],6,[]⟩) al ⟨fF,trivial⟩ mixed Tryz.func272 rfl rfl (enters_of Tryz.func272 (by kernel_rfl) rfl) rfl (Nat.le_of_ble_eq_true rfl) rfl .no (fun d=>by kernel_rfl)
theorem lX:FOk Tryz.prog 274 fW:=fok (V:=⟨tt,[],[],19,[]⟩) al trivial mixed Tryz.func274 rfl rfl (enters_of Tryz.func274 (by kernel_rfl) rfl) rfl (Nat.le_of_ble_eq_true rfl) rfl (.two .no (.two (.two .no (.loop [.slot 8 (.num .i64)] .no)) .no)) (fun d=>by kernel_rfl)
theorem m7:FOk Tryz.prog 273 hZ:=fok (V:=⟨tt,[(274,fW)],[],7,[]⟩) al ⟨lX,trivial⟩ mixed Tryz.func273 rfl rfl (enters_of Tryz.func273 (by kernel_rfl) rfl) rfl (Nat.le_of_ble_eq_true rfl) rfl .no (fun d=>by kernel_rfl)
end R
end Go.Proofs.YtakjhbbbjbebdaaGreat
