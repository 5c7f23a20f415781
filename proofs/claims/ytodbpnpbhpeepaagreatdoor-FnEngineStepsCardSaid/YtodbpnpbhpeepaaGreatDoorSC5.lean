/- FnEngineSteps: for every input the law returns true and changes nothing that was there. Part 6 of 9. -/
import Derived.Test.YtodbpnpbhpeepaaGreatDoorSC4
set_option synthInstance.maxSize 20000
set_option synthInstance.maxHeartbeats 2000000
set_option linter.unusedVariables false
set_option linter.unusedSimpArgs false
set_option linter.unnecessarySimpa false
set_option linter.unusedSectionVars false
set_option maxRecDepth 1000000
namespace Go.Proofs.YtodbpnpbhpeepaaGreatDoor
open Go.IntKind (i64)
namespace D
open Go.RowKit Go.Shelf
theorem XF {I:Hp} {w0 w:World} {cs:List Ch} {α:Type} {E:TypeId} {enc:α->Value} {h1: ∀a,(enc a).oneCell'=true} {b:Nat} {xs:List α} (c:xs.length<=lim) (h:St I w0 w (Ch.blk b (xs.map enc) E::cs)):St I w0 w (Ch.own (ax E (me α enc h1)) [.slice (some ⟨b,0,none⟩) xs.length xs.length] xs::cs):=by
 obtain ⟨f,i,F,⟨G,K,rfl,⟨rfl,j⟩,e⟩,d,g⟩:=h;refine ⟨f,i,[b] ++K,⟨[b],K,rfl,⟨c,.inr ⟨b,0,xs.length,_,[],rfl,j,aF _,c,?_,rfl,?_⟩⟩,e⟩,d,g⟩
 ·show 0+xs.length*1<=_;simp
 ·refine lF.2 ⟨rfl,[],?_⟩;simp
end D
namespace R
open Go.RowKit Go.Shelf Go.Sort
open D
def K4 (s sep:ByteArray):Option (List ByteArray):=(chk (s.size<4294967281/\1<=sep.size)).bind fun _=>some (Lib.splitB sep 0 (Lib.countB s sep) s)
def ZR (s sep:ByteArray):Option (ByteArray×ByteArray×Bool):=(chk (s.size<4294967281)).bind fun _=>some (⟨(Lib.cut s.data.toList sep.data.toList).1.toArray⟩,⟨(Lib.cut s.data.toList sep.data.toList).2.1.toArray⟩,(Lib.cut s.data.toList sep.data.toList).2.2)
def zm (s:ByteArray) (c:Int):Option Int:=some (Lib.indexByte s.data.toList c.toNat.toUInt8)
def tP (s:ByteArray):Option (Int×Bool):=
 if 10<s.size then some (0,false) else
 match Lib.atoi s.data.toList with
 | none=>some (0,false)
 | some n=>if (⟨(Lib.itoa n).toArray⟩:ByteArray)=s/\ -999999999<=n/\n<=999999999 then some (n,true) else some (0,false)
section
variable {P:Program} {ρ:Ren}
theorem Pz (L:Lays.n146 P ρ) (l:(P.info? (ρ.t 9)).map (fun i=>(i.zero,i.size,i.bytes))=some (some (.string ByteArray.empty),1,16)) (M:P.globalNamed "internal/bytealg.MaxLen" =some (ρ.g 1)) (u:Enters P (ρ.f 146)):FOk P (ρ.f 146) ⟨[.rd .str,.rd .str],[.sl (ρ.t 9) .str],fun s sep=>K4 s sep,none⟩:=by
 refine ⟨fun q Q=>(by cases Q),fun _=>u,fun _ B J γ S d r j R ra=>?_⟩;obtain ⟨v,O,rfl,⟨F,t,I⟩,o,n,rfl,⟨G,y,N⟩,k⟩:=R;obtain rfl:n= []:=k;obtain ⟨H,h,U⟩:=d;let s:ByteArray:=H;let sep:ByteArray:=h;obtain rfl:F= [v]:=t;obtain rfl:G= [o]:=y;obtain rfl:v= .string s:=(List.cons.inj I).1;obtain rfl:o= .string sep:=(List.cons.inj N).1;obtain ⟨T,f,z⟩:=Option.bind_eq_some_iff.1 (show K4 s sep=some r from ra);have f:=bM f;obtain rfl:=ae z;intro w C a;have a:St J B w C:=a;obtain ⟨g,m,K,A⟩:=(j w a.2.1).len;obtain rfl:=ae (M.symm.trans K);refine (Any.strings_Split L l s sep m w f.1 A f.2).mono ?_;rintro e V ⟨rfl,rfl⟩;refine ⟨_,rfl,rfl,?_⟩;have c:(Lib.splitB sep 0 (Lib.countB s sep) s).length=Lib.countB s sep+1:=Lib.splitB_all sep f.2 0 _ s rfl;have x:=Lib.countB_le sep f.2 s.size s (aF _);have p:=D.XF (E:=ρ.t 9) (enc:=Value.string) (h1:=fun _=>rfl) (b:=w.heap.size) (xs:=Lib.splitB sep 0 (Lib.countB s sep) s) (by rw[c];have:lim=9223372036854775807:=rfl;omega) (a.alloc _ _);rw[c] at p;exact p
theorem XG (L:Lays.n145 P ρ) (K:P.globalNamed "internal/bytealg.MaxLen" =some (ρ.g 1)) (x:Enters P (ρ.f 145)):FOk P (ρ.f 145) ⟨[.rd .str,.rd .str],[.str,.str,.bool],fun s sep=>ZR s sep,none⟩:=by
 refine ⟨fun q O=>(by cases O),fun _=>x,fun _ p J γ S d r f Q ra=>?_⟩;obtain ⟨v,N,rfl,⟨E,u,H⟩,o,j,rfl,⟨F,z,M⟩,h⟩:=Q;obtain rfl:j= []:=h;obtain ⟨G,b,U⟩:=d;let s:ByteArray:=G;let sep:ByteArray:=b;obtain rfl:E= [v]:=u;obtain rfl:F= [o]:=z;obtain rfl:v= .string s:=(List.cons.inj H).1;obtain rfl:o= .string sep:=(List.cons.inj M).1;obtain ⟨T,k,A⟩:=Option.bind_eq_some_iff.1 (show ZR s sep=some r from ra);have k:=bM k;obtain rfl:=ae A;intro w C a;have a:St J p w C:=a;obtain ⟨g,m,I,B⟩:=(f w a.2.1).len;obtain rfl:=ae (K.symm.trans I);refine (Any.strings_Cut L s sep m w k B).mono ?_;rintro e V ⟨rfl,n,rfl⟩;refine ⟨_,rfl,⟨_,rfl,rfl,fun i t l=>?_⟩,?_⟩
 ·rcases i with _ | _ | _ | i
  all_goals first | (obtain rfl:=ae l;rfl) | cases l
 ·have y:St J p (w.drewN n) C:=a.drawn rfl rfl rfl rfl;exact D.St.free (R:=Nb) (c:=[.string _]) (D.St.free (R:=Nb) (c:=[.string _]) (D.St.free (R:=Io) (c:=[.bool _]) y ⟨rfl,rfl⟩) ⟨rfl,rfl⟩) ⟨rfl,rfl⟩
theorem Ft (L:Lays.n137 P ρ) (j:Enters P (ρ.f 137)):FOk P (ρ.f 137) ⟨[.rd .str,.rd (.int .u8)],[.int .i64],fun s c=>zm s c,none⟩:=by
 refine ⟨fun q y=>(by cases y),fun _=>j,fun _ l J γ A d r h z ra=>?_⟩;obtain ⟨v,x,rfl,⟨m,i,p⟩,g,f,rfl,⟨n,k,u⟩,b⟩:=z;obtain rfl:f= []:=b;obtain ⟨o,t,B⟩:=d;let s:ByteArray:=o;let c:Int:=t;obtain rfl:m= [v]:=i;obtain rfl:n= [g]:=k;obtain rfl:v= .string s:=(List.cons.inj p).1;obtain rfl:g= .int .u8 c:=(List.cons.inj u).1;obtain rfl:=ae (show zm s c=some r from ra);intro w C a;have a:St J l w C:=a;refine (Any.strings_IndexByte L s c w).mono ?_;rintro e E ⟨rfl,rfl⟩;exact ⟨_,rfl,rfl,D.St.free (R:=acy) (c:=[.int .i64 _]) a ⟨rfl,rfl⟩⟩
theorem XH {α:Type} {E:TypeId} {R:Rep α} {I:Hp} {w0 w:World} {v:List Value} {xs:List α} {C:List Ch} (h:St I w0 w (Ch.own (ax E R) v xs::C)):St I w0 w (Ch.own (ax E (Nd R)) v xs::C):=by
 obtain ⟨f,j,F,⟨G,K,rfl,⟨e,q⟩,b⟩,d,i⟩:=h;rcases q with ⟨rfl,rfl,rfl⟩ | ⟨g,a,cap,cur,n,hv,p,o,m,k,s,l⟩
 ·exact ⟨f,j,_,⟨_,K,rfl,⟨e,.inl ⟨rfl,rfl,rfl⟩⟩,b⟩,d,i⟩
 ·exact ⟨f,j,_,⟨_,K,rfl,⟨e,.inr ⟨g,a,cap,cur,n,hv,p,o,m,k,s,OwnEls.turn (R:=R) (S:=Nd R) rfl (fun c x G r=>Nw r) l⟩⟩,b⟩,d,i⟩
theorem K5 {P:Program} {k:FuncId} {ps:List PM} {A B t:Ty} {E:TypeId} {m:curP ps (Option (dens ([A,.sl E t,B] ++outs ps)))} (h:FOk P k ⟨ps,[A,.sl E t,B],m,none⟩):FOk P k ⟨ps,[A,.sl E (.bag t),B],m,none⟩:=by
 refine ⟨fun q e=>(by cases e),fun e=>h.en e,fun _ g J γ f d r a o ra=>?_⟩;refine (h.con rfl g J γ f d r a o ra).imp (fun v hv=>?_) (fun v _ w C l=>?_)
 ·obtain ⟨j,rfl,n,c⟩:=hv;refine ⟨j,rfl,n,fun i u b=>?_⟩;rcases i with _ | _ | _ | i
  ·obtain rfl:=ae b;exact c 0 _ rfl
  ·obtain rfl:=ae b;exact c 1 (.sl E t) rfl
  ·obtain rfl:=ae b;exact c 2 _ rfl
  ·cases b
 ·exact ((XH (l.perm (List.Perm.swap ..))).perm (List.Perm.swap ..))
theorem PA {k:FuncId} {m:ByteArray->Option (Int×Bool)} (o:Enters P k) (h: ∀s r w,m s=some r->LayW P w->Calls P k #[.string s] w fun e l=>e= .returned (.tuple #[.int .i64 r.1,.bool r.2])/\Below w.heap.size w l):FOk P k ⟨[.rd .str],[.int .i64,.bool],fun s=>m s,none⟩:=by
 refine ⟨fun q A=>(by cases A),fun _=>o,fun _ p J γ E d r b B ra=>?_⟩;obtain ⟨v,g,rfl,⟨x,n,z⟩,f⟩:=B;obtain rfl:g= []:=f;obtain ⟨y,F⟩:=d;let s:ByteArray:=y;obtain rfl:x= [v]:=n;obtain rfl:v= .string s:=(List.cons.inj z).1;intro w C a;have a:St J p w C:=a;refine (h s r w ra (b w a.2.1)).mono ?_;rintro e l ⟨rfl,u⟩;refine ⟨_,rfl,⟨_,rfl,rfl,fun i t j=>?_⟩,?_⟩
 ·rcases i with _ | _ | i
  all_goals first | (obtain rfl:=ae j;rfl) | cases j
 ·exact D.St.free (R:=acy) (c:=[.int .i64 _]) (D.St.free (R:=Io) (c:=[.bool _]) (St.belowS a u) ⟨rfl,rfl⟩) ⟨rfl,rfl⟩
end
end R
namespace R
open Go.Shelf
def Ag:Go.Shelf.Ren:=⟨fun | 156=>233 | 165=>277 | 166=>278 | 169=>279 | 240=>320 | 241=>321 | 276=>361 | 277=>362 | n=>n,fun | 31=>199 | 9=>9 | 3=>3 | 4=>4 | 0=>0 | 20=>20 | 72=>286 | 76=>265 | 70=>284 | 37=>22 | 75=>264 | 127=>328 | 164=>359 | 5=>5 | 80=>288 | n=>n,fun | n=>n⟩
theorem Tj:Go.Proofs.Lays.n156 Tryz.prog Ag:= {
 mixed:=by kernel_rfl
 f156:=Tryz.func233.trans (congrArg some (by kernel_rfl))
 f165:=Tryz.func277.trans (congrArg some (by kernel_rfl))
 f166:=Tryz.func278.trans (congrArg some (by kernel_rfl))
 f169:=Tryz.func279.trans (congrArg some (by kernel_rfl))
 f240:=Tryz.func320.trans (congrArg some (by kernel_rfl))
 f241:=Tryz.func321.trans (congrArg some (by kernel_rfl))
 f276:=Tryz.func361.trans (congrArg some (by kernel_rfl))
 f277:=Tryz.func362.trans (congrArg some (by kernel_rfl))
 t0:=Tryz.underlying0
 a0:=Tryz.isAgg0
 z0:=Tryz.sizeOf0
 v0:=Tryz.zeroValue0
 t3:=Tryz.underlying3
 a3:=Tryz.isAgg3
 z3:=Tryz.sizeOf3
 v3:=Tryz.zeroValue3
 t4:=Tryz.underlying4
 a4:=Tryz.isAgg4
 z4:=Tryz.sizeOf4
 v4:=Tryz.zeroValue4
 t9:=Tryz.underlying9
 a9:=Tryz.isAgg9
 z9:=Tryz.sizeOf9
 v9:=Tryz.zeroValue9
 t20:=Tryz.underlying20
 a20:=Tryz.isAgg20
 z20:=Tryz.sizeOf20
 v20:=Tryz.zeroValue20
 t31:=Tryz.underlying199
 a31:=Tryz.isAgg199
 z31:=Tryz.sizeOf199
 v31:=Tryz.zeroValue199
 t37:=Tryz.underlying22
 a37:=Tryz.isAgg22
 z37:=Tryz.sizeOf22
 v37:=Tryz.zeroValue22
 t70:=Tryz.underlying284
 a70:=Tryz.isAgg284
 z70:=Tryz.sizeOf284
 v70:=Tryz.zeroValue284
 t72:=Tryz.underlying286
 a72:=Tryz.isAgg286
 z72:=Tryz.sizeOf286
 v72:=Tryz.zeroValue286
 t75:=Tryz.underlying264
 a75:=Tryz.isAgg264
 z75:=Tryz.sizeOf264
 v75:=Tryz.zeroValue264
 t76:=Tryz.underlying265
 a76:=Tryz.isAgg265
 z76:=Tryz.sizeOf265
 v76:=Tryz.zeroValue265
 t127:=Tryz.underlying328
 a127:=Tryz.isAgg328
 z127:=Tryz.sizeOf328
 v127:=Tryz.zeroValue328
 t164:=Tryz.underlying359
 a164:=Tryz.isAgg359
 z164:=Tryz.sizeOf359
 v164:=Tryz.zeroValue359 }
def HE:Go.Shelf.Ren:=⟨fun | 171=>234 | 243=>280 | 246=>322 | 283=>363 | 284=>364 | 285=>365 | 286=>366 | 129=>388 | 317=>387 | 318=>389 | 319=>390 | 320=>391 | 337=>405 | 338=>406 | n=>n,fun | 3=>3 | 9=>9 | 2=>2 | 4=>4 | 171=>362 | 0=>0 | 53=>363 | 37=>22 | 5=>5 | 173=>366 | 212=>390 | 51=>391 | 20=>20 | 213=>392 | 46=>232 | 232=>423 | 233=>424 | n=>n,fun | 17=>3 | 18=>6 | 19=>7 | n=>n⟩
theorem K6:Go.Proofs.LaysM.n171 Tryz.prog HE:= {
 mixed:=by kernel_rfl
 f129:=Tryz.func388.trans (congrArg some (by kernel_rfl))
 f171:=Tryz.func234.trans (congrArg some (by kernel_rfl))
 f243:=Tryz.func280.trans (congrArg some (by kernel_rfl))
 f246:=Tryz.func322.trans (congrArg some (by kernel_rfl))
 f283:=Tryz.func363.trans (congrArg some (by kernel_rfl))
 f284:=Tryz.func364.trans (congrArg some (by kernel_rfl))
 f285:=Tryz.func365.trans (congrArg some (by kernel_rfl))
 f286:=Tryz.func366.trans (congrArg some (by kernel_rfl))
 f317:=Tryz.func387.trans (congrArg some (by kernel_rfl))
 f318:=Tryz.func389.trans (congrArg some (by kernel_rfl))
 f319:=Tryz.func390.trans (congrArg some (by kernel_rfl))
 f320:=Tryz.func391.trans (congrArg some (by kernel_rfl))
 f337:=Tryz.func405.trans (congrArg some (by kernel_rfl))
 f338:=Tryz.func406.trans (congrArg some (by kernel_rfl))
 t0:=Tryz.underlying0
 a0:=Tryz.isAgg0
 z0:=Tryz.sizeOf0
 v0:=Tryz.zeroValue0
 t2:=Tryz.underlying2
 a2:=Tryz.isAgg2
 z2:=Tryz.sizeOf2
 v2:=Tryz.zeroValue2
 t3:=Tryz.underlying3
 a3:=Tryz.isAgg3
 z3:=Tryz.sizeOf3
 v3:=Tryz.zeroValue3
 t4:=Tryz.underlying4
 a4:=Tryz.isAgg4
 z4:=Tryz.sizeOf4
 v4:=Tryz.zeroValue4
 t5:=Tryz.underlying5
 a5:=Tryz.isAgg5
 z5:=Tryz.sizeOf5
 v5:=Tryz.zeroValue5
 t9:=Tryz.underlying9
 a9:=Tryz.isAgg9
 z9:=Tryz.sizeOf9
 v9:=Tryz.zeroValue9
 t20:=Tryz.underlying20
 a20:=Tryz.isAgg20
 z20:=Tryz.sizeOf20
 v20:=Tryz.zeroValue20
 t37:=Tryz.underlying22
 a37:=Tryz.isAgg22
 z37:=Tryz.sizeOf22
 v37:=Tryz.zeroValue22
 t46:=Tryz.underlying232
 a46:=Tryz.isAgg232
 z46:=Tryz.sizeOf232
 v46:=Tryz.zeroValue232
 t51:=Tryz.underlying391
 a51:=Tryz.isAgg391
 z51:=Tryz.sizeOf391
 v51:=Tryz.zeroValue391
 t53:=Tryz.underlying363
 a53:=Tryz.isAgg363
 z53:=Tryz.sizeOf363
 v53:=Tryz.zeroValue363
 t171:=Tryz.underlying362
 a171:=Tryz.isAgg362
 z171:=Tryz.sizeOf362
 v171:=Tryz.zeroValue362
 t173:=Tryz.underlying366
 a173:=Tryz.isAgg366
 z173:=Tryz.sizeOf366
 v173:=Tryz.zeroValue366
 t212:=Tryz.underlying390
 a212:=Tryz.isAgg390
 z212:=Tryz.sizeOf390
 v212:=Tryz.zeroValue390
 t213:=Tryz.underlying392
 a213:=Tryz.isAgg392
 z213:=Tryz.sizeOf392
 t232:=Tryz.underlying423
 a232:=Tryz.isAgg423
 z232:=Tryz.sizeOf423
 v232:=Tryz.zeroValue423
 t233:=Tryz.underlying424
 a233:=Tryz.isAgg424
 z233:=Tryz.sizeOf424
 v233:=Tryz.zeroValue424
 g17:=by kernel_rfl
 g18:=by kernel_rfl
 g19:=by kernel_rfl
 i0:=by kernel_rfl
 i2:=by kernel_rfl
 i3:=by kernel_rfl
 i4:=by kernel_rfl
 i5:=by kernel_rfl
 i9:=by kernel_rfl
 i20:=by kernel_rfl
 i37:=by kernel_rfl
 i46:=by kernel_rfl
 i51:=by kernel_rfl
 i53:=by kernel_rfl
 i171:=by kernel_rfl
 i173:=by kernel_rfl
 i212:=by kernel_rfl
 i232:=by kernel_rfl
 i233:=by kernel_rfl
 m17:=by kernel_rfl
 m18:=by kernel_rfl
 m19:=by kernel_rfl }
def Fu:Go.Shelf.Ren:=⟨fun | 146=>191 | 221=>245 | 268=>299 | 138=>300 | 143=>301 | 195=>344 | 197=>345 | 218=>346 | 219=>347 | 260=>375 | 217=>190 | 225=>376 | 224=>377 | 267=>378 | 266=>244 | 314=>397 | n=>n,fun | 9=>9 | 31=>199 | 3=>3 | 4=>4 | 0=>0 | 105=>344 | 21=>21 | 5=>5 | 46=>232 | 119=>399 | 139=>402 | 138=>401 | 146=>403 | 51=>391 | n=>n,fun | 1=>0 | 3=>4 | 4=>5 | n=>n⟩
theorem PB:Go.Proofs.Lays.n146 Tryz.prog Fu:= {
 mixed:=by kernel_rfl
 f138:=Tryz.func300.trans (congrArg some (by kernel_rfl))
 f143:=Tryz.func301.trans (congrArg some (by kernel_rfl))
 f146:=Tryz.func191.trans (congrArg some (by kernel_rfl))
 f195:=Tryz.func344.trans (congrArg some (by kernel_rfl))
 f197:=Tryz.func345.trans (congrArg some (by kernel_rfl))
 f217:=Tryz.func190.trans (congrArg some (by kernel_rfl))
 f218:=Tryz.func346.trans (congrArg some (by kernel_rfl))
 f219:=Tryz.func347.trans (congrArg some (by kernel_rfl))
 f221:=Tryz.func245.trans (congrArg some (by kernel_rfl))
 f224:=Tryz.func377.trans (congrArg some (by kernel_rfl))
 f225:=Tryz.func376.trans (congrArg some (by kernel_rfl))
 f260:=Tryz.func375.trans (congrArg some (by kernel_rfl))
 f266:=Tryz.func244.trans (congrArg some (by kernel_rfl))
 f267:=Tryz.func378.trans (congrArg some (by kernel_rfl))
 f268:=Tryz.func299.trans (congrArg some (by kernel_rfl))
 f314:=Tryz.func397.trans (congrArg some (by kernel_rfl))
 t0:=Tryz.underlying0
 a0:=Tryz.isAgg0
 z0:=Tryz.sizeOf0
 v0:=Tryz.zeroValue0
 t3:=Tryz.underlying3
 a3:=Tryz.isAgg3
 z3:=Tryz.sizeOf3
 v3:=Tryz.zeroValue3
 t4:=Tryz.underlying4
 a4:=Tryz.isAgg4
 z4:=Tryz.sizeOf4
 v4:=Tryz.zeroValue4
 t5:=Tryz.underlying5
 a5:=Tryz.isAgg5
 z5:=Tryz.sizeOf5
 v5:=Tryz.zeroValue5
 t9:=Tryz.underlying9
 a9:=Tryz.isAgg9
 z9:=Tryz.sizeOf9
 v9:=Tryz.zeroValue9
 t21:=Tryz.underlying21
 a21:=Tryz.isAgg21
 z21:=Tryz.sizeOf21
 v21:=Tryz.zeroValue21
 t31:=Tryz.underlying199
 a31:=Tryz.isAgg199
 z31:=Tryz.sizeOf199
 v31:=Tryz.zeroValue199
 t46:=Tryz.underlying232
 a46:=Tryz.isAgg232
 z46:=Tryz.sizeOf232
 v46:=Tryz.zeroValue232
 t51:=Tryz.underlying391
 a51:=Tryz.isAgg391
 z51:=Tryz.sizeOf391
 v51:=Tryz.zeroValue391
 t105:=Tryz.underlying344
 a105:=Tryz.isAgg344
 z105:=Tryz.sizeOf344
 v105:=Tryz.zeroValue344
 t119:=Tryz.underlying399
 a119:=Tryz.isAgg399
 z119:=Tryz.sizeOf399
 t138:=Tryz.underlying401
 a138:=Tryz.isAgg401
 z138:=Tryz.sizeOf401
 v138:=Tryz.zeroValue401
 t139:=Tryz.underlying402
 a139:=Tryz.isAgg402
 z139:=Tryz.sizeOf402
 v139:=Tryz.zeroValue402
 t146:=Tryz.underlying403
 a146:=Tryz.isAgg403
 z146:=Tryz.sizeOf403
 v146:=Tryz.zeroValue403
 g1:=by kernel_rfl
 g3:=by kernel_rfl
 g4:=by kernel_rfl }
def Ji:Go.Shelf.Ren:=⟨fun | 145=>304 | 220=>353 | 219=>347 | 217=>190 | 225=>376 | 224=>377 | 267=>378 | 266=>244 | 314=>397 | n=>n,fun | 9=>9 | 4=>4 | 59=>312 | 3=>3 | 5=>5 | 46=>232 | 146=>403 | 51=>391 | n=>n,fun | 1=>0 | n=>n⟩
theorem XI:Go.Proofs.Lays.n145 Tryz.prog Ji:= {
 mixed:=by kernel_rfl
 f145:=Tryz.func304.trans (congrArg some (by kernel_rfl))
 f217:=Tryz.func190.trans (congrArg some (by kernel_rfl))
 f219:=Tryz.func347.trans (congrArg some (by kernel_rfl))
 f220:=Tryz.func353.trans (congrArg some (by kernel_rfl))
 f224:=Tryz.func377.trans (congrArg some (by kernel_rfl))
 f225:=Tryz.func376.trans (congrArg some (by kernel_rfl))
 f266:=Tryz.func244.trans (congrArg some (by kernel_rfl))
 f267:=Tryz.func378.trans (congrArg some (by kernel_rfl))
 f314:=Tryz.func397.trans (congrArg some (by kernel_rfl))
 t3:=Tryz.underlying3
 a3:=Tryz.isAgg3
 z3:=Tryz.sizeOf3
 v3:=Tryz.zeroValue3
 t4:=Tryz.underlying4
 a4:=Tryz.isAgg4
 z4:=Tryz.sizeOf4
 v4:=Tryz.zeroValue4
 t5:=Tryz.underlying5
 a5:=Tryz.isAgg5
 z5:=Tryz.sizeOf5
 v5:=Tryz.zeroValue5
 t9:=Tryz.underlying9
 a9:=Tryz.isAgg9
 z9:=Tryz.sizeOf9
 v9:=Tryz.zeroValue9
 t46:=Tryz.underlying232
 a46:=Tryz.isAgg232
 z46:=Tryz.sizeOf232
 v46:=Tryz.zeroValue232
 t51:=Tryz.underlying391
 a51:=Tryz.isAgg391
 z51:=Tryz.sizeOf391
 v51:=Tryz.zeroValue391
 t59:=Tryz.underlying312
 a59:=Tryz.isAgg312
 z59:=Tryz.sizeOf312
 v59:=Tryz.zeroValue312
 t146:=Tryz.underlying403
 a146:=Tryz.isAgg403
 z146:=Tryz.sizeOf403
 v146:=Tryz.zeroValue403
 g1:=by kernel_rfl }
def zn:Go.Shelf.Ren:=⟨fun | 137=>123 | 217=>190 | 266=>244 | n=>n,fun | 9=>9 | 5=>5 | 3=>3 | n=>n,fun | n=>n⟩
theorem Fv:Go.Proofs.Lays.n137 Tryz.prog zn:= {
 mixed:=by kernel_rfl
 f137:=Tryz.func123.trans (congrArg some (by kernel_rfl))
 f217:=Tryz.func190.trans (congrArg some (by kernel_rfl))
 f266:=Tryz.func244.trans (congrArg some (by kernel_rfl))
 t3:=Tryz.underlying3
 a3:=Tryz.isAgg3
 z3:=Tryz.sizeOf3
 v3:=Tryz.zeroValue3
 t5:=Tryz.underlying5
 a5:=Tryz.isAgg5
 z5:=Tryz.sizeOf5
 v5:=Tryz.zeroValue5
 t9:=Tryz.underlying9
 a9:=Tryz.isAgg9
 z9:=Tryz.sizeOf9
 v9:=Tryz.zeroValue9 }
def HF:Go.Shelf.Ren:=⟨fun | 172=>246 | 244=>302 | 245=>303 | 247=>348 | 279=>349 | 280=>350 | 281=>351 | 282=>352 | 287=>379 | 316=>380 | 171=>234 | 205=>381 | 321=>398 | 322=>399 | 243=>280 | 246=>322 | 283=>363 | 284=>364 | 285=>365 | 286=>366 | 129=>388 | 317=>387 | 318=>389 | 319=>390 | 320=>391 | 337=>405 | 338=>406 | n=>n,fun | 9=>9 | 3=>3 | 75=>264 | 76=>265 | 4=>4 | 5=>5 | 167=>346 | 37=>22 | 0=>0 | 85=>347 | 2=>2 | 168=>349 | 53=>363 | 175=>376 | 46=>232 | 210=>380 | 127=>328 | 145=>409 | 143=>407 | 21=>21 | 171=>362 | 173=>366 | 212=>390 | 51=>391 | 20=>20 | 213=>392 | 232=>423 | 233=>424 | 80=>288 | n=>n,fun | 15=>1 | 16=>2 | 17=>3 | 18=>6 | 19=>7 | n=>n⟩
theorem K7:Go.Proofs.LaysC.n172 Tryz.prog HF:= {
 mixed:=by kernel_rfl
 f129:=Tryz.func388.trans (congrArg some (by kernel_rfl))
 f171:=Tryz.func234.trans (congrArg some (by kernel_rfl))
 f172:=Tryz.func246.trans (congrArg some (by kernel_rfl))
 f205:=Tryz.func381.trans (congrArg some (by kernel_rfl))
 f243:=Tryz.func280.trans (congrArg some (by kernel_rfl))
 f244:=Tryz.func302.trans (congrArg some (by kernel_rfl))
 f245:=Tryz.func303.trans (congrArg some (by kernel_rfl))
 f246:=Tryz.func322.trans (congrArg some (by kernel_rfl))
 f247:=Tryz.func348.trans (congrArg some (by kernel_rfl))
 f279:=Tryz.func349.trans (congrArg some (by kernel_rfl))
 f280:=Tryz.func350.trans (congrArg some (by kernel_rfl))
 f281:=Tryz.func351.trans (congrArg some (by kernel_rfl))
 f282:=Tryz.func352.trans (congrArg some (by kernel_rfl))
 f283:=Tryz.func363.trans (congrArg some (by kernel_rfl))
 f284:=Tryz.func364.trans (congrArg some (by kernel_rfl))
 f285:=Tryz.func365.trans (congrArg some (by kernel_rfl))
 f286:=Tryz.func366.trans (congrArg some (by kernel_rfl))
 f287:=Tryz.func379.trans (congrArg some (by kernel_rfl))
 f316:=Tryz.func380.trans (congrArg some (by kernel_rfl))
 f317:=Tryz.func387.trans (congrArg some (by kernel_rfl))
 f318:=Tryz.func389.trans (congrArg some (by kernel_rfl))
 f319:=Tryz.func390.trans (congrArg some (by kernel_rfl))
 f320:=Tryz.func391.trans (congrArg some (by kernel_rfl))
 f321:=Tryz.func398.trans (congrArg some (by kernel_rfl))
 f322:=Tryz.func399.trans (congrArg some (by kernel_rfl))
 f337:=Tryz.func405.trans (congrArg some (by kernel_rfl))
 f338:=Tryz.func406.trans (congrArg some (by kernel_rfl))
 t0:=Tryz.underlying0
 a0:=Tryz.isAgg0
 z0:=Tryz.sizeOf0
 v0:=Tryz.zeroValue0
 t2:=Tryz.underlying2
 a2:=Tryz.isAgg2
 z2:=Tryz.sizeOf2
 v2:=Tryz.zeroValue2
 t3:=Tryz.underlying3
 a3:=Tryz.isAgg3
 z3:=Tryz.sizeOf3
 v3:=Tryz.zeroValue3
 t4:=Tryz.underlying4
 a4:=Tryz.isAgg4
 z4:=Tryz.sizeOf4
 v4:=Tryz.zeroValue4
 t5:=Tryz.underlying5
 a5:=Tryz.isAgg5
 z5:=Tryz.sizeOf5
 v5:=Tryz.zeroValue5
 t9:=Tryz.underlying9
 a9:=Tryz.isAgg9
 z9:=Tryz.sizeOf9
 v9:=Tryz.zeroValue9
 t20:=Tryz.underlying20
 a20:=Tryz.isAgg20
 z20:=Tryz.sizeOf20
 v20:=Tryz.zeroValue20
 t21:=Tryz.underlying21
 a21:=Tryz.isAgg21
 z21:=Tryz.sizeOf21
 v21:=Tryz.zeroValue21
 t37:=Tryz.underlying22
 a37:=Tryz.isAgg22
 z37:=Tryz.sizeOf22
 v37:=Tryz.zeroValue22
 t46:=Tryz.underlying232
 a46:=Tryz.isAgg232
 z46:=Tryz.sizeOf232
 v46:=Tryz.zeroValue232
 t51:=Tryz.underlying391
 a51:=Tryz.isAgg391
 z51:=Tryz.sizeOf391
 v51:=Tryz.zeroValue391
 t53:=Tryz.underlying363
 a53:=Tryz.isAgg363
 z53:=Tryz.sizeOf363
 v53:=Tryz.zeroValue363
 t75:=Tryz.underlying264
 a75:=Tryz.isAgg264
 z75:=Tryz.sizeOf264
 v75:=Tryz.zeroValue264
 t76:=Tryz.underlying265
 a76:=Tryz.isAgg265
 z76:=Tryz.sizeOf265
 v76:=Tryz.zeroValue265
 t85:=Tryz.underlying347
 a85:=Tryz.isAgg347
 z85:=Tryz.sizeOf347
 v85:=Tryz.zeroValue347
 t127:=Tryz.underlying328
 a127:=Tryz.isAgg328
 z127:=Tryz.sizeOf328
 v127:=Tryz.zeroValue328
 t143:=Tryz.underlying407
 a143:=Tryz.isAgg407
 z143:=Tryz.sizeOf407
 v143:=Tryz.zeroValue407
 t145:=Tryz.underlying409
 a145:=Tryz.isAgg409
 z145:=Tryz.sizeOf409
 v145:=Tryz.zeroValue409
 t167:=Tryz.underlying346
 a167:=Tryz.isAgg346
 z167:=Tryz.sizeOf346
 v167:=Tryz.zeroValue346
 t168:=Tryz.underlying349
 a168:=Tryz.isAgg349
 z168:=Tryz.sizeOf349
 v168:=Tryz.zeroValue349
 t171:=Tryz.underlying362
 a171:=Tryz.isAgg362
 z171:=Tryz.sizeOf362
 v171:=Tryz.zeroValue362
 t173:=Tryz.underlying366
 a173:=Tryz.isAgg366
 z173:=Tryz.sizeOf366
 v173:=Tryz.zeroValue366
 t175:=Tryz.underlying376
 a175:=Tryz.isAgg376
 z175:=Tryz.sizeOf376
 v175:=Tryz.zeroValue376
 t210:=Tryz.underlying380
 a210:=Tryz.isAgg380
 z210:=Tryz.sizeOf380
 v210:=Tryz.zeroValue380
 t212:=Tryz.underlying390
 a212:=Tryz.isAgg390
 z212:=Tryz.sizeOf390
 v212:=Tryz.zeroValue390
 t213:=Tryz.underlying392
 a213:=Tryz.isAgg392
 z213:=Tryz.sizeOf392
 t232:=Tryz.underlying423
 a232:=Tryz.isAgg423
 z232:=Tryz.sizeOf423
 v232:=Tryz.zeroValue423
 t233:=Tryz.underlying424
 a233:=Tryz.isAgg424
 z233:=Tryz.sizeOf424
 v233:=Tryz.zeroValue424
 g15:=by kernel_rfl
 g16:=by kernel_rfl
 g17:=by kernel_rfl
 g18:=by kernel_rfl
 g19:=by kernel_rfl
 t80:=Tryz.underlying288
 a80:=Tryz.isAgg288
 z80:=Tryz.sizeOf288
 v80:=Tryz.zeroValue288
 i0:=by kernel_rfl
 i2:=by kernel_rfl
 i3:=by kernel_rfl
 i4:=by kernel_rfl
 i5:=by kernel_rfl
 i9:=by kernel_rfl
 i20:=by kernel_rfl
 i21:=by kernel_rfl
 i37:=by kernel_rfl
 i46:=by kernel_rfl
 i51:=by kernel_rfl
 i53:=by kernel_rfl
 i75:=by kernel_rfl
 i76:=by kernel_rfl
 i80:=by kernel_rfl
 i85:=by kernel_rfl
 i127:=by kernel_rfl
 i143:=by kernel_rfl
 i145:=by kernel_rfl
 i167:=by kernel_rfl
 i168:=by kernel_rfl
 i171:=by kernel_rfl
 i173:=by kernel_rfl
 i175:=by kernel_rfl
 i210:=by kernel_rfl
 i212:=by kernel_rfl
 i232:=by kernel_rfl
 i233:=by kernel_rfl
 m15:=by kernel_rfl
 m16:=by kernel_rfl
 m17:=by kernel_rfl
 m18:=by kernel_rfl
 m19:=by kernel_rfl
 c0:=by kernel_rfl
 c2:=by kernel_rfl
 c3:=by kernel_rfl
 c4:=by kernel_rfl
 c5:=by kernel_rfl
 c9:=by kernel_rfl
 c20:=by kernel_rfl
 c21:=by kernel_rfl
 c37:=by kernel_rfl
 c46:=by kernel_rfl
 c51:=by kernel_rfl
 c53:=by kernel_rfl
 c75:=by kernel_rfl
 c76:=by kernel_rfl
 c80:=by kernel_rfl
 c85:=by kernel_rfl
 c127:=by kernel_rfl
 c143:=by kernel_rfl
 c145:=by kernel_rfl
 c167:=by kernel_rfl
 c168:=by kernel_rfl
 c171:=by kernel_rfl
 c173:=by kernel_rfl
 c175:=by kernel_rfl
 c210:=by kernel_rfl
 c212:=by kernel_rfl
 c213:=by kernel_rfl
 c232:=by kernel_rfl
 c233:=by kernel_rfl }
theorem PC:Go.Proofs.Builder.Extra Tryz.prog Ag where
 sizeBuilder:=by kernel_rfl
 liesBuilder:=by kernel_rfl
 t5:=Tryz.underlying5
 a5:=Tryz.isAgg5
 z5:=Tryz.sizeOf5
 v5:=Tryz.zeroValue5
 infoByte:=by kernel_rfl
 cellsByte:=by kernel_rfl
 sizeByte:=by kernel_rfl
 neB5:=by decide
end R
namespace R
open Go.RowKit
open D
def FldAll (P:Program) (T:TypeId):Nat->List (Nat×Nat)->Prop
 | _,[] =>True
 | i,q::l=>TF P T i q.1 q.2/\FldAll P T (i+1) l
theorem FldAll.get {P:Program} {T:TypeId} : ∀ {l:List (Nat×Nat)} {i:Nat},FldAll P T i l-> ∀f q,l[f]? =some q->TF P T (i+f) q.1 q.2
 | [],_,_,f,q,h=>by simp at h
 | x::l,i,⟨h1,h2⟩,f,q,h=>by
  cases f with
  | zero=>simp at h;subst h;exact h1
  | succ f =>
   have:=FldAll.get h2 f q (by simpa using h)
   rwa [show i+1+f=i+(f+1) from by omega] at this
section
variable {P:Program} {T:TypeId}
theorem wI {n b:Nat} {ty:Ty} {z:Value} {a:Bool} {c:Option (Option IntKind)} (h1:TI P T false 1) (d:ty.size=1) (i:TZ P T z 1 b) (g:z.cells=(zeroCells ty).toArray) (j:1<=b) (l:a=true->P.underlying T=some .bool) (o: ∀k,c=some k->P.underlying T=some (ikD k)):TDok P T ⟨false,1,none,ty,[],some b,none,a,none,none,c,false,none⟩:=
 ⟨h1,rfl,d,fun E h=>by simp at h,fun f q h=>by simp at h,fun r h=>by obtain rfl:=ae h;exact ⟨z,i,g,j⟩,fun s h=>by simp at h,l,(fun p h=>by cases h),(fun m h=>by cases h),o,(fun h=>by cases h),fun e h=>by cases h⟩
theorem tQ {E:TypeId} {t:Ty} (h1:TI P T false 1) (a:P.underlying T=some (.slice E)) (b:TZ P T (.slice none 0 0) 1 24):TDok P T ⟨false,1,some E,.sl E t,[],some 24,none,false,none,none,none,false,none⟩:=
 ⟨h1,rfl,rfl,fun c h=>by obtain rfl:=ae h;exact a,fun f q h=>by simp at h,fun i h=>by obtain rfl:=ae h;exact ⟨_,b,rfl,by decide⟩,fun d h=>by simp at h,(fun h=>by cases h),(fun g h=>by cases h),(fun m h=>by cases h),(fun k h=>by cases h),(fun h=>by cases h),fun e h=>by cases h⟩
theorem pV {n b:Nat} {ty:Ty} {fs c:List (Nat×Nat)} {z:Value} {a:Option (List (Option IntKind))} (h1:TI P T true n) (g:ty.size=n) (o:FldAll P T 0 fs) (j:TZ P T z n b) (p:z.cells=(zeroCells ty).toArray) (s:1<=b) (t:TB P T c) (u: ∀ks,a=some ks-> ∀w,Curq ks fun d l r=>EqT P T (.agg d.toArray) (.agg l.toArray) r w):TDok P T ⟨true,n,none,ty,fs,some b,some c,false,a,none,none,false,none⟩:=
 ⟨h1,rfl,g,fun E h=>by simp at h,fun f q h=>by have:=o.get f q h;rwa [Nat.zero_add] at this,fun v h=>by obtain rfl:=ae h;exact ⟨z,j,p,s⟩,fun i h=>by obtain rfl:=ae h;exact t,(fun h=>by cases h),u,(fun m h=>by cases h),(fun k h=>by cases h),(fun h=>by cases h),fun e h=>by cases h⟩
theorem B1 {ty:Ty} {b:Nat} (h1:TI P T false 1) (a:ty.size=1) (c:TZ P T .nilFunc 1 b):TDok P T ⟨false,1,none,ty,[],none,none,false,none,none,none,true,none⟩:=
 ⟨h1,rfl,a,fun E h=>by simp at h,fun f q h=>by simp at h,(fun j h=>by cases h),(fun g h=>by cases h),(fun h=>by cases h),(fun i h=>by cases h),(fun d h=>by cases h),(fun k h=>by cases h),(fun _=>⟨b,c⟩),fun e h=>by cases h⟩
theorem abW {m:MD} {ty:Ty} (h1:TI P T false 1) (a:ty.size=1) (b:MDok P T m):TDok P T ⟨false,1,none,ty,[],none,none,false,none,some m,none,false,none⟩:=
 ⟨h1,rfl,a,fun E h=>by simp at h,fun f q h=>by simp at h,(fun i h=>by cases h),(fun d h=>by cases h),(fun h=>by cases h),(fun g h=>by cases h),(fun c h=>by obtain rfl:=ae h;exact b),(fun k h=>by cases h),(fun h=>by cases h),fun e h=>by cases h⟩
theorem abX {e E:TypeId} {u:Ty} (h1:TI P T false 1) (b:P.underlying T=some (.pointer e)) (a:TZ P T (.pointer none) 1 8):TDok P T ⟨false,1,none,.fro (.tree e E u),[],some 8,none,false,none,none,none,false,some e⟩:=
 ⟨h1,rfl,rfl,fun c h=>by simp at h,fun f q h=>by simp at h,fun j h=>by obtain rfl:=ae h;exact ⟨_,a,rfl,by decide⟩,fun d h=>by simp at h,(fun h=>by cases h),(fun g h=>by cases h),(fun m h=>by cases h),(fun k h=>by cases h),(fun h=>by cases h),fun i h=>by obtain rfl:=ae h;exact b⟩
end
end R
namespace D
open Go.RowKit
abbrev Yq1:Type:=(Int×Int×Int×Int)
abbrev Yq2:Type:=(Int×(List Bool)×(List (List Int)))
abbrev B2:Type:=(Int×((List Yq1))×Int)
abbrev Yq3:Type:=(List B2)
abbrev yQ:Type:=((List Int)×List Yq1)
abbrev Yq8:Type:=(Int×(List Bool)×List (List Int))
abbrev K8:Type:=(Int×(List Yq1)×Int)
abbrev PD:Type:=((List Yq8)×List K8)
abbrev Yq7:Type:=(Int×Int×Int)
abbrev Yq4:Type:=((Int×List yQ)×PD×(List Yq7)×ByteArray)
abbrev Gr:Type:=((List Int)×(List Yq1))
abbrev Yq5:Type:=(List Gr)
abbrev Yq6:Type:=(Bool×Int×Int×Int×Int)
abbrev Yq9:Type:=((List Yq2)×Yq3)
abbrev Ng:Type:=((Int×Yq5)×Yq9×(List Yq7)×ByteArray)
abbrev tl:Type:=(List (Int×Int))
abbrev Rn:Type:=((List Int)×Int×Int×(List Int)×Bool)
abbrev PE:Type:=(List ((Int×Bool)×Int×Int))
abbrev Ro:Type:=(Int×(List Yq2)×Yq3)
abbrev acR:Type:=(Out (Yq4×Int×Int) (Int×Int×Int×Int×(List yQ)×(List Yq8)×(List K8)×(List Yq7)×ByteArray))
abbrev XJ:Type:=(Out (List Int) ((List Int)×Int))
def Jj (a:List Int):Option Bool:=
 some (decide ((a.length:Int)>1048576))
def bf (b:List Gr) (e:List Gr) (f:Gr->Gr->Option Bool) (a:Int):Option (Out Bool Int):=
 if decide (a<(b.length:Int)) then ((aU b a).bind fun c=>(aU e a).bind fun d=>(f (c.1,c.2) (d.1,d.2)).bind fun g=>if g then (some (.nxt (i64.wrap (a+1)))) else (some (.ret false))) else (some (.brk a))
def bZ (a:List Gr) (b:List Gr) (c:Gr->Gr->Option Bool):Option Bool:=
 if (a.length:Int) !=(b.length:Int) then (some false) else (aO (al (bf a b c) aW 0) (fun r=>some r) (fun d=>some true))
def dj (b:List Int) (c:List Int) (a:Int):Option (Out Bool Int):=
 if decide (a<(b.length:Int)) then ((aU b a).bind fun d=>(aU c a).bind fun e=>if d !=e then (some (.ret false)) else (some (.nxt (i64.wrap (a+1))))) else (some (.brk a))
def cx (a:List Int) (b:List Int):Option Bool:=
 if (a.length:Int) !=(b.length:Int) then (some false) else (aO (al (dj a b) aW 0) (fun r=>some r) (fun c=>some true))
def cR (d:List Yq1) (e:List Yq1) (a:Int):Option (Out Bool Int):=
 if decide (a<(d.length:Int)) then ((aU d a).bind fun b=>(aU e a).bind fun c=>if (b.1==c.1)&&((b.2.1==c.2.1)&&((b.2.2.1==c.2.2.1)&&((b.2.2.2==c.2.2.2)&&true))) then (some (.nxt (i64.wrap (a+1)))) else (some (.ret false))) else (some (.brk a))
def dA (a:List Yq1) (b:List Yq1):Option Bool:=
 if (a.length:Int) !=(b.length:Int) then (some false) else (aO (al (cR a b) aW 0) (fun r=>some r) (fun c=>some true))
def jJ (a:(List Int)×(List Yq1)) (b:(List Int)×(List Yq1)):Option Bool:=
 (cx a.1 b.1).bind fun c=>if c then ((dA a.2 b.2).bind fun d=>some d) else (some false)
def jr (a:Int×Yq5) (b:Int×Yq5):Option Bool:=
 if a.1==b.1 then ((bZ a.2 b.2 (fun a0 a1=>jJ a0 a1)).bind fun c=>some c) else (some false)
def aR (d:List Yq2) (e:List Yq2) (f:Yq2->Yq2->Option Bool) (a:Int):Option (Out Bool Int):=
 if decide (a<(d.length:Int)) then ((aU d a).bind fun b=>(aU e a).bind fun c=>(f (b.1,b.2.1,b.2.2) (c.1,c.2.1,c.2.2)).bind fun g=>if g then (some (.nxt (i64.wrap (a+1)))) else (some (.ret false))) else (some (.brk a))
def bd (a:List Yq2) (b:List Yq2) (c:Yq2->Yq2->Option Bool):Option Bool:=
 if (a.length:Int) !=(b.length:Int) then (some false) else (aO (al (aR a b c) aW 0) (fun r=>some r) (fun d=>some true))
def cT (b:List Bool) (c:List Bool) (a:Int):Option (Out Bool Int):=
 if decide (a<(b.length:Int)) then ((aU b a).bind fun d=>(aU c a).bind fun e=>if d !=e then (some (.ret false)) else (some (.nxt (i64.wrap (a+1))))) else (some (.brk a))
def fq (a:List Bool) (b:List Bool):Option Bool:=
 if (a.length:Int) !=(b.length:Int) then (some false) else (aO (al (cT a b) aW 0) (fun r=>some r) (fun c=>some true))
def bh (b:List (List Int)) (c:List (List Int)) (d:(List Int)->(List Int)->Option Bool) (a:Int):Option (Out Bool Int):=
 if decide (a<(b.length:Int)) then ((aU b a).bind fun e=>(aU c a).bind fun f=>(d e f).bind fun g=>if g then (some (.nxt (i64.wrap (a+1)))) else (some (.ret false))) else (some (.brk a))
def b7 (a:List (List Int)) (b:List (List Int)) (c:(List Int)->(List Int)->Option Bool):Option Bool:=
 if (a.length:Int) !=(b.length:Int) then (some false) else (aO (al (bh a b c) aW 0) (fun r=>some r) (fun d=>some true))
def iH (a:List Int) (b:List Int):Option Bool:=
 (cx a b).bind fun c=>some c
def fB (a:Int×(List Bool)×(List (List Int))) (b:Int×(List Bool)×(List (List Int))):Option Bool:=
 if a.1==b.1 then ((fq a.2.1 b.2.1).bind fun c=>if c then ((b7 a.2.2 b.2.2 (fun a0 a1=>iH a0 a1)).bind fun d=>some d) else (some false)) else (some false)
def aM (d:List B2) (e:List B2) (f:B2->B2->Option Bool) (a:Int):Option (Out Bool Int):=
 if decide (a<(d.length:Int)) then ((aU d a).bind fun b=>(aU e a).bind fun c=>(f (b.1,b.2.1,b.2.2) (c.1,c.2.1,c.2.2)).bind fun g=>if g then (some (.nxt (i64.wrap (a+1)))) else (some (.ret false))) else (some (.brk a))
def ba (a:List B2) (b:List B2) (c:B2->B2->Option Bool):Option Bool:=
 if (a.length:Int) !=(b.length:Int) then (some false) else (aO (al (aM a b c) aW 0) (fun r=>some r) (fun d=>some true))
def cG (d:List Yq1) (e:List Yq1) (a:Int):Option (Out Bool Int):=
 if decide (a<(d.length:Int)) then ((aU d a).bind fun b=>(aU e a).bind fun c=>if (b.1==c.1)&&((b.2.1==c.2.1)&&((b.2.2.1==c.2.2.1)&&((b.2.2.2==c.2.2.2)&&true))) then (some (.nxt (i64.wrap (a+1)))) else (some (.ret false))) else (some (.brk a))
def eP (a:List Yq1) (b:List Yq1):Option Bool:=
 if (a.length:Int) !=(b.length:Int) then (some false) else (aO (al (cG a b) aW 0) (fun r=>some r) (fun c=>some true))
def nw (a:(List Yq1)) (b:(List Yq1)):Option Bool:=
 (eP a b).bind fun c=>some c
def iW (a:Int×((List Yq1))×Int) (b:Int×((List Yq1))×Int):Option Bool:=
 if a.1==b.1 then ((nw a.2.1 b.2.1).bind fun c=>if c then (some (a.2.2==b.2.2)) else (some false)) else (some false)
def fG (a:(List Yq2)×Yq3) (b:(List Yq2)×Yq3):Option Bool:=
 (bd a.1 b.1 (fun a0 a1=>fB a0 a1)).bind fun c=>if c then ((ba a.2 b.2 (fun a0 a1=>iW a0 a1)).bind fun d=>some d) else (some false)
def bG (d:List Yq7) (e:List Yq7) (a:Int):Option (Out Bool Int):=
 if decide (a<(d.length:Int)) then ((aU d a).bind fun b=>(aU e a).bind fun c=>if (b.1==c.1)&&((b.2.1==c.2.1)&&((b.2.2==c.2.2)&&true)) then (some (.nxt (i64.wrap (a+1)))) else (some (.ret false))) else (some (.brk a))
def bU (a:List Yq7) (b:List Yq7):Option Bool:=
 if (a.length:Int) !=(b.length:Int) then (some false) else (aO (al (bG a b) aW 0) (fun r=>some r) (fun c=>some true))
def fX (a:(Int×Yq5)×Yq9×(List Yq7)×ByteArray) (b:(Int×Yq5)×Yq9×(List Yq7)×ByteArray):Option Bool:=
 (jr (a.1.1,a.1.2) (b.1.1,b.1.2)).bind fun c=>if c then ((fG (a.2.1.1,a.2.1.2) (b.2.1.1,b.2.1.2)).bind fun d=>if d then ((bU a.2.2.1 b.2.2.1).bind fun e=>if e then (some (a.2.2.2==b.2.2.2)) else (some false)) else (some false)) else (some false)
def cJ (a:Int) (b:Int) (c:Int):Option Bool:=
 if decide (a≥b) then (some (decide (a<=c))) else (some false)
def km (a:Int×Int×Int×Int) (b:Int):Option Bool:=
 (cJ a.1 1 99).bind fun c=>if c then ((cJ a.2.1 0 (i64.wrap (b - 1))).bind fun d=>if d then ((cJ a.2.2.1 0 (i64.wrap (b - 1))).bind fun e=>if e then ((cJ a.2.2.2 0 2).bind fun f=>some f) else (some false)) else (some false)) else (some false)
def fH (b:(List Int)×(List Yq1)) (a:Int):Option (Out Bool Int):=
 if decide (a<(b.1.length:Int)) then ((aU b.1 a).bind fun c=>(cJ c 0 2).bind fun d=>if d then (some (.nxt (i64.wrap (a+1)))) else (some (.ret false))) else (some (.brk a))
def eu (c:(List Int)×(List Yq1)) (a:Int):Option (Out Bool Int):=
 if decide (a<(c.2.length:Int)) then ((aU c.2 a).bind fun b=>(km (b.1,b.2.1,b.2.2.1,b.2.2.2) (c.1.length:Int)).bind fun d=>if d then (if decide (a>0) then ((aU c.2 (i64.wrap (a - 1))).bind fun e=>if decide (e.1≥b.1) then (some (.ret false)) else (some (.nxt (i64.wrap (a+1))))) else (some (.nxt (i64.wrap (a+1))))) else (some (.ret false))) else (some (.brk a))
def cQ (a:(List Int)×(List Yq1)):Option Bool:=
 aO (al (fH a) aW 0) (fun r=>some r) (fun c=>aO (al (eu a) aW 0) (fun r=>some r) (fun d=>(cJ (a.1.length:Int) 1 5).bind fun b=>if b then (some (decide ((a.2.length:Int)<=12))) else (some false)))
def gj (b:Int×Yq5) (a:Int):Option (Out Bool Int):=
 if decide (a<(b.2.length:Int)) then ((aU b.2 a).bind fun c=>(cQ (c.1,c.2)).bind fun d=>if d then ((aU b.2 0).bind fun e=>(cx c.1 e.1).bind fun f=>if f then (some (.nxt (i64.wrap (a+1)))) else (some (.ret false))) else (some (.ret false))) else (some (.brk a))
def m_i_IsValidHistory (a:Int×Yq5):Option Bool:=
 (cJ (a.2.length:Int) 1 8).bind fun b=>if b then ((cJ a.1 1 (i64.wrap ((i64.wrap (999 - (a.2.length:Int)))+1))).bind fun c=>if c then (aO (al (gj a) aW 0) (fun r=>some r) (fun d=>some true)) else (some false)) else (some false)
def ko (a:Int×Yq5):Option Int:=
 (m_i_IsValidHistory (a.1,a.2)).bind fun b=>if b then (some (i64.wrap ((i64.wrap (a.1+(a.2.length:Int))) - 1))) else (some 0)
def iz (a:(List Yq1)):Option (List Yq1):=
 (bA 32 ([] :List Yq1) a).bind fun b=>some b
def lR (a:Int):Option Bool:=
 (cJ a 0 8).bind fun b=>some b
def rV (a:Int×Int×Int×Int):Option Bool:=
 if a.1==3 then ((lR a.2.1).bind fun b=>if b then (if a.2.2.1==0 then (some (a.2.2.2==0)) else (some false)) else (some false)) else (if a.1==7 then (if a.2.1==0 then ((cJ a.2.2.1 0 a.2.2.2).bind fun c=>if c then ((cJ a.2.2.2 1 3).bind fun d=>some d) else (some false)) else (some false)) else (Option.bind ((if a.1==1 then (some (a.1==1)) else (if a.1==2 then (some (a.1==2)) else (if a.1==4 then (some (a.1==4)) else (if a.1==5 then (some (a.1==5)) else (some (a.1==6))))):Option Bool)) (fun e=>if e then (some ((a.1==a.1)&&((a.2.1==0)&&((a.2.2.1==0)&&((a.2.2.2==0)&&true))))) else (some false))))
def rW (d:List Yq1) (a:(List (Tr Yq1))×Int):Option (Out (Tr Yq1) ((List (Tr Yq1))×Int)):=
 if decide (a.2<(d.length:Int)) then ((aU d a.2).bind fun b=>Option.bind ((Option.bind ((if b.1==4 then (some (b.1==4)) else (some (b.1==5)):Option Bool)) (fun e=>if e then (some 2) else (Option.bind ((if b.1==6 then (some (b.1==6)) else (some (b.1==7)):Option Bool)) (fun f=>if f then (some 1) else (some 0)))):Option Int)) (fun c=>(rV (b.1,b.2.1,b.2.2.1,b.2.2.2)).bind fun g=>if g then (if decide ((i64.wrap ((a.1.length:Int) - c))<0) then (some (.ret Tr.nil)) else ((chk (And (0<=(i64.wrap ((a.1.length:Int) - c))) ((i64.wrap ((a.1.length:Int) - c))<=(a.1.length:Int)))).bind fun _=>(bA 8 ([] :List (Tr Yq1)) (a.1.drop ((i64.wrap ((a.1.length:Int) - c)).toNat))).bind fun h=>(chk (And (0<=(i64.wrap ((a.1.length:Int) - c))) ((i64.wrap ((a.1.length:Int) - c))<=(a.1.length:Int)))).bind fun _=>(bA 8 (a.1.take ((i64.wrap ((a.1.length:Int) - c)).toNat)) ([Tr.node (b.1,b.2.1,b.2.2.1,b.2.2.2) h])).bind fun i=>some (.nxt (i,i64.wrap (a.2+1))))) else (some (.ret Tr.nil)))) else (some (.brk (a.1,a.2)))
def oS (b:List Yq1):Option (Tr Yq1):=
 aO (al (rW b) aW (([] :List (Tr Yq1)),0)) (fun c=>some c) (fun a=>if (a.1.length:Int) !=1 then (some Tr.nil) else ((aU a.1 0).bind fun d=>some d))
def uZ (a:List Yq1):Option Bool:=
 (oS a).bind fun b=>some (cond.match_1 (fun (c:Bool)=>Bool) (Tr.isNil b) (fun (d:Unit)=>false) (fun (e:Unit)=>true))
def mo (a:(List Yq1)):Option Bool:=
 if decide ((a.length:Int)<=24) then ((uZ a).bind fun b=>some b) else (some false)
def ez (mrec:(Tr Yq1)->Option Int) (b:Tr Yq1) (c:Yq1×List (Tr Yq1)) (a:Int×Int):Option (Out Int (Int×Int)):=
 if decide (a.2<(c.2.length:Int)) then (Option.bind (((aU c.2 a.2).bind fun d=>(Tr.get b).bind fun j=>(Tr.get b).bind fun e=>if e.1.1==7 then ((mrec d).bind fun f=>(Tr.get b).bind fun k=>(Tr.get b).bind fun g=>some (i64.wrap (a.1+(i64.wrap ((i64.wrap (f+3))*g.1.2.2.2))))) else ((mrec d).bind fun h=>some (i64.wrap (a.1+h))):Option Int)) (fun i=>some (.nxt (i,i64.wrap (a.2+1))))) else (some (.brk (a.1,a.2)))
def dh:Nat->(Tr Yq1)->Option Int
 | 0,_=>none
 | n+1,p0x =>
  (Tr.get p0x).bind fun d=>(Tr.get p0x).bind fun a=>aO (al (ez (dh n) p0x a) aW (1,0)) (fun b=>some b) (fun c=>some (Min.min c.1 100000))
def Fw (a:Int):Option (Tr Yq1):=
 some (Tr.node (a,0,0,0) ([] :List (Tr Yq1)))
def nM:Nat->(Tr Yq1)->Int->Int->Option (Tr Yq1)
 | 0,_,_,_=>none
 | n+1,p0x,p1low,p2high =>
  if p2high==0 then ((Fw 2).bind fun b=>some b) else (((nM n) p0x (Max.max 0 (i64.wrap (p1low - 1))) (i64.wrap (p2high - 1))).bind fun a=>if decide (p1low>0) then (some (Tr.node (4,0,0,0) ([p0x,a]))) else ((Fw 2).bind fun c=>some (Tr.node (5,0,0,0) ([Tr.node (4,0,0,0) ([p0x,a]),c]))))
def fa (mrec:(Tr Yq1)->Option (Tr Yq1)) (b:Yq1×List (Tr Yq1)) (a:Int×Int×Int×Int×Int×List (Tr Yq1)):Option (Out (Tr Yq1) (Int×Int×Int×Int×Int×List (Tr Yq1))):=
 if decide (a.1<(b.2.length:Int)) then ((aU b.2 a.1).bind fun c=>(mrec c).bind fun d=>(bA 8 a.2.2.2.2.2 ([d])).bind fun e=>some (.nxt (i64.wrap (a.1+1),a.2.1,a.2.2.1,a.2.2.2.1,a.2.2.2.2.1,e))) else (some (.brk (a.1,a.2.1,a.2.2.1,a.2.2.2.1,a.2.2.2.2.1,a.2.2.2.2.2)))
def cK:Nat->(Tr Yq1)->Option (Tr Yq1)
 | 0,_=>none
 | n+1,p0x =>
  (Tr.get p0x).bind fun l=>(Tr.get p0x).bind fun c=>if c.1.1==7 then ((Tr.get p0x).bind fun m=>(Tr.get p0x).bind fun d=>(aU d.2 0).bind fun e=>((cK n) e).bind fun f=>(Tr.get p0x).bind fun o=>(Tr.get p0x).bind fun g=>(Tr.get p0x).bind fun p=>(Tr.get p0x).bind fun h=>(nM fV f g.1.2.2.1 h.1.2.2.2).bind fun i=>some i) else ((Tr.get p0x).bind fun q=>(Tr.get p0x).bind fun b=>(Tr.get p0x).bind fun r=>(Tr.get p0x).bind fun j=>aO (al (fa (cK n) j) aW (0,b.1.1,b.1.2.1,b.1.2.2.1,b.1.2.2.2,([] :List (Tr Yq1)))) (fun k=>some k) (fun a=>some (Tr.node (a.2.1,a.2.2.1,a.2.2.2.1,a.2.2.2.2.1) a.2.2.2.2.2)))
def dq (mrec:(Tr Yq1)->(List Yq1)->Option (List Yq1)) (b:Yq1×List (Tr Yq1)) (a:Int×List Yq1):Option (Out (List Yq1) (Int×List Yq1)):=
 if decide (a.1<(b.2.length:Int)) then ((aU b.2 a.1).bind fun c=>(mrec c a.2).bind fun d=>some (.nxt (i64.wrap (a.1+1),d))) else (some (.brk (a.1,a.2)))
def cA:Nat->(Tr Yq1)->(List Yq1)->Option (List Yq1)
 | 0,_,_=>none
 | n+1,p0x,p1out =>
  (Tr.get p0x).bind fun f=>(Tr.get p0x).bind fun b=>aO (al (dq (cA n) b) aW (0,p1out)) (fun c=>some c) (fun d=>(Tr.get p0x).bind fun g=>(Tr.get p0x).bind fun a=>(bA 32 d.2 ([(a.1.1,a.1.2.1,a.1.2.2.1,a.1.2.2.2)])).bind fun e=>some e)
def rX (a:Tr Yq1):Option (List Yq1):=
 (cA fV a ([] :List Yq1)).bind fun b=>some b
def ny (a:List Yq1):Option ((List Yq1)×Bool):=
 (mo a).bind fun d=>if d then ((oS a).bind fun b=>(dh fV b).bind fun e=>if decide (e>5000) then (some (([] :List Yq1),false)) else ((cK fV b).bind fun f=>(rX f).bind fun c=>if decide ((c.length:Int)>400) then (some (([] :List Yq1),false)) else (some (c,true)))) else (some (([] :List Yq1),false))
def dF (b:(List Int)×Int×Int×(List Int)×Bool) (c:Int) (d:Int) (a:Int×List Int):Option (Out Rn (Int×List Int)):=
 if decide (a.1<(b.2.2.2.1.length:Int)) then (Option.bind (((chk (0<=a.1)).bind fun _=>if (rM (pU c a.1) 1)==1 then ((aU a.2 a.1).bind fun e=>(aU a.2 a.1).bind fun g=>some (a.2.set a.1.toNat (orI e d))) else (some a.2):Option (List Int))) (fun f=>some (.nxt (i64.wrap (a.1+1),f)))) else (some (.brk (a.1,a.2)))
def fm (a:(List Int)×Int×Int×(List Int)×Bool) (b:Int) (c:Int):Option Rn:=
 aO (al (dF a b c) aW (0,a.2.2.2.1)) (fun d=>some d) (fun e=>some (a.1,a.2.1,a.2.2.1,e.2,a.2.2.2.2))
def bL:Nat->Rn->(Tr Yq1)->Option ((Int×Int×Bool)×(List Int)×Int×Int×(List Int)×Bool)
 | 0,_,_=>none
 | n+1,p0,p1 =>
  (Tr.get p1).bind fun A=>(Tr.get p1).bind fun i=>if i.1.1==2 then (some ((0,0,true),p0.1,p0.2.1,p0.2.2.1,p0.2.2.2.1,p0.2.2.2.2)) else (if i.1.1==3 then ((Tr.get p1).bind fun B=>(Tr.get p1).bind fun m=>(bA 8 p0.1 ([m.1.2.1])).bind fun o=>(bA 8 p0.2.2.2.1 ([0])).bind fun p=>some ((C7 1 (p0.1.length:Int),C7 1 (p0.1.length:Int),false),o,p0.2.1,p0.2.2.1,p,p0.2.2.2.2)) else (if i.1.1==5 then ((Tr.get p1).bind fun C=>(Tr.get p1).bind fun q=>(aU q.2 0).bind fun r=>((bL n) (p0.1,p0.2.1,p0.2.2.1,p0.2.2.2.1,p0.2.2.2.2) r).bind fun f=>(Tr.get p1).bind fun D=>(Tr.get p1).bind fun s=>(aU s.2 1).bind fun t=>((bL n) f.2 t).bind fun b=>if f.1.2.2 then (some ((orI f.1.1 b.1.1,orI f.1.2.1 b.1.2.1,true),b.2.1,b.2.2.1,b.2.2.2.1,b.2.2.2.2.1,b.2.2.2.2.2)) else (some ((orI f.1.1 b.1.1,orI f.1.2.1 b.1.2.1,b.1.2.2),b.2.1,b.2.2.1,b.2.2.2.1,b.2.2.2.2.1,b.2.2.2.2.2))) else (if i.1.1==4 then ((Tr.get p1).bind fun E=>(Tr.get p1).bind fun u=>(aU u.2 0).bind fun v=>((bL n) (p0.1,p0.2.1,p0.2.2.1,p0.2.2.2.1,p0.2.2.2.2) v).bind fun c=>(Tr.get p1).bind fun F=>(Tr.get p1).bind fun w=>(aU w.2 1).bind fun x=>((bL n) c.2 x).bind fun a=>(fm (a.2.1,a.2.2.1,a.2.2.2.1,a.2.2.2.2.1,a.2.2.2.2.2) c.1.2.1 a.1.1).bind fun d=>if c.1.2.2 then (Option.bind ((if c.1.2.2 then (some (orI c.1.1 a.1.1,a.1.2.1,a.1.2.2)) else (some (c.1.1,a.1.2.1,a.1.2.2)):Option (Int×Int×Bool))) (fun g=>Option.bind ((if a.1.2.2 then (some (g.1,orI g.2.1 c.1.2.1,g.2.2)) else (some (g.1,g.2.1,g.2.2)):Option (Int×Int×Bool))) (fun k=>some ((k.1,k.2.1,k.2.2),d.1,d.2.1,d.2.2.1,d.2.2.2.1,d.2.2.2.2)))) else (Option.bind ((if c.1.2.2 then (some (orI c.1.1 a.1.1,a.1.2.1,false)) else (some (c.1.1,a.1.2.1,false)):Option (Int×Int×Bool))) (fun h=>Option.bind ((if a.1.2.2 then (some (h.1,orI h.2.1 c.1.2.1,h.2.2)) else (some (h.1,h.2.1,h.2.2)):Option (Int×Int×Bool))) (fun l=>some ((l.1,l.2.1,l.2.2),d.1,d.2.1,d.2.2.1,d.2.2.2.1,d.2.2.2.2))))) else (if i.1.1==6 then ((Tr.get p1).bind fun G=>(Tr.get p1).bind fun y=>(aU y.2 0).bind fun z=>((bL n) (p0.1,p0.2.1,p0.2.2.1,p0.2.2.2.1,p0.2.2.2.2) z).bind fun e=>(fm (e.2.1,e.2.2.1,e.2.2.2.1,e.2.2.2.2.1,e.2.2.2.2.2) e.1.2.1 e.1.1).bind fun j=>some ((e.1.1,e.1.2.1,true),j.1,j.2.1,j.2.2.1,j.2.2.2.1,j.2.2.2.2)) else (some ((0,0,false),p0.1,p0.2.1,p0.2.2.1,p0.2.2.2.1,p0.2.2.2.2))))))
def eQ (b:(List Yq1)×Bool) (a:Int×Int):Option (Out (Rn×Bool) (Int×Int)):=
 if decide (a.2<(b.1.length:Int)) then (Option.bind (((aU b.1 a.2).bind fun c=>if c.1==3 then (some (i64.wrap (a.1+1))) else (some a.1):Option Int)) (fun d=>some (.nxt (d,i64.wrap (a.2+1))))) else (some (.brk (a.1,a.2)))
def jt (c:List Yq1):Option (Rn×Bool):=
 (ny c).bind fun b=>if b.2 then (aO (al (eQ b) aW (0,0)) (fun d=>some d) (fun e=>if decide (e.1>20) then (some ((([] :List Int),0,0,([] :List Int),false),false)) else ((oS b.1).bind fun f=>(bL fV (([] :List Int),0,0,([] :List Int),false) f).bind fun a=>some ((a.2.1,a.1.1,a.1.2.1,a.2.2.2.2.1,a.1.2.2),true)))) else (some ((([] :List Int),0,0,([] :List Int),false),false))
def fI (e:Int->Int->Option (Int×Bool)) (f:(List Int)×tl×Int×Int×(List Bool)×(List (List Int))) (a:(List Int)×tl×(List Int)×Int):Option (Out (Yq2×Bool) ((List Int)×tl×(List Int)×Int)):=
 if decide (a.2.2.2<9) then (Option.bind (((aU a.1 f.2.2.1).bind fun g=>(e g a.2.2.2).bind fun b=>if b.2 then ((chk (iOk b.1=true)).bind fun _=>Option.bind ((if (lkM a.2.1 b.1).isSome then (some (a.1,a.2.1,(lkM a.2.1 b.1).getD 0)) else ((Rg a.2.1 iOk iOk b.1 (a.1.length:Int)).bind fun m37=>(bA 8 a.1 ([b.1])).bind fun h=>some (h,m37,(a.1.length:Int))):Option ((List Int)×tl×Int))) (fun c=>(bA 8 a.2.2.1 ([c.2.2])).bind fun i=>some (c.1,c.2.1,i))) else ((bA 8 a.2.2.1 ([-1])).bind fun j=>some (a.1,a.2.1,j)):Option ((List Int)×tl×(List Int)))) (fun d=>some (.nxt (d.1,d.2.1,d.2.2,i64.wrap (a.2.2.2+1))))) else (some (.brk (a.1,a.2.1,a.2.2.1,a.2.2.2)))
def cL (c:Int) (d:Int->Option Bool) (e:Int->Int->Option (Int×Bool)) (a:(List Int)×tl×Int×Int×(List Bool)×(List (List Int))):Option (Out (Yq2×Bool) ((List Int)×tl×Int×Int×(List Bool)×(List (List Int)))):=
 if decide (a.2.2.1<(a.1.length:Int)) then (aO (al (fI e a) aW (a.1,a.2.1,([] :List Int),0)) (fun r=>some (.ret r)) (fun b=>if decide ((b.1.length:Int)>c) then (some (.ret ((0,[],[]),false))) else ((aU b.1 a.2.2.1).bind fun f=>(d f).bind fun g=>(bA 1 a.2.2.2.2.1 ([g])).bind fun h=>(bA 24 a.2.2.2.2.2 ([b.2.2.1])).bind fun i=>some (.nxt (b.1,b.2.1,i64.wrap (a.2.2.1+1),a.2.2.2.1,h,i))))) else (some (.brk (a.1,a.2.1,a.2.2.1,a.2.2.2.1,a.2.2.2.2.1,a.2.2.2.2.2)))
def fY (b:Int) (c:Int) (d:Int->Option Bool) (e:Int->Int->Option (Int×Bool)):Option (Yq2×Bool):=
 (Rg ([] :List (Int×Int)) iOk iOk b 0).bind fun m1=>aO (al (cL c d e) aW ([b],m1,0,0,[],[])) (fun r=>some r) (fun a=>some ((a.2.2.2.1,a.2.2.2.2.1,a.2.2.2.2.2),true))
def eR (a:(List Int)×Int×Int×(List Int)×Bool) (b:Int):Option Bool:=
 if (rM b 1)==1 then (if a.2.2.2.2 then (some true) else (some ((rM (pU b 1) a.2.2.1) !=0))) else (some ((rM (pU b 1) a.2.2.1) !=0))
def dW (b:(List Int)×Int×Int×(List Int)×Bool) (c:Int) (a:Int×Int):Option (Out Int (Int×Int)):=
 if decide (a.2<(b.2.2.2.1.length:Int)) then (Option.bind (((aU b.2.2.2.1 a.2).bind fun d=>(chk (0<=i64.wrap (a.2+1))).bind fun _=>if (rM (pU c (i64.wrap (a.2+1))) 1)==1 then (some (orI a.1 d)) else (some a.1):Option Int)) (fun e=>some (.nxt (e,i64.wrap (a.2+1))))) else (some (.brk (a.1,a.2)))
def dX (b:(List Int)×Int×Int×(List Int)×Bool) (c:Int) (d:Int×Int) (a:Int×Int):Option (Out Int (Int×Int)):=
 if decide (a.2<(b.1.length:Int)) then (Option.bind (((aU b.1 a.2).bind fun e=>if e==c then ((chk (0<=a.2)).bind fun _=>if (rM (pU d.1 a.2) 1)==1 then ((chk (0<=i64.wrap (a.2+1))).bind fun _=>some (orI a.1 (C7 1 (i64.wrap (a.2+1))))) else (some a.1)) else (some a.1):Option Int)) (fun f=>some (.nxt (f,i64.wrap (a.2+1))))) else (some (.brk (a.1,a.2)))
def iI (a:(List Int)×Int×Int×(List Int)×Bool) (b:Int) (c:Int):Option Int:=
 Option.bind ((if (rM b 1)==1 then (some a.2.1) else (some 0):Option Int)) (fun d=>aO (al (dW a b) aW (d,0)) (fun r=>some r) (fun e=>aO (al (dX a c e) aW (0,0)) (fun r=>some r) (fun f=>some f.1)))
def eA (b:Int) (c:Int) (q0:(List Int)×Int×Int×(List Int)×Bool):Option (Int×Bool):=
 (iI (q0.1,q0.2.1,q0.2.2.1,q0.2.2.2.1,q0.2.2.2.2) b c).bind fun a=>some (a,a !=0)
def jK (a:(List Int)×Int×Int×(List Int)×Bool) (c:Int):Option (Yq2×Bool):=
 (fY 1 c (fun a0=>eR (a.1,a.2.1,a.2.2.1,a.2.2.2.1,a.2.2.2.2) a0) (fun a0 a1=>eA a0 a1 (a.1,a.2.1,a.2.2.1,a.2.2.2.1,a.2.2.2.2))).bind fun b=>some ((b.1.1,b.1.2.1,b.1.2.2),b.2)
def eS (b:Bool×Int×List Bool) (c:List Int) (a:Bool×Int×List Bool):Option (Out (List Bool) (Bool×Int×List Bool)):=
 if decide (a.2.1<(c.length:Int)) then (Option.bind (((aU c a.2.1).bind fun d=>if decide (d≥0) then ((aU a.2.2 d).bind fun f=>if f then ((aU a.2.2 b.2.1).bind fun g=>if g then (some (a.1,a.2.2)) else ((aU a.2.2 b.2.1).bind fun h=>some (true,a.2.2.set b.2.1.toNat true))) else (some (a.1,a.2.2))) else (some (a.1,a.2.2)):Option (Bool×List Bool))) (fun e=>some (.nxt (e.1,i64.wrap (a.2.1+1),e.2)))) else (some (.brk (a.1,a.2.1,a.2.2)))
def eT (b:Int×(List Bool)×List (List Int)) (a:Bool×Int×List Bool):Option (Out (List Bool) (Bool×Int×List Bool)):=
 if decide (a.2.1<(b.2.2.length:Int)) then ((aU b.2.2 a.2.1).bind fun d=>aO (al (eS a d) aW (a.1,0,a.2.2)) (fun e=>some (.ret e)) (fun c=>some (.nxt (c.1,i64.wrap (a.2.1+1),c.2.2)))) else (some (.brk (a.1,a.2.1,a.2.2)))
def jL (c:Int×(List Bool)×List (List Int)) (a:Bool×List Bool):Option (Out (List Bool) (Bool×List Bool)):=
 if a.1 then (aO (al (eT c) aW (false,0,a.2)) (fun d=>some (.ret d)) (fun b=>some (.nxt (b.1,b.2.2)))) else (some (.brk (a.1,a.2)))
def gk (a:Int×(List Bool)×List (List Int)):Option (List Bool):=
 (bA 1 ([] :List Bool) a.2.1).bind fun b=>aO (al (jL a) aW (true,b)) (fun c=>some c) (fun d=>some d.2)
def cX (b:List (List Int)) (c:(List Int)->Option Bool) (a:Int):Option (Out Int Int):=
 if decide (a<(b.length:Int)) then ((aU b a).bind fun d=>(c d).bind fun e=>if e then (some (.ret a)) else (some (.nxt (i64.wrap (a+1))))) else (some (.brk a))
def cC (a:List (List Int)) (b:(List Int)->Option Bool):Option Int:=
 aO (al (cX a b) aW 0) (fun r=>some r) (fun c=>some (-1))
def jj (a:List Int) (q0:List Int):Option Bool:=
 (cx a q0).bind fun b=>some b
def dG (d:List Int) (c:List Int) (a:Int×(List Int)):Option (Out ((List Int)×Int) (Int×(List Int))):=
 if decide (a.1<(c.length:Int)) then ((aU c a.1).bind fun b=>Option.bind ((if decide (b≥0) then ((aU d b).bind fun e=>some e) else (some b):Option Int)) (fun f=>(bA 8 a.2 ([f])).bind fun g=>some (.nxt (i64.wrap (a.1+1),g)))) else (some (.brk (a.1,a.2)))
def fu (h:Int×(List Bool)×(List (List Int))) (b:List Int) (a:(List (List Int))×(List Int)×Int):Option (Out ((List Int)×Int) ((List (List Int))×(List Int)×Int)):=
 if decide (a.2.2<(b.length:Int)) then (Option.bind (((aU b a.2.2).bind fun c=>if decide (c<0) then ((bA 8 a.2.1 ([-1])).bind fun i=>some (a.1,i)) else ((aU h.2.2 a.2.2).bind fun j=>aO (al (dG b j) aW (0,[c])) (fun _=>none) (fun d=>(cC a.1 (fun a0=>jj a0 d.2)).bind fun e=>Option.bind ((if decide (e<0) then ((bA 24 a.1 ([d.2])).bind fun k=>some (k,(a.1.length:Int))) else (some (a.1,e)):Option ((List (List Int))×Int))) (fun f=>(bA 8 a.2.1 ([f.2])).bind fun l=>some (f.1,l)))):Option ((List (List Int))×(List Int)))) (fun g=>some (.nxt (g.1,g.2,i64.wrap (a.2.2+1))))) else (some (.brk (a.1,a.2.1,a.2.2)))
def fo (b:Int×(List Bool)×(List (List Int))) (c:List Int):Option ((List Int)×Int):=
 aO (al (fu b c) aW (([] :List (List Int)),([] :List Int),0)) (fun r=>some r) (fun a=>some (a.2.1,(a.1.length:Int)))
def dt (c:Int×(List Bool)×(List (List Int))) (b:List Bool) (a:(List Int)×Int):Option XJ:=
 if decide (a.2<(b.length:Int)) then (Option.bind (((aU b a.2).bind fun d=>if d then ((aU c.2.1 a.2).bind fun e=>if e then ((bA 8 a.1 ([1])).bind fun f=>some f) else ((bA 8 a.1 ([0])).bind fun g=>some g)) else ((bA 8 a.1 ([-1])).bind fun h=>some h):Option (List Int))) (fun i=>some (.nxt (i,i64.wrap (a.2+1))))) else (some (.brk (a.1,a.2)))
def gV (b:Int×(List Bool)×(List (List Int))) (c:(List Int)×Int):Option XJ:=
 (fo (b.1,b.2.1,b.2.2) c.1).bind fun a=>if a.2==c.2 then (some (.ret a.1)) else (some (.nxt (a.1,a.2)))
def eU (a:Int×(List Bool)×(List (List Int))):Option (List Int):=
 (gk (a.1,a.2.1,a.2.2)).bind fun b=>aO (al (dt a b) aW (([] :List Int),0)) (fun r=>some r) (fun c=>aO (al (gV a) aW (c.1,-1)) (fun r=>some r) (fun d=>none))
def wJ (a:Int) (b:Int):Option (Int×Int):=
 some (IntKind.u32.wrap (pU (IntKind.u64.wrap ((IntKind.u64.wrap a)*(IntKind.u64.wrap b))) 32),IntKind.u32.wrap (IntKind.u64.wrap ((IntKind.u64.wrap a)*(IntKind.u64.wrap b))))
def pc (a:Int) (b:Int):Option (Int×Int):=
 some (IntKind.u64.wrap ((IntKind.u64.wrap ((IntKind.u64.wrap ((pU a 32)*(pU b 32)))+(pU (IntKind.u64.wrap ((IntKind.u64.wrap ((pU a 32)*(Rh b 4294967295)))+(pU (IntKind.u64.wrap ((Rh a 4294967295)*(Rh b 4294967295))) 32))) 32)))+(pU (IntKind.u64.wrap ((Rh (IntKind.u64.wrap ((IntKind.u64.wrap ((pU a 32)*(Rh b 4294967295)))+(pU (IntKind.u64.wrap ((Rh a 4294967295)*(Rh b 4294967295))) 32))) 4294967295)+(IntKind.u64.wrap ((Rh a 4294967295)*(pU b 32))))) 32)),IntKind.u64.wrap (a*b))
def rb (b:Int) (c:Int):Option (Int×Int):=
 (pc b c).bind fun a=>some (a.1,a.2)
def nO (a:Int×List Int):Option (Out (List Int) (Int×List Int)):=
 if decide (a.1<(a.2.length:Int)) then ((chk (And (0<=a.1) (a.1<=(a.2.length:Int)))).bind fun _=>(chk (And (0<=a.1) (a.1<=(a.2.length:Int)))).bind fun _=>(chk (And (0<=a.1) (a.1<=(a.2.length:Int)))).bind fun _=>(chk (And (0<=a.1) (a.1<=(a.2.length:Int)))).bind fun _=>some (.nxt (i64.wrap (a.1+((Min.min ((a.2.take a.1.toNat).length) (a.2.length - a.1.toNat):Nat):Int)),Gq a.2 a.1.toNat (a.2.take a.1.toNat)))) else (some (.brk (a.1,a.2)))
def jM (a:List Int) (c:Int):Option (List Int):=
 if decide (c<0) then (none) else ((rb (IntKind.u64.wrap (a.length:Int)) (IntKind.u64.wrap c)).bind fun b=>if decide (b.1>0) then (none) else (if decide (b.2>9223372036854775807) then (none) else ((mkI 8 (i64.wrap b.2) 0).bind fun d=>aO (al (nO) aW (((Min.min a.length (d.length - 0):Nat):Int),Gq d 0 a)) (fun e=>some e) (fun f=>some f.2))))
def wK:Option Yq2:=
 (jM ([-1]) 9).bind fun a=>some (0,[false],[a])
def ff (b:List Int) (c:Int) (a:Int):Option (Out Int Int):=
 if decide (a<(b.length:Int)) then ((aU b a).bind fun d=>if c==d then (some (.ret a)) else (some (.nxt (i64.wrap (a+1))))) else (some (.brk a))
def fW (a:List Int) (b:Int):Option Int:=
 aO (al (ff a b) aW 0) (fun r=>some r) (fun c=>some (-1))
def bm (a:Int) (q0:List Int):Option Int:=
 (fW q0 a).bind fun b=>some b
def du (a:Int) (q0:Int×(List Bool)×(List (List Int))) (q1:Int->Option Int):Option Bool:=
 (q1 a).bind fun b=>(aU q0.2.1 b).bind fun c=>some c
def gl (c:Int×(List Bool)×(List (List Int))) (a:Int) (b:Int):Option Int:=
 if decide (a<0) then (some (-1)) else ((lR b).bind fun d=>if d then ((aU c.2.2 a).bind fun e=>(aU e b).bind fun f=>some f) else (some (-1)))
def dw (b:Int) (c:Int) (q0:Int×(List Bool)×(List (List Int))) (q1:Int->Option Int) (q2:List Int):Option (Int×Bool):=
 (q1 b).bind fun d=>(gl (q0.1,q0.2.1,q0.2.2) d c).bind fun a=>if decide (a<0) then (some (0,false)) else ((aU q2 a).bind fun e=>if decide (e<0) then (some (0,false)) else ((aU q2 a).bind fun f=>some (f,true)))
def df (a:Int×(List Bool)×(List (List Int))):Option Yq2:=
 (eU (a.1,a.2.1,a.2.2)).bind fun b=>(aU b a.1).bind fun e=>if decide (e<0) then ((wK).bind fun c=>some (c.1,c.2.1,c.2.2)) else ((aU b a.1).bind fun f=>(fY f (b.length:Int) (fun a0=>du a0 (a.1,a.2.1,a.2.2) (fun a0=>bm a0 b)) (fun a0 a1=>dw a0 a1 (a.1,a.2.1,a.2.2) (fun a0=>bm a0 b) b)).bind fun d=>some (d.1.1,d.1.2.1,d.1.2.2))
def B3 (b:Int×(List Bool)×(List (List Int))):Option (Yq2×Bool):=
 (df (b.1,b.2.1,b.2.2)).bind fun a=>if decide ((a.2.1.length:Int)>12) then (some ((0,[],[]),false)) else (some ((a.1,a.2.1,a.2.2),true))
def jN (d:(List Yq1)):Option (Yq2×Bool):=
 (jt d).bind fun a=>if a.2 then ((jK (a.1.1,a.1.2.1,a.1.2.2.1,a.1.2.2.2.1,a.1.2.2.2.2) 200).bind fun b=>if b.2 then ((B3 (b.1.1,b.1.2.1,b.1.2.2)).bind fun c=>some ((c.1.1,c.1.2.1,c.1.2.2),c.2)) else (some ((0,[],[]),false))) else (some ((0,[],[]),false))
def cj (c:List Yq2) (d:Yq2->Option Bool) (a:Int):Option (Out Int Int):=
 if decide (a<(c.length:Int)) then ((aU c a).bind fun b=>(d (b.1,b.2.1,b.2.2)).bind fun e=>if e then (some (.ret a)) else (some (.nxt (i64.wrap (a+1))))) else (some (.brk a))
def bJ (a:List Yq2) (b:Yq2->Option Bool):Option Int:=
 aO (al (cj a b) aW 0) (fun r=>some r) (fun c=>some (-1))
def nP (a:Int×(List Bool)×(List (List Int))) (q0:Int×(List Bool)×(List (List Int))):Option Bool:=
 (fB (q0.1,q0.2.1,q0.2.2) (a.1,a.2.1,a.2.2)).bind fun b=>some b
def mq (d:List B2) (a:Int×(List Yq2)×Yq3):Option (Out (Yq9×Bool) Ro):=
 if decide (a.1<(d.length:Int)) then ((aU d a.1).bind fun c=>(jN c.2.1).bind fun b=>if b.2 then ((cJ c.1 1 99).bind fun i=>if i then (if decide (a.1>0) then ((aU d (i64.wrap (a.1 - 1))).bind fun j=>if decide (j.1≥c.1) then (some (.ret (([],[]),false))) else ((bJ a.2.1 (fun a0=>nP a0 (b.1.1,b.1.2.1,b.1.2.2))).bind fun g=>Option.bind ((if decide (g<0) then ((bA 56 a.2.1 ([(b.1.1,b.1.2.1,b.1.2.2)])).bind fun k=>some ((a.2.1.length:Int),k,a.2.2)) else (some (g,a.2.1,a.2.2)):Option Ro)) (fun e=>(iz c.2.1).bind fun l=>(bA 40 e.2.2 ([(c.1,l,e.1)])).bind fun m=>some (.nxt (i64.wrap (a.1+1),e.2.1,m))))) else ((bJ a.2.1 (fun a0=>nP a0 (b.1.1,b.1.2.1,b.1.2.2))).bind fun h=>Option.bind ((if decide (h<0) then ((bA 56 a.2.1 ([(b.1.1,b.1.2.1,b.1.2.2)])).bind fun n=>some ((a.2.1.length:Int),n,a.2.2)) else (some (h,a.2.1,a.2.2)):Option Ro)) (fun f=>(iz c.2.1).bind fun o=>(bA 40 f.2.2 ([(c.1,o,f.1)])).bind fun p=>some (.nxt (i64.wrap (a.1+1),f.2.1,p))))) else (some (.ret (([],[]),false)))) else (some (.ret (([],[]),false)))) else (some (.brk (a.1,a.2.1,a.2.2)))
def oT (a:List B2):Option (Yq9×Bool):=
 aO (al (mq a) aW (0,[],[])) (fun r=>some r) (fun b=>some ((b.2.1,b.2.2),decide ((a.length:Int)<=4)))
def cM (a:(List Yq2)×Yq3):Option Bool:=
 (oT a.2).bind fun b=>if b.2 then ((fG (b.1.1,b.1.2) (a.1,a.2)).bind fun c=>some c) else (some false)
def bt (c:List B2) (d:B2->Option Bool) (a:Int):Option (Out Int Int):=
 if decide (a<(c.length:Int)) then ((aU c a).bind fun b=>(d (b.1,b.2.1,b.2.2)).bind fun e=>if e then (some (.ret a)) else (some (.nxt (i64.wrap (a+1))))) else (some (.brk a))
def ct (a:List B2) (b:B2->Option Bool):Option Int:=
 aO (al (bt a b) aW 0) (fun r=>some r) (fun c=>some (-1))
def mr (a:Int×((List Yq1))×Int) (q0:Int):Option Bool:=
 some (a.1==q0)
def gm (a:(List Yq2)×Yq3) (b:Int):Option Int:=
 (ct a.2 (fun a0=>mr a0 b)).bind fun c=>some c
def gp (a:ByteArray) (b:Int):Option Int:=R.zm a b
def od (a:Int):Option (ByteArray):=R.Tf a
def eK (a:Int):Option ByteArray:=
 (od a).bind fun b=>some b
def kP (a:Int×Int×Int×Int):Option ByteArray:=
 (km (a.1,a.2.1,a.2.2.1,a.2.2.2) 5).bind fun b=>if b then ((eK a.1).bind fun c=>(mc c (⟨#[58]⟩)).bind fun d=>(eK a.2.1).bind fun e=>(mc d e).bind fun f=>(tL (⟨#[97,98,99]⟩) a.2.2.2 (i64.wrap (a.2.2.2+1))).bind fun g=>(mc f g).bind fun h=>(eK a.2.2.1).bind fun i=>(mc h i).bind fun j=>some j) else (some ((⟨#[]⟩:ByteArray)))
def lj (a:List ByteArray) (b:ByteArray):Option (ByteArray):=R.Te a b
def gq (d:List Yq6) (a:(List ByteArray)×Int):Option (Out ByteArray ((List ByteArray)×Int)):=
 if decide (a.2<(d.length:Int)) then (yS (S:=List ByteArray) ((aU d a.2).bind fun b=>(kP (b.2.1,b.2.2.1,b.2.2.2.1,b.2.2.2.2)).bind fun c=>if c==((⟨#[]⟩:ByteArray)) then (some (.inl (.ret ((⟨#[]⟩:ByteArray))))) else (if b.1 then ((mc (⟨#[43]⟩) c).bind fun e=>(bA 16 a.1 ([e])).bind fun f=>some (.inr f)) else ((mc (⟨#[45]⟩) c).bind fun g=>(bA 16 a.1 ([g])).bind fun h=>some (.inr h)))) (fun i=>some (.nxt (i,i64.wrap (a.2+1))))) else (some (.brk (a.1,a.2)))
def fJ (a:List Yq6):Option ByteArray:=
 if decide ((a.length:Int)>6) then (some ((⟨#[]⟩:ByteArray))) else (aO (al (gq a) aW (([] :List ByteArray),0)) (fun b=>some b) (fun c=>(lj c.1 (⟨#[32]⟩)).bind fun d=>some d))
def pd (b:ByteArray) (a:Int×Int):Option (Out Int (Int×Int)):=
 if decide (a.2<((b.size:Nat):Int)) then ((kL b a.2).bind fun c=>some (.nxt (Int.tmod (i64.wrap ((i64.wrap ((i64.wrap (257*a.1))+(i64.wrap c)))+1)) 9973,i64.wrap (a.2+1)))) else (some (.brk (a.1,a.2)))
def lS (a:ByteArray):Option Int:=
 aO (al (pd a) aW (1,0)) (fun b=>some b) (fun c=>some c.1)
def iX (a:Int) (c:List Yq6):Option ByteArray:=
 (fJ c).bind fun b=>(cJ a 1 999).bind fun f=>if f then (if b==((⟨#[]⟩:ByteArray)) then (if decide ((c.length:Int)>0) then (some ((⟨#[]⟩:ByteArray))) else ((eK a).bind fun g=>(mc g (⟨#[59]⟩)).bind fun h=>(mc h b).bind fun i=>(mc i (⟨#[59]⟩)).bind fun d=>(lS d).bind fun j=>(eK j).bind fun k=>(mc d k).bind fun l=>(mc l (⟨#[10]⟩)).bind fun m=>some m)) else ((eK a).bind fun n=>(mc n (⟨#[59]⟩)).bind fun o=>(mc o b).bind fun p=>(mc p (⟨#[59]⟩)).bind fun e=>(lS e).bind fun q=>(eK q).bind fun r=>(mc e r).bind fun s=>(mc s (⟨#[10]⟩)).bind fun t=>some t)) else (some ((⟨#[]⟩:ByteArray)))
def dx (p0 p1:ByteArray):Option (List ByteArray):=R.K4 p0 p1
def iA (a:ByteArray):Option (Int×Bool):=R.tP a
def dH (p0 p1:ByteArray):Option (ByteArray×ByteArray×Bool):=R.ZR p0 p1
def iJ (b:ByteArray):Option (Yq1×Bool):=
 (dH b (⟨#[58]⟩)).bind fun a=>if ((a.2.1.size:Nat):Int) !=3 then (some ((0,0,0,0),false)) else ((kL a.2.1 0).bind fun c=>(kL a.2.1 1).bind fun d=>(kL a.2.1 2).bind fun e=>(iA a.1).bind fun f=>(kP (f.1,i64.wrap ((i64.wrap c) - 48),i64.wrap ((i64.wrap e) - 48),i64.wrap ((i64.wrap d) - 97))).bind fun g=>if g !=b then (some ((0,0,0,0),false)) else (some ((f.1,i64.wrap ((i64.wrap c) - 48),i64.wrap ((i64.wrap e) - 48),i64.wrap ((i64.wrap d) - 97)),true)))
def eB (d:List ByteArray) (a:Int×List Yq6):Option (Out ((List Yq6)×Bool) (Int×List Yq6)):=
 if decide (a.1<(d.length:Int)) then ((aU d a.1).bind fun c=>if c==((⟨#[]⟩:ByteArray)) then (some (.ret (([] :List Yq6),false))) else ((tL c 1 ((c.size:Nat):Int)).bind fun e=>(iJ e).bind fun b=>if b.2 then ((kL c 0).bind fun f=>(bA 40 a.2 ([(f==43,b.1.1,b.1.2.1,b.1.2.2.1,b.1.2.2.2)])).bind fun g=>some (.nxt (i64.wrap (a.1+1),g))) else (some (.ret (([] :List Yq6),false))))) else (some (.brk (a.1,a.2)))
def gE (a:ByteArray):Option ((List Yq6)×Bool):=
 if a==((⟨#[]⟩:ByteArray)) then (some (([] :List Yq6),true)) else ((dx a (⟨#[32]⟩)).bind fun c=>aO (al (eB c) aW (0,([] :List Yq6))) (fun d=>some d) (fun b=>(fJ b.2).bind fun e=>if e !=a then (some (([] :List Yq6),false)) else (some (b.2,true))))
def ln (d:ByteArray):Option (Int×(List Yq6)×Bool):=
 (dx d (⟨#[59]⟩)).bind fun a=>if (a.length:Int) !=3 then (some (0,([] :List Yq6),false)) else ((aU a 0).bind fun e=>(iA e).bind fun b=>(aU a 1).bind fun f=>(gE f).bind fun c=>if b.2 then (if c.2 then ((iX b.1 c.1).bind fun g=>if g !=d then (some (0,([] :List Yq6),false)) else (some (b.1,c.1,true))) else (some (0,([] :List Yq6),false))) else (some (0,([] :List Yq6),false)))
def di (c:ByteArray) (a:(List Int)×(List (List Yq6))×Int):Option (Out ((List Int)×(List (List Yq6))×Int) ((List Int)×(List (List Yq6))×Int)):=
 if decide (((c.size:Nat):Int)<=4000) then ((tL c a.2.2 ((c.size:Nat):Int)).bind fun e=>(gp e 10).bind fun d=>if decide (d<0) then (some (.brk (a.1,a.2.1,a.2.2))) else ((tL c a.2.2 (i64.wrap ((i64.wrap (a.2.2+d))+1))).bind fun f=>(ln f).bind fun b=>if b.2.2 then (if decide ((a.1.length:Int)>0) then ((aU a.1 (i64.wrap ((a.1.length:Int) - 1))).bind fun g=>if b.1 !=(i64.wrap (g+1)) then (some (.brk (a.1,a.2.1,a.2.2))) else ((bA 8 a.1 ([b.1])).bind fun h=>(bA 24 a.2.1 ([b.2.1])).bind fun i=>some (.nxt (h,i,i64.wrap (a.2.2+(i64.wrap (d+1))))))) else ((bA 8 a.1 ([b.1])).bind fun j=>(bA 24 a.2.1 ([b.2.1])).bind fun k=>some (.nxt (j,k,i64.wrap (a.2.2+(i64.wrap (d+1))))))) else (some (.brk (a.1,a.2.1,a.2.2))))) else (some (.brk (a.1,a.2.1,a.2.2)))
def m_i_ScanLog (b:ByteArray):Option ((List Int)×(List (List Yq6))×Int):=
 aO (al (di b) aW (([] :List Int),([] :List (List Yq6)),0)) (fun c=>some c) (fun a=>some (a.1,a.2.1,a.2.2))
def cY (a:(Int×Yq5)×Yq9×(List Yq7)×ByteArray) (d:Int) (b:Int):Option (Out Bool Int):=
 if decide (b<(a.2.2.1.length:Int)) then ((aU a.2.2.1 b).bind fun c=>(cJ c.1 1 99).bind fun e=>if e then (if decide (b>0) then ((aU a.2.2.1 (i64.wrap (b - 1))).bind fun f=>if decide (f.1≥c.1) then (some (.ret false)) else ((gm (a.2.1.1,a.2.1.2) c.2.1).bind fun g=>if decide (g<0) then (some (.ret false)) else ((cJ c.2.2 0 d).bind fun h=>if h then (some (.nxt (i64.wrap (b+1)))) else (some (.ret false))))) else ((gm (a.2.1.1,a.2.1.2) c.2.1).bind fun i=>if decide (i<0) then (some (.ret false)) else ((cJ c.2.2 0 d).bind fun j=>if j then (some (.nxt (i64.wrap (b+1)))) else (some (.ret false))))) else (some (.ret false))) else (some (.brk b))
def aN (a:(Int×Yq5)×Yq9×(List Yq7)×ByteArray):Option Bool:=
 (m_i_IsValidHistory (a.1.1,a.1.2)).bind fun d=>if d then ((cM (a.2.1.1,a.2.1.2)).bind fun e=>if e then (if decide ((a.2.2.1.length:Int)>4) then (some false) else (if decide ((a.2.2.2.size:Int)>4000) then (some false) else ((ko (a.1.1,a.1.2)).bind fun c=>aO (al (cY a c) aW 0) (fun r=>some r) (fun g=>(m_i_ScanLog a.2.2.2).bind fun b=>if b.2.2==(a.2.2.2.size:Int) then (if (b.1.length:Int)==0 then (some true) else ((aU b.1 (i64.wrap ((b.1.length:Int) - 1))).bind fun f=>some (f==c))) else (some false))))) else (some false)) else (some false)
def p9 (b:List Int) (a:Int×Int):Option (Out (Int×Int) (Int×Int)):=
 if decide (a.2<(b.length:Int)) then (if decide (a.2<4000) then ((aU b a.2).bind fun c=>some (.nxt (rM (i64.wrap ((i64.wrap ((i64.wrap (a.1*131))+(i64.wrap c)))+7)) 1073741823,i64.wrap (a.2+1)))) else (some (.brk (a.1,a.2)))) else (some (.brk (a.1,a.2)))
def pe (a:List Int):Option (Int×Int):=
 aO (al (p9 a) aW (i64.wrap (10101+(a.length:Int)),0)) (fun b=>some b) (fun c=>some (0,c.1))
def lT (a:(List Int)×Int×Int):Option Yq7:=
 Option.bind ((if decide (a.2.1<(a.1.length:Int)) then ((aU a.1 a.2.1).bind fun c=>some (rM (i64.wrap ((rM (aaY (pU (i64.wrap ((i64.wrap (a.2.2*6364136223846793005))+1442695040888963407)) 33) (pU (i64.wrap ((i64.wrap (a.2.2*6364136223846793005))+1442695040888963407)) 45)) 255)+(i64.wrap c))) 255,i64.wrap (a.2.1+1),i64.wrap ((i64.wrap (a.2.2*6364136223846793005))+1442695040888963407))) else (some (rM (aaY (pU (i64.wrap ((i64.wrap (a.2.2*6364136223846793005))+1442695040888963407)) 33) (pU (i64.wrap ((i64.wrap (a.2.2*6364136223846793005))+1442695040888963407)) 45)) 255,a.2.1,i64.wrap ((i64.wrap (a.2.2*6364136223846793005))+1442695040888963407))):Option Yq7)) (fun b=>some (b.1,b.2.1,b.2.2))
def aI (a:(List Int)×Int×Int) (b:Int):Option Yq7:=
 if decide (b<=0) then (some (0,a.2.1,a.2.2)) else (if decide (b<=256) then ((lT (a.1,a.2.1,a.2.2)).bind fun c=>(chk (b≠0)).bind fun _=>some (Int.tmod c.1 b,c.2.1,c.2.2)) else ((lT (a.1,a.2.1,a.2.2)).bind fun d=>(lT (a.1,d.2.1,d.2.2)).bind fun e=>(lT (a.1,e.2.1,e.2.2)).bind fun f=>(lT (a.1,f.2.1,f.2.2)).bind fun g=>(chk (b≠0)).bind fun _=>some (Int.tmod (i64.wrap ((i64.wrap ((i64.wrap ((i64.wrap (d.1*16777216))+(i64.wrap (e.1*65536))))+(i64.wrap (f.1*256))))+g.1)) b,g.2.1,g.2.2)))
def bN (a:(List Int)×Int×Int) (c:List Int):Option Yq7:=
 (aI (a.1,a.2.1,a.2.2) (c.length:Int)).bind fun b=>(aU c b.1).bind fun d=>some (d,b.2.1,b.2.2)
def cD (a:Int) (b:Int) (c:Int):Option Bool:=
 if decide (a≥b) then (some (decide (a<=c))) else (some false)
def u7 (b:(List Int)×(List Yq1)) (a:Int×Int×Int×Int):Option Bool:=
 (cD a.1 1 99).bind fun c=>if c then ((cD a.2.1 0 (i64.wrap ((b.1.length:Int) - 1))).bind fun d=>if d then ((cD a.2.2.1 0 (i64.wrap ((b.1.length:Int) - 1))).bind fun e=>if e then ((cD a.2.2.2 0 2).bind fun f=>some f) else (some false)) else (some false)) else (some false)
def pf (b:(List Int)×(List Yq1)) (a:Int):Option (Out Bool Int):=
 if decide (a<(b.1.length:Int)) then ((aU b.1 a).bind fun c=>(cD c 0 2).bind fun d=>if d then (some (.nxt (i64.wrap (a+1)))) else (some (.ret false))) else (some (.brk a))
def lH (b:(List Int)×(List Yq1)) (a:Int):Option (Out Bool Int):=
 if decide (a<(b.2.length:Int)) then ((aU b.2 a).bind fun c=>(u7 (b.1,b.2) (c.1,c.2.1,c.2.2.1,c.2.2.2)).bind fun d=>if d then (if decide (a>0) then ((aU b.2 (i64.wrap (a - 1))).bind fun e=>(aU b.2 a).bind fun f=>if decide (e.1≥f.1) then (some (.ret false)) else (some (.nxt (i64.wrap (a+1))))) else (some (.nxt (i64.wrap (a+1))))) else (some (.ret false))) else (some (.brk a))
def aT (a:(List Int)×(List Yq1)):Option Bool:=
 aO (al (pf a) aW 0) (fun r=>some r) (fun c=>aO (al (lH a) aW 0) (fun r=>some r) (fun d=>(cD (a.1.length:Int) 1 5).bind fun b=>if b then (some (decide ((a.2.length:Int)<=12))) else (some false)))
def qa (b:List Int) (c:List Int) (a:Int):Option (Out Int Int):=
 if decide (a<(b.length:Int)) then (if decide (a<(c.length:Int)) then ((aU b a).bind fun d=>(aU c a).bind fun e=>if decide (d<e) then (some (.ret (-1))) else ((aU b a).bind fun f=>(aU c a).bind fun g=>if decide (f>g) then (some (.ret 1)) else (some (.nxt (i64.wrap (a+1)))))) else (some (.brk a))) else (some (.brk a))
def pg (a:List Int) (b:List Int):Option Int:=
 aO (al (qa a b) aW 0) (fun r=>some r) (fun c=>if decide ((a.length:Int)<(b.length:Int)) then (some (-1)) else (if decide ((a.length:Int)>(b.length:Int)) then (some 1) else (some 0)))
def bH (b:Int×Yq5) (a:Int):Option (Out Bool Int):=
 if decide (a<(b.2.length:Int)) then ((aU b.2 a).bind fun c=>(aT (c.1,c.2)).bind fun d=>if d then ((aU b.2 a).bind fun e=>(aU b.2 0).bind fun f=>(pg e.1 f.1).bind fun g=>if g !=0 then (some (.ret false)) else (some (.nxt (i64.wrap (a+1))))) else (some (.ret false))) else (some (.brk a))
def m_s_IsValidHistory (a:Int×Yq5):Option Bool:=
 aO (al (bH a) aW 0) (fun r=>some r) (fun d=>(cD (a.2.length:Int) 1 8).bind fun b=>if b then ((cD a.1 1 (i64.wrap ((i64.wrap (999 - (a.2.length:Int)))+1))).bind fun c=>some c) else (some false))
def aV (a:Int×Yq5):Option Int:=
 (m_s_IsValidHistory (a.1,a.2)).bind fun b=>if b then (some (i64.wrap ((i64.wrap (a.1+(a.2.length:Int))) - 1))) else (some 0)
def fZ (a:List Yq1):Option (List Yq1):=
 (bA 32 ([] :List Yq1) a).bind fun b=>some b
def nQ (a:Int):Option Bool:=
 (cD a 0 8).bind fun b=>some b
def ph (a:Int×Int×Int×Int):Option Int:=
 Option.bind ((if a.1==1 then (some (a.1==1)) else (some (a.1==2)):Option Bool)) (fun b=>if b then (if a.2.1 !=0 then (some (-1)) else (if a.2.2.1 !=0 then (some (-1)) else (if a.2.2.2 !=0 then (some (-1)) else (some 0)))) else (if a.1==3 then ((nQ a.2.1).bind fun c=>if c then (if a.2.2.1 !=0 then (some (-1)) else (if a.2.2.2 !=0 then (some (-1)) else (some 0))) else (some (-1))) else (Option.bind ((if a.1==4 then (some (a.1==4)) else (some (a.1==5)):Option Bool)) (fun d=>if d then (if a.2.1 !=0 then (some (-1)) else (if a.2.2.1 !=0 then (some (-1)) else (if a.2.2.2 !=0 then (some (-1)) else (some 2)))) else (if a.1==6 then (if a.2.1 !=0 then (some (-1)) else (if a.2.2.1 !=0 then (some (-1)) else (if a.2.2.2 !=0 then (some (-1)) else (some 1)))) else (if a.1==7 then (if a.2.1 !=0 then (some (-1)) else ((cD a.2.2.2 1 3).bind fun e=>if e then ((cD a.2.2.1 0 a.2.2.2).bind fun f=>if f then (some 1) else (some (-1))) else (some (-1)))) else (some (-1))))))))
def rY (d:(List Yq1)) (a:Int×Int):Option (Out Bool (Int×Int)):=
 if decide (a.2<(d.length:Int)) then ((aU d a.2).bind fun b=>(ph (b.1,b.2.1,b.2.2.1,b.2.2.2)).bind fun c=>if decide (c<0) then (some (.ret false)) else (if decide (c>a.1) then (some (.ret false)) else (some (.nxt (i64.wrap ((i64.wrap (a.1 - c))+1),i64.wrap (a.2+1)))))) else (some (.brk (a.1,a.2)))
def u9 (a:(List Yq1)):Option Bool:=
 aO (al (rY a) aW (0,0)) (fun r=>some r) (fun b=>some (b.1==1))
def jO (a:(List Yq1)):Option Bool:=
 if decide ((a.length:Int)<=24) then ((u9 a).bind fun b=>some b) else (some false)
def nz (c:List Yq1) (a:Int×Int):Option (Out Int (Int×Int)):=
 if decide (a.1>0) then ((aU c (i64.wrap (a.2 - 1))).bind fun b=>(ph (b.1,b.2.1,b.2.2.1,b.2.2.2)).bind fun d=>some (.nxt (i64.wrap ((i64.wrap (a.1 - 1))+d),i64.wrap (a.2 - 1)))) else (some (.brk (a.1,a.2)))
def jP (a:List Yq1):Option Int:=
 aO (al (nz a) aW (1,(a.length:Int))) (fun r=>some r) (fun b=>some b.2)
def fK:Nat->(List Yq1)->Option Int
 | 0,_=>none
 | n+1,p0l =>
  (aU p0l (i64.wrap ((p0l.length:Int) - 1))).bind fun a=>Option.bind ((if a.1==4 then (some (a.1==4)) else (some (a.1==5)):Option Bool)) (fun c=>if c then ((chk (And (0<=(i64.wrap ((p0l.length:Int) - 1))) ((i64.wrap ((p0l.length:Int) - 1))<=(p0l.length:Int)))).bind fun _=>(jP (p0l.take ((i64.wrap ((p0l.length:Int) - 1)).toNat))).bind fun b=>(chk (And (0<=b) (b<=(p0l.length:Int)))).bind fun _=>((fK n) (p0l.take b.toNat)).bind fun d=>(chk (And (0<=b) (And (b<=(i64.wrap ((p0l.length:Int) - 1))) ((i64.wrap ((p0l.length:Int) - 1))<=(p0l.length:Int))))).bind fun _=>((fK n) ((p0l.take ((i64.wrap ((p0l.length:Int) - 1)).toNat)).drop b.toNat)).bind fun e=>some (Min.min 100000 (i64.wrap ((i64.wrap (d+e))+1)))) else (if a.1==6 then ((chk (And (0<=(i64.wrap ((p0l.length:Int) - 1))) ((i64.wrap ((p0l.length:Int) - 1))<=(p0l.length:Int)))).bind fun _=>((fK n) (p0l.take ((i64.wrap ((p0l.length:Int) - 1)).toNat))).bind fun f=>some (Min.min 100000 (i64.wrap (f+1)))) else (if a.1==7 then ((chk (And (0<=(i64.wrap ((p0l.length:Int) - 1))) ((i64.wrap ((p0l.length:Int) - 1))<=(p0l.length:Int)))).bind fun _=>((fK n) (p0l.take ((i64.wrap ((p0l.length:Int) - 1)).toNat))).bind fun g=>some (Min.min 100000 (i64.wrap ((i64.wrap ((i64.wrap (g+3))*a.2.2.2))+1)))) else (some 1))))
def fC (b:(List Yq1)) (c:(List Yq1)) (a:Int×Int×Int×Int):Option (List Yq1):=
 (fZ b).bind fun d=>(bA 32 d c).bind fun e=>(bA 32 e ([(a.1,a.2.1,a.2.2.1,a.2.2.2)])).bind fun f=>some f
def re (a:Int):Option (List Yq1):=
 some ([(a,0,0,0)])
def nR:Nat->(List Yq1)->Int->Int->Option (List Yq1)
 | 0,_,_,_=>none
 | n+1,p0e,p1low,p2high =>
  if p2high==0 then ((re 2).bind fun b=>some b) else (((nR n) p0e (Max.max 0 (i64.wrap (p1low - 1))) (i64.wrap (p2high - 1))).bind fun c=>(fC p0e c (4,0,0,0)).bind fun a=>if decide (p1low>0) then (some a) else ((re 2).bind fun d=>(fC a d (5,0,0,0)).bind fun e=>some e))
def dI:Nat->(List Yq1)->Option (List Yq1)
 | 0,_=>none
 | n+1,p0l =>
  (aU p0l (i64.wrap ((p0l.length:Int) - 1))).bind fun a=>Option.bind ((if a.1==4 then (some (a.1==4)) else (some (a.1==5)):Option Bool)) (fun c=>if c then ((chk (And (0<=(i64.wrap ((p0l.length:Int) - 1))) ((i64.wrap ((p0l.length:Int) - 1))<=(p0l.length:Int)))).bind fun _=>(jP (p0l.take ((i64.wrap ((p0l.length:Int) - 1)).toNat))).bind fun b=>(chk (And (0<=b) (b<=(p0l.length:Int)))).bind fun _=>((dI n) (p0l.take b.toNat)).bind fun d=>(chk (And (0<=b) (And (b<=(i64.wrap ((p0l.length:Int) - 1))) ((i64.wrap ((p0l.length:Int) - 1))<=(p0l.length:Int))))).bind fun _=>((dI n) ((p0l.take ((i64.wrap ((p0l.length:Int) - 1)).toNat)).drop b.toNat)).bind fun e=>(fC d e (a.1,a.2.1,a.2.2.1,a.2.2.2)).bind fun f=>some f) else (if a.1==6 then ((chk (And (0<=(i64.wrap ((p0l.length:Int) - 1))) ((i64.wrap ((p0l.length:Int) - 1))<=(p0l.length:Int)))).bind fun _=>((dI n) (p0l.take ((i64.wrap ((p0l.length:Int) - 1)).toNat))).bind fun g=>(fC g ([] :List Yq1) (a.1,a.2.1,a.2.2.1,a.2.2.2)).bind fun h=>some h) else (if a.1==7 then ((chk (And (0<=(i64.wrap ((p0l.length:Int) - 1))) ((i64.wrap ((p0l.length:Int) - 1))<=(p0l.length:Int)))).bind fun _=>((dI n) (p0l.take ((i64.wrap ((p0l.length:Int) - 1)).toNat))).bind fun i=>(nR fV i a.2.2.1 a.2.2.2).bind fun j=>some j) else (some ([(a.1,a.2.1,a.2.2.1,a.2.2.2)])))))
def jd (a:(List Yq1)):Option (((List Yq1))×Bool):=
 (jO a).bind fun c=>if c then ((fK fV a).bind fun d=>if decide (d>5000) then (some ([],false)) else ((dI fV a).bind fun b=>if decide ((b.length:Int)>400) then (some ([],false)) else (some (b,true)))) else (some ([],false))
def kQ (b:Int) (c:Int) (a:Int×List Int):Option (Out Rn (Int×List Int)):=
 if decide (a.1<(a.2.length:Int)) then (Option.bind (((chk (0<=a.1)).bind fun _=>if (rM (pU b a.1) 1)==1 then ((aU a.2 a.1).bind fun d=>(aU a.2 a.1).bind fun f=>some (a.2.set a.1.toNat (orI d c))) else (some a.2):Option (List Int))) (fun e=>some (.nxt (i64.wrap (a.1+1),e)))) else (some (.brk (a.1,a.2)))
def pj (a:(List Int)×Int×Int×(List Int)×Bool) (b:Int) (c:Int):Option Rn:=
 aO (al (kQ b c) aW (0,a.2.2.2.1)) (fun d=>some d) (fun e=>some (a.1,a.2.1,a.2.2.1,e.2,a.2.2.2.2))
def cO:Nat->Rn->(List Yq1)->Option ((Bool×Int×Int)×(List Int)×Int×Int×(List Int)×Bool)
 | 0,_,_=>none
 | n+1,p0,p1 =>
  (aU p1 (i64.wrap ((p1.length:Int) - 1))).bind fun g=>if g.1==2 then (some ((true,0,0),p0.1,p0.2.1,p0.2.2.1,p0.2.2.2.1,p0.2.2.2.2)) else (if g.1==3 then ((bA 8 p0.1 ([g.2.1])).bind fun p=>(bA 8 p0.2.2.2.1 ([0])).bind fun q=>some ((false,C7 1 (p0.1.length:Int),C7 1 (p0.1.length:Int)),p,p0.2.1,p0.2.2.1,q,p0.2.2.2.2)) else (if g.1==4 then ((chk (And (0<=(i64.wrap ((p1.length:Int) - 1))) ((i64.wrap ((p1.length:Int) - 1))<=(p1.length:Int)))).bind fun _=>(jP (p1.take ((i64.wrap ((p1.length:Int) - 1)).toNat))).bind fun h=>(chk (And (0<=h) (h<=(p1.length:Int)))).bind fun _=>((cO n) (p0.1,p0.2.1,p0.2.2.1,p0.2.2.2.1,p0.2.2.2.2) (p1.take h.toNat)).bind fun b=>(chk (And (0<=h) (And (h<=(i64.wrap ((p1.length:Int) - 1))) ((i64.wrap ((p1.length:Int) - 1))<=(p1.length:Int))))).bind fun _=>((cO n) (b.2.1,b.2.2.1,b.2.2.2.1,b.2.2.2.2.1,b.2.2.2.2.2) ((p1.take ((i64.wrap ((p1.length:Int) - 1)).toNat)).drop h.toNat)).bind fun a=>(pj (a.2.1,a.2.2.1,a.2.2.2.1,a.2.2.2.2.1,a.2.2.2.2.2) b.1.2.2 a.1.2.1).bind fun d=>if b.1.1 then (Option.bind ((if b.1.1 then (some (a.1.1,orI b.1.2.1 a.1.2.1,a.1.2.2)) else (some (a.1.1,b.1.2.1,a.1.2.2)):Option (Bool×Int×Int))) (fun j=>Option.bind ((if a.1.1 then (some (j.1,j.2.1,orI b.1.2.2 a.1.2.2)) else (some (j.1,j.2.1,j.2.2)):Option (Bool×Int×Int))) (fun m=>some ((m.1,m.2.1,m.2.2),d.1,d.2.1,d.2.2.1,d.2.2.2.1,d.2.2.2.2)))) else (Option.bind ((if b.1.1 then (some (false,orI b.1.2.1 a.1.2.1,a.1.2.2)) else (some (false,b.1.2.1,a.1.2.2)):Option (Bool×Int×Int))) (fun k=>Option.bind ((if a.1.1 then (some (k.1,k.2.1,orI b.1.2.2 a.1.2.2)) else (some (k.1,k.2.1,k.2.2)):Option (Bool×Int×Int))) (fun o=>some ((o.1,o.2.1,o.2.2),d.1,d.2.1,d.2.2.1,d.2.2.2.1,d.2.2.2.2))))) else (if g.1==5 then ((chk (And (0<=(i64.wrap ((p1.length:Int) - 1))) ((i64.wrap ((p1.length:Int) - 1))<=(p1.length:Int)))).bind fun _=>(jP (p1.take ((i64.wrap ((p1.length:Int) - 1)).toNat))).bind fun i=>(chk (And (0<=i) (i<=(p1.length:Int)))).bind fun _=>((cO n) (p0.1,p0.2.1,p0.2.2.1,p0.2.2.2.1,p0.2.2.2.2) (p1.take i.toNat)).bind fun e=>(chk (And (0<=i) (And (i<=(i64.wrap ((p1.length:Int) - 1))) ((i64.wrap ((p1.length:Int) - 1))<=(p1.length:Int))))).bind fun _=>((cO n) (e.2.1,e.2.2.1,e.2.2.2.1,e.2.2.2.2.1,e.2.2.2.2.2) ((p1.take ((i64.wrap ((p1.length:Int) - 1)).toNat)).drop i.toNat)).bind fun c=>if e.1.1 then (some ((true,orI e.1.2.1 c.1.2.1,orI e.1.2.2 c.1.2.2),c.2.1,c.2.2.1,c.2.2.2.1,c.2.2.2.2.1,c.2.2.2.2.2)) else (some ((c.1.1,orI e.1.2.1 c.1.2.1,orI e.1.2.2 c.1.2.2),c.2.1,c.2.2.1,c.2.2.2.1,c.2.2.2.2.1,c.2.2.2.2.2))) else (if g.1==6 then ((chk (And (0<=(i64.wrap ((p1.length:Int) - 1))) ((i64.wrap ((p1.length:Int) - 1))<=(p1.length:Int)))).bind fun _=>((cO n) (p0.1,p0.2.1,p0.2.2.1,p0.2.2.2.1,p0.2.2.2.2) (p1.take ((i64.wrap ((p1.length:Int) - 1)).toNat))).bind fun f=>(pj (f.2.1,f.2.2.1,f.2.2.2.1,f.2.2.2.2.1,f.2.2.2.2.2) f.1.2.2 f.1.2.1).bind fun l=>some ((true,f.1.2.1,f.1.2.2),l.1,l.2.1,l.2.2.1,l.2.2.2.1,l.2.2.2.2)) else (some ((false,0,0),p0.1,p0.2.1,p0.2.2.1,p0.2.2.2.1,p0.2.2.2.2))))))
def eV (b:(List Yq1)×Bool) (a:Int×Int):Option (Out (Rn×Bool) (Int×Int)):=
 if decide (a.2<(b.1.length:Int)) then (Option.bind (((aU b.1 a.2).bind fun c=>if c.1==3 then (some (i64.wrap (a.1+1))) else (some a.1):Option Int)) (fun d=>some (.nxt (d,i64.wrap (a.2+1))))) else (some (.brk (a.1,a.2)))
def dJ (c:List Yq1):Option (Rn×Bool):=
 (jd c).bind fun b=>if b.2 then (aO (al (eV b) aW (0,0)) (fun d=>some d) (fun e=>if decide (e.1>20) then (some ((([] :List Int),0,0,([] :List Int),false),false)) else ((cO fV (([] :List Int),0,0,([] :List Int),false) b.1).bind fun a=>some ((a.2.1,a.1.2.1,a.1.2.2,a.2.2.2.2.1,a.1.1),true)))) else (some ((([] :List Int),0,0,([] :List Int),false),false))
def jQ (b:(List Int)×Int×Int×(List Int)×Bool) (c:Int) (a:Int×Int):Option (Out Int (Int×Int)):=
 if decide (a.2<(b.1.length:Int)) then (Option.bind (((chk (0<=i64.wrap (a.2+1))).bind fun _=>if (rM (pU c (i64.wrap (a.2+1))) 1)==1 then ((aU b.2.2.2.1 a.2).bind fun d=>some (orI a.1 d)) else (some a.1):Option Int)) (fun e=>some (.nxt (e,i64.wrap (a.2+1))))) else (some (.brk (a.1,a.2)))
def jR (b:(List Int)×Int×Int×(List Int)×Bool) (c:Int) (d:Int×Int) (a:Int×Int):Option (Out Int (Int×Int)):=
 if decide (a.2<(b.1.length:Int)) then (Option.bind (((chk (0<=a.2)).bind fun _=>if (rM (pU d.1 a.2) 1)==1 then ((aU b.1 a.2).bind fun e=>if e==c then ((chk (0<=i64.wrap (a.2+1))).bind fun _=>some (orI a.1 (C7 1 (i64.wrap (a.2+1))))) else (some a.1)) else (some a.1):Option Int)) (fun f=>some (.nxt (f,i64.wrap (a.2+1))))) else (some (.brk (a.1,a.2)))
def qb (a:(List Int)×Int×Int×(List Int)×Bool) (b:Int) (c:Int):Option Int:=
 Option.bind ((if (rM b 1)==1 then (some a.2.1) else (some 0):Option Int)) (fun d=>aO (al (jQ a b) aW (d,0)) (fun r=>some r) (fun e=>aO (al (jR a c e) aW (0,0)) (fun r=>some r) (fun f=>some f.1)))
def qH (b:List Int) (c:Int) (a:Int):Option (Out Int Int):=
 if decide (a<(b.length:Int)) then ((aU b a).bind fun d=>if d==c then (some (.ret a)) else (some (.nxt (i64.wrap (a+1))))) else (some (.brk a))
def pn (a:List Int) (b:Int):Option Int:=
 aO (al (qH a b) aW 0) (fun r=>some r) (fun c=>some (-1))
def nA (a:(List Int)×Int×Int×(List Int)×Bool) (b:Int):Option Bool:=
 if (rM b 1)==1 then (if a.2.2.2.2 then (some true) else (some ((rM (pU b 1) a.2.2.1) !=0))) else (some ((rM (pU b 1) a.2.2.1) !=0))
def kp (b:(List Int)×Int×Int×(List Int)×Bool) (f:(List Int)×Int×Int×(List Bool)×(List (List Int))) (a:(List Int)×(List Int)×Int):Option (Out (Yq2×Bool) ((List Int)×(List Int)×Int)):=
 if decide (a.2.2<9) then ((aU a.1 f.2.1).bind fun g=>(qb (b.1,b.2.1,b.2.2.1,b.2.2.2.1,b.2.2.2.2) g a.2.2).bind fun c=>Option.bind ((if c !=0 then ((pn a.1 c).bind fun d=>if decide (d<0) then ((bA 8 a.1 ([c])).bind fun h=>some (h,(a.1.length:Int))) else (some (a.1,d))) else (some (a.1,-1)):Option ((List Int)×Int))) (fun e=>(bA 8 a.2.1 ([e.2])).bind fun i=>some (.nxt (e.1,i,i64.wrap (a.2.2+1))))) else (some (.brk (a.1,a.2.1,a.2.2)))
def gW (b:(List Int)×Int×Int×(List Int)×Bool) (d:Int) (a:(List Int)×Int×Int×(List Bool)×(List (List Int))):Option (Out (Yq2×Bool) ((List Int)×Int×Int×(List Bool)×(List (List Int)))):=
 if decide (a.2.1<(a.1.length:Int)) then (aO (al (kp b a) aW (a.1,([] :List Int),0)) (fun r=>some (.ret r)) (fun c=>if decide ((c.1.length:Int)>d) then (some (.ret ((0,[],[]),false))) else ((aU c.1 a.2.1).bind fun e=>(nA (b.1,b.2.1,b.2.2.1,b.2.2.2.1,b.2.2.2.2) e).bind fun f=>(bA 1 a.2.2.2.1 ([f])).bind fun g=>(bA 24 a.2.2.2.2 ([c.2.1])).bind fun h=>some (.nxt (c.1,i64.wrap (a.2.1+1),a.2.2.1,g,h))))) else (some (.brk (a.1,a.2.1,a.2.2.1,a.2.2.2.1,a.2.2.2.2)))
def fy (b:(List Int)×Int×Int×(List Int)×Bool) (c:Int):Option (Yq2×Bool):=
 aO (al (gW b c) aW ([1],0,0,[],[])) (fun r=>some r) (fun a=>some ((a.2.2.1,a.2.2.2.1,a.2.2.2.2),true))
def zo (a:(List Int)×Int):Option (Out Yq2 ((List Int)×Int)):=
 if decide (a.2<9) then ((bA 8 a.1 ([-1])).bind fun b=>some (.nxt (b,i64.wrap (a.2+1)))) else (some (.brk (a.1,a.2)))
def qI:Option Yq2:=
 aO (al (zo) aW (([] :List Int),0)) (fun r=>some r) (fun a=>some (0,[false],[a.1]))
def iY (f:Int×(List Bool)×(List (List Int))) (d:List Int) (g:List Bool) (h:(List Int)×(List Int)×Int×Int×(List Bool)×(List (List Int))) (a:(List Int)×(List Int)×(List Int)×Int):Option (Out Yq2 ((List Int)×(List Int)×(List Int)×Int)):=
 if decide (a.2.2.2<9) then ((aU a.2.1 h.2.2.1).bind fun i=>(aU f.2.2 i).bind fun j=>(aU j a.2.2.2).bind fun b=>Option.bind ((if decide (b≥0) then ((aU g b).bind fun k=>if k then ((aU d b).bind fun l=>(pn a.1 l).bind fun e=>if decide (e<0) then ((aU d b).bind fun m=>(bA 8 a.1 ([m])).bind fun n=>(bA 8 a.2.1 ([b])).bind fun o=>some (n,o,(a.1.length:Int))) else (some (a.1,a.2.1,e))) else (some (a.1,a.2.1,-1))) else (some (a.1,a.2.1,-1)):Option ((List Int)×(List Int)×Int))) (fun c=>(bA 8 a.2.2.1 ([c.2.2])).bind fun p=>some (.nxt (c.1,c.2.1,p,i64.wrap (a.2.2.2+1))))) else (some (.brk (a.1,a.2.1,a.2.2.1,a.2.2.2)))
def lq (c:Int×(List Bool)×(List (List Int))) (d:List Int) (e:List Bool) (a:(List Int)×(List Int)×Int×Int×(List Bool)×(List (List Int))):Option (Out Yq2 ((List Int)×(List Int)×Int×Int×(List Bool)×(List (List Int)))):=
 if decide (a.2.2.1<(a.1.length:Int)) then (aO (al (iY c d e a) aW (a.1,a.2.1,([] :List Int),0)) (fun r=>some (.ret r)) (fun b=>(aU b.2.1 a.2.2.1).bind fun f=>(aU c.2.1 f).bind fun g=>(bA 1 a.2.2.2.2.1 ([g])).bind fun h=>(bA 24 a.2.2.2.2.2 ([b.2.2.1])).bind fun i=>some (.nxt (b.1,b.2.1,i64.wrap (a.2.2.1+1),a.2.2.2.1,h,i)))) else (some (.brk (a.1,a.2.1,a.2.2.1,a.2.2.2.1,a.2.2.2.2.1,a.2.2.2.2.2)))
def kt (a:Int×(List Bool)×(List (List Int))) (d:List Int) (e:List Bool):Option Yq2:=
 (aU e a.1).bind fun f=>if f then ((aU d a.1).bind fun g=>aO (al (lq a d e) aW ([g],[a.1],0,0,[],[])) (fun r=>some r) (fun b=>some (b.2.2.2.1,b.2.2.2.2.1,b.2.2.2.2.2))) else ((qI).bind fun c=>some (c.1,c.2.1,c.2.2))
def nB (c:Int×(List Bool)×(List (List Int))) (b:(List Bool)×Int) (a:(List Bool)×Int):Option (Out (List Bool) ((List Bool)×Int)):=
 if decide (a.2<9) then (Option.bind (((aU c.2.2 b.2).bind fun d=>(aU d a.2).bind fun e=>if decide (e≥0) then ((aU c.2.2 b.2).bind fun f=>(aU f a.2).bind fun g=>(aU a.1 g).bind fun h=>if h then ((aU a.1 b.2).bind fun j=>some (a.1.set b.2.toNat true)) else (some a.1)) else (some a.1):Option (List Bool))) (fun i=>some (.nxt (i,i64.wrap (a.2+1))))) else (some (.brk (a.1,a.2)))
def kR (b:Int×(List Bool)×(List (List Int))) (a:(List Bool)×Int):Option (Out (List Bool) ((List Bool)×Int)):=
 if decide (a.2<(b.2.1.length:Int)) then (aO (al (nB b a) aW (a.1,0)) (fun r=>some (.ret r)) (fun c=>some (.nxt (c.1,i64.wrap (a.2+1))))) else (some (.brk (a.1,a.2)))
def nC (b:Int×(List Bool)×(List (List Int))) (a:(List Bool)×Int):Option (Out (List Bool) ((List Bool)×Int)):=
 if decide (a.2<(b.2.1.length:Int)) then (aO (al (kR b) aW (a.1,0)) (fun r=>some (.ret r)) (fun c=>some (.nxt (c.1,i64.wrap (a.2+1))))) else (some (.brk (a.1,a.2)))
def mY (a:Int×(List Bool)×(List (List Int))):Option (List Bool):=
 (bA 1 ([] :List Bool) a.2.1).bind fun b=>aO (al (nC a) aW (b,0)) (fun r=>some r) (fun c=>some c.1)
def oB (c:Int×(List Bool)×(List (List Int))) (d:List Int) (e:Int) (a:(List Int)×Int):Option XJ:=
 if decide (a.2<9) then (Option.bind (((aU c.2.2 e).bind fun f=>(aU f a.2).bind fun b=>if decide (b<0) then ((bA 8 a.1 ([-1])).bind fun g=>some g) else ((aU d b).bind fun h=>(bA 8 a.1 ([h])).bind fun i=>some i):Option (List Int))) (fun j=>some (.nxt (j,i64.wrap (a.2+1))))) else (some (.brk (a.1,a.2)))
def rf (c:Int×(List Bool)×(List (List Int))) (a:List Int) (b:Int):Option (List Int):=
 (aU a b).bind fun d=>aO (al (oB c a b) aW ([d],0)) (fun r=>some r) (fun e=>some e.1)
def gX (b:Int×(List Bool)×List (List Int)) (c:List Bool) (a:(List Int)×Int):Option XJ:=
 if decide (a.2<(b.2.1.length:Int)) then ((aU b.2.1 a.2).bind fun d=>Option.bind ((if d then (some 1) else (some 0):Option Int)) (fun e=>(aU c a.2).bind fun f=>Option.bind ((if f then (some e) else (some (-1)):Option Int)) (fun g=>(bA 8 a.1 ([g])).bind fun h=>some (.nxt (h,i64.wrap (a.2+1)))))) else (some (.brk (a.1,a.2)))
def gY (b:(List (List Int))×(List Int)×Int) (c:List Int) (a:Int×Int):Option (Out (List Int) (Int×Int)):=
 if decide (a.2<(b.1.length:Int)) then (Option.bind (((aU b.1 a.2).bind fun d=>(pg d c).bind fun e=>if e==0 then (some a.2) else (some a.1):Option Int)) (fun f=>some (.nxt (f,i64.wrap (a.2+1))))) else (some (.brk (a.1,a.2)))
def gZ (b:Int×(List Bool)×List (List Int)) (c:(List Int)×Int) (a:(List (List Int))×(List Int)×Int):Option (Out (List Int) ((List (List Int))×(List Int)×Int)):=
 if decide (a.2.2<(b.2.1.length:Int)) then (Option.bind (((aU c.1 a.2.2).bind fun h=>if decide (h<0) then ((bA 8 a.2.1 ([(-1)])).bind fun i=>some (a.1,i)) else ((rf (b.1,b.2.1,b.2.2) c.1 a.2.2).bind fun d=>aO (al (gY a d) aW ((-1),0)) (fun l=>none) (fun e=>Option.bind ((if decide (e.1<0) then ((bA 24 a.1 ([d])).bind fun j=>some (j,(a.1.length:Int))) else (some (a.1,e.1)):Option ((List (List Int))×Int))) (fun f=>(bA 8 a.2.1 ([f.2])).bind fun k=>some (f.1,k)))):Option ((List (List Int))×List Int))) (fun g=>some (.nxt (g.1,g.2,i64.wrap (a.2.2+1))))) else (some (.brk (a.1,a.2.1,a.2.2)))
def mZ (b:Int×(List Bool)×List (List Int)) (a:(List Int)×Int):Option XJ:=
 if decide (a.2<=(b.2.1.length:Int)) then (aO (al (gZ b a) aW (([] :List (List Int)),([] :List Int),0)) (fun d=>some (.ret d)) (fun c=>(pg c.2.1 a.1).bind fun e=>if e==0 then (some (.ret a.1)) else (some (.nxt (c.2.1,i64.wrap (a.2+1)))))) else (some (.brk (a.1,a.2)))
def kS (a:Int×(List Bool)×List (List Int)):Option (List Int):=
 (mY (a.1,a.2.1,a.2.2)).bind fun b=>aO (al (gX a b) aW (([] :List Int),0)) (fun c=>some c) (fun d=>aO (al (mZ a) aW (d.1,0)) (fun e=>some e) (fun f=>some f.1))
def hO (a:Int×(List Bool)×(List (List Int))):Option Yq2:=
 (kS (a.1,a.2.1,a.2.2)).bind fun c=>(mY (a.1,a.2.1,a.2.2)).bind fun d=>(kt (a.1,a.2.1,a.2.2) c d).bind fun b=>some (b.1,b.2.1,b.2.2)
def m_s_CompileExpr (d:(List Yq1)):Option (Yq2×Bool):=
 (dJ d).bind fun a=>if a.2 then ((fy (a.1.1,a.1.2.1,a.1.2.2.1,a.1.2.2.2.1,a.1.2.2.2.2) 200).bind fun b=>if b.2 then ((hO (b.1.1,b.1.2.1,b.1.2.2)).bind fun c=>if decide ((c.2.1.length:Int)>12) then (some ((0,[],[]),false)) else (some ((c.1,c.2.1,c.2.2),true))) else (some ((0,[],[]),false))) else (some ((0,[],[]),false))
def gM (b:Int×(List Bool)×(List (List Int))) (c:Int×(List Bool)×(List (List Int))) (a:Int):Option (Out Bool Int):=
 if decide (a<(b.2.1.length:Int)) then ((aU b.2.1 a).bind fun d=>(aU c.2.1 a).bind fun e=>if d !=e then (some (.ret false)) else (some (.nxt (i64.wrap (a+1))))) else (some (.brk a))
def gN (b:Int×(List Bool)×(List (List Int))) (c:Int×(List Bool)×(List (List Int))) (a:Int):Option (Out Bool Int):=
 if decide (a<(b.2.2.length:Int)) then ((aU b.2.2 a).bind fun d=>(aU c.2.2 a).bind fun e=>(pg d e).bind fun f=>if f !=0 then (some (.ret false)) else (some (.nxt (i64.wrap (a+1))))) else (some (.brk a))
def hY (a:Int×(List Bool)×(List (List Int))) (b:Int×(List Bool)×(List (List Int))):Option Bool:=
 if a.1 !=b.1 then (some false) else (if (a.2.1.length:Int) !=(b.2.1.length:Int) then (some false) else (if (a.2.2.length:Int) !=(b.2.2.length:Int) then (some false) else (aO (al (gM a b) aW 0) (fun r=>some r) (fun c=>aO (al (gN a b) aW 0) (fun r=>some r) (fun d=>some true)))))
def eW (d:List Yq2) (b:Int×(List Bool)×(List (List Int))) (a:Int):Option (Out Int Int):=
 if decide (a<(d.length:Int)) then ((aU d a).bind fun c=>(hY (c.1,c.2.1,c.2.2) (b.1,b.2.1,b.2.2)).bind fun e=>if e then (some (.ret a)) else (some (.nxt (i64.wrap (a+1))))) else (some (.brk a))
def gr (a:List Yq2) (b:Int×(List Bool)×(List (List Int))):Option Int:=
 aO (al (eW a b) aW 0) (fun r=>some r) (fun c=>some (-1))
def bq (c:List B2) (a:Int×(List Yq2)×Yq3):Option (Out (Yq9×Bool) Ro):=
 if decide (a.1<(c.length:Int)) then ((aU c a.1).bind fun h=>(m_s_CompileExpr h.2.1).bind fun b=>if b.2 then ((aU c a.1).bind fun i=>(cD i.1 1 99).bind fun j=>if j then (if decide (a.1>0) then ((aU c (i64.wrap (a.1 - 1))).bind fun k=>(aU c a.1).bind fun l=>if decide (k.1≥l.1) then (some (.ret (([],[]),false))) else ((gr a.2.1 (b.1.1,b.1.2.1,b.1.2.2)).bind fun f=>Option.bind ((if decide (f<0) then ((bA 56 a.2.1 ([(b.1.1,b.1.2.1,b.1.2.2)])).bind fun m=>some ((a.2.1.length:Int),m,a.2.2)) else (some (f,a.2.1,a.2.2)):Option Ro)) (fun d=>(aU c a.1).bind fun n=>(aU c a.1).bind fun o=>(fZ o.2.1).bind fun p=>(bA 40 d.2.2 ([(n.1,p,d.1)])).bind fun q=>some (.nxt (i64.wrap (a.1+1),d.2.1,q))))) else ((gr a.2.1 (b.1.1,b.1.2.1,b.1.2.2)).bind fun g=>Option.bind ((if decide (g<0) then ((bA 56 a.2.1 ([(b.1.1,b.1.2.1,b.1.2.2)])).bind fun r=>some ((a.2.1.length:Int),r,a.2.2)) else (some (g,a.2.1,a.2.2)):Option Ro)) (fun e=>(aU c a.1).bind fun s=>(aU c a.1).bind fun t=>(fZ t.2.1).bind fun u=>(bA 40 e.2.2 ([(s.1,u,e.1)])).bind fun v=>some (.nxt (i64.wrap (a.1+1),e.2.1,v))))) else (some (.ret (([],[]),false)))) else (some (.ret (([],[]),false)))) else (some (.brk (a.1,a.2.1,a.2.2)))
def bR (a:List B2):Option (Yq9×Bool):=
 if decide ((a.length:Int)>4) then (some (([],[]),false)) else (aO (al (bq a) aW (0,[],[])) (fun r=>some r) (fun b=>some ((b.2.1,b.2.2),true)))
def ku (d:(List Yq1)) (e:(List Yq1)) (a:Int):Option (Out Bool Int):=
 if decide (a<(d.length:Int)) then ((aU d a).bind fun b=>(aU e a).bind fun c=>if (b.1==c.1)&&((b.2.1==c.2.1)&&((b.2.2.1==c.2.2.1)&&((b.2.2.2==c.2.2.2)&&true))) then (some (.nxt (i64.wrap (a+1)))) else (some (.ret false))) else (some (.brk a))
def qJ (a:(List Yq1)) (b:(List Yq1)):Option Bool:=
 if (a.length:Int) !=(b.length:Int) then (some false) else (aO (al (ku a b) aW 0) (fun r=>some r) (fun c=>some true))
def fR (d:(List Yq2)×Yq3) (e:(List Yq2)×Yq3) (a:Int):Option (Out Bool Int):=
 if decide (a<(d.1.length:Int)) then ((aU d.1 a).bind fun b=>(aU e.1 a).bind fun c=>(hY (b.1,b.2.1,b.2.2) (c.1,c.2.1,c.2.2)).bind fun f=>if f then (some (.nxt (i64.wrap (a+1)))) else (some (.ret false))) else (some (.brk a))
def fS (b:(List Yq2)×Yq3) (c:(List Yq2)×Yq3) (a:Int):Option (Out Bool Int):=
 if decide (a<(b.2.length:Int)) then ((aU b.2 a).bind fun d=>(aU c.2 a).bind fun e=>if d.1 !=e.1 then (some (.ret false)) else ((aU b.2 a).bind fun f=>(aU c.2 a).bind fun g=>(qJ f.2.1 g.2.1).bind fun h=>if h then ((aU b.2 a).bind fun i=>(aU c.2 a).bind fun j=>if i.2.2 !=j.2.2 then (some (.ret false)) else (some (.nxt (i64.wrap (a+1))))) else (some (.ret false)))) else (some (.brk a))
def iK (a:(List Yq2)×Yq3) (b:(List Yq2)×Yq3):Option Bool:=
 if (a.1.length:Int) !=(b.1.length:Int) then (some false) else (if (a.2.length:Int) !=(b.2.length:Int) then (some false) else (aO (al (fR a b) aW 0) (fun r=>some r) (fun c=>aO (al (fS a b) aW 0) (fun r=>some r) (fun d=>some true))))
def m_s_IsValidRegistry (a:(List Yq2)×Yq3):Option Bool:=
 (bR a.2).bind fun b=>if b.2 then ((iK (b.1.1,b.1.2) (a.1,a.2)).bind fun c=>some c) else (some false)
def dk (b:(List Yq2)×Yq3) (c:Int) (a:Int):Option (Out Int Int):=
 if decide (a<(b.2.length:Int)) then ((aU b.2 a).bind fun d=>if d.1==c then (some (.ret a)) else (some (.nxt (i64.wrap (a+1))))) else (some (.brk a))
def aS (a:(List Yq2)×Yq3) (b:Int):Option Int:=
 aO (al (dk a b) aW 0) (fun r=>some r) (fun c=>some (-1))
def cr (a:(Int×Yq5)×Yq9×(List Yq7)×ByteArray) (b:Int):Option (Out Bool Int):=
 if decide (b<(a.2.2.1.length:Int)) then ((aU a.2.2.1 b).bind fun c=>(cD c.1 1 99).bind fun d=>if d then (if decide (b>0) then ((aU a.2.2.1 (i64.wrap (b - 1))).bind fun e=>if decide (e.1≥c.1) then (some (.ret false)) else ((aS (a.2.1.1,a.2.1.2) c.2.1).bind fun f=>if decide (f<0) then (some (.ret false)) else ((aV (a.1.1,a.1.2)).bind fun g=>(cD c.2.2 0 g).bind fun h=>if h then (some (.nxt (i64.wrap (b+1)))) else (some (.ret false))))) else ((aS (a.2.1.1,a.2.1.2) c.2.1).bind fun i=>if decide (i<0) then (some (.ret false)) else ((aV (a.1.1,a.1.2)).bind fun j=>(cD c.2.2 0 j).bind fun k=>if k then (some (.nxt (i64.wrap (b+1)))) else (some (.ret false))))) else (some (.ret false))) else (some (.brk b))
def rZ (a:(Int×Yq5)×Yq9×(List Yq7)×ByteArray):Option Bool:=
 aO (al (cr a) aW 0) (fun r=>some r) (fun b=>some (decide ((a.2.2.1.length:Int)<=4)))
def fg (a:Int×ByteArray):Option (Out ByteArray (Int×ByteArray)):=
 if a.1 !=0 then (Option.bind ((if decide ((Int.tmod a.1 10)<0) then (some (i64.wrap (-(Int.tmod a.1 10)))) else (some (Int.tmod a.1 10)):Option Int)) (fun b=>(mc (Ab ([IntKind.u8.wrap (i64.wrap (48+b))])) a.2).bind fun c=>some (.nxt (Gp a.1 10,c)))) else (some (.brk (a.1,a.2)))
def cz (a:Int):Option ByteArray:=
 if a==0 then (some (⟨#[48]⟩)) else (aO (al (fg) aW (a,(⟨#[]⟩:ByteArray))) (fun c=>some c) (fun b=>if decide (a<0) then ((mc (⟨#[45]⟩) b.2).bind fun d=>some d) else (some b.2)))
def ga (a:Int):Option ByteArray:=
 (nQ a).bind fun b=>if b then ((aU ([(⟨#[97]⟩:ByteArray),(⟨#[97,45]⟩:ByteArray),(⟨#[98]⟩:ByteArray),(⟨#[98,45]⟩:ByteArray),(⟨#[99]⟩:ByteArray),(⟨#[99,45]⟩:ByteArray),(⟨#[48]⟩:ByteArray),(⟨#[49]⟩:ByteArray),(⟨#[50]⟩:ByteArray)]) a).bind fun c=>some c) else (some (⟨#[]⟩:ByteArray))
def kT (a:Int×Int×Int×Int):Option ByteArray:=
 (cD a.1 1 99).bind fun b=>if b then ((cD a.2.1 0 4).bind fun c=>if c then ((cD a.2.2.1 0 4).bind fun d=>if d then ((cD a.2.2.2 0 2).bind fun e=>if e then ((cz a.1).bind fun f=>(mc f (⟨#[58]⟩)).bind fun g=>(cz a.2.1).bind fun h=>(mc g h).bind fun i=>(ga (i64.wrap (2*a.2.2.2))).bind fun j=>(mc i j).bind fun k=>(cz a.2.2.1).bind fun l=>(mc k l).bind fun m=>some m) else (some ((⟨#[]⟩:ByteArray)))) else (some ((⟨#[]⟩:ByteArray)))) else (some ((⟨#[]⟩:ByteArray)))) else (some ((⟨#[]⟩:ByteArray)))
def gu (c:List Yq6) (a:ByteArray×Int):Option (Out ByteArray (ByteArray×Int)):=
 if decide (a.2<(c.length:Int)) then (yS (S:=ByteArray) ((aU c a.2).bind fun b=>(kT (b.2.1,b.2.2.1,b.2.2.2.1,b.2.2.2.2)).bind fun d=>if d==((⟨#[]⟩:ByteArray)) then (some (.inl (.ret ((⟨#[]⟩:ByteArray))))) else (Option.bind ((if decide (a.2>0) then ((mc a.1 (⟨#[32]⟩)).bind fun f=>some f) else (some a.1):Option ByteArray)) (fun e=>(aU c a.2).bind fun g=>if g.1 then ((mc e (⟨#[43]⟩)).bind fun h=>(mc h d).bind fun i=>some (.inr i)) else ((mc e (⟨#[45]⟩)).bind fun j=>(mc j d).bind fun k=>some (.inr k))))) (fun l=>some (.nxt (l,i64.wrap (a.2+1))))) else (some (.brk (a.1,a.2)))
def dK (a:List Yq6):Option ByteArray:=
 if decide ((a.length:Int)>6) then (some ((⟨#[]⟩:ByteArray))) else (aO (al (gu a) aW ((⟨#[]⟩:ByteArray),0)) (fun b=>some b) (fun c=>some c.1))
def hZ (b:ByteArray) (a:Int×Int):Option (Out Int (Int×Int)):=
 if decide (a.2<((b.size:Nat):Int)) then ((kL b a.2).bind fun c=>some (.nxt (Int.tmod (i64.wrap ((i64.wrap ((i64.wrap (a.1*257))+(i64.wrap c)))+1)) 9973,i64.wrap (a.2+1)))) else (some (.brk (a.1,a.2)))
def iB (a:ByteArray):Option Int:=
 aO (al (hZ a) aW (1,0)) (fun b=>some b) (fun c=>some c.1)
def dQ (b:Int) (a:List Yq6):Option ByteArray:=
 (cD b 1 999).bind fun e=>if e then (if decide ((a.length:Int)>0) then ((dK a).bind fun f=>if f==((⟨#[]⟩:ByteArray)) then (some ((⟨#[]⟩:ByteArray))) else ((cz b).bind fun g=>(mc g (⟨#[59]⟩)).bind fun h=>(dK a).bind fun i=>(mc h i).bind fun j=>(mc j (⟨#[59]⟩)).bind fun c=>(iB c).bind fun k=>(cz k).bind fun l=>(mc c l).bind fun m=>(mc m (⟨#[10]⟩)).bind fun n=>some n)) else ((cz b).bind fun o=>(mc o (⟨#[59]⟩)).bind fun p=>(dK a).bind fun q=>(mc p q).bind fun r=>(mc r (⟨#[59]⟩)).bind fun d=>(iB d).bind fun s=>(cz s).bind fun t=>(mc d t).bind fun u=>(mc u (⟨#[10]⟩)).bind fun v=>some v)) else (some ((⟨#[]⟩:ByteArray)))
def qc (b:ByteArray) (d:Int) (a:(List ByteArray)×Int×Int):Option (Out (List ByteArray) ((List ByteArray)×Int×Int)):=
 if decide (a.2.2<((b.size:Nat):Int)) then (Option.bind (((kL b a.2.2).bind fun e=>if e==d then ((tL b a.2.1 a.2.2).bind fun f=>(bA 16 a.1 ([f])).bind fun g=>some (g,i64.wrap (a.2.2+1))) else (some (a.1,a.2.1)):Option ((List ByteArray)×Int))) (fun c=>some (.nxt (c.1,c.2,i64.wrap (a.2.2+1))))) else (some (.brk (a.1,a.2.1,a.2.2)))
def iZ (a:ByteArray) (c:Int):Option (List ByteArray):=
 aO (al (qc a c) aW (([] :List ByteArray),0,0)) (fun d=>some d) (fun b=>(tL a b.2.1 ((a.size:Nat):Int)).bind fun e=>(bA 16 b.1 ([e])).bind fun f=>some f)
def jS (b:ByteArray) (a:Int×Int×Int):Option (Out (Int×Bool) Yq7):=
 if decide (a.2.2<((b.size:Nat):Int)) then (if decide (a.2.2<11) then (Option.bind (((kL b a.2.2).bind fun d=>if decide (d≥48) then ((kL b a.2.2).bind fun e=>if decide (e<=57) then ((kL b a.2.2).bind fun f=>some (i64.wrap ((i64.wrap (a.1*10))+(i64.wrap (IntKind.u8.wrap (f - 48)))),i64.wrap (a.2.1+1))) else (some (a.1,a.2.1))) else (some (a.1,a.2.1)):Option (Int×Int))) (fun c=>some (.nxt (c.1,c.2,i64.wrap (a.2.2+1))))) else (some (.brk (a.1,a.2.1,a.2.2)))) else (some (.brk (a.1,a.2.1,a.2.2)))
def iC (a:ByteArray):Option (Int×Bool):=
 aO (al (jS a) aW (0,0,0)) (fun e=>some e) (fun b=>if decide (((a.size:Nat):Int)>0) then ((kL a 0).bind fun f=>Option.bind ((if f==45 then (some (i64.wrap (-b.1))) else (some b.1):Option Int)) (fun c=>if decide (b.2.1>9) then (some (0,false)) else (if decide (((a.size:Nat):Int)>10) then (some (0,false)) else ((cz c).bind fun g=>if g !=a then (some (0,false)) else (some (c,true)))))) else (Option.bind ((some b.1:Option Int)) (fun d=>if decide (b.2.1>9) then (some (0,false)) else (if decide (((a.size:Nat):Int)>10) then (some (0,false)) else ((cz d).bind fun h=>if h !=a then (some (0,false)) else (some (d,true)))))))
def mu (b:ByteArray) (a:Int):Option (Out (Int×Bool) Int):=
 if decide (a<9) then ((ga a).bind fun c=>if c==b then (some (.ret (a,true))) else (some (.nxt (i64.wrap (a+1))))) else (some (.brk a))
def ic (a:ByteArray):Option (Int×Bool):=
 aO (al (mu a) aW 0) (fun r=>some r) (fun b=>some (0,false))
def iL (b:ByteArray):Option (Yq1×Bool):=
 (iZ b 58).bind fun a=>if (a.length:Int) !=2 then (some ((0,0,0,0),false)) else ((aU a 1).bind fun g=>if ((g.size:Nat):Int) !=3 then (some ((0,0,0,0),false)) else ((aU a 0).bind fun h=>(iC h).bind fun c=>(aU a 1).bind fun i=>(tL i 1 2).bind fun j=>(ic j).bind fun d=>(aU a 1).bind fun k=>(kL k 0).bind fun e=>(aU a 1).bind fun l=>(kL l 2).bind fun f=>(kT (c.1,i64.wrap ((i64.wrap e) - 48),i64.wrap ((i64.wrap f) - 48),Gp d.1 2)).bind fun m=>if m !=b then (some ((0,0,0,0),false)) else (some ((c.1,i64.wrap ((i64.wrap e) - 48),i64.wrap ((i64.wrap f) - 48),Gp d.1 2),true))))
def eC (c:List ByteArray) (a:Int×List Yq6):Option (Out ((List Yq6)×Bool) (Int×List Yq6)):=
 if decide (a.1<(c.length:Int)) then (if decide (a.1<=6) then ((aU c a.1).bind fun e=>if decide (((e.size:Nat):Int)<2) then (some (.ret (([] :List Yq6),false))) else ((aU c a.1).bind fun d=>(tL d 1 ((d.size:Nat):Int)).bind fun f=>(iL f).bind fun b=>if b.2 then ((aU c a.1).bind fun g=>(kL g 0).bind fun h=>(bA 40 a.2 ([(h==43,b.1.1,b.1.2.1,b.1.2.2.1,b.1.2.2.2)])).bind fun i=>some (.nxt (i64.wrap (a.1+1),i))) else (some (.ret (([] :List Yq6),false))))) else (some (.brk (a.1,a.2)))) else (some (.brk (a.1,a.2)))
def gF (a:ByteArray):Option ((List Yq6)×Bool):=
 if a==((⟨#[]⟩:ByteArray)) then (some (([] :List Yq6),true)) else ((iZ a 32).bind fun c=>aO (al (eC c) aW (0,([] :List Yq6))) (fun d=>some d) (fun b=>(dK b.2).bind fun e=>if e !=a then (some (([] :List Yq6),false)) else (some (b.2,true))))
def lr (d:ByteArray):Option (Int×((List (Bool×Yq1)))×Bool):=
 (iZ d 59).bind fun a=>if (a.length:Int) !=3 then (some (0,[],false)) else ((aU a 0).bind fun e=>(iC e).bind fun b=>(aU a 1).bind fun f=>(gF f).bind fun c=>if b.2 then (if c.2 then ((dQ b.1 c.1).bind fun g=>if g !=d then (some (0,[],false)) else (some (b.1,c.1,true))) else (some (0,[],false))) else (some (0,[],false)))
def bu (c:ByteArray) (a:(List Int)×(List (List Yq6))×Int×Int):Option (Out ((List Int)×(List (List Yq6))×Int) ((List Int)×(List (List Yq6))×Int×Int)):=
 if decide (a.2.2.2<((c.size:Nat):Int)) then (if decide (((c.size:Nat):Int)<=4000) then (yS (S:=(List Int)×(List (List Yq6))×Int) ((kL c a.2.2.2).bind fun e=>if e !=10 then (some (.inr (a.1,a.2.1,a.2.2.1))) else ((tL c a.2.2.1 (i64.wrap (a.2.2.2+1))).bind fun f=>(lr f).bind fun b=>if b.2.2 then (if decide ((a.1.length:Int)>0) then ((aU a.1 (i64.wrap ((a.1.length:Int) - 1))).bind fun g=>if b.1 !=(i64.wrap (g+1)) then (some (.inl (.ret (a.1,a.2.1,a.2.2.1)))) else ((bA 8 a.1 ([b.1])).bind fun h=>(bA 24 a.2.1 ([b.2.1])).bind fun i=>some (.inr (h,i,i64.wrap (a.2.2.2+1))))) else ((bA 8 a.1 ([b.1])).bind fun j=>(bA 24 a.2.1 ([b.2.1])).bind fun k=>some (.inr (j,k,i64.wrap (a.2.2.2+1))))) else (some (.inl (.ret (a.1,a.2.1,a.2.2.1)))))) (fun d=>some (.nxt (d.1,d.2.1,d.2.2,i64.wrap (a.2.2.2+1))))) else (some (.brk (a.1,a.2.1,a.2.2.1,a.2.2.2)))) else (some (.brk (a.1,a.2.1,a.2.2.1,a.2.2.2)))
def m_s_ScanLog (b:ByteArray):Option ((List Int)×(List (List Yq6))×Int):=
 aO (al (bu b) aW (([] :List Int),([] :List (List Yq6)),0,0)) (fun c=>some c) (fun a=>some (a.1,a.2.1,a.2.2.1))
def vc (a:(Int×Yq5)×Yq9×(List Yq7)×ByteArray):Option Bool:=
 (m_s_ScanLog a.2.2.2).bind fun b=>if b.2.2==(a.2.2.2.size:Int) then (if decide ((a.2.2.2.size:Int)<=4000) then (if (b.1.length:Int)==0 then (some true) else ((aU b.1 (i64.wrap ((b.1.length:Int) - 1))).bind fun c=>(aV (a.1.1,a.1.2)).bind fun d=>some (c==d))) else (some false)) else (some false)
def bW (a:(Int×Yq5)×Yq9×(List Yq7)×ByteArray):Option Bool:=
 (m_s_IsValidHistory (a.1.1,a.1.2)).bind fun b=>if b then ((m_s_IsValidRegistry (a.2.1.1,a.2.1.2)).bind fun c=>if c then ((rZ ((a.1.1,a.1.2),(a.2.1.1,a.2.1.2),a.2.2.1,a.2.2.2)).bind fun d=>if d then ((vc ((a.1.1,a.1.2),(a.2.1.1,a.2.1.2),a.2.2.1,a.2.2.2)).bind fun e=>some e) else (some false)) else (some false)) else (some false)
def cy (a:(List Int)×(List Yq1)):Option Gr:=
 (bA 8 ([] :List Int) a.1).bind fun b=>(bA 32 ([] :List Yq1) a.2).bind fun c=>some (b,c)
def fv (b:Int×Yq5) (a:Int×Int×Yq5):Option (Out (Int×Yq5) (Int×Int×Yq5)):=
 if decide (a.1<(b.2.length:Int)) then ((aU b.2 a.1).bind fun c=>(cy (c.1,c.2)).bind fun d=>(bA 48 a.2.2 ([(d.1,d.2)])).bind fun e=>some (.nxt (i64.wrap (a.1+1),a.2.1,e))) else (some (.brk (a.1,a.2.1,a.2.2)))
def lU (a:Int×Yq5):Option (Int×Yq5):=
 aO (al (fv a) aW (0,a.1,[])) (fun r=>some r) (fun b=>some (b.2.1,b.2.2))
def kU (b:Int×(List Bool)×(List (List Int))) (a:Int×Int×(List Bool)×(List (List Int))):Option (Out Yq2 (Int×Int×(List Bool)×(List (List Int)))):=
 if decide (a.1<(b.2.2.length:Int)) then ((aU b.2.2 a.1).bind fun c=>(bA 8 ([] :List Int) c).bind fun d=>(bA 24 a.2.2.2 ([d])).bind fun e=>some (.nxt (i64.wrap (a.1+1),a.2.1,a.2.2.1,e))) else (some (.brk (a.1,a.2.1,a.2.2.1,a.2.2.2)))
def po (a:Int×(List Bool)×(List (List Int))):Option Yq2:=
 (bA 1 ([] :List Bool) a.2.1).bind fun c=>aO (al (kU a) aW (0,a.1,c,[])) (fun r=>some r) (fun b=>some (b.2.1,b.2.2.1,b.2.2.2))
def kV (d:(List Yq2)×Yq3) (a:Int×(List Yq2)×Yq3):Option (Out Yq9 Ro):=
 if decide (a.1<(d.1.length:Int)) then ((aU d.1 a.1).bind fun b=>(po (b.1,b.2.1,b.2.2)).bind fun c=>(bA 56 a.2.1 ([(c.1,c.2.1,c.2.2)])).bind fun e=>some (.nxt (i64.wrap (a.1+1),e,a.2.2))) else (some (.brk (a.1,a.2.1,a.2.2)))
def kW (c:(List Yq2)×Yq3) (a:Int×(List Yq2)×Yq3):Option (Out Yq9 Ro):=
 if decide (a.1<(c.2.length:Int)) then ((aU c.2 a.1).bind fun b=>(fZ b.2.1).bind fun d=>(bA 40 a.2.2 ([(b.1,d,b.2.2)])).bind fun e=>some (.nxt (i64.wrap (a.1+1),a.2.1,e))) else (some (.brk (a.1,a.2.1,a.2.2)))
def iM (a:(List Yq2)×Yq3):Option Yq9:=
 aO (al (kV a) aW (0,[],[])) (fun r=>some r) (fun b=>aO (al (kW a) aW (0,b.2.1,b.2.2)) (fun r=>some r) (fun c=>some (c.2.1,c.2.2)))
def iN (a:(Int×Yq5)×Yq9×(List Yq7)×ByteArray):Option Ng:=
 (lU (a.1.1,a.1.2)).bind fun b=>(iM (a.2.1.1,a.2.1.2)).bind fun c=>(bA 24 ([] :List Yq7) a.2.2.1).bind fun d=>some ((b.1,b.2),(c.1,c.2),d,a.2.2.2)
def gO (b:(List Yq2)×Yq3) (c:Int) (a:Int):Option (Out (Yq9×Bool) Int):=
 if decide (a<(b.2.length:Int)) then ((aU b.2 a).bind fun d=>if decide (d.1<c) then (some (.nxt (i64.wrap (a+1)))) else (some (.brk a))) else (some (.brk a))
def cU (a:(List Yq2)×Yq3) (c:Int) (h:(List Yq1)):Option (Yq9×Bool):=
 (m_s_IsValidRegistry (a.1,a.2)).bind fun i=>if i then ((aS (a.1,a.2) c).bind fun j=>if decide (j≥0) then ((iM (a.1,a.2)).bind fun e=>some ((e.1,e.2),false)) else (aO (al (gO a c) aW 0) (fun r=>some r) (fun b=>(chk (0<=b/\b<=(a.2.length:Int))).bind fun _=>(bA 40 ([] :List B2) (a.2.take b.toNat)).bind fun k=>(bA 40 k ([(c,h,0)])).bind fun l=>(chk (0<=b/\b<=(a.2.length:Int))).bind fun _=>(bA 40 l (a.2.drop b.toNat)).bind fun m=>(bR m).bind fun d=>if d.2 then (some ((d.1.1,d.1.2),true)) else ((iM (a.1,a.2)).bind fun f=>some ((f.1,f.2),false))))) else ((iM (a.1,a.2)).bind fun g=>some ((g.1,g.2),false))
def c7 (b:(Int×Yq5)×Yq9×(List Yq7)×ByteArray) (d:Int) (e:(List Yq1)):Option (Ng×Bool):=
 (iN ((b.1.1,b.1.2),(b.2.1.1,b.2.1.2),b.2.2.1,b.2.2.2)).bind fun a=>(cU (b.2.1.1,b.2.1.2) d e).bind fun c=>(bW ((b.1.1,b.1.2),(b.2.1.1,b.2.1.2),b.2.2.1,b.2.2.2)).bind fun f=>if f then (if c.2 then (some (((a.1.1,a.1.2),(c.1.1,c.1.2),a.2.2.1,a.2.2.2),true)) else (some (((a.1.1,a.1.2),(a.2.1.1,a.2.1.2),a.2.2.1,a.2.2.2),false))) else (some (((a.1.1,a.1.2),(a.2.1.1,a.2.1.2),a.2.2.1,a.2.2.2),false))
def gG (b:List Yq7) (c:Int) (a:Int):Option (Out Int Int):=
 if decide (a<(b.length:Int)) then ((aU b a).bind fun d=>if d.1==c then (some (.ret a)) else (some (.nxt (i64.wrap (a+1))))) else (some (.brk a))
def lI (a:List Yq7) (b:Int):Option Int:=
 aO (al (gG a b) aW 0) (fun r=>some r) (fun c=>some (-1))
def cF (b:(Int×Yq5)×Yq9×(List Yq7)×ByteArray) (c:Int) (a:Int):Option (Out (Ng×Bool) Int):=
 if decide (a<(b.2.2.1.length:Int)) then ((aU b.2.2.1 a).bind fun d=>if decide (d.1<c) then (some (.nxt (i64.wrap (a+1)))) else (some (.brk a))) else (some (.brk a))
def cP (b:(Int×Yq5)×Yq9×(List Yq7)×ByteArray) (d:Int) (e:Int):Option (Ng×Bool):=
 (iN ((b.1.1,b.1.2),(b.2.1.1,b.2.1.2),b.2.2.1,b.2.2.2)).bind fun a=>(bW ((b.1.1,b.1.2),(b.2.1.1,b.2.1.2),b.2.2.1,b.2.2.2)).bind fun f=>if f then ((cD d 1 99).bind fun g=>if g then ((lI b.2.2.1 d).bind fun h=>if decide (h≥0) then (some (((a.1.1,a.1.2),(a.2.1.1,a.2.1.2),a.2.2.1,a.2.2.2),false)) else ((aS (b.2.1.1,b.2.1.2) e).bind fun i=>if decide (i<0) then (some (((a.1.1,a.1.2),(a.2.1.1,a.2.1.2),a.2.2.1,a.2.2.2),false)) else (if (b.2.2.1.length:Int)==4 then (some (((a.1.1,a.1.2),(a.2.1.1,a.2.1.2),a.2.2.1,a.2.2.2),false)) else (aO (al (cF b d) aW 0) (fun r=>some r) (fun c=>(chk (0<=c/\c<=(b.2.2.1.length:Int))).bind fun _=>(bA 24 ([] :List Yq7) (b.2.2.1.take c.toNat)).bind fun j=>(bA 24 j ([(d,e,0)])).bind fun k=>(chk (0<=c/\c<=(b.2.2.1.length:Int))).bind fun _=>(bA 24 k (b.2.2.1.drop c.toNat)).bind fun l=>some (((a.1.1,a.1.2),(a.2.1.1,a.2.1.2),l,a.2.2.2),true)))))) else (some (((a.1.1,a.1.2),(a.2.1.1,a.2.1.2),a.2.2.1,a.2.2.2),false))) else (some (((a.1.1,a.1.2),(a.2.1.1,a.2.1.2),a.2.2.1,a.2.2.2),false))
def gb (b:(List Int)×(List Yq1)) (c:Int) (a:Int):Option (Out Int Int):=
 if decide (a<(b.2.length:Int)) then ((aU b.2 a).bind fun d=>if d.1==c then (some (.ret a)) else (some (.nxt (i64.wrap (a+1))))) else (some (.brk a))
def dL (a:(List Int)×(List Yq1)) (b:Int):Option Int:=
 aO (al (gb a b) aW 0) (fun r=>some r) (fun c=>some (-1))
def ky (b:(List Int)×(List Yq1)) (c:Int×Int×Int×Int) (a:Int):Option (Out (Gr×Bool) Int):=
 if decide (a<(b.2.length:Int)) then ((aU b.2 a).bind fun d=>if decide (d.1<c.1) then (some (.nxt (i64.wrap (a+1)))) else (some (.brk a))) else (some (.brk a))
def nD (a:(List Int)×(List Yq1)) (b:Int×Int×Int×Int):Option (Gr×Bool):=
 (aT (a.1,a.2)).bind fun h=>if h then ((u7 (a.1,a.2) (b.1,b.2.1,b.2.2.1,b.2.2.2)).bind fun i=>if i then ((dL (a.1,a.2) b.1).bind fun j=>if decide (j≥0) then ((cy (a.1,a.2)).bind fun d=>some ((d.1,d.2),false)) else (if (a.2.length:Int)==12 then ((cy (a.1,a.2)).bind fun e=>some ((e.1,e.2),false)) else (aO (al (ky a b) aW 0) (fun r=>some r) (fun c=>(bA 8 ([] :List Int) a.1).bind fun k=>(chk (0<=c/\c<=(a.2.length:Int))).bind fun _=>(bA 32 ([] :List Yq1) (a.2.take c.toNat)).bind fun l=>(bA 32 l ([(b.1,b.2.1,b.2.2.1,b.2.2.2)])).bind fun m=>(chk (0<=c/\c<=(a.2.length:Int))).bind fun _=>(bA 32 m (a.2.drop c.toNat)).bind fun n=>some ((k,n),true))))) else ((cy (a.1,a.2)).bind fun f=>some ((f.1,f.2),false))) else ((cy (a.1,a.2)).bind fun g=>some ((g.1,g.2),false))
def nE (a:(List Int)×(List Yq1)) (e:Int):Option (Gr×Bool):=
 (dL (a.1,a.2) e).bind fun b=>(aT (a.1,a.2)).bind fun f=>if f then (if decide (b<0) then ((cy (a.1,a.2)).bind fun c=>some ((c.1,c.2),false)) else ((bA 8 ([] :List Int) a.1).bind fun g=>(chk (0<=b/\b<=(a.2.length:Int))).bind fun _=>(bA 32 ([] :List Yq1) (a.2.take b.toNat)).bind fun h=>(chk (0<=i64.wrap (b+1)/\i64.wrap (b+1)<=(a.2.length:Int))).bind fun _=>(bA 32 h (a.2.drop (i64.wrap (b+1)).toNat)).bind fun i=>some ((g,i),true))) else ((cy (a.1,a.2)).bind fun d=>some ((d.1,d.2),false))
def qK (c:(List Int)×(List Yq1)) (e:(List (Bool×Yq1))) (a:Int×(List Int)×(List Yq1)):Option (Out (Gr×Bool) (Int×(List Int)×(List Yq1))):=
 if decide (a.1<(e.length:Int)) then (if decide (a.1<=6) then (yS (S:=(List Int)×(List Yq1)) ((aU e a.1).bind fun b=>(aU e a.1).bind fun n=>if n.1 then ((nD (a.2.1,a.2.2) (b.2.1,b.2.2.1,b.2.2.2.1,b.2.2.2.2)).bind fun f=>if f.2 then (some (.inr (f.1.1,f.1.2))) else ((cy (c.1,c.2)).bind fun h=>some (.inl (.ret ((h.1,h.2),false))))) else ((dL (a.2.1,a.2.2) b.2.1).bind fun i=>if decide (i<0) then ((cy (c.1,c.2)).bind fun j=>some (.inl (.ret ((j.1,j.2),false)))) else ((aU a.2.2 i).bind fun d=>if (d.1==b.2.1)&&((d.2.1==b.2.2.1)&&((d.2.2.1==b.2.2.2.1)&&((d.2.2.2==b.2.2.2.2)&&true))) then ((nE (a.2.1,a.2.2) b.2.1).bind fun g=>if g.2 then (some (.inr (g.1.1,g.1.2))) else ((cy (c.1,c.2)).bind fun k=>some (.inl (.ret ((k.1,k.2),false))))) else ((cy (c.1,c.2)).bind fun l=>some (.inl (.ret ((l.1,l.2),false))))))) (fun m=>some (.nxt (i64.wrap (a.1+1),m.1,m.2)))) else (some (.brk (a.1,a.2.1,a.2.2)))) else (some (.brk (a.1,a.2.1,a.2.2)))
def fh (a:(List Int)×(List Yq1)) (d:(List (Bool×Yq1))):Option (Gr×Bool):=
 (cy (a.1,a.2)).bind fun b=>aO (al (qK a d) aW (0,b.1,b.2)) (fun r=>some r) (fun c=>some ((c.2.1,c.2.2),true))
def nF (a:(List Int)×(List Yq1)) (c:(List (Bool×Yq1))):Option (Gr×Bool):=
 (aT (a.1,a.2)).bind fun f=>if f then (if decide ((c.length:Int)>6) then ((cy (a.1,a.2)).bind fun d=>some ((d.1,d.2),false)) else ((fh (a.1,a.2) c).bind fun b=>some ((b.1.1,b.1.2),b.2))) else ((cy (a.1,a.2)).bind fun e=>some ((e.1,e.2),false))
def ig (b:Int×List yQ) (g:List Yq6):Option ((Int×List yQ)×Bool):=
 (lU (b.1,b.2)).bind fun a=>(m_s_IsValidHistory (b.1,b.2)).bind fun h=>if h then ((aV (b.1,b.2)).bind fun i=>if i==999 then (some ((a.1,a.2),false)) else ((aU b.2 (i64.wrap ((b.2.length:Int) - 1))).bind fun e=>(nF (e.1,e.2) g).bind fun d=>if d.2 then ((bA 48 a.2 ([(d.1.1,d.1.2)])).bind fun c=>Option.bind ((if decide ((c.length:Int)>8) then ((chk (And ((0:Int)<=1) (1<=(c.length:Int)))).bind fun _=>some (i64.wrap (a.1+1),c.drop 1)) else (some (a.1,c)):Option (Int×List yQ))) (fun f=>some ((f.1,f.2),true))) else (some ((a.1,a.2),false)))) else (some ((a.1,a.2),false))
def jT (b:(Int×List yQ)×PD×(List Yq7)×ByteArray) (d:List Yq6):Option (Yq4×Bool):=
 (iN ((b.1.1,b.1.2),(b.2.1.1,b.2.1.2),b.2.2.1,b.2.2.2)).bind fun a=>(bW ((b.1.1,b.1.2),(b.2.1.1,b.2.1.2),b.2.2.1,b.2.2.2)).bind fun f=>if f then ((ig (b.1.1,b.1.2) d).bind fun c=>if c.2 then ((aV (c.1.1,c.1.2)).bind fun g=>(dQ g d).bind fun e=>if decide ((i64.wrap (((b.2.2.2.size:Nat):Int)+((e.size:Nat):Int)))>4000) then (some (((a.1.1,a.1.2),(a.2.1.1,a.2.1.2),a.2.2.1,a.2.2.2),false)) else ((mc b.2.2.2 e).bind fun h=>some (((c.1.1,c.1.2),(a.2.1.1,a.2.1.2),a.2.2.1,h),true))) else (some (((a.1.1,a.1.2),(a.2.1.1,a.2.1.2),a.2.2.1,a.2.2.2),false))) else (some (((a.1.1,a.1.2),(a.2.1.1,a.2.1.2),a.2.2.1,a.2.2.2),false))
def cE (a:(List Int)×Int×Int) (c:Int):Option (Bool×Int×Int):=
 (aI (a.1,a.2.1,a.2.2) c).bind fun b=>some (b.1==0,b.2.1,b.2.2)
def rh (b:(List Int)×Int×Int) (k:(List Int)×List Yq1):Option (Yq1×Int×Int):=
 (aI (b.1,b.2.1,b.2.2) 40).bind fun e=>(aI (b.1,e.2.1,e.2.2) (Max.max 1 (k.1.length:Int))).bind fun c=>(aI (b.1,c.2.1,c.2.2) (Max.max 1 (k.1.length:Int))).bind fun f=>(aI (b.1,f.2.1,f.2.2) 3).bind fun g=>(aI (b.1,g.2.1,g.2.2) 16).bind fun a=>Option.bind ((if a.1==0 then ((bN (b.1,a.2.1,a.2.2) ([0,99,100])).bind fun h=>some (h.2.1,h.2.2,h.1,c.1,f.1,g.1)) else (if a.1==1 then ((bN (b.1,a.2.1,a.2.2) ([(-1),5])).bind fun i=>some (i.2.1,i.2.2,i64.wrap (1+e.1),c.1,i.1,g.1)) else (if a.1==2 then ((bN (b.1,a.2.1,a.2.2) ([(-1),3])).bind fun j=>some (j.2.1,j.2.2,i64.wrap (1+e.1),c.1,f.1,j.1)) else (some (a.2.1,a.2.2,i64.wrap (1+e.1),c.1,f.1,g.1)))):Option (Int×Int×Int×Int×Int×Int))) (fun d=>some ((d.2.2.1,d.2.2.2.1,d.2.2.2.2.1,d.2.2.2.2.2),d.1,d.2.1))
def je (i:(List Int)×Int×Int) (a:Int×Int×Int×(List Int)×(List Yq1)×List Yq6):Option (Out ((List Yq6)×Int×Int) (Int×Int×Int×(List Int)×(List Yq1)×List Yq6)):=
 if decide (a.1>0) then (Option.bind (((rh (i.1,a.2.1,a.2.2.1) (a.2.2.2.1,a.2.2.2.2.1)).bind fun h=>if decide ((a.2.2.2.2.1.length:Int)>0) then ((cE (i.1,h.2.1,h.2.2) 2).bind fun j=>Option.bind ((if j.1 then ((aI (i.1,j.2.1,j.2.2) (a.2.2.2.2.1.length:Int)).bind fun y=>(aU a.2.2.2.2.1 y.1).bind fun x=>some (y.2.1,y.2.2,false,x.1,x.2.1,x.2.2.1,x.2.2.2)) else (some (j.2.1,j.2.2,true,h.1.1,h.1.2.1,h.1.2.2.1,h.1.2.2.2)):Option (Int×Int×Bool×Int×Int×Int×Int))) (fun b=>if decide ((a.2.2.2.2.2.length:Int)>0) then ((cE (i.1,b.1,b.2.1) 4).bind fun k=>Option.bind ((if k.1 then ((aU a.2.2.2.2.2 (i64.wrap ((a.2.2.2.2.2.length:Int) - 1))).bind fun l=>some (cond.match_1 (fun (H:Bool)=>Bool) l.1 (fun (I:Unit)=>false) (fun (J:Unit)=>true),l.2.1,l.2.2.1,l.2.2.2.1,l.2.2.2.2)) else (some (b.2.2.1,b.2.2.2.1,b.2.2.2.2.1,b.2.2.2.2.2.1,b.2.2.2.2.2.2)):Option Yq6)) (fun d=>(fh (a.2.2.2.1,a.2.2.2.2.1) ([(d.1,d.2.1,d.2.2.1,d.2.2.2.1,d.2.2.2.2)])).bind fun m=>if m.2 then ((bA 40 a.2.2.2.2.2 ([(d.1,d.2.1,d.2.2.1,d.2.2.2.1,d.2.2.2.2)])).bind fun z=>some (k.2.1,k.2.2,m.1.1,m.1.2,z)) else ((cE (i.1,k.2.1,k.2.2) 12).bind fun n=>if n.1 then ((bA 40 a.2.2.2.2.2 ([(d.1,d.2.1,d.2.2.1,d.2.2.2.1,d.2.2.2.2)])).bind fun A=>some (n.2.1,n.2.2,m.1.1,m.1.2,A)) else (some (n.2.1,n.2.2,a.2.2.2.1,a.2.2.2.2.1,a.2.2.2.2.2))))) else (Option.bind ((some (b.2.2.1,b.2.2.2.1,b.2.2.2.2.1,b.2.2.2.2.2.1,b.2.2.2.2.2.2):Option Yq6)) (fun e=>(fh (a.2.2.2.1,a.2.2.2.2.1) ([(e.1,e.2.1,e.2.2.1,e.2.2.2.1,e.2.2.2.2)])).bind fun o=>if o.2 then ((bA 40 a.2.2.2.2.2 ([(e.1,e.2.1,e.2.2.1,e.2.2.2.1,e.2.2.2.2)])).bind fun B=>some (b.1,b.2.1,o.1.1,o.1.2,B)) else ((cE (i.1,b.1,b.2.1) 12).bind fun p=>if p.1 then ((bA 40 a.2.2.2.2.2 ([(e.1,e.2.1,e.2.2.1,e.2.2.2.1,e.2.2.2.2)])).bind fun C=>some (p.2.1,p.2.2,o.1.1,o.1.2,C)) else (some (p.2.1,p.2.2,a.2.2.2.1,a.2.2.2.2.1,a.2.2.2.2.2))))))) else (Option.bind ((some (h.2.1,h.2.2,true,h.1.1,h.1.2.1,h.1.2.2.1,h.1.2.2.2):Option (Int×Int×Bool×Int×Int×Int×Int))) (fun c=>if decide ((a.2.2.2.2.2.length:Int)>0) then ((cE (i.1,c.1,c.2.1) 4).bind fun q=>Option.bind ((if q.1 then ((aU a.2.2.2.2.2 (i64.wrap ((a.2.2.2.2.2.length:Int) - 1))).bind fun r=>some (cond.match_1 (fun (K:Bool)=>Bool) r.1 (fun (L:Unit)=>false) (fun (M:Unit)=>true),r.2.1,r.2.2.1,r.2.2.2.1,r.2.2.2.2)) else (some (c.2.2.1,c.2.2.2.1,c.2.2.2.2.1,c.2.2.2.2.2.1,c.2.2.2.2.2.2)):Option Yq6)) (fun f=>(fh (a.2.2.2.1,a.2.2.2.2.1) ([(f.1,f.2.1,f.2.2.1,f.2.2.2.1,f.2.2.2.2)])).bind fun s=>if s.2 then ((bA 40 a.2.2.2.2.2 ([(f.1,f.2.1,f.2.2.1,f.2.2.2.1,f.2.2.2.2)])).bind fun D=>some (q.2.1,q.2.2,s.1.1,s.1.2,D)) else ((cE (i.1,q.2.1,q.2.2) 12).bind fun t=>if t.1 then ((bA 40 a.2.2.2.2.2 ([(f.1,f.2.1,f.2.2.1,f.2.2.2.1,f.2.2.2.2)])).bind fun E=>some (t.2.1,t.2.2,s.1.1,s.1.2,E)) else (some (t.2.1,t.2.2,a.2.2.2.1,a.2.2.2.2.1,a.2.2.2.2.2))))) else (Option.bind ((some (c.2.2.1,c.2.2.2.1,c.2.2.2.2.1,c.2.2.2.2.2.1,c.2.2.2.2.2.2):Option Yq6)) (fun g=>(fh (a.2.2.2.1,a.2.2.2.2.1) ([(g.1,g.2.1,g.2.2.1,g.2.2.2.1,g.2.2.2.2)])).bind fun u=>if u.2 then ((bA 40 a.2.2.2.2.2 ([(g.1,g.2.1,g.2.2.1,g.2.2.2.1,g.2.2.2.2)])).bind fun F=>some (c.1,c.2.1,u.1.1,u.1.2,F)) else ((cE (i.1,c.1,c.2.1) 12).bind fun v=>if v.1 then ((bA 40 a.2.2.2.2.2 ([(g.1,g.2.1,g.2.2.1,g.2.2.2.1,g.2.2.2.2)])).bind fun G=>some (v.2.1,v.2.2,u.1.1,u.1.2,G)) else (some (v.2.1,v.2.2,a.2.2.2.1,a.2.2.2.2.1,a.2.2.2.2.2))))))):Option (Int×Int×(List Int)×(List Yq1)×List Yq6))) (fun w=>some (.nxt (i64.wrap (a.1 - 1),w.1,w.2.1,w.2.2.1,w.2.2.2.1,w.2.2.2.2)))) else (some (.brk (a.1,a.2.1,a.2.2.1,a.2.2.2.1,a.2.2.2.2.1,a.2.2.2.2.2)))
def lJ (a:(List Int)×Int×Int) (d:(List Int)×List Yq1) (f:Int):Option ((List Yq6)×Int×Int):=
 (cy (d.1,d.2)).bind fun e=>(aI (a.1,a.2.1,a.2.2) (i64.wrap (f+1))).bind fun b=>aO (al (je a) aW (b.1,b.2.1,b.2.2,e.1,e.2,([] :List Yq6))) (fun g=>some g) (fun c=>some (c.2.2.2.2.2,c.2.1,c.2.2.1))
def eL (c:(List Int)×Int×Int) (a:Int×Int×Int×(List Int)×List Yq1):Option (Out (yQ×Int×Int) (Int×Int×Int×(List Int)×List Yq1)):=
 if decide (a.1>0) then ((aI (c.1,a.2.1,a.2.2.1) 3).bind fun b=>(bA 8 a.2.2.2.1 ([b.1])).bind fun d=>some (.nxt (i64.wrap (a.1 - 1),b.2.1,b.2.2,d,a.2.2.2.2))) else (some (.brk (a.1,a.2.1,a.2.2.1,a.2.2.2.1,a.2.2.2.2)))
def gH (b:(List Int)×Int×Int) (a:Int×Int×Int×Int×(List Int)×List Yq1):Option (Out (yQ×Int×Int) (Int×Int×Int×Int×(List Int)×List Yq1)):=
 if decide (a.2.1>0) then ((aI (b.1,a.2.2.1,a.2.2.2.1) 3).bind fun c=>(aI (b.1,c.2.1,c.2.2) (a.2.2.2.2.1.length:Int)).bind fun d=>(aI (b.1,d.2.1,d.2.2) (a.2.2.2.2.1.length:Int)).bind fun e=>(bN (b.1,e.2.1,e.2.2) ([0,0,1,2])).bind fun f=>(bA 32 a.2.2.2.2.2 ([(i64.wrap ((i64.wrap (a.1+1))+c.1),d.1,e.1,f.1)])).bind fun g=>some (.nxt (i64.wrap ((i64.wrap (a.1+1))+c.1),i64.wrap (a.2.1 - 1),f.2.1,f.2.2,a.2.2.2.2.1,g))) else (some (.brk (a.1,a.2.1,a.2.2.1,a.2.2.2.1,a.2.2.2.2.1,a.2.2.2.2.2)))
def jU (a:(List Int)×Int×Int):Option (yQ×Int×Int):=
 (bN (a.1,a.2.1,a.2.2) ([2,3,4,4,5])).bind fun d=>aO (al (eL a) aW (d.1,d.2.1,d.2.2,([] :List Int),([] :List Yq1))) (fun g=>some g) (fun b=>(bN (a.1,b.2.1,b.2.2.1) ([4,8,11])).bind fun e=>(aI (a.1,e.2.1,e.2.2) e.1).bind fun f=>aO (al (gH a) aW (0,f.1,f.2.1,f.2.2,b.2.2.2.1,b.2.2.2.2)) (fun h=>some h) (fun c=>some ((c.2.2.2.2.1,c.2.2.2.2.2),c.2.2.1,c.2.2.2.1)))
def gI (b:(List Int)×(List Yq1)) (c:Int):Option ((Int×Yq5)×Bool):=
 (cy (b.1,b.2)).bind fun a=>(m_s_IsValidHistory (c,[(a.1,a.2)])).bind fun d=>if d then (some ((c,[(a.1,a.2)]),true)) else (some ((0,[]),false))
def oC (b:(List Int)×(List Yq1)):Option (Ng×Bool):=
 (gI (b.1,b.2) 1).bind fun a=>if a.2 then (some (((a.1.1,a.1.2),([],[]),[],⟨#[]⟩),true)) else (some (((0,[]),([],[]),[],⟨#[]⟩),false))
def B4 (a:Int×Int×Int×Int):Option ByteArray:=
 if a.1==1 then (some (⟨#[33]⟩)) else (if a.1==2 then (some (⟨#[40,41]⟩)) else (if a.1==3 then ((ga a.2.1).bind fun b=>some b) else (if a.1==4 then (some (⟨#[46]⟩)) else (if a.1==5 then (some (⟨#[124]⟩)) else (if a.1==6 then (some (⟨#[42]⟩)) else ((cz a.2.2.1).bind fun c=>(mc (⟨#[123]⟩) c).bind fun d=>(mc d (⟨#[44]⟩)).bind fun e=>(cz a.2.2.2).bind fun f=>(mc e f).bind fun g=>(mc g (⟨#[125]⟩)).bind fun h=>some h))))))
def Fx (b:ByteArray) (a:Int):Option (Out Yq1 Int):=
 if decide (a<=6) then (if a !=3 then ((B4 (a,0,0,0)).bind fun c=>if c==b then (some (.ret (a,0,0,0))) else (some (.nxt (i64.wrap (a+1))))) else (some (.nxt (i64.wrap (a+1))))) else (some (.brk a))
def D0 (a:ByteArray):Option Yq1:=
 aO (al (Fx a) aW 1) (fun c=>some c) (fun i=>(ic a).bind fun b=>if b.2 then (some (3,b.1,0,0)) else (if ((a.size:Nat):Int)==5 then ((kL a 0).bind fun d=>if d==123 then ((kL a 2).bind fun e=>if e==44 then ((kL a 4).bind fun f=>if f==125 then ((kL a 1).bind fun g=>(kL a 3).bind fun h=>some (7,0,i64.wrap ((i64.wrap g) - 48),i64.wrap ((i64.wrap h) - 48))) else (some (0,0,0,0))) else (some (0,0,0,0))) else (some (0,0,0,0))) else (some (0,0,0,0))))
def AC (c:List ByteArray) (a:Int×(List Yq1)):Option (Out (((List Yq1))×Bool) (Int×(List Yq1))):=
 if decide (a.1<(c.length:Int)) then (if decide (a.1<=24) then ((aU c a.1).bind fun d=>(D0 d).bind fun b=>(bA 32 a.2 ([(b.1,b.2.1,b.2.2.1,b.2.2.2)])).bind fun e=>some (.nxt (i64.wrap (a.1+1),e))) else (some (.brk (a.1,a.2)))) else (some (.brk (a.1,a.2)))
def kz (b:ByteArray):Option (((List Yq1))×Bool):=
 (iZ b 32).bind fun c=>aO (al (AC c) aW (0,[])) (fun r=>some r) (fun a=>(jO a.2).bind fun d=>if d then (some (a.2,true)) else (some ([],false)))
def vd (a:(List Int)×Int×Int) (c:List ByteArray):Option (ByteArray×Int×Int):=
 (aI (a.1,a.2.1,a.2.2) (c.length:Int)).bind fun b=>(aU c b.1).bind fun d=>some (d,b.2.1,b.2.2)
def na (a:(List Int)×Int×Int):Option ((List Yq1)×Int×Int):=
 (vd (a.1,a.2.1,a.2.2) ([⟨#[97]⟩,⟨#[97,32,98,32,46]⟩,⟨#[97,32,42]⟩,⟨#[97,32,98,32,124,32,42]⟩,⟨#[97,32,97,45,32,46]⟩,⟨#[97,32,42,32,98,32,46]⟩,⟨#[97,32,98,32,42,32,46,32,99,32,46]⟩,⟨#[97,32,97,32,124,32,42]⟩,⟨#[97,32,98,32,46,32,42]⟩,⟨#[48,32,97,32,46,32,42]⟩,⟨#[97,32,49,32,46,32,98,32,46]⟩,⟨#[97,32,123,48,44,50,125]⟩,⟨#[97,32,98,32,124,32,123,49,44,51,125]⟩,⟨#[40,41]⟩,⟨#[33]⟩,⟨#[97,45,32,42,32,97,32,46]⟩,⟨#[97,32,98,45,32,46,32,42,32,99,32,124]⟩,⟨#[97,32,42,32,97,32,42,32,46]⟩,⟨#[97,32,48,32,124,32,42,32,98,32,46]⟩,⟨#[97,32,97,32,46,32,42]⟩,⟨#[97,32,98,32,46,32,98,32,97,32,46,32,124,32,42]⟩])).bind fun b=>(kz b.1).bind fun c=>some (c.1,b.2.1,b.2.2)
def pq (a:Int×Yq5) (b:(List Yq2)×Yq3) (c:Int×Int×Int):Option Bool:=
 (m_s_IsValidHistory (a.1,a.2)).bind fun d=>if d then ((m_s_IsValidRegistry (b.1,b.2)).bind fun e=>if e then ((aS (b.1,b.2) c.2.1).bind fun f=>if decide (f≥0) then (if decide (c.2.2≥0) then ((aV (a.1,a.2)).bind fun g=>some (decide (c.2.2<g))) else (some false)) else (some false)) else (some false)) else (some false)
def jV (a:Int×Yq5) (b:Int):Option (Gr×Bool):=
 (m_s_IsValidHistory (a.1,a.2)).bind fun e=>if e then ((aV (a.1,a.2)).bind fun f=>(cD b a.1 f).bind fun g=>if g then ((aU a.2 (i64.wrap (b - a.1))).bind fun c=>(cy (c.1,c.2)).bind fun d=>some ((d.1,d.2),true)) else (some (([],[]),false))) else (some (([],[]),false))
def ju (a:(List Yq2)×Yq3) (e:Int):Option (Yq2×Bool):=
 (aS (a.1,a.2) e).bind fun d=>(m_s_IsValidRegistry (a.1,a.2)).bind fun f=>if f then (if decide (d<0) then (some ((0,[],[]),false)) else ((aU a.2 d).bind fun g=>(aU a.1 g.2.2).bind fun b=>(po (b.1,b.2.1,b.2.2)).bind fun c=>some ((c.1,c.2.1,c.2.2),true))) else (some ((0,[],[]),false))
def jf (b:Int×(List Bool)×(List (List Int))) (c:Int) (a:Int):Option (Out Bool Int):=
 if decide (a<9) then ((aU b.2.2 c).bind fun d=>(aU d a).bind fun e=>(cD e (-1) (i64.wrap ((b.2.1.length:Int) - 1))).bind fun f=>if f then (some (.nxt (i64.wrap (a+1)))) else (some (.ret false))) else (some (.brk a))
def nG (b:Int×(List Bool)×(List (List Int))) (a:Int):Option (Out Bool Int):=
 if decide (a<(b.2.1.length:Int)) then ((aU b.2.2 a).bind fun c=>if (c.length:Int) !=9 then (some (.ret false)) else (aO (al (jf b a) aW 0) (fun r=>some (.ret r)) (fun d=>some (.nxt (i64.wrap (a+1)))))) else (some (.brk a))
def pv (a:Int×(List Bool)×(List (List Int))):Option Bool:=
 (cD a.1 0 (i64.wrap ((a.2.1.length:Int) - 1))).bind fun b=>if b then (if (a.2.2.length:Int) !=(a.2.1.length:Int) then (some false) else (aO (al (nG a) aW 0) (fun r=>some r) (fun c=>some true))) else (some false)
def gP (a:Int×(List Bool)×(List (List Int))):Option Bool:=
 if decide ((a.2.1.length:Int)<=12) then ((pv (a.1,a.2.1,a.2.2)).bind fun b=>some b) else (some false)
def sb (b:(List Int)×(List Yq1)) (a:Int×(List Bool)×(List (List Int))) (c:Int) (d:Int):Option Bool:=
 (aT (b.1,b.2)).bind fun e=>if e then ((gP (a.1,a.2.1,a.2.2)).bind fun f=>if f then ((cD c 0 (i64.wrap ((b.1.length:Int) - 1))).bind fun g=>if g then ((cD d 0 (i64.wrap ((a.2.1.length:Int) - 1))).bind fun h=>some h) else (some false)) else (some false)) else (some false)
def ij (b:Int×(List Bool)×(List (List Int))) (c:Int) (a:Int×Int):Option (Out Int (Int×Int)):=
 if decide (a.1≥0) then ((chk (0<=a.1)).bind fun _=>if (rM (pU a.2 a.1) 1)==0 then ((chk (0<=a.1)).bind fun _=>(aU b.2.2 a.1).bind fun d=>(aU d (i64.wrap (6+c))).bind fun e=>some (.nxt (e,orI a.2 (C7 1 a.1)))) else (some (.brk (a.1,a.2)))) else (some (.brk (a.1,a.2)))
def dE (a:Int×(List Bool)×(List (List Int))) (b:Int) (c:Int):Option Int:=
 aO (al (ij a c) aW (b,0)) (fun r=>some r) (fun d=>some d.2)
def mw (b:(List Int)×(List Yq1)) (c:Int) (a:(List (Int×Bool))×Int):Option (Out (List (Int×Bool)) ((List (Int×Bool))×Int)):=
 if decide (a.2<(b.2.length:Int)) then (Option.bind ((Option.bind (((aU b.2 a.2).bind fun e=>if e.2.1==c then ((aU b.2 a.2).bind fun f=>(bA 16 a.1 ([(f.1,false)])).bind fun g=>some g) else (some a.1):Option (List (Int×Bool)))) (fun d=>(aU b.2 a.2).bind fun h=>if h.2.2.1==c then ((aU b.2 a.2).bind fun i=>(bA 16 d ([(i.1,true)])).bind fun j=>some j) else (some d)):Option (List (Int×Bool)))) (fun k=>some (.nxt (k,i64.wrap (a.2+1))))) else (some (.brk (a.1,a.2)))
def ri (a:(List Int)×(List Yq1)) (b:Int):Option (List (Int×Bool)):=
 aO (al (mw a b) aW (([] :List (Int×Bool)),0)) (fun r=>some r) (fun c=>some c.1)
def iO (a:Int×Int×Int×Int) (b:Bool):Option Int:=
 if b then (some (i64.wrap ((i64.wrap (2*a.2.2.2))+1))) else (some (i64.wrap (2*a.2.2.2)))
def pw (a:Int×Int×Int×Int) (b:Bool):Option Int:=
 if b then (some a.2.1) else (some a.2.2.1)
def jW (d:Int×(List Bool)×(List (List Int))) (e:Int) (f:List (Int×Bool)) (g:PE×Int) (b:Int×Int×Int×Int) (a:Int×Int):Option (Out PE (Int×Int)):=
 if decide (a.2<(d.2.1.length:Int)) then (Option.bind (((aU d.2.2 a.2).bind fun h=>(aU f g.2).bind fun i=>(iO (b.1,b.2.1,b.2.2.1,b.2.2.2) i.2).bind fun j=>(aU h j).bind fun c=>(chk (0<=a.2)).bind fun _=>if (rM (pU e a.2) 1)==1 then (if decide (c≥0) then ((chk (0<=c)).bind fun _=>some (orI a.1 (C7 1 c))) else (some a.1)) else (some a.1):Option Int)) (fun k=>some (.nxt (k,i64.wrap (a.2+1))))) else (some (.brk (a.1,a.2)))
def jX (f:Int×(List Bool)×(List (List Int))) (c:List (Int×Bool)) (d:PE×Int) (b:Int×Int×Int×Int) (g:Int×Int) (a:PE×Int):Option (Out PE (PE×Int)):=
 if decide (a.2<(f.2.1.length:Int)) then (Option.bind (((chk (0<=a.2)).bind fun _=>if (rM (pU g.1 a.2) 1)==1 then ((aU c d.2).bind fun e=>(aU c d.2).bind fun h=>(pw (b.1,b.2.1,b.2.2.1,b.2.2.2) h.2).bind fun i=>(bA 32 a.1 ([((e.1,e.2),i,a.2)])).bind fun j=>some j) else (some a.1):Option PE)) (fun k=>some (.nxt (k,i64.wrap (a.2+1))))) else (some (.brk (a.1,a.2)))
def jY (c:(List Int)×(List Yq1)) (d:Int×(List Bool)×(List (List Int))) (f:Int) (b:List (Int×Bool)) (a:PE×Int):Option (Out PE (PE×Int)):=
 if decide (a.2<(b.length:Int)) then ((aU b a.2).bind fun g=>(dL (c.1,c.2) g.1).bind fun h=>(aU c.2 h).bind fun e=>aO (al (jW d f b a e) aW (0,0)) (fun r=>some (.ret r)) (fun i=>aO (al (jX d b a e i) aW (a.1,0)) (fun r=>some (.ret r)) (fun j=>some (.nxt (j.1,i64.wrap (a.2+1)))))) else (some (.brk (a.1,a.2)))
def nS (a:(List Int)×(List Yq1)) (b:Int×(List Bool)×(List (List Int))) (c:Int) (d:Int):Option PE:=
 (aU a.1 c).bind fun e=>(dE (b.1,b.2.1,b.2.2) d e).bind fun f=>(ri (a.1,a.2) c).bind fun g=>aO (al (jY a b f g) aW (([] :List ((Int×Bool)×Int×Int)),0)) (fun r=>some r) (fun h=>some h.1)
def jZ (b:(List Int)×(List Yq1)) (c:Int×(List Bool)×(List (List Int))) (a:(List Int)×Int):Option XJ:=
 if decide (a.2<i64.wrap ((b.1.length:Int)*(c.2.1.length:Int))) then ((bA 8 a.1 ([-1])).bind fun d=>some (.nxt (d,i64.wrap (a.2+1)))) else (some (.brk (a.1,a.2)))
def j4 (b:Int×(List Bool)×(List (List Int))) (g:(List Int)×(List Int)×Int) (e:List ((Int×Bool)×Int×Int)) (a:(List Int)×(List Int)×Int):Option (Out (List Int) ((List Int)×(List Int)×Int)):=
 if decide (a.2.2<(e.length:Int)) then (Option.bind (((aU e a.2.2).bind fun c=>(aU e a.2.2).bind fun d=>(aU a.1 (i64.wrap ((i64.wrap (c.2.1*(b.2.1.length:Int)))+d.2.2))).bind fun h=>if decide (h<0) then ((aU a.2.1 g.2.2).bind fun i=>(aU a.1 i).bind fun j=>(aU a.1 (i64.wrap ((i64.wrap (c.2.1*(b.2.1.length:Int)))+d.2.2))).bind fun l=>(bA 8 a.2.1 ([i64.wrap ((i64.wrap (c.2.1*(b.2.1.length:Int)))+d.2.2)])).bind fun k=>some (a.1.set (i64.wrap ((i64.wrap (c.2.1*(b.2.1.length:Int)))+d.2.2)).toNat (i64.wrap (j+1)),k)) else (some (a.1,a.2.1)):Option ((List Int)×(List Int)))) (fun f=>some (.nxt (f.1,f.2,i64.wrap (a.2.2+1))))) else (some (.brk (a.1,a.2.1,a.2.2)))
def j5 (c:(List Int)×(List Yq1)) (b:Int×(List Bool)×(List (List Int))) (a:(List Int)×(List Int)×Int):Option (Out (List Int) ((List Int)×(List Int)×Int)):=
 if decide (a.2.2<(a.2.1.length:Int)) then ((aU a.2.1 a.2.2).bind fun e=>(chk ((b.2.1.length:Int)≠0)).bind fun _=>(aU a.2.1 a.2.2).bind fun f=>(chk ((b.2.1.length:Int)≠0)).bind fun _=>(nS (c.1,c.2) (b.1,b.2.1,b.2.2) (Gp e (b.2.1.length:Int)) (Int.tmod f (b.2.1.length:Int))).bind fun g=>aO (al (j4 b a g) aW (a.1,a.2.1,0)) (fun r=>some (.ret r)) (fun d=>some (.nxt (d.1,d.2.1,i64.wrap (a.2.2+1))))) else (some (.brk (a.1,a.2.1,a.2.2)))
def nT (b:(List Int)×(List Yq1)) (a:Int×(List Bool)×(List (List Int))) (c:Int):Option (List Int):=
 aO (al (jZ b a) aW (([] :List Int),0)) (fun r=>some r) (fun d=>(aU ([i64.wrap ((i64.wrap (c*(a.2.1.length:Int)))+a.1)]) 0).bind fun e=>(aU d.1 e).bind fun g=>aO (al (j5 b a) aW (d.1.set e.toNat 0,[i64.wrap ((i64.wrap (c*(a.2.1.length:Int)))+a.1)],0)) (fun r=>some r) (fun f=>some f.1))
def il (b:Int×(List Bool)×(List (List Int))) (c:Int) (a:Int):Option (Out Bool Int):=
 if decide (a<(b.2.1.length:Int)) then ((chk (0<=a)).bind fun _=>if (rM (pU c a) 1)==1 then ((aU b.2.1 a).bind fun d=>if d then (some (.ret true)) else (some (.nxt (i64.wrap (a+1))))) else (some (.nxt (i64.wrap (a+1))))) else (some (.brk a))
def kX (b:(List Int)×(List Yq1)) (a:Int×(List Bool)×(List (List Int))) (c:Int) (d:Int):Option Bool:=
 (aU b.1 c).bind fun e=>(dE (a.1,a.2.1,a.2.2) d e).bind fun f=>aO (al (il a f) aW 0) (fun r=>some r) (fun g=>some false)
def nU (b:Int) (a:(List Int)×Int):Option XJ:=
 if decide (a.2<30) then (Option.bind (((chk (0<=a.2)).bind fun _=>if (rM (pU b a.2) 1)==1 then ((bA 8 a.1 ([a.2])).bind fun c=>some c) else (some a.1):Option (List Int))) (fun d=>some (.nxt (d,i64.wrap (a.2+1))))) else (some (.brk (a.1,a.2)))
def xP (a:Int):Option (List Int):=
 aO (al (nU a) aW (([] :List Int),0)) (fun r=>some r) (fun b=>some b.1)
def kY (c:(List Int)×(List Yq1)) (b:Int×(List Bool)×(List (List Int))) (d:List Int) (a:Int×Int):Option (Out (List Int) (Int×Int)):=
 if decide (a.2<(d.length:Int)) then (Option.bind (((aU d a.2).bind fun e=>if decide (e≥0) then ((chk ((b.2.1.length:Int)≠0)).bind fun _=>(chk ((b.2.1.length:Int)≠0)).bind fun _=>(kX (c.1,c.2) (b.1,b.2.1,b.2.2) (Gp a.2 (b.2.1.length:Int)) (Int.tmod a.2 (b.2.1.length:Int))).bind fun f=>if f then ((chk ((b.2.1.length:Int)≠0)).bind fun _=>(chk (0<=Gp a.2 (b.2.1.length:Int))).bind fun _=>some (orI a.1 (C7 1 (Gp a.2 (b.2.1.length:Int))))) else (some a.1)) else (some a.1):Option Int)) (fun g=>some (.nxt (g,i64.wrap (a.2+1))))) else (some (.brk (a.1,a.2)))
def sd (b:(List Int)×(List Yq1)) (a:Int×(List Bool)×(List (List Int))) (c:Int):Option (List Int):=
 (nT (b.1,b.2) (a.1,a.2.1,a.2.2) c).bind fun d=>aO (al (kY b a d) aW (0,0)) (fun r=>some r) (fun e=>(xP e.1).bind fun f=>some f)
def nc (c:tl×Int) (b:List Int) (a:tl×Int):Option (Out tl (tl×Int)):=
 if decide (a.2<(b.length:Int)) then ((aU b a.2).bind fun d=>(bA 16 a.1 ([(c.2,d)])).bind fun e=>some (.nxt (e,i64.wrap (a.2+1)))) else (some (.brk (a.1,a.2)))
def eD (c:(List Int)×(List Yq1)) (b:Int×(List Bool)×(List (List Int))) (a:tl×Int):Option (Out tl (tl×Int)):=
 if decide (a.2<(c.1.length:Int)) then ((sb (c.1,c.2) (b.1,b.2.1,b.2.2) 0 0).bind fun d=>if d then ((sd (c.1,c.2) (b.1,b.2.1,b.2.2) a.2).bind fun e=>aO (al (nc a e) aW (a.1,0)) (fun r=>some (.ret r)) (fun f=>some (.nxt (f.1,i64.wrap (a.2+1))))) else (some (.brk (a.1,a.2)))) else (some (.brk (a.1,a.2)))
def nH (a:(List Int)×(List Yq1)) (b:Int×(List Bool)×(List (List Int))):Option tl:=
 aO (al (eD a b) aW (([] :List (Int×Int)),0)) (fun r=>some r) (fun c=>some c.1)
def dR (c:(List Yq2)×Yq3) (a:(List Int)×(List Yq1)) (d:Int):Option (tl×Bool):=
 (ju (c.1,c.2) d).bind fun b=>if b.2 then ((aT (a.1,a.2)).bind fun e=>if e then ((nH (a.1,a.2) (b.1.1,b.1.2.1,b.1.2.2)).bind fun f=>some (f,true)) else (some (([] :List (Int×Int)),false))) else (some (([] :List (Int×Int)),false))
def oD (b:List (Int×Int)) (c:Int×Int) (a:Int):Option (Out Bool Int):=
 if decide (a<(b.length:Int)) then ((aU b a).bind fun d=>if ((d.1==c.1)&&((d.2==c.2)&&true)) then (some (.ret true)) else (some (.nxt (i64.wrap (a+1))))) else (some (.brk a))
def ve (a:List (Int×Int)) (b:Int×Int):Option Bool:=
 aO (al (oD a b) aW 0) (fun r=>some r) (fun c=>some false)
def si (a:Int×Int) (b:Int×Int):Option Bool:=
 if decide (a.1<b.1) then (some true) else (if a.1==b.1 then (some (decide (a.2<b.2))) else (some false))
def oE (b:List (Int×Int)) (c:Int×Int) (a:Int):Option (Out tl Int):=
 if decide (a<(b.length:Int)) then ((aU b a).bind fun d=>(si (d.1,d.2) (c.1,c.2)).bind fun e=>if e then (some (.nxt (i64.wrap (a+1)))) else (some (.brk a))) else (some (.brk a))
def vf (a:List (Int×Int)) (c:Int×Int):Option tl:=
 aO (al (oE a c) aW 0) (fun e=>some e) (fun b=>if decide (b<(a.length:Int)) then ((aU a b).bind fun d=>if Bool.and.match_1 (fun (l:Bool)=>Bool) (d.1==c.1) (fun (m:Unit)=>false) (fun (n:Unit)=>Bool.and.match_1 (fun (o:Bool)=>Bool) (d.2==c.2) (fun (p:Unit)=>false) (fun (q:Unit)=>true)) then (some a) else ((chk (And (0<=b) (b<=(a.length:Int)))).bind fun _=>(bA 16 ([] :List (Int×Int)) ((a.take b.toNat).drop 0)).bind fun f=>(bA 16 f ([(c.1,c.2)])).bind fun g=>(chk (And (0<=b) (b<=(a.length:Int)))).bind fun _=>(bA 16 g ((a.take a.length).drop b.toNat)).bind fun h=>some h)) else ((chk (And (0<=b) (b<=(a.length:Int)))).bind fun _=>(bA 16 ([] :List (Int×Int)) ((a.take b.toNat).drop 0)).bind fun i=>(bA 16 i ([(c.1,c.2)])).bind fun j=>(chk (And (0<=b) (b<=(a.length:Int)))).bind fun _=>(bA 16 j ((a.take a.length).drop b.toNat)).bind fun k=>some k))
def gQ (b:List (Int×Int)) (e:List (Int×Int)) (a:tl×Int):Option (Out tl (tl×Int)):=
 if decide (a.2<(b.length:Int)) then (Option.bind (((aU b a.2).bind fun c=>(ve e (c.1,c.2)).bind fun f=>if f then (some a.1) else ((aU b a.2).bind fun d=>(vf a.1 (d.1,d.2)).bind fun g=>some g):Option tl)) (fun h=>some (.nxt (h,i64.wrap (a.2+1))))) else (some (.brk (a.1,a.2)))
def im (a:List (Int×Int)) (b:List (Int×Int)):Option tl:=
 aO (al (gQ a b) aW (([] :List (Int×Int)),0)) (fun r=>some r) (fun c=>some c.1)
def lu (a:List (Int×Int)) (b:List (Int×Int)):Option (tl×tl):=
 (im b a).bind fun c=>(im a b).bind fun d=>some (c,d)
def kZ (a:Int×Yq5) (b:(List Yq2)×Yq3) (c:Int×Int×Int) (d:Int):Option (Int×Bool×(tl×tl)):=
 (jV (a.1,a.2) d).bind fun e=>(dR (b.1,b.2) (e.1.1,e.1.2) c.2.1).bind fun f=>if decide (c.2.2<a.1) then (some (d,true,(f.1,[]))) else ((jV (a.1,a.2) c.2.2).bind fun g=>(dR (b.1,b.2) (g.1.1,g.1.2) c.2.1).bind fun i=>(lu i.1 f.1).bind fun h=>some (d,false,(h.1,h.2)))
def my (b:Int×List yQ) (c:(List Yq8)×List K8) (a:Int×Int×Int):Option ((Int×Bool×tl×List (Int×Int))×Yq7×Bool):=
 (pq (b.1,b.2) (c.1,c.2) (a.1,a.2.1,a.2.2)).bind fun e=>if e then ((kZ (b.1,b.2) (c.1,c.2) (a.1,a.2.1,a.2.2) (Max.max b.1 (i64.wrap (a.2.2+1)))).bind fun d=>some ((d.1,d.2.1,d.2.2.1,d.2.2.2),(a.1,a.2.1,Max.max b.1 (i64.wrap (a.2.2+1))),true)) else (some ((0,false,([] :List (Int×Int)),([] :List (Int×Int))),(a.1,a.2.1,a.2.2),false))
def ld (b:(Int×Yq5)×Yq9×(List Yq7)×ByteArray) (f:Int):Option (Ng×(Int×Bool×(tl×tl))×Bool):=
 (iN ((b.1.1,b.1.2),(b.2.1.1,b.2.1.2),b.2.2.1,b.2.2.2)).bind fun a=>(lI b.2.2.1 f).bind fun d=>(bW ((b.1.1,b.1.2),(b.2.1.1,b.2.1.2),b.2.2.1,b.2.2.2)).bind fun g=>if g then (if decide (d<0) then (some (((a.1.1,a.1.2),(a.2.1.1,a.2.1.2),a.2.2.1,a.2.2.2),(0,false,([],[])),false)) else ((aU b.2.2.1 d).bind fun e=>(my (b.1.1,b.1.2) (b.2.1.1,b.2.1.2) (e.1,e.2.1,e.2.2)).bind fun c=>if c.2.2 then ((aU a.2.2.1 d).bind fun h=>some (((a.1.1,a.1.2),(a.2.1.1,a.2.1.2),a.2.2.1.set d.toNat (c.2.1.1,c.2.1.2.1,c.2.1.2.2),a.2.2.2),(c.1.1,c.1.2.1,(c.1.2.2.1,c.1.2.2.2)),true)) else (some (((a.1.1,a.1.2),(a.2.1.1,a.2.1.2),a.2.2.1,a.2.2.2),(0,false,([],[])),false)))) else (some (((a.1.1,a.1.2),(a.2.1.1,a.2.1.2),a.2.2.1,a.2.2.2),(0,false,([],[])),false))
def jv (a:Int×List yQ) (c:Int):Option ((Int×List yQ)×Bool):=
 (lU (a.1,a.2)).bind fun b=>(m_s_IsValidHistory (a.1,a.2)).bind fun d=>if d then ((aV (a.1,a.2)).bind fun e=>(cD c a.1 e).bind fun f=>if f then ((chk (And (0<=(i64.wrap (c - a.1))) ((i64.wrap (c - a.1))<=(b.2.length:Int)))).bind fun _=>some ((c,b.2.drop ((i64.wrap (c - a.1)).toNat)),true)) else (some ((b.1,b.2),false))) else (some ((b.1,b.2),false))
def mz (d:Int) (b:(List Int)×(List (List Yq6))×Int) (a:ByteArray×Int×List (List Yq6)):Option (Out ByteArray (ByteArray×Int×List (List Yq6))):=
 if decide (a.2.1<(b.1.length:Int)) then (Option.bind (((aU b.1 a.2.1).bind fun e=>if decide (e>d) then ((aU b.1 a.2.1).bind fun f=>(aU a.2.2 a.2.1).bind fun g=>(dQ f g).bind fun h=>(mc a.1 h).bind fun i=>some (i,a.2.2)) else (some (a.1,a.2.2)):Option (ByteArray×List (List Yq6)))) (fun c=>some (.nxt (c.1,i64.wrap (a.2.1+1),c.2)))) else (some (.brk (a.1,a.2.1,a.2.2)))
def vh (b:ByteArray) (c:Int):Option ByteArray:=
 (m_s_ScanLog b).bind fun a=>aO (al (mz c a) aW ((⟨#[]⟩:ByteArray),0,a.2.1)) (fun d=>some d) (fun e=>some e.1)
def ir (a:(Int×Yq5)×Yq9×(List Yq7)×ByteArray) (d:Int):Option (Ng×Bool):=
 (iN ((a.1.1,a.1.2),(a.2.1.1,a.2.1.2),a.2.2.1,a.2.2.2)).bind fun b=>(jv (a.1.1,a.1.2) d).bind fun c=>(bW ((a.1.1,a.1.2),(a.2.1.1,a.2.1.2),a.2.2.1,a.2.2.2)).bind fun e=>if e then (if c.2 then ((vh a.2.2.2 d).bind fun f=>some (((c.1.1,c.1.2),(b.2.1.1,b.2.1.2),b.2.2.1,f),true)) else (some (((b.1.1,b.1.2),(b.2.1.1,b.2.1.2),b.2.2.1,b.2.2.2),false))) else (some (((b.1.1,b.1.2),(b.2.1.1,b.2.1.2),b.2.2.1,b.2.2.2),false))
def gf (d:(List Int)×Int×Int) (a:Int×Int×Int×Int×(List yQ)×(List Yq8)×(List K8)×(List Yq7)×ByteArray):Option acR:=
 if decide (a.1>0) then ((na (d.1,a.2.1,a.2.2.1)).bind fun c=>(c7 ((a.2.2.2.1,a.2.2.2.2.1),(a.2.2.2.2.2.1,a.2.2.2.2.2.2.1),a.2.2.2.2.2.2.2.1,a.2.2.2.2.2.2.2.2) a.1 c.1).bind fun b=>some (.nxt (i64.wrap (a.1 - 1),c.2.1,c.2.2,b.1.1.1,b.1.1.2,b.1.2.1.1,b.1.2.1.2,b.1.2.2.1,b.1.2.2.2))) else (some (.brk (a.1,a.2.1,a.2.2.1,a.2.2.2.1,a.2.2.2.2.1,a.2.2.2.2.2.1,a.2.2.2.2.2.2.1,a.2.2.2.2.2.2.2.1,a.2.2.2.2.2.2.2.2)))
def gg (d:(List Int)×Int×Int) (a:Int×Int×Int×Int×(List yQ)×(List Yq8)×(List K8)×(List Yq7)×ByteArray):Option acR:=
 if decide (a.1>0) then (Option.bind (((aI (d.1,a.2.1,a.2.2.1) 6).bind fun b=>if b.1==0 then ((aI (d.1,b.2.1,b.2.2) 4).bind fun j=>(aI (d.1,j.2.1,j.2.2) 2).bind fun k=>(cP ((a.2.2.2.1,a.2.2.2.2.1),(a.2.2.2.2.2.1,a.2.2.2.2.2.2.1),a.2.2.2.2.2.2.2.1,a.2.2.2.2.2.2.2.2) (i64.wrap (1+j.1)) (i64.wrap (1+k.1))).bind fun e=>some (k.2.1,k.2.2,e.1.1.1,e.1.1.2,e.1.2.1.1,e.1.2.1.2,e.1.2.2.1,e.1.2.2.2)) else (if b.1==1 then ((aI (d.1,b.2.1,b.2.2) 4).bind fun l=>(ld ((a.2.2.2.1,a.2.2.2.2.1),(a.2.2.2.2.2.1,a.2.2.2.2.2.2.1),a.2.2.2.2.2.2.2.1,a.2.2.2.2.2.2.2.2) (i64.wrap (1+l.1))).bind fun f=>some (l.2.1,l.2.2,f.1.1.1,f.1.1.2,f.1.2.1.1,f.1.2.1.2,f.1.2.2.1,f.1.2.2.2)) else (if b.1==2 then ((cE (d.1,b.2.1,b.2.2) 3).bind fun i=>if i.1 then ((aV (a.2.2.2.1,a.2.2.2.2.1)).bind fun p=>(aI (d.1,i.2.1,i.2.2) 2).bind fun m=>(ir ((a.2.2.2.1,a.2.2.2.2.1),(a.2.2.2.2.2.1,a.2.2.2.2.2.2.1),a.2.2.2.2.2.2.2.1,a.2.2.2.2.2.2.2.2) (i64.wrap (p - m.1))).bind fun g=>some (m.2.1,m.2.2,g.1.1.1,g.1.1.2,g.1.2.1.1,g.1.2.1.2,g.1.2.2.1,g.1.2.2.2)) else (some (i.2.1,i.2.2,a.2.2.2.1,a.2.2.2.2.1,a.2.2.2.2.2.1,a.2.2.2.2.2.2.1,a.2.2.2.2.2.2.2.1,a.2.2.2.2.2.2.2.2))) else ((aU a.2.2.2.2.1 (i64.wrap ((a.2.2.2.2.1.length:Int) - 1))).bind fun o=>(lJ (d.1,b.2.1,b.2.2) (o.1,o.2) 3).bind fun n=>(jT ((a.2.2.2.1,a.2.2.2.2.1),(a.2.2.2.2.2.1,a.2.2.2.2.2.2.1),a.2.2.2.2.2.2.2.1,a.2.2.2.2.2.2.2.2) n.1).bind fun h=>some (n.2.1,n.2.2,h.1.1.1,h.1.1.2,h.1.2.1.1,h.1.2.1.2,h.1.2.2.1,h.1.2.2.2)))):Option (Int×Int×Int×(List yQ)×(List Yq8)×(List K8)×(List Yq7)×ByteArray))) (fun c=>some (.nxt (i64.wrap (a.1 - 1),c.1,c.2.1,c.2.2.1,c.2.2.2.1,c.2.2.2.2.1,c.2.2.2.2.2.1,c.2.2.2.2.2.2.1,c.2.2.2.2.2.2.2)))) else (some (.brk (a.1,a.2.1,a.2.2.1,a.2.2.2.1,a.2.2.2.2.1,a.2.2.2.2.2.1,a.2.2.2.2.2.2.1,a.2.2.2.2.2.2.2.1,a.2.2.2.2.2.2.2.2)))
def oF (c:(List Int)×Int×Int):Option (Yq4×Int×Int):=
 (jU (c.1,c.2.1,c.2.2)).bind fun e=>(oC (e.1.1,e.1.2)).bind fun d=>(aI (c.1,e.2.1,e.2.2) 2).bind fun f=>aO (al (gf c) aW (i64.wrap (1+f.1),f.2.1,f.2.2,d.1.1.1,d.1.1.2,d.1.2.1.1,d.1.2.1.2,d.1.2.2.1,d.1.2.2.2)) (fun h=>some h) (fun a=>(aI (c.1,a.2.1,a.2.2.1) 10).bind fun g=>aO (al (gg c) aW (g.1,g.2.1,g.2.2,a.2.2.2.1,a.2.2.2.2.1,a.2.2.2.2.2.1,a.2.2.2.2.2.2.1,a.2.2.2.2.2.2.2.1,a.2.2.2.2.2.2.2.2)) (fun i=>some i) (fun b=>some (((b.2.2.2.1,b.2.2.2.2.1),(b.2.2.2.2.2.1,b.2.2.2.2.2.2.1),b.2.2.2.2.2.2.2.1,b.2.2.2.2.2.2.2.2),b.2.1,b.2.2.1)))
def jw (d:(List Int)×Int×Int) (a:Int×Int×Int×(List Yq8)×List K8):Option (Out (PD×Int×Int) (Int×Int×Int×(List Yq8)×List K8)):=
 if decide (a.1>0) then ((aI (d.1,a.2.1,a.2.2.1) 6).bind fun b=>(na (d.1,b.2.1,b.2.2)).bind fun c=>(cU (a.2.2.2.1,a.2.2.2.2) (i64.wrap (1+b.1)) c.1).bind fun e=>some (.nxt (i64.wrap (a.1 - 1),c.2.1,c.2.2,e.1.1,e.1.2))) else (some (.brk (a.1,a.2.1,a.2.2.1,a.2.2.2.1,a.2.2.2.2)))
def mA (a:(List Int)×Int×Int):Option (PD×Int×Int):=
 (aI (a.1,a.2.1,a.2.2) 3).bind fun c=>aO (al (jw a) aW (i64.wrap (1+c.1),c.2.1,c.2.2,([] :List Yq8),([] :List K8))) (fun d=>some d) (fun b=>some ((b.2.2.2.1,b.2.2.2.2),b.2.1,b.2.2.1))
def vM (a:Int):Option (List Yq1):=
 some ([(3,a,0,0)])
def fb:Nat->((List Int)×Int×Int)->Int->Option ((List Yq1)×Int×Int)
 | 0,_,_=>none
 | n+1,p0,p1 =>
  if p1==0 then ((cE (p0.1,p0.2.1,p0.2.2) 12).bind fun b=>if b.1 then ((bN (p0.1,b.2.1,b.2.2) ([1,2])).bind fun d=>(re d.1).bind fun m=>some (m,d.2.1,d.2.2)) else ((bN (p0.1,b.2.1,b.2.2) ([0,0,2,2,1,4,3,6,7])).bind fun e=>(vM e.1).bind fun o=>some (o,e.2.1,e.2.2))) else ((aI (p0.1,p0.2.1,p0.2.2) 6).bind fun a=>Option.bind ((if a.1==0 then (some (a.1==0)) else (some (a.1==1)):Option Bool)) (fun p=>if p then (((fb n) (p0.1,a.2.1,a.2.2) (i64.wrap (p1 - 1))).bind fun f=>((fb n) (p0.1,f.2.1,f.2.2) (i64.wrap (p1 - 1))).bind fun g=>(fC f.1 g.1 (4,0,0,0)).bind fun q=>some (q,g.2.1,g.2.2)) else (Option.bind ((if a.1==2 then (some (a.1==2)) else (some (a.1==3)):Option Bool)) (fun r=>if r then (((fb n) (p0.1,a.2.1,a.2.2) (i64.wrap (p1 - 1))).bind fun h=>((fb n) (p0.1,h.2.1,h.2.2) (i64.wrap (p1 - 1))).bind fun i=>(fC h.1 i.1 (5,0,0,0)).bind fun s=>some (s,i.2.1,i.2.2)) else (if a.1==4 then (((fb n) (p0.1,a.2.1,a.2.2) (i64.wrap (p1 - 1))).bind fun j=>(fC j.1 ([] :List Yq1) (6,0,0,0)).bind fun t=>some (t,j.2.1,j.2.2)) else ((aI (p0.1,a.2.1,a.2.2) 3).bind fun c=>((fb n) (p0.1,c.2.1,c.2.2) (i64.wrap (p1 - 1))).bind fun k=>(aI (p0.1,k.2.1,k.2.2) (i64.wrap ((i64.wrap (1+c.1))+1))).bind fun l=>(fC k.1 ([] :List Yq1) (7,0,l.1,i64.wrap (1+c.1))).bind fun u=>some (u,l.2.1,l.2.2)))))))
def rj (a:(List Int)×Int×Int):Option ((List Yq1)×Int×Int):=
 (cE (a.1,a.2.1,a.2.2) 2).bind fun b=>if b.1 then ((na (a.1,b.2.1,b.2.2)).bind fun c=>some (c.1,c.2.1,c.2.2)) else ((aI (a.1,b.2.1,b.2.2) 3).bind fun d=>(fb fV (a.1,d.2.1,d.2.2) (i64.wrap (1+d.1))).bind fun e=>some (e.1,e.2.1,e.2.2))
def ja (e:(List Int)×Int×Int) (f:Int×Int×Int) (a:(List Int)×Int×Int×Int):Option (Out (Yq8×Int×Int) ((List Int)×Int×Int×Int)):=
 if decide (a.2.1<9) then ((cE (e.1,a.2.2.1,a.2.2.2) 3).bind fun b=>Option.bind ((if b.1 then (some ((-1),b.2.1,b.2.2)) else ((aI (e.1,b.2.1,b.2.2) (i64.wrap (1+f.1))).bind fun c=>some (c.1,c.2.1,c.2.2)):Option Yq7)) (fun d=>Option.bind ((if decide (a.2.1>3) then (some (-1)) else (some d.1):Option Int)) (fun g=>(bA 8 a.1 ([g])).bind fun h=>some (.nxt (h,i64.wrap (a.2.1+1),d.2.1,d.2.2))))) else (some (.brk (a.1,a.2.1,a.2.2.1,a.2.2.2)))
def lx (d:(List Int)×Int×Int) (e:Int×Int×Int) (a:Int×Int×(List Bool)×(List (List Int))×Int×Int):Option (Out (Yq8×Int×Int) (Int×Int×(List Bool)×(List (List Int))×Int×Int)):=
 if decide (a.1<(i64.wrap (1+e.1))) then (aO (al (ja d e) aW (([] :List Int),0,a.2.2.2.2.1,a.2.2.2.2.2)) (fun f=>some (.ret f)) (fun b=>(cE (d.1,b.2.2.1,b.2.2.2) 3).bind fun c=>(bA 1 a.2.2.1 ([c.1])).bind fun g=>(bA 24 a.2.2.2.1 ([b.1])).bind fun h=>some (.nxt (i64.wrap (a.1+1),a.2.1,g,h,c.2.1,c.2.2)))) else (some (.brk (a.1,a.2.1,a.2.2.1,a.2.2.2.1,a.2.2.2.2.1,a.2.2.2.2.2)))
def mB (a:(List Int)×Int×Int):Option (Yq8×Int×Int):=
 (aI (a.1,a.2.1,a.2.2) 4).bind fun c=>(aI (a.1,c.2.1,c.2.2) (i64.wrap (1+c.1))).bind fun d=>aO (al (lx a c) aW (0,d.1,([] :List Bool),([] :List (List Int)),d.2.1,d.2.2)) (fun e=>some e) (fun b=>some ((b.2.1,b.2.2.1,b.2.2.2.1),b.2.2.2.2.1,b.2.2.2.2.2))
def vi (a:(List Int)×Int×Int):Option (Yq8×Int×Int):=
 (cE (a.1,a.2.1,a.2.2) 3).bind fun b=>if b.1 then ((mB (a.1,b.2.1,b.2.2)).bind fun c=>some ((c.1.1,c.1.2.1,c.1.2.2),c.2.1,c.2.2)) else ((rj (a.1,b.2.1,b.2.2)).bind fun d=>(dJ d.1).bind fun e=>(fy (e.1.1,e.1.2.1,e.1.2.2.1,e.1.2.2.2.1,e.1.2.2.2.2) 12).bind fun g=>if g.2 then (some ((g.1.1,g.1.2.1,g.1.2.2),d.2.1,d.2.2)) else ((mB (a.1,d.2.1,d.2.2)).bind fun f=>some ((f.1.1,f.1.2.1,f.1.2.2),f.2.1,f.2.2)))
def vj (c:(List Int)×Int×Int):Option (PD×Int×Int):=
 (mA (c.1,c.2.1,c.2.2)).bind fun a=>(aI (c.1,a.2.1,a.2.2) 16).bind fun b=>Option.bind ((if b.1==0 then (if decide ((a.1.2.length:Int)>0) then ((aI (c.1,b.2.1,b.2.2) 3).bind fun f=>(aU a.1.2 0).bind fun h=>some (f.2.1,f.2.2,a.1.1,a.1.2.set 0 (h.1,h.2.1,f.1))) else (some (b.2.1,b.2.2,a.1.1,a.1.2))) else (if b.1==1 then (if decide ((a.1.2.length:Int)>0) then ((bN (c.1,b.2.1,b.2.2) ([0,100,99])).bind fun g=>(aU a.1.2 0).bind fun i=>some (g.2.1,g.2.2,a.1.1,a.1.2.set 0 (g.1,i.2))) else (some (b.2.1,b.2.2,a.1.1,a.1.2))) else (if b.1==2 then ((vi (c.1,b.2.1,b.2.2)).bind fun d=>(bA 56 a.1.1 ([(d.1.1,d.1.2.1,d.1.2.2)])).bind fun j=>some (d.2.1,d.2.2,j,a.1.2)) else (some (b.2.1,b.2.2,a.1.1,a.1.2)))):Option (Int×Int×(List Yq8)×List K8))) (fun e=>some ((e.2.2.1,e.2.2.2),e.1,e.2.1))
def tT (c:(List Int)×Int×Int):Option (yQ×Int×Int):=
 (jU (c.1,c.2.1,c.2.2)).bind fun b=>(aI (c.1,b.2.1,b.2.2) 14).bind fun a=>Option.bind ((if a.1==0 then ((bN (c.1,a.2.1,a.2.2) ([(-1),3,2])).bind fun e=>(aU b.1.1 0).bind fun k=>some (e.2.1,e.2.2,b.1.1.set 0 e.1,b.1.2)) else (if a.1==1 then ((bN (c.1,a.2.1,a.2.2) ([0,1,99,100])).bind fun f=>(aI (c.1,f.2.1,f.2.2) 6).bind fun g=>(aI (c.1,g.2.1,g.2.2) 6).bind fun h=>(aI (c.1,h.2.1,h.2.2) 4).bind fun i=>(bA 32 b.1.2 ([(f.1,g.1,h.1,i.1)])).bind fun j=>some (i.2.1,i.2.2,b.1.1,j)) else (if a.1==2 then (some (a.2.1,a.2.2,([] :List Int),b.1.2)) else (some (a.2.1,a.2.2,b.1.1,b.1.2)))):Option (Int×Int×(List Int)×List Yq1))) (fun d=>some ((d.2.2.1,d.2.2.2),d.1,d.2.1))
def gi (e:(List Int)×Int×Int) (a:Int×Int×Int×Int×List yQ):Option (Out ((Int×List yQ)×Int×Int) (Int×Int×Int×Int×List yQ)):=
 if decide (a.1>0) then ((aU a.2.2.2.2 (i64.wrap ((a.2.2.2.2.length:Int) - 1))).bind fun c=>(lJ (e.1,a.2.1,a.2.2.1) (c.1,c.2) 4).bind fun b=>(ig (a.2.2.2.1,a.2.2.2.2) b.1).bind fun d=>some (.nxt (i64.wrap (a.1 - 1),b.2.1,b.2.2,d.1.1,d.1.2))) else (some (.brk (a.1,a.2.1,a.2.2.1,a.2.2.2.1,a.2.2.2.2)))
def oG (a:(List Int)×Int×Int):Option ((Int×List yQ)×Int×Int):=
 (jU (a.1,a.2.1,a.2.2)).bind fun b=>(aI (a.1,b.2.1,b.2.2) 4).bind fun d=>(gI (b.1.1,b.1.2) (i64.wrap (1+d.1))).bind fun g=>(bN (a.1,d.2.1,d.2.2) ([3,5,10])).bind fun e=>(aI (a.1,e.2.1,e.2.2) e.1).bind fun f=>aO (al (gi a) aW (f.1,f.2.1,f.2.2,g.1.1,g.1.2)) (fun h=>some h) (fun c=>some ((c.2.2.2.1,c.2.2.2.2),c.2.1,c.2.2.1))
def xQ (c:(List Int)×Int×Int):Option ((Int×List yQ)×Int×Int):=
 (oG (c.1,c.2.1,c.2.2)).bind fun a=>(aI (c.1,a.2.1,a.2.2) 14).bind fun b=>Option.bind ((if b.1==0 then ((bN (c.1,b.2.1,b.2.2) ([0,999,998,1000])).bind fun f=>some (f.2.1,f.2.2,f.1,a.1.2)) else (if b.1==1 then ((tT (c.1,b.2.1,b.2.2)).bind fun d=>(aU a.1.2 (i64.wrap ((a.1.2.length:Int) - 1))).bind fun g=>some (d.2.1,d.2.2,a.1.1,a.1.2.set ((i64.wrap ((a.1.2.length:Int) - 1)).toNat) (d.1.1,d.1.2))) else (if b.1==2 then (some (b.2.1,b.2.2,a.1.1,([] :List yQ))) else (some (b.2.1,b.2.2,a.1.1,a.1.2)))):Option (Int×Int×Int×List yQ))) (fun e=>some ((e.2.2.1,e.2.2.2),e.1,e.2.1))
def oU (d:(List Int)×Int×Int):Option (Yq4×Int×Int):=
 (oF (d.1,d.2.1,d.2.2)).bind fun a=>(aI (d.1,a.2.1,a.2.2) 18).bind fun b=>Option.bind ((if b.1==0 then ((mc a.1.2.2.2 (⟨#[120]⟩)).bind fun i=>some (b.2.1,b.2.2,a.1.1.1,a.1.1.2,a.1.2.1.1,a.1.2.1.2,a.1.2.2.1,i)) else (if b.1==1 then (if decide ((a.1.2.2.1.length:Int)>0) then ((bN (d.1,b.2.1,b.2.2) ([(-1),0,50])).bind fun g=>(aU a.1.2.2.1 0).bind fun h=>some (g.2.1,g.2.2,a.1.1.1,a.1.1.2,a.1.2.1.1,a.1.2.1.2,a.1.2.2.1.set 0 (h.1,h.2.1,g.1),a.1.2.2.2)) else (some (b.2.1,b.2.2,a.1.1.1,a.1.1.2,a.1.2.1.1,a.1.2.1.2,a.1.2.2.1,a.1.2.2.2))) else (if b.1==2 then ((vj (d.1,b.2.1,b.2.2)).bind fun e=>some (e.2.1,e.2.2,a.1.1.1,a.1.1.2,e.1.1,e.1.2,a.1.2.2.1,a.1.2.2.2)) else (if b.1==3 then ((xQ (d.1,b.2.1,b.2.2)).bind fun f=>some (f.2.1,f.2.2,f.1.1,f.1.2,a.1.2.1.1,a.1.2.1.2,a.1.2.2.1,a.1.2.2.2)) else (some (b.2.1,b.2.2,a.1.1.1,a.1.1.2,a.1.2.1.1,a.1.2.1.2,a.1.2.2.1,a.1.2.2.2))))):Option (Int×Int×Int×(List yQ)×(List Yq8)×(List K8)×(List Yq7)×ByteArray))) (fun c=>some (((c.2.2.1,c.2.2.2.1),(c.2.2.2.2.1,c.2.2.2.2.2.1),c.2.2.2.2.2.2.1,c.2.2.2.2.2.2.2),c.1,c.2.1))
def qd (a:List Yq1):Option (Out ((List Yq1)×Int×Int) (List Yq1)):=
 if decide ((a.length:Int)>0) then (if decide ((a.length:Int)<24) then ((bA 32 a ([(6,0,0,0)])).bind fun b=>some (.nxt b)) else (some (.brk a))) else (some (.brk a))
def xR (b:(List Int)×Int×Int):Option ((List Yq1)×Int×Int):=
 (rj (b.1,b.2.1,b.2.2)).bind fun c=>(aI (b.1,c.2.1,c.2.2) 14).bind fun a=>Option.bind ((if a.1==0 then ((chk (And ((0:Int)<=1) (1<=(c.1.length:Int)))).bind fun _=>some (a.2.1,a.2.2,c.1.drop 1)) else (if a.1==1 then ((aI (b.1,a.2.1,a.2.2) 9).bind fun e=>(aI (b.1,e.2.1,e.2.2) 10).bind fun f=>(aI (b.1,f.2.1,f.2.2) 3).bind fun g=>(aI (b.1,g.2.1,g.2.2) 5).bind fun h=>(aU c.1 0).bind fun l=>some (h.2.1,h.2.2,c.1.set 0 (e.1,f.1,g.1,h.1))) else (if a.1==2 then (aO (al (qd) aW c.1) (fun m=>none) (fun j=>(cE (b.1,a.2.1,a.2.2) 2).bind fun d=>if d.1 then ((bA 32 j ([(6,0,0,0)])).bind fun k=>some (d.2.1,d.2.2,k)) else (some (d.2.1,d.2.2,j)))) else (some (a.2.1,a.2.2,c.1)))):Option (Int×Int×List Yq1))) (fun i=>some (i.2.2,i.1,i.2.1))
def fT (b:List Int):Option (Yq4×Int×List Yq1):=
 (pe b).bind fun d=>(oU (b,d.1,d.2)).bind fun a=>(aI (b,a.2.1,a.2.2) 6).bind fun c=>(xR (b,c.2.1,c.2.2)).bind fun e=>some (((a.1.1.1,a.1.1.2),(a.1.2.1.1,a.1.2.1.2),a.1.2.2.1,a.1.2.2.2),c.1,e.1)
def nV (a:List Int):Option (List Int):=
 (bA 8 ([] :List Int) a).bind fun b=>some b
def kA (a:(List Int)×(List Yq1)):Option Gr:=
 (nV a.1).bind fun b=>(bA 32 ([] :List Yq1) a.2).bind fun c=>some (b,c)
def gx (b:Int×Yq5) (a:Int×Int×Yq5):Option (Out (Int×Yq5) (Int×Int×Yq5)):=
 if decide (a.1<(b.2.length:Int)) then ((aU b.2 a.1).bind fun c=>(kA (c.1,c.2)).bind fun d=>(bA 48 a.2.2 ([(d.1,d.2)])).bind fun e=>some (.nxt (i64.wrap (a.1+1),a.2.1,e))) else (some (.brk (a.1,a.2.1,a.2.2)))
def mC (a:Int×Yq5):Option (Int×Yq5):=
 aO (al (gx a) aW (0,a.1,[])) (fun r=>some r) (fun b=>some (b.2.1,b.2.2))
def fp (b:Int×(List Bool)×(List (List Int))) (a:Int×Int×(List Bool)×(List (List Int))):Option (Out Yq2 (Int×Int×(List Bool)×(List (List Int)))):=
 if decide (a.1<(b.2.2.length:Int)) then ((aU b.2.2 a.1).bind fun c=>(nV c).bind fun d=>(bA 24 a.2.2.2 ([d])).bind fun e=>some (.nxt (i64.wrap (a.1+1),a.2.1,a.2.2.1,e))) else (some (.brk (a.1,a.2.1,a.2.2.1,a.2.2.2)))
def kB (a:Int×(List Bool)×(List (List Int))):Option Yq2:=
 (bA 1 ([] :List Bool) a.2.1).bind fun c=>aO (al (fp a) aW (0,a.1,c,[])) (fun r=>some r) (fun b=>some (b.2.1,b.2.2.1,b.2.2.2))
def fL (d:(List Yq2)×Yq3) (a:Int×(List Yq2)×Yq3):Option (Out Yq9 Ro):=
 if decide (a.1<(d.1.length:Int)) then ((aU d.1 a.1).bind fun b=>(kB (b.1,b.2.1,b.2.2)).bind fun c=>(bA 56 a.2.1 ([(c.1,c.2.1,c.2.2)])).bind fun e=>some (.nxt (i64.wrap (a.1+1),e,a.2.2))) else (some (.brk (a.1,a.2.1,a.2.2)))
def fM (c:(List Yq2)×Yq3) (a:Int×(List Yq2)×Yq3):Option (Out Yq9 Ro):=
 if decide (a.1<(c.2.length:Int)) then ((aU c.2 a.1).bind fun b=>(iz b.2.1).bind fun d=>(bA 40 a.2.2 ([(b.1,d,b.2.2)])).bind fun e=>some (.nxt (i64.wrap (a.1+1),a.2.1,e))) else (some (.brk (a.1,a.2.1,a.2.2)))
def dm (a:(List Yq2)×Yq3):Option Yq9:=
 aO (al (fL a) aW (0,[],[])) (fun r=>some r) (fun b=>aO (al (fM a) aW (0,b.2.1,b.2.2)) (fun r=>some r) (fun c=>some (c.2.1,c.2.2)))
def jg (a:(Int×Yq5)×Yq9×(List Yq7)×ByteArray):Option Ng:=
 (mC (a.1.1,a.1.2)).bind fun b=>(dm (a.2.1.1,a.2.1.2)).bind fun c=>(bA 24 ([] :List Yq7) a.2.2.1).bind fun d=>some ((b.1,b.2),(c.1,c.2),d,a.2.2.2)
def a8 (a:List B2) (b:Int) (c:List B2):Option (Yq3×Yq3):=R.Rm 40 a b c
def aL (a:List B2):Option Yq3:=bA 40 [] a
def kM (b:(List Yq8)×List K8) (c:Int) (a:Int):Option (Out (PD×Bool) Int):=
 if decide (a<(b.2.length:Int)) then ((aU b.2 a).bind fun d=>if decide (d.1<c) then (some (.nxt (i64.wrap (a+1)))) else (some (.brk a))) else (some (.brk a))
def fD (a:(List Yq8)×List K8) (b:Int) (g:List Yq1):Option (PD×Bool):=
 (cM (a.1,a.2)).bind fun h=>if h then ((gm (a.1,a.2) b).bind fun i=>if decide (i≥0) then ((dm (a.1,a.2)).bind fun d=>some ((d.1,d.2),false)) else (aO (al (kM a b) aW 0) (fun j=>some j) (fun k=>(aL a.2).bind fun l=>(a8 l k ([(b,g,0)])).bind fun m=>(oT m.1).bind fun c=>if c.2 then (some ((c.1.1,c.1.2),true)) else ((dm (a.1,a.2)).bind fun e=>some ((e.1,e.2),false))))) else ((dm (a.1,a.2)).bind fun f=>some ((f.1,f.2),false))
def jx (a:(Int×Yq5)×Yq9×(List Yq7)×ByteArray) (d:Int) (e:(List Yq1)):Option (Ng×Bool):=
 (jg ((a.1.1,a.1.2),(a.2.1.1,a.2.1.2),a.2.2.1,a.2.2.2)).bind fun b=>(aN ((a.1.1,a.1.2),(a.2.1.1,a.2.1.2),a.2.2.1,a.2.2.2)).bind fun f=>if f then ((fD (a.2.1.1,a.2.1.2) d e).bind fun c=>some (((b.1.1,b.1.2),(c.1.1,c.1.2),b.2.2.1,b.2.2.2),c.2)) else (some (((b.1.1,b.1.2),(b.2.1.1,b.2.1.2),b.2.2.1,b.2.2.2),false))
def fw (b:List Int):Option (Yq4×Int×Int):=
 (pe b).bind fun d=>(oU (b,d.1,d.2)).bind fun a=>(bN (b,a.2.1,a.2.2) ([1,2,3,4,5,0,100])).bind fun c=>(aI (b,c.2.1,c.2.2) 4).bind fun e=>some (((a.1.1.1,a.1.1.2),(a.1.2.1.1,a.1.2.1.2),a.1.2.2.1,a.1.2.2.2),c.1,e.1)
def bw (c:List Yq7) (d:Yq7->Option Bool) (a:Int):Option (Out Int Int):=
 if decide (a<(c.length:Int)) then ((aU c a).bind fun b=>(d (b.1,b.2.1,b.2.2)).bind fun e=>if e then (some (.ret a)) else (some (.nxt (i64.wrap (a+1))))) else (some (.brk a))
def aP (a:List Yq7) (b:Yq7->Option Bool):Option Int:=
 aO (al (bw a b) aW 0) (fun r=>some r) (fun c=>some (-1))
def lz (a:Int×Int×Int) (q0:Int):Option Bool:=
 some (a.1==q0)
def qL (a:(Int×Yq5)×Yq9×(List Yq7)×ByteArray) (b:Int):Option Int:=
 (aP a.2.2.1 (fun a0=>lz a0 b)).bind fun c=>some c
def bO (a:List Yq7) (b:Int) (c:List Yq7):Option ((List Yq7)×(List Yq7)):=R.Rm 24 a b c
def mQ (c:Int) (b:(Int×List yQ)×PD×(List Yq7)×ByteArray) (a:Int):Option (Out (Yq4×Bool) Int):=
 if decide (a<(b.2.2.1.length:Int)) then ((aU b.2.2.1 a).bind fun d=>if decide (d.1<c) then (some (.nxt (i64.wrap (a+1)))) else (some (.brk a))) else (some (.brk a))
def iP (b:(Int×List yQ)×PD×(List Yq7)×ByteArray) (c:Int) (d:Int):Option (Yq4×Bool):=
 (jg ((b.1.1,b.1.2),(b.2.1.1,b.2.1.2),b.2.2.1,b.2.2.2)).bind fun a=>(aN ((b.1.1,b.1.2),(b.2.1.1,b.2.1.2),b.2.2.1,b.2.2.2)).bind fun e=>if e then ((cJ c 1 99).bind fun f=>if f then ((qL ((b.1.1,b.1.2),(b.2.1.1,b.2.1.2),b.2.2.1,b.2.2.2) c).bind fun g=>if decide (g≥0) then (some (((a.1.1,a.1.2),(a.2.1.1,a.2.1.2),a.2.2.1,a.2.2.2),false)) else ((gm (b.2.1.1,b.2.1.2) d).bind fun h=>if decide (h<0) then (some (((a.1.1,a.1.2),(a.2.1.1,a.2.1.2),a.2.2.1,a.2.2.2),false)) else (if (b.2.2.1.length:Int)==4 then (some (((a.1.1,a.1.2),(a.2.1.1,a.2.1.2),a.2.2.1,a.2.2.2),false)) else (aO (al (mQ c a) aW 0) (fun i=>some i) (fun j=>(bO a.2.2.1 j ([(c,d,0)])).bind fun k=>some (((a.1.1,a.1.2),(a.2.1.1,a.2.1.2),k.1,a.2.2.2),true)))))) else (some (((a.1.1,a.1.2),(a.2.1.1,a.2.1.2),a.2.2.1,a.2.2.2),false))) else (some (((a.1.1,a.1.2),(a.2.1.1,a.2.1.2),a.2.2.1,a.2.2.2),false))
def fc (b:List Int):Option (Yq4×Int):=
 (pe b).bind fun c=>(oU (b,c.1,c.2)).bind fun a=>(aI (b,a.2.1,a.2.2) 4).bind fun d=>some (((a.1.1.1,a.1.1.2),(a.1.2.1.1,a.1.2.1.2),a.1.2.2.1,a.1.2.2.2),d.1)
def bP (a:List B2) (p1 p2:Int):Option Yq3:=R.abh a p1 p2
def iQ (a:(List Yq8)×List K8) (f:Int):Option (PD×Bool):=
 (gm (a.1,a.2) f).bind fun b=>if decide (b<0) then ((dm (a.1,a.2)).bind fun d=>some ((d.1,d.2),false)) else ((cM (a.1,a.2)).bind fun g=>if g then ((aL a.2).bind fun h=>(bP h b (i64.wrap (b+1))).bind fun i=>(oT i).bind fun c=>some ((c.1.1,c.1.2),c.2)) else ((dm (a.1,a.2)).bind fun e=>some ((e.1,e.2),false)))
def br (d:Yq7->Option Bool) (a:Int×Int×List Yq7):Option (Out (List Yq7) (Int×Int×List Yq7)):=
 if decide (a.2.1<(a.2.2.length:Int)) then (Option.bind (((aU a.2.2 a.2.1).bind fun b=>(d (b.1,b.2.1,b.2.2)).bind fun e=>if e then (some (a.1,a.2.2)) else ((aU a.2.2 a.1).bind fun f=>some (i64.wrap (a.1+1),a.2.2.set a.1.toNat (b.1,b.2.1,b.2.2))):Option (Int×List Yq7))) (fun c=>some (.nxt (c.1,i64.wrap (a.2.1+1),c.2)))) else (some (.brk (a.1,a.2.1,a.2.2)))
def bD (b:List Yq7) (d:Yq7->Option Bool):Option (List Yq7):=
 (aP b d).bind fun c=>if c==(-1) then (some b) else (aO (al (br d) aW (c,i64.wrap (c+1),b)) (fun e=>some e) (fun a=>(chk (And (0<=a.1) (And (a.1<=((a.2.2.length:Int) - 0)) ((0+((a.2.2.length:Int) - 0))<=(a.2.2.length:Int))))).bind fun _=>(chk (And ((0+a.1)<=(0+((a.2.2.length:Int) - 0))) ((0+((a.2.2.length:Int) - 0))<=(a.2.2.length:Int)))).bind fun _=>(chk (And ((0:Int)<=0) (And (0<=a.1) ((0+a.1)<=((tJ a.2.2 ((0+a.1).toNat) ((0+((a.2.2.length:Int) - 0)).toNat) (0,0,0)).length:Int))))).bind fun _=>some (((tJ a.2.2 ((0+a.1).toNat) ((0+((a.2.2.length:Int) - 0)).toNat) (0,0,0)).take ((0+a.1).toNat)).drop 0)))
def jk (a:Int×Int×Int) (q0:Int):Option Bool:=
 some (a.2.1==q0)
def gR (b:(Int×List yQ)×PD×(List Yq7)×ByteArray) (d:Int):Option (Yq4×Bool):=
 (jg ((b.1.1,b.1.2),(b.2.1.1,b.2.1.2),b.2.2.1,b.2.2.2)).bind fun a=>(aN ((b.1.1,b.1.2),(b.2.1.1,b.2.1.2),b.2.2.1,b.2.2.2)).bind fun e=>if e then ((iQ (b.2.1.1,b.2.1.2) d).bind fun c=>if c.2 then ((bD a.2.2.1 (fun (f:Int×Int×Int)=>jk f d)).bind fun g=>some (((a.1.1,a.1.2),(c.1.1,c.1.2),g,a.2.2.2),true)) else (some (((a.1.1,a.1.2),(a.2.1.1,a.2.1.2),a.2.2.1,a.2.2.2),false))) else (some (((a.1.1,a.1.2),(a.2.1.1,a.2.1.2),a.2.2.1,a.2.2.2),false))
def eE (a:(List Yq2)×Yq3) (f:Int):Option (Yq9×Bool):=
 (aS (a.1,a.2) f).bind fun b=>(m_s_IsValidRegistry (a.1,a.2)).bind fun g=>if g then (if decide (b<0) then ((iM (a.1,a.2)).bind fun d=>some ((d.1,d.2),false)) else ((chk (0<=b/\b<=(a.2.length:Int))).bind fun _=>(bA 40 ([] :List B2) (a.2.take b.toNat)).bind fun h=>(chk (0<=i64.wrap (b+1)/\i64.wrap (b+1)<=(a.2.length:Int))).bind fun _=>(bA 40 h (a.2.drop (i64.wrap (b+1)).toNat)).bind fun i=>(bR i).bind fun c=>some ((c.1.1,c.1.2),c.2))) else ((iM (a.1,a.2)).bind fun e=>some ((e.1,e.2),false))
def dM (c:(Int×Yq5)×Yq9×(List Yq7)×ByteArray) (e:Int) (a:Int×Int×Yq5×(List Yq2)×Yq3×(List Yq7)×ByteArray):Option (Out (Ng×Bool) (Int×Int×Yq5×(List Yq2)×Yq3×(List Yq7)×ByteArray)):=
 if decide (a.1<(c.2.2.1.length:Int)) then (Option.bind (((aU c.2.2.1 a.1).bind fun f=>if f.2.1 !=e then ((aU c.2.2.1 a.1).bind fun d=>(bA 24 a.2.2.2.2.2.1 ([(d.1,d.2.1,d.2.2)])).bind fun g=>some (a.2.1,a.2.2.1,a.2.2.2.1,a.2.2.2.2.1,g,a.2.2.2.2.2.2)) else (some (a.2.1,a.2.2.1,a.2.2.2.1,a.2.2.2.2.1,a.2.2.2.2.2.1,a.2.2.2.2.2.2)):Option (Int×Yq5×(List Yq2)×Yq3×(List Yq7)×ByteArray))) (fun b=>some (.nxt (i64.wrap (a.1+1),b.1,b.2.1,b.2.2.1,b.2.2.2.1,b.2.2.2.2.1,b.2.2.2.2.2)))) else (some (.brk (a.1,a.2.1,a.2.2.1,a.2.2.2.1,a.2.2.2.2.1,a.2.2.2.2.2.1,a.2.2.2.2.2.2)))
def dP (a:(Int×Yq5)×Yq9×(List Yq7)×ByteArray) (e:Int):Option (Ng×Bool):=
 (iN ((a.1.1,a.1.2),(a.2.1.1,a.2.1.2),a.2.2.1,a.2.2.2)).bind fun b=>(eE (a.2.1.1,a.2.1.2) e).bind fun d=>(bW ((a.1.1,a.1.2),(a.2.1.1,a.2.1.2),a.2.2.1,a.2.2.2)).bind fun f=>if f then (if d.2 then (aO (al (dM a e) aW (0,b.1.1,b.1.2,d.1.1,d.1.2,[],b.2.2.2)) (fun r=>some r) (fun c=>some (((c.2.1,c.2.2.1),(c.2.2.2.1,c.2.2.2.2.1),c.2.2.2.2.2.1,c.2.2.2.2.2.2),true))) else (some (((b.1.1,b.1.2),(b.2.1.1,b.2.1.2),b.2.2.1,b.2.2.2),false))) else (some (((b.1.1,b.1.2),(b.2.1.1,b.2.1.2),b.2.2.1,b.2.2.2),false))
def cm (a:List Int):Option yQ:=
 (pe a).bind fun b=>(tT (a,b.1,b.2)).bind fun c=>some (c.1.1,c.1.2)
def qM (b:(List Int)×(List Yq1)) (c:Int):Option ((Int×Yq5)×Bool):=
 (kA (b.1,b.2)).bind fun a=>(m_i_IsValidHistory (c,[(a.1,a.2)])).bind fun d=>if d then (some ((c,[(a.1,a.2)]),true)) else (some ((0,[]),false))
def dN (b:(List Int)×(List Yq1)):Option (Ng×Bool):=
 (qM (b.1,b.2) 1).bind fun a=>some (((a.1.1,a.1.2),([],[]),[],⟨#[]⟩),a.2)
def kC (g:List Int):Option Bool:=
 (Jj g).bind fun A=>if A then (some true) else ((fT g).bind fun d=>(jx ((d.1.1.1,d.1.1.2),(d.1.2.1.1,d.1.2.1.2),d.1.2.2.1,d.1.2.2.2) d.2.1 d.2.2).bind fun e=>(c7 ((d.1.1.1,d.1.1.2),(d.1.2.1.1,d.1.2.1.2),d.1.2.2.1,d.1.2.2.2) d.2.1 d.2.2).bind fun p=>(fw g).bind fun c=>(iP ((c.1.1.1,c.1.1.2),(c.1.2.1.1,c.1.2.1.2),c.1.2.2.1,c.1.2.2.2) c.2.1 c.2.2).bind fun a=>(cP ((c.1.1.1,c.1.1.2),(c.1.2.1.1,c.1.2.1.2),c.1.2.2.1,c.1.2.2.2) c.2.1 c.2.2).bind fun q=>(fc g).bind fun f=>(gR ((f.1.1.1,f.1.1.2),(f.1.2.1.1,f.1.2.1.2),f.1.2.2.1,f.1.2.2.2) f.2).bind fun b=>(dP ((f.1.1.1,f.1.1.2),(f.1.2.1.1,f.1.2.1.2),f.1.2.2.1,f.1.2.2.2) f.2).bind fun r=>if e.2 !=p.2 then (some false) else (if a.2 !=q.2 then (some false) else (if b.2 !=r.2 then (some false) else ((fX ((e.1.1.1,e.1.1.2),(e.1.2.1.1,e.1.2.1.2),e.1.2.2.1,e.1.2.2.2) ((p.1.1.1,p.1.1.2),(p.1.2.1.1,p.1.2.1.2),p.1.2.2.1,p.1.2.2.2)).bind fun B=>if B then ((fX ((a.1.1.1,a.1.1.2),(a.1.2.1.1,a.1.2.1.2),a.1.2.2.1,a.1.2.2.2) ((q.1.1.1,q.1.1.2),(q.1.2.1.1,q.1.2.1.2),q.1.2.2.1,q.1.2.2.2)).bind fun C=>if C then ((fX ((b.1.1.1,b.1.1.2),(b.1.2.1.1,b.1.2.1.2),b.1.2.2.1,b.1.2.2.2) ((r.1.1.1,r.1.1.2),(r.1.2.1.1,r.1.2.1.2),r.1.2.2.1,r.1.2.2.2)).bind fun E=>if E then (if e.2 then ((aN ((e.1.1.1,e.1.1.2),(e.1.2.1.1,e.1.2.1.2),e.1.2.2.1,e.1.2.2.2)).bind fun F=>if F then (if a.2 then ((aN ((a.1.1.1,a.1.1.2),(a.1.2.1.1,a.1.2.1.2),a.1.2.2.1,a.1.2.2.2)).bind fun G=>if G then (if b.2 then ((aN ((b.1.1.1,b.1.1.2),(b.1.2.1.1,b.1.2.1.2),b.1.2.2.1,b.1.2.2.2)).bind fun H=>if H then ((cm g).bind fun s=>(dN (s.1,s.2)).bind fun h=>(aT (s.1,s.2)).bind fun I=>if h.2 !=I then (some false) else (if h.2 then ((aN ((h.1.1.1,h.1.1.2),(h.1.2.1.1,h.1.2.1.2),h.1.2.2.1,h.1.2.2.2)).bind fun J=>if J then (if h.1.1.1 !=1 then (some false) else (if a.2 then ((aS (a.1.2.1.1,a.1.2.1.2) c.2.2).bind fun K=>some (decide (K≥0))) else (some true))) else (some false)) else (if a.2 then ((aS (a.1.2.1.1,a.1.2.1.2) c.2.2).bind fun L=>some (decide (L≥0))) else (some true)))) else (some false)) else ((cm g).bind fun t=>(dN (t.1,t.2)).bind fun i=>(aT (t.1,t.2)).bind fun M=>if i.2 !=M then (some false) else (if i.2 then ((aN ((i.1.1.1,i.1.1.2),(i.1.2.1.1,i.1.2.1.2),i.1.2.2.1,i.1.2.2.2)).bind fun N=>if N then (if i.1.1.1 !=1 then (some false) else (if a.2 then ((aS (a.1.2.1.1,a.1.2.1.2) c.2.2).bind fun O=>some (decide (O≥0))) else (some true))) else (some false)) else (if a.2 then ((aS (a.1.2.1.1,a.1.2.1.2) c.2.2).bind fun P=>some (decide (P≥0))) else (some true))))) else (some false)) else (if b.2 then ((aN ((b.1.1.1,b.1.1.2),(b.1.2.1.1,b.1.2.1.2),b.1.2.2.1,b.1.2.2.2)).bind fun Q=>if Q then ((cm g).bind fun u=>(dN (u.1,u.2)).bind fun j=>(aT (u.1,u.2)).bind fun R=>if j.2 !=R then (some false) else (if j.2 then ((aN ((j.1.1.1,j.1.1.2),(j.1.2.1.1,j.1.2.1.2),j.1.2.2.1,j.1.2.2.2)).bind fun S=>if S then (if j.1.1.1 !=1 then (some false) else (if a.2 then ((aS (a.1.2.1.1,a.1.2.1.2) c.2.2).bind fun T=>some (decide (T≥0))) else (some true))) else (some false)) else (if a.2 then ((aS (a.1.2.1.1,a.1.2.1.2) c.2.2).bind fun U=>some (decide (U≥0))) else (some true)))) else (some false)) else ((cm g).bind fun v=>(dN (v.1,v.2)).bind fun k=>(aT (v.1,v.2)).bind fun V=>if k.2 !=V then (some false) else (if k.2 then ((aN ((k.1.1.1,k.1.1.2),(k.1.2.1.1,k.1.2.1.2),k.1.2.2.1,k.1.2.2.2)).bind fun W=>if W then (if k.1.1.1 !=1 then (some false) else (if a.2 then ((aS (a.1.2.1.1,a.1.2.1.2) c.2.2).bind fun X=>some (decide (X≥0))) else (some true))) else (some false)) else (if a.2 then ((aS (a.1.2.1.1,a.1.2.1.2) c.2.2).bind fun Y=>some (decide (Y≥0))) else (some true)))))) else (some false)) else (if a.2 then ((aN ((a.1.1.1,a.1.1.2),(a.1.2.1.1,a.1.2.1.2),a.1.2.2.1,a.1.2.2.2)).bind fun Z=>if Z then (if b.2 then ((aN ((b.1.1.1,b.1.1.2),(b.1.2.1.1,b.1.2.1.2),b.1.2.2.1,b.1.2.2.2)).bind fun r42=>if r42 then ((cm g).bind fun w=>(dN (w.1,w.2)).bind fun l=>(aT (w.1,w.2)).bind fun r45=>if l.2 !=r45 then (some false) else (if l.2 then ((aN ((l.1.1.1,l.1.1.2),(l.1.2.1.1,l.1.2.1.2),l.1.2.2.1,l.1.2.2.2)).bind fun r46=>if r46 then (if l.1.1.1 !=1 then (some false) else (if a.2 then ((aS (a.1.2.1.1,a.1.2.1.2) c.2.2).bind fun r47=>some (decide (r47≥0))) else (some true))) else (some false)) else (if a.2 then ((aS (a.1.2.1.1,a.1.2.1.2) c.2.2).bind fun r48=>some (decide (r48≥0))) else (some true)))) else (some false)) else ((cm g).bind fun x=>(dN (x.1,x.2)).bind fun m=>(aT (x.1,x.2)).bind fun r51=>if m.2 !=r51 then (some false) else (if m.2 then ((aN ((m.1.1.1,m.1.1.2),(m.1.2.1.1,m.1.2.1.2),m.1.2.2.1,m.1.2.2.2)).bind fun r52=>if r52 then (if m.1.1.1 !=1 then (some false) else (if a.2 then ((aS (a.1.2.1.1,a.1.2.1.2) c.2.2).bind fun r53=>some (decide (r53≥0))) else (some true))) else (some false)) else (if a.2 then ((aS (a.1.2.1.1,a.1.2.1.2) c.2.2).bind fun r54=>some (decide (r54≥0))) else (some true))))) else (some false)) else (if b.2 then ((aN ((b.1.1.1,b.1.1.2),(b.1.2.1.1,b.1.2.1.2),b.1.2.2.1,b.1.2.2.2)).bind fun r55=>if r55 then ((cm g).bind fun y=>(dN (y.1,y.2)).bind fun n=>(aT (y.1,y.2)).bind fun r58=>if n.2 !=r58 then (some false) else (if n.2 then ((aN ((n.1.1.1,n.1.1.2),(n.1.2.1.1,n.1.2.1.2),n.1.2.2.1,n.1.2.2.2)).bind fun r59=>if r59 then (if n.1.1.1 !=1 then (some false) else (if a.2 then ((aS (a.1.2.1.1,a.1.2.1.2) c.2.2).bind fun r60=>some (decide (r60≥0))) else (some true))) else (some false)) else (if a.2 then ((aS (a.1.2.1.1,a.1.2.1.2) c.2.2).bind fun r61=>some (decide (r61≥0))) else (some true)))) else (some false)) else ((cm g).bind fun z=>(dN (z.1,z.2)).bind fun o=>(aT (z.1,z.2)).bind fun r64=>if o.2 !=r64 then (some false) else (if o.2 then ((aN ((o.1.1.1,o.1.1.2),(o.1.2.1.1,o.1.2.1.2),o.1.2.2.1,o.1.2.2.2)).bind fun r65=>if r65 then (if o.1.1.1 !=1 then (some false) else (if a.2 then ((aS (a.1.2.1.1,a.1.2.1.2) c.2.2).bind fun r66=>some (decide (r66≥0))) else (some true))) else (some false)) else (if a.2 then ((aS (a.1.2.1.1,a.1.2.1.2) c.2.2).bind fun r67=>some (decide (r67≥0))) else (some true))))))) else (some false)) else (some false)) else (some false)))))
end D
end Go.Proofs.YtodbpnpbhpeepaaGreatDoor
