/- FnExactQueryAnswers: for every input the law returns true and changes nothing that was there. Part 2 of 7. -/
import Derived.Test.YtakjhbbbjbebdaaGreatYC0
set_option linter.unusedVariables false
set_option linter.unusedSimpArgs false
set_option linter.unnecessarySimpa false
set_option linter.unusedSectionVars false
set_option maxRecDepth 1000000
namespace Go.Proofs.YtakjhbbbjbebdaaGreat
namespace R
open Go.RowKit
open D
inductive Ty
 | int (k:IntKind) | bool | str | raw
 | prod (a b:Ty)
 | sl (E:TypeId) (t:Ty)
 | fro (t:Ty)
 | wr (t:Ty)
 | tree (T E:TypeId) (t:Ty)
 deriving DecidableEq
abbrev Raw:= {v:Value // v.oneCell'=true}
def CW:Rep Raw:=jY Raw (·.1) (·.2)
def Ty.den:Ty→Type
 | .int _=>Int
 | .bool=>Bool
 | .str=>ByteArray
 | .raw=>Raw
 | .prod a b=>a.den×b.den
 | .sl _ t=>List t.den
 | .fro t=>t.den
 | .wr t=>t.den
 | .tree _ _ t=>Tr t.den
def Ty.size:Ty→Nat
 | .prod a b=>a.size+b.size
 | .fro t=>t.size
 | .wr t=>t.size
 | _=>1
def Ty.isProd:Ty→Bool
 | .prod _ _=>true
 | .fro t=>t.isProd
 | .wr _=>true
 | _=>false
def Ty.rep:(t:Ty)→Rep t.den
 | .int k=>jY Int (.int k) fun _=>rfl
 | .bool=>oE
 | .str=>Q3
 | .raw=>CW
 | .prod a b=>aH a.rep b.rep
 | .sl E t=>ae E t.rep
 | .fro t=>KO t.rep
 | .wr t=>t.rep
 | .tree T _ t=>rG T t.rep
def Ty.erase:Ty→Ty
 | .prod a b=>.prod a.erase b.erase
 | .sl _ t=>.sl 0 t.erase
 | .fro t=>t.erase
 | .wr t=>.wr t.erase
 | t=>t
theorem Ty.rep_size: ∀t:Ty,t.rep.size=t.size
 | .int _=>rfl
 | .bool=>rfl
 | .str=>rfl
 | .raw=>rfl
 | .prod a b=>by show a.rep.size+b.rep.size=_;rw[rep_size a,rep_size b];rfl
 | .sl _ _=>rfl
 | .fro t=>rep_size t
 | .wr t=>rep_size t
 | .tree _ _ _=>rfl
theorem Ty.size_pos: ∀t:Ty,0<t.size
 | .int _=>Nat.one_pos
 | .bool=>Nat.one_pos
 | .str=>Nat.one_pos
 | .raw=>Nat.one_pos
 | .prod a b=>Nat.add_pos_left (size_pos a) _
 | .sl _ _=>Nat.one_pos
 | .fro t=>size_pos t
 | .wr t=>size_pos t
 | .tree _ _ _=>Nat.one_pos
abbrev Pk:=(α:Type)×(Nat×(Hp→List Value→α→Prop))
def Ty.pk (t:Ty):Pk:=⟨t.den,t.rep.size,t.rep.rd⟩
def NM (p q:Pk):Pk:=⟨p.1×q.1,p.2.1+q.2.1,fun I cs x=> ∃c d,cs=c++d∧p.2.2 I c x.1∧q.2.2 I d x.2⟩
def Ub (p:Pk):Pk:=⟨List p.1,1,fun I cs xs=> ∃ao cap,cs= [.slice ao xs.length cap] ∧(xs.length≤lim∧xs.length≤cap)∧(xs= [] ∨ ∃b off ccs t fr,ao=some ⟨b,off,none⟩∧I b=some (.cells ccs t fr) ∧
  ∀i x,xs[i]? =some x→ ∃c:List Value,c.length=p.2.1∧(∀j,j<p.2.1→ccs.toList[off+i*p.2.1+j]? =c[j]?)∧p.2.2 I c x)⟩
theorem Ty.pk_erase: ∀t:Ty,t.erase.pk=t.pk
 | .int _=>rfl
 | .bool=>rfl
 | .str=>rfl
 | .raw=>rfl
 | .prod a b=>by
  show NM a.erase.pk b.erase.pk=NM a.pk b.pk
  rw[pk_erase a,pk_erase b]
 | .sl _ t=>by
  show Ub t.erase.pk=Ub t.pk
  rw[pk_erase t]
 | .fro t=>pk_erase t
 | .wr t=>pk_erase t
 | .tree _ _ _=>rfl
theorem Ty.pk_eq {t u:Ty} (h:t.erase=u.erase):t.pk=u.pk:=by rw[←pk_erase t,h,pk_erase u]
def nV (t u:Ty) (d:t.den):Option u.den:=if h:t.erase=u.erase then some (cast (congrArg Sigma.fst (Ty.pk_eq h)) d) else none
theorem Pm {p q:Pk} (h:p=q) {I:Hp} {cs:List Value} {d:p.1} (hd:p.2.2 I cs d):q.2.2 I cs (cast (congrArg Sigma.fst h) d):=by subst h;exact hd
theorem jZ {t u:Ty} {d:t.den} {d':u.den} (h:nV t u d=some d') {J:Hp} {cs:List Value} (hd:t.rep.rd J cs d):u.rep.rd J cs d':=by
 unfold nV at h
 split at h
 ·rename_i he
  obtain rfl:=Option.some.inj h
  exact Pm (Ty.pk_eq he) hd
 ·cases h
def lY (t u:Ty) (d:t.den):Option u.den:=if h:t=u then some (h ▸ d) else none
theorem mI {t u:Ty} {d:t.den} {d':u.den} (h:lY t u d=some d'): ∃e:t=u,d'=e ▸ d:=by
 unfold lY at h
 split at h
 ·rename_i he
  exact ⟨he,(Option.some.inj h).symm⟩
 ·cases h
def Ty.sh:Ty→Bool
 | .prod a b=>a.sh&&b.sh
 | .sl _ _=>false
 | .fro _=>true
 | .wr t=>t.sh
 | .tree _ _ _=>false
 | _=>true
theorem Ty.sh_ok: ∀ {t:Ty},t.sh=true→t.rep.Sh
 | .int _,_=>zt
 | .bool,_=>OX
 | .str,_=>Q9
 | .raw,_=>zt (α:=Raw) (enc:=(·.1)) (h1:=(·.2))
 | .prod a b,h=>by
  have h:(a.sh&&b.sh)=true:=h
  rw[Bool.and_eq_true] at h
  exact OW (sh_ok h.1) (sh_ok h.2)
 | .sl _ _,h=>by cases h
 | .fro _,_=>Q8
 | .wr t,h=>sh_ok (t:=t) h
 | .tree _ _ _,h=>by cases h
theorem Ty.cpy: ∀ {t:Ty},t.sh=true→Cpy t.rep t.rep
 | .int _,_=>rC
 | .bool,_=>EF
 | .str,_=>HI
 | .raw,_=>rC (α:=Raw) (enc:=(·.1)) (h1:=(·.2))
 | .prod a b,h=>by
  have h:(a.sh&&b.sh)=true:=h
  rw[Bool.and_eq_true] at h
  exact KY (cpy h.1) (cpy h.2)
 | .sl _ _,h=>by cases h
 | .fro _,_=>KX
 | .wr t,h=>cpy (t:=t) h
 | .tree _ _ _,h=>by cases h
def dens:List Ty→Type
 | [] =>Unit
 | [t] =>t.den
 | t::u::ts=>t.den×dens (u::ts)
def fZ:List Ty→Type
 | [] =>Unit
 | t::ts=>t.den×fZ ts
def toH:(ts:List Ty)→dens ts→fZ ts
 | [],_=>()
 | [_],d=>(d,())
 | _::u::ts,d=>(d.1,toH (u::ts) d.2)
def cur:List Ty→Type→Type
 | [],R=>R
 | t::ts,R=>t.den→cur ts R
def app {R:Type} :(ts:List Ty)→cur ts R→fZ ts→R
 | [],f,_=>f
 | _::ts,f,d=>app ts (f d.1) d.2
def HV (J:Hp):(ts:List Ty)→List Value→fZ ts→Prop
 | [],vs,_=>vs= []
 | t::ts,vs,d=> ∃v cs r,vs=v::r∧Lds t.isProd cs v∧t.rep.rd J cs d.1∧HV J ts r d.2
def ga (agg:Bool) (v:Value):List Value:=match agg with
 | true=>v.cells.toList
 | false=>[v]
def rH:(i:Nat)→(ts:List Ty)→fZ ts→Value→List Ch
 | _,[],_,_=>[]
 | i,t::ts,d,v=>Ch.own t.rep (ga t.isProd (vg v [i])) d.1::rH (i+1) ts d.2 v
def resGv:(ts:List Ty)→fZ ts→Value→List Ch
 | [t],d,v=>[Ch.own t.rep (ga t.isProd v) d.1]
 | ts,d,v=>rH 0 ts d v
def lZ:Value→Bool
 | .agg _=>true
 | _=>false
def resFa:(ts:List Ty)→Value→Prop
 | [t],v=>lZ v=t.isProd
 | ts,v=> ∃vs,v= .tuple vs∧vs.size=ts.length∧ ∀i t,ts[i]? =some t→lZ (vs.getD i undef)=t.isProd
def FnOk (P:Program) (w0:World) (J:Hp) (v:Value) (ps rs:List Ty) (e:cur ps (Option (dens rs))):Prop:=
 ∃k first capt,v= .func (.func k) first capt∧Enters P k∧ ∀J',J.le J'→ ∀args d,HV J' ps args d→ ∀r,app ps e d=some r→Con P k (first.toList++args++capt.toList).toArray J' w0 [] (resFa rs) (resGv rs (toH rs r))
theorem FnOk.mono {P:Program} {w0:World} {J J':Hp} {v:Value} {ps rs:List Ty} {e:cur ps (Option (dens rs))} (h:FnOk P w0 J v ps rs e) (hJ:J.le J'):FnOk P w0 J' v ps rs e:=by
 obtain ⟨k,first,capt,h1,h2,h3⟩:=h
 exact ⟨k,first,capt,h1,h2,fun J2 h=>h3 J2 (hJ.trans h)⟩
theorem FnOk.one {P:Program} {w0:World} {J:Hp} {v:Value} {ps rs:List Ty} {e:cur ps (Option (dens rs))} (h:FnOk P w0 J v ps rs e):v.oneCell'=true:=by
 obtain ⟨k,first,capt,rfl,_⟩:=h;rfl
structure Hdr where
 id:Nat
 path:List Nat
def QU:List Nat→List Nat→Bool
 | [],[] =>true
 | a::l,b::m=>Nat.beq a b&&QU l m
 | _,_=>false
def Hdr.beq (a b:Hdr):Bool:=Nat.beq a.id b.id&&QU a.path b.path
theorem HW: ∀ {l m:List Nat},QU l m=true→l=m
 | [],[],_=>rfl
 | a::l,b::m,h=>by
  have h:(Nat.beq a b&&QU l m)=true:=h
  rw[Bool.and_eq_true] at h
  rw[Nat.eq_of_beq_eq_true h.1,HW h.2]
 | [],_::_,h=>by cases h
 | _::_,[],h=>by cases h
theorem Hdr.beq_eq {a b:Hdr} (h:a.beq b=true):a=b:=by
 unfold Hdr.beq at h
 rw[Bool.and_eq_true] at h
 obtain ⟨i,p⟩:=a
 obtain ⟨j,q⟩:=b
 obtain rfl:i=j:=Nat.eq_of_beq_eq_true h.1
 obtain rfl:p=q:=HW h.2
 rfl
inductive LV
 | val (v:Value)
 | nb (b:Bool)
 | rd (h:Hdr) (t:Ty) (d:t.den)
 | own (h:Hdr)
 | ptr (h:Hdr) (off:Nat)
 | fn (h:Hdr) (ps rs:List Ty) (e:cur ps (Option (dens rs)))
 | fz (h:Hdr) (T:TypeId) (t:Ty) (d:t.den) (off:Nat)
 | fzf (h:Hdr) (T:TypeId) (ps rs:List Ty) (e:cur ps (Option (dens rs)))
 | rdn (h:Hdr) (b:Bool) (t:Ty) (d:t.den)
inductive MK
 | int | ii
def MK.den:MK→Type
 | .int=>Int
 | .ii=>Int×Int
def MK.dec:(k:MK)→DecidableEq k.den
 | .int=>(inferInstance:DecidableEq Int)
 | .ii=>(inferInstance:DecidableEq (Int×Int))
def MK.lit:(k:MK)→k.den→Lit
 | .int=>Pc
 | .ii=>S7
def MK.ok:(k:MK)→k.den→Bool
 | .int=>iOk
 | .ii=>UG
def MK.val:(k:MK)→k.den→Value
 | .int=>fun n:Int=>.int .i64 n
 | .ii=>fun x:Int×Int=>.agg #[.int .i64 x.1,.int .i64 x.2]
inductive ME
 | int | bool
def ME.den:ME→Type
 | .int=>Int
 | .bool=>Bool
def ME.lit:(e:ME)→e.den→Lit
 | .int=>Pc
 | .bool=>UF
def ME.ok:(e:ME)→e.den→Bool
 | .int=>iOk
 | .bool=>bOk
def ME.z:(e:ME)→e.den
 | .int=>(0:Int)
 | .bool=>false
def ME.val:(e:ME)→e.den→Value
 | .int=>fun n:Int=>.int .i64 n
 | .bool=>fun b:Bool=>.bool b
inductive AV
 | one (x:LV)
 | agg (xs:List LV)
 | tup (ys:List (Bool×List LV))
 | elr (h:Hdr) (E:TypeId) (t:Ty) (xs:List t.den) (x:t.den) (i:Int) (off:Nat)
 | elo (h:Hdr) (ver:Nat) (E:TypeId) (t:Ty) (xs:List t.den) (x:t.den) (i:Int) (off:Nat)
 | sub (h:Hdr) (ver:Nat) (E:TypeId) (t:Ty) (xs:List t.den) (l:Int)
 | pre (h:Hdr) (ver:Nat) (E:TypeId) (t:Ty) (xs:List t.den) (l:Int)
 | vw (u h:Hdr) (k n:Nat) (l m:Int)
 | xv (top:Bool) (u h:Hdr) (k n:Nat) (l m:Int)
 | capv (h:Hdr) (c:Nat)
 | any (h:Hdr)
 | und
inductive Chk
 | own (t:Ty) (d:t.den)
 | blk (T:TypeId) (cells:List LV)
 | hole (over:Nat) (t:Ty) (d:t.den) (u:Ty) (y:u.den) (f:u.den→t.den) (i:Int) (k off:Nat) (lv:LV)
 | box (T:TypeId) (t:Ty) (d:t.den)
 | map (K E:TypeId) (k:MK) (e:ME) (m:List (k.den×e.den))
 | clo (k:FuncId) (first:List (Bool×List LV)) (capt:List LV)
abbrev Ent:=Hdr×Nat×Chk
structure Sg where
 env:List (Nat×Nat×AV)
 chs:List Ent
 nxt:Nat
def Ch.gap {α β:Type} (R:Rep α) (cs:List Value) (S:Rep β) (f:β→α) (b off:Nat) (v:Value):Ch where
 holds I w K:=b∈K∧(∃cur E,w.heap[b]? =some (.cells cur E (0,0))∧cur[off]? =some v)∧(∀x,x∈K→x<w.heap.size) ∧
  ∀J w' v' y G,I.le J→(∀x,x∈K→x≠b→w'.heap[x]? =w.heap[x]?)→(∀cur E,w.heap[b]? =some (.cells cur E (0,0))→w'.heap[b]? =some (.cells (cur.setIfInBounds off v') E (0,0)))→S.own J w' [v'] y G→ ∃F,F.Perm (G++K)∧R.own J w' cs (f y) F
 mono:=by
  rintro I J w K ⟨h1,h2,h3,h4⟩ hJ
  exact ⟨h1,h2,h3,fun J' w' v' y G hJ'=>h4 J' w' v' y G (hJ.trans hJ')⟩
 stay:=by
  rintro I w w' K ⟨h1,⟨cur,E,h2,h2'⟩,h3,h4⟩ hw
  have hb:w'.heap[b]? =some (.cells cur E (0,0)):=by rw[hw b h1];exact h2
  refine ⟨h1,⟨cur,E,hb,h2'⟩,fun x hx=>?_,fun J w'' v' y G hJ k1 k2=>h4 J w'' v' y G hJ (fun x hx hne=>by rw[k1 x hx hne,hw x hx]) fun cur' E' hc=>k2 cur' E' (by rw[hw b h1];exact hc)⟩
  have hlt:=h3 x hx
  have:w.heap[x]? =some w.heap[x]:=Array.getElem?_eq_getElem hlt
  rw[←hw x hx] at this
  exact (Array.getElem?_eq_some_iff.1 this).1
 live:=fun h=>h.2.2.1
def Ch.box {α:Type} (b:Nat) (T:TypeId) (R:Rep α) (d:α):Ch where
 holds I w F:= ∃(cells:List Value) (G:List Nat),F=b::G∧w.heap[b]? =some (.cells cells.toArray T (0,0))∧R.own I w cells d G
 mono:=by
  rintro I J w F ⟨cells,G,rfl,h1,h2⟩ hJ
  exact ⟨cells,G,rfl,h1,R.own_mono h2 hJ⟩
 stay:=by
  rintro I w w' F ⟨cells,G,rfl,h1,h2⟩ hw
  exact ⟨cells,G,rfl,by rw[hw b (by simp)];exact h1,R.own_stay h2 fun c hc=>hw c (by simp[hc])⟩
 live:=by
  rintro I w F ⟨cells,G,rfl,h1,h2⟩ c hc
  rcases List.mem_cons.1 hc with rfl | hc
  ·exact (Array.getElem?_eq_some_iff.1 h1).1
  ·exact R.own_live h2 c hc
def Ch.emp:Ch where
 holds I w F:=F= []
 mono h _:=h
 stay h _:=h
 live:=by rintro I w F rfl b hb;cases hb
theorem St.emp {I:Hp} {w0 w:World} {C:List Ch} :St I w0 w (Ch.emp::C)↔St I w0 w C:=by
 constructor
 ·rintro ⟨h1,h2,F,⟨G,K,rfl,rfl,e⟩,h4,h5⟩
  exact ⟨h1,h2,K,e,h4,h5⟩
 ·rintro ⟨h1,h2,F,e,h4,h5⟩
  exact ⟨h1,h2,F,⟨[],F,rfl,rfl,e⟩,h4,h5⟩
theorem St.box {I:Hp} {w0 w:World} {C:List Ch} {α:Type} {b:Nat} {T:TypeId} {R:Rep α} {d:α} :St I w0 w (Ch.box b T R d::C)↔ ∃cells,St I w0 w (Ch.blk b cells T::Ch.own R cells d::C):=by
 constructor
 ·rintro ⟨h1,h2,F,⟨G,K,rfl,⟨cells,G',rfl,k1,k2⟩,e⟩,h4,h5⟩
  exact ⟨cells,h1,h2,b::(G'++K),⟨[b],G'++K,rfl,⟨rfl,k1⟩,G',K,rfl,k2,e⟩,h4,h5⟩
 ·rintro ⟨cells,h1,h2,F,⟨G,K,rfl,⟨rfl,k1⟩,G',K',rfl,k2,e⟩,h4,h5⟩
  exact ⟨h1,h2,b::(G'++K'),⟨b::G',K',rfl,⟨cells,G',rfl,k1,k2⟩,e⟩,h4,h5⟩
abbrev Th:=Nat→Value
def hv (θ:Th) (h:Hdr):Value:=vg (θ h.id) h.path
def LV.v (θ:Th):LV→Value
 | .val v=>v
 | .nb b=>.bool (!b)
 | .rd h _ _=>hv θ h
 | .own h=>hv θ h
 | .ptr h off=>.pointer (some ⟨bk (hv θ h),off,none⟩)
 | .fn h _ _ _=>hv θ h
 | .fz h _ _ _ off=>.pointer (some ⟨bk (hv θ h),off,none⟩)
 | .fzf h _ _ _ _=>.pointer (some ⟨bk (hv θ h),0,none⟩)
 | .rdn h _ _ _=>hv θ h
def iu (θ:Th) (y:Bool×List LV):Value:=if y.1 then .agg (y.2.map (·.v θ)).toArray else match y.2 with
 | x::_=>x.v θ
 | [] =>undef
def AV.v (θ:Th):AV→Value
 | .one x=>x.v θ
 | .agg xs=>.agg (xs.map (·.v θ)).toArray
 | .tup ys=>.tuple (ys.map (iu θ)).toArray
 | .elr h _ t _ _ i off=>pt (hv θ h) (i.toNat*t.size+off)
 | .elo h _ _ t _ _ i off=>pt (hv θ h) (i.toNat*t.size+off)
 | .sub h _ _ t xs l=>nl (hv θ h) l.toNat xs.length t.size
 | .pre h _ _ t xs l=>nl (hv θ h) 0 l.toNat t.size
 | .vw u _ _ _ _ _=>hv θ u
 | .xv _ u _ _ _ _ _=>hv θ u
 | .capv _ c=>.int .i64 c
 | .any h=>hv θ h
 | .und=>undef
def Vw (u v:Value) (k n:Nat) (l m:Int):Prop:=(v= .slice none 0 0∧u= .slice none 0 0∧n=0∧l=0∧m=0) ∨
 ∃g ofs cap x,v= .slice (some ⟨g,ofs,none⟩) n cap∧u= .slice (some ⟨g,ofs+x,none⟩) (m.toNat - l.toNat) (cap - l.toNat)∧0≤l∧l≤m∧n≤cap∧m≤(cap:Int)∧x≤l.toNat*k∧(cap=l.toNat∨x=l.toNat*k)
def Hs:Value→Nat
 | .slice _ _ c=>c
 | _=>0
def isNilV:Value→Bool
 | .slice none _ _=>true
 | _=>false
def LV.ok (P:Program) (w0:World) (J:Hp) (θ:Th) (n:Nat):LV→Prop
 | .val v=>v.oneCell'=true
 | .nb _=>True
 | .rd h t d=>h.id<n∧t.rep.rd J [hv θ h] d
 | .own h=>h.id<n∧(hv θ h).oneCell'=true
 | .ptr h _=>h.id<n
 | .fn h ps rs e=>h.id<n∧FnOk P w0 J (hv θ h) ps rs e
 | .fz h T t d _=>h.id<n∧ ∃cells:List Value,J (bk (hv θ h))=some (.cells cells.toArray T (0,0))∧t.rep.rd J cells d
 | .fzf h T ps rs e=>h.id<n∧ ∃u:Value,J (bk (hv θ h))=some (.cells [u].toArray T (0,0))∧FnOk P w0 J u ps rs e
 | .rdn h b t d=>h.id<n∧t.rep.rd J [hv θ h] d∧isNilV (hv θ h)=b
def SaysH (x:Chk) (ver:Nat) (c:Chk):Prop:=match x with
 | .hole over t d _ _ _ _ _ _ _=>over=ver∧c= .own t d
 | _=>False
def Says (e:Ent) (h:Hdr) (ver:Nat) (c:Chk):Prop:=e.1=h∧((e.2.1=ver∧c=e.2.2)∨SaysH e.2.2 ver c)
def Mem (chs:List Ent) (n:Nat) (h:Hdr) (ver:Nat) (c:Chk):Prop:=ver<n∧ ∀e,e∈chs→ ∀c',Says e h ver c'→c'=c
def AV.ok (P:Program) (w0:World) (J:Hp) (θ:Th) (n:Nat) (chs:List Ent):AV→Prop
 | .one x=>x.ok P w0 J θ n
 | .agg xs=> ∀x∈xs,x.ok P w0 J θ n
 | .tup ys=> ∀y∈ys,∀x∈y.2,x.ok P w0 J θ n
 | .elr h E t xs x i _=>h.id<n∧az xs i=some x∧(Ty.sl E t).rep.rd J [hv θ h] xs
 | .elo h ver E t xs x i _=>h.id<n∧az xs i=some x∧Mem chs n h ver (.own (.sl E t) xs)
 | .sub h ver E t xs l=>h.id<n∧(0≤l∧l≤(xs.length:Int))∧Mem chs n h ver (.own (.sl E t) xs)
 | .pre h ver E t xs l=>h.id<n∧(0≤l∧l≤(xs.length:Int))∧Mem chs n h ver (.own (.sl E t) xs)
 | .vw u h k N l m=>u.id<n∧h.id<n∧Vw (hv θ u) (hv θ h) k N l m∧m≤(N:Int)
 | .xv top u h k N l m=>u.id<n∧h.id<n∧Vw (hv θ u) (hv θ h) k N l m∧(top=true→l=0)
 | .capv h c=>h.id<n∧Hs (hv θ h)=c
 | .any h=>h.id<n
 | .und=>True
def toCh (P:Program) (θ:Th) (e:Ent):Ch:=match e.2.2 with
 | .own t d=>Ch.own t.rep [hv θ e.1] d
 | .blk T cells=>Ch.blk (bk (hv θ e.1)) (cells.map (·.v θ)) T
 | .hole _ t _ u _ f i k off lv=>Ch.gap t.rep [hv θ e.1] u.rep f (ptB (hv θ e.1)) (ptO (hv θ e.1)+(i.toNat*k+off)) (lv.v θ)
 | .box T t d=>Ch.box (bk (hv θ e.1)) T t.rep d
 | .map K E k m md=> @Ch.mp P K E k.den m.den k.dec k.lit k.ok m.lit m.z (hv θ e.1) md
 | .clo _ _ _=>Ch.emp
def okE (P:Program) (w0:World) (J:Hp) (θ:Th) (n:Nat) (chs:List Ent) (e:Ent):Prop:=e.1.id<n∧e.2.1<n∧match e.2.2 with
 | .own _ _=>True
 | .blk _ cells=> ∀x∈cells,x.ok P w0 J θ n
 | .hole over t d u y f _ _ _ lv=>lv.ok P w0 J θ n∧over<e.2.1∧f y=d∧ ∀l,lv= .own l→Mem chs n l e.2.1 (.own u y)
 | .box _ _ _=>True
 | .map _ _ _ _ _=>True
 | .clo k first capt=>(∀y∈first,∀x∈y.2,x.ok P w0 J θ n)∧(∀x∈capt,x.ok P w0 J θ n)∧hv θ e.1= .func (.func k) (first.map (iu θ)).toArray (capt.map (·.v θ)).toArray
def envL (θ:Th) (s:Sg):List (Nat×Value):=s.env.map fun e=>(e.1,e.2.2.v θ)
structure Fine (P:Program) (w0:World) (J:Hp) (θ:Th) (s:Sg):Prop where
 env: ∀e∈s.env,e.2.2.ok P w0 J θ s.nxt s.chs
 ver: ∀e∈s.env,e.2.1<s.nxt
 nd:s.env.Pairwise fun a b=>a.2.1≠b.2.1
 chs: ∀e∈s.chs,okE P w0 J θ s.nxt s.chs e
structure Sim (P:Program) (I:Hp) (w0:World) (F:Ch) (n:Nat) (J:Hp) (θ:Th) (s:Sg) (a:Act) (w:World):Prop where
 le:I.le J
 agr:Agr n a (envL θ s)
 st:St J w0 w (s.chs.map (toCh P θ)++ [F])
 fine:Fine P w0 J θ s
section
variable {P:Program} {w0:World} {J J':Hp} {θ θ':Th} {n m:Nat} {v:Value} {chs chs':List Ent}
theorem LV.one {x:LV} (h:x.ok P w0 J θ n):(x.v θ).oneCell'=true:=by
 cases x with
 | val v=>exact h
 | nb b=>rfl
 | rd h' t d=>exact Rep.rd_one _ h.2 _ (by simp[LV.v])
 | own h'=>exact h.2
 | ptr h' off=>rfl
 | fn h' ps rs e=>exact h.2.one
 | fz _ _ _ _ _=>rfl
 | fzf _ _ _ _ _=>rfl
 | rdn h' b t d=>exact Rep.rd_one _ h.2.1 _ (by simp[LV.v])
theorem Bf {v:Value} (h:v.oneCell'=true):v.cells= [v].toArray:=by cases v <;> first | rfl | cases h
def Same (n:Nat) (θ θ':Th):Prop:= ∀i,i<n→θ' i=θ i
theorem Same.upd:Same n θ (upd θ n v):=fun i hi=>vt (by omega)
theorem Same.rfl:Same n θ θ:=fun i hi=>Eq.refl _
theorem Same.trans {θ'':Th} (h:Same n θ θ') (k:Same m θ' θ'') (hm:n≤m):Same n θ θ'':=fun i hi=>(k i (by omega)).trans (h i hi)
theorem aK (hs:Same n θ θ') {h:Hdr} (hn:h.id<n):hv θ' h=hv θ h:=by unfold hv;rw[hs _ hn]
theorem LV.v_same (hs:Same n θ θ') {x:LV} (h:x.ok P w0 J θ n):x.v θ'=x.v θ:=by
 cases x with
 | val _=>rfl
 | nb _=>rfl
 | rd h' t d=>exact aK hs h.1
 | own h'=>exact aK hs h.1
 | ptr h' off=>show Value.pointer (some ⟨bk (hv θ' h'),off,none⟩)=_;rw[aK hs h];rfl
 | fn h' ps rs e=>exact aK hs h.1
 | fz h' T t d off=>show Value.pointer (some ⟨bk (hv θ' h'),off,none⟩)=_;rw[aK hs h.1];rfl
 | fzf h' T ps rs e=>show Value.pointer (some ⟨bk (hv θ' h'),0,none⟩)=_;rw[aK hs h.1];rfl
 | rdn h' b t d=>exact aK hs h.1
theorem LV.ok_same (hs:Same n θ θ') (hm:n≤m) {x:LV} (h:x.ok P w0 J θ n) (hJ:J.le J'):x.ok P w0 J' θ' m:=by
 cases x with
 | val _=>exact h
 | nb _=>trivial
 | rd h' t d=>exact ⟨Nat.lt_of_lt_of_le h.1 hm,by rw[aK hs h.1];exact Rep.rd_mono _ h.2 hJ⟩
 | own h'=>exact ⟨Nat.lt_of_lt_of_le h.1 hm,by rw[aK hs h.1];exact h.2⟩
 | ptr h' off=>exact Nat.lt_of_lt_of_le h hm
 | fn h' ps rs e=>exact ⟨Nat.lt_of_lt_of_le h.1 hm,by rw[aK hs h.1];exact h.2.mono hJ⟩
 | fz h' T t d off =>
  obtain ⟨h1,cells,h2,h3⟩:=h
  exact ⟨Nat.lt_of_lt_of_le h1 hm,cells,by rw[aK hs h1];exact hJ _ _ h2,Rep.rd_mono _ h3 hJ⟩
 | fzf h' T ps rs e =>
  obtain ⟨h1,u,h2,h3⟩:=h
  exact ⟨Nat.lt_of_lt_of_le h1 hm,u,by rw[aK hs h1];exact hJ _ _ h2,h3.mono hJ⟩
 | rdn h' b t d=>exact ⟨Nat.lt_of_lt_of_le h.1 hm,by rw[aK hs h.1];exact ⟨Rep.rd_mono _ h.2.1 hJ,h.2.2⟩⟩
theorem gT (hs:Same n θ θ') {xs:List LV} (h: ∀x∈xs,x.ok P w0 J θ n):xs.map (·.v θ')=xs.map (·.v θ):=List.map_congr_left fun x hx=>LV.v_same hs (h x hx)
theorem sX (hs:Same n θ θ') {y:Bool×List LV} (hy: ∀x∈y.2,x.ok P w0 J θ n):iu θ' y=iu θ y:=by
 unfold iu
 rw[gT hs hy]
 split
 ·rfl
 ·cases hl:y.2 with
  | nil=>rfl
  | cons x l=>exact LV.v_same hs (hy x (by rw[hl];simp))
theorem AV.v_same (hs:Same n θ θ') {x:AV} (h:x.ok P w0 J θ n chs):x.v θ'=x.v θ:=by
 cases x with
 | one x=>exact LV.v_same hs h
 | agg xs=>show Value.agg _=Value.agg _;rw[gT hs h]
 | tup ys =>
  show Value.tuple _=Value.tuple _
  congr 2
  refine List.map_congr_left fun y hy=>?_
  exact sX hs (h y hy)
 | elr h' E t xs x i off=>show pt (hv θ' h') _=_;rw[aK hs h.1];rfl
 | elo h' ver E t xs x i off=>show pt (hv θ' h') _=_;rw[aK hs h.1];rfl
 | sub h' ver E t xs l=>show nl (hv θ' h') _ _ _=_;rw[aK hs h.1];rfl
 | pre h' ver E t xs l=>show nl (hv θ' h') _ _ _=_;rw[aK hs h.1];rfl
 | vw u h' k N l m=>exact aK hs h.1
 | xv top u h' k N l m=>exact aK hs h.1
 | capv h' c=>rfl
 | any h'=>exact aK hs h
 | und=>rfl
def Newer (n:Nat) (chs chs':List Ent):Prop:= ∀e,e∈chs'→ ∀h ver c,Says e h ver c→n≤ver∨ ∃e0,e0∈chs∧Says e0 h ver c
theorem Newer.rfl:Newer n chs chs:=fun e he h ver c hs=>.inr ⟨e,he,hs⟩
theorem Mem.newer (hc:Newer n chs chs') (hm:n≤m) {h:Hdr} {ver:Nat} {c:Chk} (k:Mem chs n h ver c):Mem chs' m h ver c:=
 ⟨Nat.lt_of_lt_of_le k.1 hm,fun e he c' hs=>by
  rcases hc e he h ver c' hs with h1 | ⟨e0,h0,h1⟩
  ·have:=k.1;omega
  ·exact k.2 e0 h0 c' h1⟩
theorem AV.ok_same (hs:Same n θ θ') (hm:n≤m) (hc:Newer n chs chs') {x:AV} (h:x.ok P w0 J θ n chs) (hJ:J.le J'):x.ok P w0 J' θ' m chs':=by
 cases x with
 | one x=>exact LV.ok_same hs hm h hJ
 | agg xs=>exact fun x hx=>LV.ok_same hs hm (h x hx) hJ
 | tup ys=>exact fun y hy x hx=>LV.ok_same hs hm (h y hy x hx) hJ
 | elr h' E t xs x i off=>exact ⟨Nat.lt_of_lt_of_le h.1 hm,h.2.1,by rw[aK hs h.1];exact Rep.rd_mono _ h.2.2 hJ⟩
 | elo h' ver E t xs x i off=>exact ⟨Nat.lt_of_lt_of_le h.1 hm,h.2.1,h.2.2.newer hc hm⟩
 | sub h' ver E t xs l=>exact ⟨Nat.lt_of_lt_of_le h.1 hm,h.2.1,h.2.2.newer hc hm⟩
 | pre h' ver E t xs l=>exact ⟨Nat.lt_of_lt_of_le h.1 hm,h.2.1,h.2.2.newer hc hm⟩
 | vw u h' k N l m=>exact ⟨Nat.lt_of_lt_of_le h.1 hm,Nat.lt_of_lt_of_le h.2.1 hm,by rw[aK hs h.1,aK hs h.2.1];exact h.2.2⟩
 | xv top u h' k N l m=>exact ⟨Nat.lt_of_lt_of_le h.1 hm,Nat.lt_of_lt_of_le h.2.1 hm,by rw[aK hs h.1,aK hs h.2.1];exact h.2.2⟩
 | capv h' c=>exact ⟨Nat.lt_of_lt_of_le h.1 hm,by rw[aK hs h.1];exact h.2⟩
 | any h'=>exact Nat.lt_of_lt_of_le h hm
 | und=>trivial
theorem lg (hs:Same n θ θ') {e:Ent} (h:okE P w0 J θ n chs e):toCh P θ' e=toCh P θ e:=by
 obtain ⟨k,ver,c⟩:=e
 cases c with
 | own t d=>show Ch.own _ [hv θ' k] d=_;rw[aK hs h.1];rfl
 | blk T cells=>show Ch.blk (bk (hv θ' k)) (cells.map (·.v θ')) T=_;rw[aK hs h.1,gT hs h.2.2];rfl
 | hole over t d u y f i kk off lv=>show Ch.gap _ [hv θ' k] _ f (ptB (hv θ' k)) (ptO (hv θ' k)+(i.toNat*kk+off)) (lv.v θ')=_;rw[aK hs h.1,LV.v_same hs h.2.2.1];rfl
 | box T t d=>show Ch.box (bk (hv θ' k)) T _ d=_;rw[aK hs h.1];rfl
 | map K E kk e m=>show @Ch.mp P K E kk.den e.den kk.dec kk.lit kk.ok e.lit e.z (hv θ' k) m=_;rw[aK hs h.1];rfl
 | clo _ _ _=>rfl
theorem eU (hs:Same n θ θ') (hm:n≤m) (hc:Newer n chs chs') {e:Ent} (h:okE P w0 J θ n chs e) (hJ:J.le J'):okE P w0 J' θ' m chs' e:=by
 obtain ⟨k,ver,c⟩:=e
 cases c with
 | own t d=>exact ⟨Nat.lt_of_lt_of_le h.1 hm,Nat.lt_of_lt_of_le h.2.1 hm,trivial⟩
 | blk T cells=>exact ⟨Nat.lt_of_lt_of_le h.1 hm,Nat.lt_of_lt_of_le h.2.1 hm,fun x hx=>LV.ok_same hs hm (h.2.2 x hx) hJ⟩
 | hole over t d u y f i kk off lv=>exact ⟨Nat.lt_of_lt_of_le h.1 hm,Nat.lt_of_lt_of_le h.2.1 hm,LV.ok_same hs hm h.2.2.1 hJ,h.2.2.2.1,h.2.2.2.2.1,fun l hl=>(h.2.2.2.2.2 l hl).newer hc hm⟩
 | box T t d=>exact ⟨Nat.lt_of_lt_of_le h.1 hm,Nat.lt_of_lt_of_le h.2.1 hm,trivial⟩
 | map K E kk e m=>exact ⟨Nat.lt_of_lt_of_le h.1 hm,Nat.lt_of_lt_of_le h.2.1 hm,trivial⟩
 | clo f first capt =>
  obtain ⟨h1,h2,h3,h4,h5⟩:=h
  refine ⟨Nat.lt_of_lt_of_le h1 hm,Nat.lt_of_lt_of_le h2 hm,fun y hy x hx=>LV.ok_same hs hm (h3 y hy x hx) hJ,fun x hx=>LV.ok_same hs hm (h4 x hx) hJ,?_⟩
  show hv θ' k=_
  rw[aK hs h1,gT hs h4,List.map_congr_left fun y hy=>sX hs (h3 y hy)]
  exact h5
theorem fJ (hs:Same n θ θ') {l:List Ent} (h: ∀e∈l,okE P w0 J θ n chs e):l.map (toCh P θ')=l.map (toCh P θ):=List.map_congr_left fun e he=>lg hs (h e he)
theorem vA (hs:Same n θ θ') {s:Sg} (h: ∀e∈s.env,e.2.2.ok P w0 J θ n chs):envL θ' s=envL θ s:=List.map_congr_left fun e he=>by rw[AV.v_same hs (h e he)]
end
def look (l:List (Nat×Nat×AV)) (t:Nat):Option AV:=match l with
 | [] =>none
 | (u,_,v)::l=>if Nat.beq u t then some v else look l t
def Db (v:Value):Option AV:=match v.oneCell' with
 | true=>some (.one (.val v))
 | false=>none
def opd (s:Sg):Operand→Option AV
 | .tmp t=>look s.env t
 | .const v=>Db v
 | .func f=>some (.one (.val (.func (.func f) #[] #[])))
 | .global _=>none
theorem pE {t:Nat} {v:AV} : ∀ {l:List (Nat×Nat×AV)},look l t=some v→ ∃e∈l,e.2.2=v
 | (u,k,x)::l,h=>by
  unfold look at h
  split at h
  ·exact ⟨(u,k,x),by simp,Option.some.inj h⟩
  ·obtain ⟨e,he,e'⟩:=pE h
   exact ⟨e,by simp[he],e'⟩
theorem eL {θ:Th} {t:Nat} {v:AV} : ∀ {l:List (Nat×Nat×AV)},look l t=some v→(l.map fun e=>(e.1,e.2.2.v θ)).lookup t=some (v.v θ)
 | (u,k,x)::l,h=>by
  unfold look at h
  rw[List.map_cons,List.lookup_cons]
  split at h
  ·rename_i hu
   have:u=t:=Nat.eq_of_beq_eq_true hu
   subst this
   simp[Option.some.inj h]
  ·rename_i hu
   have hne:(t==u)=false:=by
    simp only[beq_eq_false_iff_ne];intro e;subst e;exact hu (Nat.beq_refl t)
   rw[show (t==(u,x.v θ).1)=false from hne]
   exact eL h
section
variable {P:Program} {w0:World} {J:Hp} {θ:Th} {s:Sg} {x:Operand} {v:AV}
theorem yq {c:Value} (h:Db c=some v):c.oneCell'=true∧v= .one (.val c):=by
 unfold Db at h
 split at h
 ·exact ⟨by assumption,(Option.some.inj h).symm⟩
 ·cases h
theorem a6 (hf:Fine P w0 J θ s) (h:opd s x=some v):v.ok P w0 J θ s.nxt s.chs:=by
 cases x with
 | tmp t=>obtain ⟨e,he,rfl⟩:=pE h;exact hf.env e he
 | const c=>obtain ⟨h1,rfl⟩:=yq h;exact h1
 | func f=>rw[←Option.some.inj h];exact Eq.refl true
 | global g=>cases h
theorem ak (h:opd s x=some v):evL (envL θ s) x=v.v θ:=by
 cases x with
 | tmp t =>
  have:=eL (θ:=θ) h
  show ((envL θ s).lookup t).getD undef=_
  rw[show (envL θ s).lookup t=_ from this];rfl
 | const c=>obtain ⟨h1,rfl⟩:=yq h;rfl
 | func f=>rw[←Option.some.inj h];rfl
 | global g=>cases h
def okO (n:Nat) (s:Sg) (o:Oper):Bool:=o.op.operands.toList.all (fun x=>(opd s x).isSome || match x with | .global _=>true | _=>false)&&dstOk n o.dst&&noSelect o
theorem NN {n:Nat} {o:Oper} (h:okO n s o=true):(zo (envL θ s) o&&dstOk n o.dst&&noSelect o)=true:=by
 unfold okO at h
 rw[Bool.and_eq_true,Bool.and_eq_true] at h
 rw[Bool.and_eq_true,Bool.and_eq_true]
 refine ⟨⟨List.all_eq_true.2 fun x hx=>?_,h.1.2⟩,h.2⟩
 have hx:=List.all_eq_true.1 h.1.1 x hx
 cases x with
 | tmp t =>
  simp only[Bool.or_false] at hx
  obtain ⟨v,hv⟩:=Option.isSome_iff_exists.1 hx
  have:=eL (θ:=θ) (show look s.env t=some v from hv)
  show ((envL θ s).lookup t).isSome=true
  rw[show (envL θ s).lookup t=_ from this];rfl
 | const c=>rfl
 | func f=>rfl
 | global g=>rfl
end
end R
namespace R
open Go.RowKit
open D
structure Res where
 rs:List Ent
 ns:List Ent
 rest:List Ent
 gives:List (Hdr×Chk)
 av:AV
def Res.chs (r:Res) (ver:Nat):List Ent:=r.gives.map (fun g=>(g.1,ver,g.2))++(r.rs++r.rest)
def HY (d:Option Nat) (n:Nat) (v:AV) (l:List (Nat×Nat×AV)):List (Nat×Nat×AV):=match d with
 | some d=>(d,n,v)::l
 | none=>l
def after (s:Sg) (d:Option Nat) (r:Res):Sg:=⟨HY d s.nxt r.av s.env,r.chs s.nxt,s.nxt+1⟩
def Res.pure (s:Sg) (av:AV):Res:=⟨[],[],s.chs,[],av⟩
structure Good (P:Program) (w0:World) (s:Sg) (o:Oper) (r:Res):Prop where
 perm:s.chs.Perm (r.rs++r.ns++r.rest)
 says: ∀J θ,Fine P w0 J θ s→ ∀g,g∈r.gives→ ∀ver c,SaysH g.2 ver c→ ∃e0,e0∈s.chs∧Says e0 g.1 ver c
 op: ∀J θ,Fine P w0 J θ s→OpT P J w0 o (evL (envL θ s)) ((r.rs++r.ns).map (toCh P θ))
  (fun v=>r.av.ok P w0 J (upd θ s.nxt v) (s.nxt+1) (r.chs s.nxt)∧r.av.v (upd θ s.nxt v)=v∧ ∀g∈r.gives,okE P w0 J (upd θ s.nxt v) (s.nxt+1) (r.chs s.nxt) (g.1,s.nxt,g.2))
  (fun v=>r.rs.map (toCh P θ)++r.gives.map fun g=>toCh P (upd θ s.nxt v) (g.1,s.nxt,g.2))
structure GoodA (P:Program) (w0:World) (J:Hp) (θ:Th) (s:Sg) (o:Oper) (r:Res):Prop where
 perm:s.chs.Perm (r.rs++r.ns++r.rest)
 says: ∀g,g∈r.gives→ ∀ver c,SaysH g.2 ver c→ ∃e0,e0∈s.chs∧Says e0 g.1 ver c
 op:OpT P J w0 o (evL (envL θ s)) ((r.rs++r.ns).map (toCh P θ))
  (fun v=>r.av.ok P w0 J (upd θ s.nxt v) (s.nxt+1) (r.chs s.nxt)∧r.av.v (upd θ s.nxt v)=v∧ ∀g∈r.gives,okE P w0 J (upd θ s.nxt v) (s.nxt+1) (r.chs s.nxt) (g.1,s.nxt,g.2))
  (fun v=>r.rs.map (toCh P θ)++r.gives.map fun g=>toCh P (upd θ s.nxt v) (g.1,s.nxt,g.2))
theorem Good.at {P:Program} {w0:World} {J:Hp} {θ:Th} {s:Sg} {o:Oper} {r:Res} (h:Good P w0 s o r) (hf:Fine P w0 J θ s):GoodA P w0 J θ s o r:=⟨h.perm,h.says J θ hf,h.op J θ hf⟩
def plain (l:List (Hdr×Chk)):Bool:=l.all fun g=>match g.2 with
 | .hole _ _ _ _ _ _ _ _ _ _=>false
 | _=>true
theorem aC {P:Program} {w0:World} {s:Sg} {l:List (Hdr×Chk)} {chs:List Ent} (h:plain l=true): ∀J θ,Fine P w0 J θ s→ ∀g,g∈l→ ∀ver c,SaysH g.2 ver c→ ∃e0,e0∈chs∧Says e0 g.1 ver c:=fun _ _ _ g hg ver c hs=>by
 have:=(List.all_eq_true.1 h) g hg
 obtain ⟨h',x⟩:=g
 cases x with
 | hole _ _ _ _ _ _ _ _ _ _=>cases this
 | _=>exact hs.elim
theorem OpT.weak {P:Program} {w0:World} {o:Oper} {I:Hp} {ev:Operand→Value} {rn:List Ch} {fact fact':Value→Prop} {gv gv':Value→List Ch} (h:OpT P I w0 o ev rn fact gv) (hf: ∀v,fact v→fact' v) (hg: ∀v,fact v→gv v=gv' v):OpT P I w0 o ev rn fact' gv' :=
 fun w C hs=>(h w C hs).imp fun v w hv=>⟨hf v hv.1,by rw[←hg v hv.1];exact hv.2⟩
section
variable {P:Program} {I:Hp} {w0 w:World} {F:Ch} {n:Nat} {J:Hp} {θ:Th} {s:Sg} {a:Act} {o:Oper} {r:Res} {av:AV}
theorem Res.newer (hp:s.chs.Perm (r.rs++r.ns++r.rest)) (hs: ∀g,g∈r.gives→ ∀ver c,SaysH g.2 ver c→ ∃e0,e0∈s.chs∧Says e0 g.1 ver c):Newer s.nxt s.chs (r.chs s.nxt):=fun e he h ver c k=>by
 rcases List.mem_append.1 he with he | he
 ·obtain ⟨g,hg,rfl⟩:=List.mem_map.1 he
  obtain ⟨rfl,k⟩:=k
  rcases k with ⟨k1,k2⟩ | k
  ·exact .inl (Nat.le_of_eq k1)
  ·exact .inr (hs g hg ver c k)
 ·exact .inr ⟨e,hp.mem_iff.2 (by rcases List.mem_append.1 he with h | h <;> simp[h]),k⟩
theorem cX (hop: ∀J θ,Fine P w0 J θ s→OpT P J w0 o (evL (envL θ s)) [] (· =av.v θ) (fun _=>[])) (hok: ∀J θ,Fine P w0 J θ s→av.ok P w0 J θ s.nxt s.chs):Good P w0 s o (Res.pure s av):=
 ⟨List.Perm.refl _,fun _ _ _ g hg=>(by cases hg),fun J θ hf=>OpT.weak (hop J θ hf) (fun v hv=>by
  subst hv
  exact ⟨AV.ok_same Same.upd (Nat.le_succ _) Newer.rfl (hok J θ hf) Hp.le.rfl,AV.v_same Same.upd (hok J θ hf),fun g hg=>by cases hg⟩) (fun v hv=>rfl)⟩
theorem zA {θ':Th} {d:Option Nat} {v:Value} (h:envL θ' s=envL θ s) (hv:av.v θ'=v) {chs:List Ent} {m:Nat} :envL θ' ⟨HY d s.nxt av s.env,chs,m⟩=KP d v (envL θ s):=by
 cases d with
 | none=>exact h
 | some d=>show (d,av.v θ')::envL θ' s=_;rw[h,hv];rfl
theorem nq {e:Nat×Nat×AV} {k:Nat} : ∀ {d:Option Nat} {l:List (Nat×Nat×AV)},e∈HY d k av l→(e.2.2=av∧e.2.1=k)∨e∈l:=by
 intro d l hd
 cases d with
 | none=>exact .inr hd
 | some d =>
  rcases List.mem_cons.1 hd with rfl | h
  ·exact .inl ⟨rfl,rfl⟩
  ·exact .inr h
theorem Bg {d:Option Nat} {k:Nat} {l:List (Nat×Nat×AV)} (h:l.Pairwise fun a b=>a.2.1≠b.2.1) (hv: ∀e∈l,e.2.1<k):(HY d k av l).Pairwise fun a b=>a.2.1≠b.2.1:=by
 cases d with
 | none=>exact h
 | some d=>exact List.pairwise_cons.2 ⟨fun e he h'=>by have:=hv e he;rw[←h'] at this;exact Nat.lt_irrefl _ this,h⟩
theorem NO {ops:Array Oper} {rest:List Oper} {Q:Exit→Act→World→Prop} (hG:GoodA P w0 J θ s o r) (hS:Sim P I w0 F n J θ s a w) (hg:o.guard=none) (hk:okO n s o=true)
  (k: ∀θ' a w,Same s.nxt θ θ'→Sim P I w0 F n J θ' (after s o.dst r) a w→wpList P ops Q rest a w):wpList P ops Q (o::rest) a w:=by
 have hp:(s.chs.map (toCh P θ)++ [F]).Perm ((r.rs++r.ns).map (toCh P θ)++(r.rest.map (toCh P θ)++ [F])):=by
  have:=(hG.perm.map (toCh P θ)).append_right [F]
  rwa [List.map_append,List.append_assoc] at this
 have hallc: ∀e,e∈r.rs∨e∈r.rest→okE P w0 J θ s.nxt s.chs e:=fun e he=>hS.fine.chs e (hG.perm.mem_iff.2 (by rcases he with h | h <;> simp[h]))
 have hnew:=Res.newer hG.perm hG.says
 refine Q4 hS.agr hS.st hg (hG.op) hp (NN hk) fun v a w hv A S=>k (upd θ s.nxt v) a w Same.upd ⟨hS.le,?_,?_,?_,?_,Bg hS.fine.nd hS.fine.ver,?_⟩
 ·rw[show envL (upd θ s.nxt v) (after s o.dst r)=KP o.dst v (envL θ s) from zA (vA Same.upd hS.fine.env) hv.2.1];exact A
 ·have e:(after s o.dst r).chs.map (toCh P (upd θ s.nxt v))=(r.gives.map fun g=>toCh P (upd θ s.nxt v) (g.1,s.nxt,g.2))++(r.rs.map (toCh P θ)++r.rest.map (toCh P θ)):=by
   show (Res.chs r s.nxt).map _=_
   unfold Res.chs
   rw[List.map_append,List.map_append,List.map_map,fJ Same.upd fun e he=>hallc e (.inl he),fJ Same.upd fun e he=>hallc e (.inr he)]
   rfl
  rw[e]
  refine S.perm ?_
  rw[List.append_assoc,List.append_assoc,List.append_assoc]
  exact List.perm_append_comm_assoc _ _ _
 ·intro e he
  rcases nq he with h | h
  ·rw[h.1];exact hv.1
  ·exact AV.ok_same Same.upd (Nat.le_succ _) hnew (hS.fine.env e h) Hp.le.rfl
 ·intro e he
  rcases nq he with h | h
  ·rw[h.2];exact Nat.lt_succ_self _
  ·exact Nat.lt_succ_of_lt (hS.fine.ver e h)
 ·intro e he
  have he:e∈Res.chs r s.nxt:=he
  unfold Res.chs at he
  rcases List.mem_append.1 he with he | he
  ·obtain ⟨g,hg',rfl⟩:=List.mem_map.1 he
   exact hv.2.2 g hg'
  ·exact eU Same.upd (Nat.le_succ _) hnew (hallc e (by rcases List.mem_append.1 he with h | h <;> simp[h])) Hp.le.rfl
theorem Pn {ops:Array Oper} {rest:List Oper} {Q:Exit→Act→World→Prop} {g d:Nat} {want b:Bool} (hG:GoodA P w0 J θ s o r) (hS:Sim P I w0 F n J θ s a w) (hg:o.guard=some (g,want)) (hd:((ops[g]?).bind (·.dst))=some d) (hv:(envL θ s).lookup d=some (.bool b)) (hb:b=want) (hk:okO n s o=true)
  (k: ∀θ' a w,Same s.nxt θ θ'→Sim P I w0 F n J θ' (after s o.dst r) a w→wpList P ops Q rest a w):wpList P ops Q (o::rest) a w:=by
 have hp:(s.chs.map (toCh P θ)++ [F]).Perm ((r.rs++r.ns).map (toCh P θ)++(r.rest.map (toCh P θ)++ [F])):=by
  have:=(hG.perm.map (toCh P θ)).append_right [F]
  rwa [List.map_append,List.append_assoc] at this
 have hallc: ∀e,e∈r.rs∨e∈r.rest→okE P w0 J θ s.nxt s.chs e:=fun e he=>hS.fine.chs e (hG.perm.mem_iff.2 (by rcases he with h | h <;> simp[h]))
 have hnew:=Res.newer hG.perm hG.says
 refine K6 hS.agr hS.st hg hd hv hb (hG.op) hp (NN hk) fun v a w hv A S=>k (upd θ s.nxt v) a w Same.upd ⟨hS.le,?_,?_,?_,?_,Bg hS.fine.nd hS.fine.ver,?_⟩
 ·rw[show envL (upd θ s.nxt v) (after s o.dst r)=KP o.dst v (envL θ s) from zA (vA Same.upd hS.fine.env) hv.2.1];exact A
 ·have e:(after s o.dst r).chs.map (toCh P (upd θ s.nxt v))=(r.gives.map fun g=>toCh P (upd θ s.nxt v) (g.1,s.nxt,g.2))++(r.rs.map (toCh P θ)++r.rest.map (toCh P θ)):=by
   show (Res.chs r s.nxt).map _=_
   unfold Res.chs
   rw[List.map_append,List.map_append,List.map_map,fJ Same.upd fun e he=>hallc e (.inl he),fJ Same.upd fun e he=>hallc e (.inr he)]
   rfl
  rw[e]
  refine S.perm ?_
  rw[List.append_assoc,List.append_assoc,List.append_assoc]
  exact List.perm_append_comm_assoc _ _ _
 ·intro e he
  rcases nq he with h | h
  ·rw[h.1];exact hv.1
  ·exact AV.ok_same Same.upd (Nat.le_succ _) hnew (hS.fine.env e h) Hp.le.rfl
 ·intro e he
  rcases nq he with h | h
  ·rw[h.2];exact Nat.lt_succ_self _
  ·exact Nat.lt_succ_of_lt (hS.fine.ver e h)
 ·intro e he
  have he:e∈Res.chs r s.nxt:=he
  unfold Res.chs at he
  rcases List.mem_append.1 he with he | he
  ·obtain ⟨g,hg',rfl⟩:=List.mem_map.1 he
   exact hv.2.2 g hg'
  ·exact eU Same.upd (Nat.le_succ _) hnew (hallc e (by rcases List.mem_append.1 he with h | h <;> simp[h])) Hp.le.rfl
def skip (s:Sg) (d:Option Nat):Sg:=⟨HY d s.nxt .und s.env,s.chs,s.nxt+1⟩
theorem HZ {v:AV} {d:Option Nat} (hS:Sim P I w0 F n J θ s a w) {a':Act} (hA:Agr n a' (KP d (v.v θ) (envL θ s))) (hv:v.ok P w0 J θ s.nxt s.chs):Sim P I w0 F n J θ ⟨HY d s.nxt v s.env,s.chs,s.nxt+1⟩ a' w:=
 ⟨hS.le,by rw[zA rfl rfl];exact hA,hS.st,fun e he=>by
  rcases nq he with h | h
  ·rw[h.1];exact AV.ok_same Same.rfl (Nat.le_succ _) Newer.rfl hv Hp.le.rfl
  ·exact AV.ok_same Same.rfl (Nat.le_succ _) Newer.rfl (hS.fine.env e h) Hp.le.rfl,fun e he=>by
  rcases nq he with h | h
  ·rw[h.2];exact Nat.lt_succ_self _
  ·exact Nat.lt_succ_of_lt (hS.fine.ver e h),Bg hS.fine.nd hS.fine.ver,fun e he=>eU Same.rfl (Nat.le_succ _) Newer.rfl (hS.fine.chs e he) Hp.le.rfl⟩
theorem Lh {ops:Array Oper} {rest:List Oper} {Q:Exit→Act→World→Prop} {g d:Nat} {want b:Bool} (hS:Sim P I w0 F n J θ s a w) (hg:o.guard=some (g,want)) (hd:((ops[g]?).bind (·.dst))=some d) (hv:(envL θ s).lookup d=some (.bool b)) (hb:b= !want) (hn:dstOk n o.dst=true)
  (k: ∀a,Sim P I w0 F n J θ (skip s o.dst) a w→wpList P ops Q rest a w):wpList P ops Q (o::rest) a w:=
 K5 hS.agr hS.st hg hd hv hb hn fun a A=>k a (HZ hS A trivial)
theorem F7 {ops:Array Oper} {rest:List Oper} {Q:Exit→Act→World→Prop} {g d:Nat} {want:Bool} (hS:Sim P I w0 F n J θ s a w) (hg:o.guard=some (g,want)) (hd:((ops[g]?).bind (·.dst))=some d) (hv:(envL θ s).lookup d=some undef) (hn:dstOk n o.dst=true)
  (k: ∀a,Sim P I w0 F n J θ (skip s o.dst) a w→wpList P ops Q rest a w):wpList P ops Q (o::rest) a w:=
 F5 hS.agr hS.st hg hd hv hn fun a A=>k a (HZ hS A trivial)
end
def ikD:Option IntKind→TypeDesc
 | some k=>.int k
 | none=>.string
structure MD where
 K:TypeId
 E:TypeId
 k:MK
 e:ME
def MDok (P:Program) (T:TypeId) (m:MD):Prop:=
 P.underlying T=some (.map m.K m.E)∧ @KeyOk P m.K m.k.den m.k.dec m.k.val m.k.lit m.k.ok∧EltOk P m.E m.e.val m.e.lit m.e.ok m.e.z
structure TD where
 agg:Bool
 n:Nat
 el:Option TypeId
 ty:Ty
 fields:List (Nat×Nat)
 bytes:Option Nat
 place:Option (List (Nat×Nat))
 boo:Bool
 eq:Option (List (Option IntKind))
 mp:Option MD
 ik:Option (Option IntKind)
 fz:Bool
 pt:Option TypeId
def Curq:List (Option IntKind)→(List Value→List Value→Bool→Prop)→Prop
 | [],p=>p [] [] true
 | none::ks,p=> ∀a b:Bool,Curq ks fun xs ys r=>p (.bool a::xs) (.bool b::ys) ((a==b)&&r)
 | some k::ks,p=> ∀a b:Int,Curq ks fun xs ys r=>p (.int k a::xs) (.int k b::ys) ((a==b)&&r)
def lvB:LV→Option Bool
 | .val (.bool b)=>some b
 | .nb b=>some (!b)
 | _=>none
def lvI (k:IntKind):LV→Option Int
 | .val (.int j m)=>if j=k then some m else none
 | _=>none
theorem Rm {θ:Th} {x:LV} {b:Bool} (h:lvB x=some b):x.v θ= .bool b:=by
 unfold lvB at h
 split at h <;> first | (cases h;rfl) | cases h
theorem Rn {θ:Th} {k:IntKind} {x:LV} {m:Int} (h:lvI k x=some m):x.v θ= .int k m:=by
 unfold lvI at h
 split at h
 ·split at h
  ·rename_i e;subst e;cases h;rfl
  ·cases h
 ·cases h
def UH:Option IntKind→LV→LV→Option Bool
 | none,x,y=>(lvB x).bind fun a=>(lvB y).bind fun b=>some (a==b)
 | some k,x,y=>(lvI k x).bind fun a=>(lvI k y).bind fun b=>some (a==b)
def S8:List (Option IntKind)→List LV→List LV→Option Bool
 | [],[],[] =>some true
 | k::ks,x::xs,y::ys=>(UH k x y).bind fun q=>(S8 ks xs ys).bind fun r=>some (q&&r)
 | _,_,_=>none
theorem Po {θ:Th} : ∀ {ks:List (Option IntKind)} {p:List Value→List Value→Bool→Prop} {xs ys:List LV} {r:Bool},Curq ks p→S8 ks xs ys=some r→p (xs.map (·.v θ)) (ys.map (·.v θ)) r:=by
 intro ks
 induction ks with
 | nil =>
  intro p xs ys r hp h
  match xs,ys,h with
  | [],[],h=>cases h;exact hp
 | cons k ks ih =>
  intro p xs ys r hp h
  match xs,ys,h with
  | x::xs,y::ys,h =>
   obtain ⟨q,hq,h⟩:=Option.bind_eq_some_iff.1 h
   obtain ⟨r',hr,h⟩:=Option.bind_eq_some_iff.1 h
   cases h
   cases k with
   | none =>
    obtain ⟨a,ha,hq⟩:=Option.bind_eq_some_iff.1 hq
    obtain ⟨b,hb,hq⟩:=Option.bind_eq_some_iff.1 hq
    cases hq
    have:=ih (hp a b) hr
    rwa [←Rm (θ:=θ) ha,←Rm (θ:=θ) hb] at this
   | some k =>
    obtain ⟨a,ha,hq⟩:=Option.bind_eq_some_iff.1 hq
    obtain ⟨b,hb,hq⟩:=Option.bind_eq_some_iff.1 hq
    cases hq
    have:=ih (hp a b) hr
    rwa [←Rn (θ:=θ) ha,←Rn (θ:=θ) hb] at this
def zeroCells:Ty→List Value
 | .int k=>[.int k 0]
 | .bool=>[.bool false]
 | .str=>[.string ⟨#[]⟩]
 | .raw=>[.int .i64 0]
 | .prod a b=>zeroCells a++zeroCells b
 | .sl _ _=>[.slice none 0 0]
 | .fro t=>zeroCells t
 | .wr t=>zeroCells t
 | .tree _ _ _=>[.pointer none]
def Bh:(t:Ty)→t.den
 | .int _=>(0:Int)
 | .bool=>false
 | .str=>(⟨#[]⟩:ByteArray)
 | .raw=>(⟨.int .i64 0,rfl⟩:Raw)
 | .prod a b=>(Bh a,Bh b)
 | .sl _ t=>([] :List t.den)
 | .fro t=>Bh t
 | .wr t=>Bh t
 | .tree _ _ t=>(Tr.nil:Tr t.den)
theorem oK: ∀(t:Ty) (I:Hp),t.rep.rd I (zeroCells t) (Bh t)
 | .int k,I=>rfl
 | .bool,I=>rfl
 | .str,I=>rfl
 | .raw,I=>rfl
 | .prod a b,I=>⟨_,_,rfl,oK a I,oK b I⟩
 | .sl _ _,I=>NK
 | .fro t,I=>oK t I
 | .wr t,I=>oK t I
 | .tree _ _ _,I=>⟨_,rfl,.nil⟩
theorem u7: ∀(t:Ty),Zro t.rep (zeroCells t) (Bh t)
 | .int k=>uY
 | .bool=>(uY (h1:=fun _=>rfl))
 | .str=>(uY (h1:=fun _=>rfl))
 | .raw=>(uY (α:=Raw) (enc:=(·.1)) (h1:=(·.2)) (x:=⟨.int .i64 0,rfl⟩))
 | .prod a b=>K9 (u7 a) (u7 b)
 | .sl _ _=>Pa
 | .fro t=>Pb (oK t)
 | .wr t=>u7 t
 | .tree _ _ _=>Le
theorem EK: ∀(t:Ty),∀v∈zeroCells t,v.oneCell'=true:=fun t v hv=>Rep.rd_one _ (oK t fun _=>none) v hv
theorem gU: ∀t:Ty,zeroCells t.erase=zeroCells t
 | .int _=>rfl
 | .bool=>rfl
 | .str=>rfl
 | .raw=>rfl
 | .prod a b=>by show zeroCells a.erase++zeroCells b.erase=_;rw[gU a,gU b];rfl
 | .sl _ _=>rfl
 | .fro t=>gU t
 | .wr t=>gU t
 | .tree _ _ _=>rfl
theorem pF (t:Ty):(zeroCells t).length=t.size:=(Rep.rd_len _ (oK t fun _=>none)).trans t.rep_size
abbrev TT:=List (TypeId×TD)
def td (tt:TT) (T:Nat):Option TD:=match tt with
 | [] =>none
 | (U,d)::l=>if Nat.beq U T then some d else td l T
structure TDok (P:Program) (T:TypeId) (d:TD):Prop where
 ti:TI P T d.agg d.n
 one:(d.agg || d.n==1)=true
 sz:d.ty.size=d.n
 el: ∀E,d.el=some E→P.underlying T=some (.slice E)
 fld: ∀f q,d.fields[f]? =some q→TF P T f q.1 q.2
 zero: ∀b,d.bytes=some b→ ∃z,TZ P T z d.n b∧z.cells=(zeroCells d.ty).toArray∧1≤b
 place: ∀pl,d.place=some pl→TB P T pl
 boo:d.boo=true→P.underlying T=some .bool
 eq: ∀ks,d.eq=some ks→ ∀w,Curq ks fun xs ys r=>EqT P T (.agg xs.toArray) (.agg ys.toArray) r w
 mp: ∀m,d.mp=some m→MDok P T m
 ik: ∀k,d.ik=some k→P.underlying T=some (ikD k)
 fz:d.fz=true→ ∃b,TZ P T .nilFunc 1 b
 pt: ∀e,d.pt=some e→P.underlying T=some (.pointer e)
def TTok (P:Program):TT→Prop
 | [] =>True
 | (T,d)::l=>TDok P T d∧TTok P l
theorem TTok.get {P:Program} {T:Nat} {d:TD} : ∀ {tt:TT},TTok P tt→td tt T=some d→TDok P T d
 | (U,x)::l,⟨h1,h2⟩,h=>by
  unfold td at h
  split at h
  ·rename_i hu
   have:U=T:=Nat.eq_of_beq_eq_true hu
   subst this
   rw[←Option.some.inj h];exact h1
  ·exact TTok.get h2 h
def my (id:Nat):(t:Ty)→t.den→Nat→List LV
 | .int k,d,_=>[.val (.int k d)]
 | .bool,d,_=>[.val (.bool d)]
 | .str,d,_=>[.val (.string d)]
 | .raw,d,_=>[.val d.1]
 | .prod a b,d,j=>my id a d.1 j++my id b d.2 (j+a.size)
 | .sl E t,d,j=>[.rd ⟨id,[j]⟩ (.sl E t) d]
 | .fro t,d,j=>my id t d j
 | .wr t,d,j=>my id t d j
 | .tree T E t,d,j=>[.rd ⟨id,[j]⟩ (.tree T E t) d]
def KR (id:Nat):(t:Ty)→t.den→AV
 | .prod a b,d=>.agg (my id (.prod a b) d 0)
 | .int k,d=>.one (.val (.int k d))
 | .bool,d=>.one (.val (.bool d))
 | .str,d=>.one (.val (.string d))
 | .raw,d=>.one (.val d.1)
 | .sl E t,d=>.one (.rd ⟨id,[]⟩ (.sl E t) d)
 | .fro t,d=>KR id t d
 | .wr t,d=>.agg (my id t d 0)
 | .tree T E t,d=>.one (.rd ⟨id,[]⟩ (.tree T E t) d)
theorem gV {P:Program} {w0:World} {J:Hp} {θ:Th} {id n:Nat} (hid:id<n) {all:List Value} (hu:θ id= .agg all.toArray): ∀(t:Ty) (d:t.den) (j:Nat) (cs:List Value),t.rep.rd J cs d→(∀i v,cs[i]? =some v→all[j+i]? =some v)→
  (∀x∈my id t d j,x.ok P w0 J θ n)∧(my id t d j).map (·.v θ)=cs
 | .int k,d,j,cs,h,_=>⟨fun x hx=>by obtain rfl:=List.mem_singleton.1 hx;exact Eq.refl true,h.symm⟩
 | .bool,d,j,cs,h,_=>⟨fun x hx=>by obtain rfl:=List.mem_singleton.1 hx;exact Eq.refl true,h.symm⟩
 | .str,d,j,cs,h,_=>⟨fun x hx=>by obtain rfl:=List.mem_singleton.1 hx;exact Eq.refl true,h.symm⟩
 | .raw,d,j,cs,h,_=>⟨fun x hx=>by obtain rfl:=List.mem_singleton.1 hx;exact d.2,h.symm⟩
 | .prod a b,d,j,cs,h,hc=>by
  obtain ⟨c1,c2,rfl,h1,h2⟩:=h
  have hl:c1.length=a.size:=(Rep.rd_len _ h1).trans a.rep_size
  obtain ⟨e1,e2⟩:=gV hid hu a d.1 j c1 h1 fun i v hv=>hc i v (by rw[List.getElem?_append_left (List.getElem?_eq_some_iff.1 hv).1];exact hv)
  obtain ⟨e3,e4⟩:=gV hid hu b d.2 (j+a.size) c2 h2 fun i v hv=>by
   have:=hc (a.size+i) v (by rw[List.getElem?_append_right (by omega),hl,Nat.add_sub_cancel_left];exact hv)
   rwa [show j+a.size+i=j+(a.size+i) from by omega]
  refine ⟨fun x hx=>?_,?_⟩
  ·rcases List.mem_append.1 hx with hx | hx
   ·exact e1 x hx
   ·exact e3 x hx
  ·show (my id a d.1 j++my id b d.2 (j+a.size)).map _=_
   rw[List.map_append,e2,e4]
 | .sl E t,d,j,cs,h,hc=>by
  obtain ⟨u,rfl⟩:=List.length_eq_one_iff.1 (Rep.rd_len _ h)
  have hh:hv θ ⟨id,[j]⟩=u:=by
   show vg (θ id) [j] =u
   rw[hu]
   show (all.toArray.getD j undef)=u
   have:=hc 0 u rfl
   rw[Nat.add_zero] at this
   simp[Array.getD_eq_getD_getElem?,this]
  refine ⟨fun x hx=>?_,?_⟩
  ·obtain rfl:=List.mem_singleton.1 hx
   exact ⟨hid,by rw[hh];exact h⟩
  ·show [hv θ ⟨id,[j]⟩] = [u]
   rw[hh]
 | .fro t,d,j,cs,h,hc=>gV hid hu t d j cs h hc
 | .wr t,d,j,cs,h,hc=>gV hid hu t d j cs h hc
 | .tree T E t,d,j,cs,h,hc=>by
  obtain ⟨u,rfl⟩:=List.length_eq_one_iff.1 (Rep.rd_len _ h)
  have hh:hv θ ⟨id,[j]⟩=u:=by
   show vg (θ id) [j] =u
   rw[hu]
   show (all.toArray.getD j undef)=u
   have:=hc 0 u rfl
   rw[Nat.add_zero] at this
   simp[Array.getD_eq_getD_getElem?,this]
  refine ⟨fun x hx=>?_,?_⟩
  ·obtain rfl:=List.mem_singleton.1 hx
   exact ⟨hid,by rw[hh];exact h⟩
  ·show [hv θ ⟨id,[j]⟩] = [u]
   rw[hh]
theorem oL {P:Program} {w0:World} {J:Hp} {θ:Th} {id n:Nat} {chs:List Ent} (hid:id<n) {u:Value} (hu:θ id=u): ∀(t:Ty) (d:t.den) (cs:List Value),t.rep.rd J cs d→Lds t.isProd cs u→(KR id t d).ok P w0 J θ n chs∧(KR id t d).v θ=u
 | .int k,d,cs,h,hl=>⟨Eq.refl true,by
  have h:cs= [Value.int k d]:=h
  have hl:cs= [u]:=hl
  rw[h] at hl;exact (List.cons.inj hl).1⟩
 | .bool,d,cs,h,hl=>⟨Eq.refl true,by
  have h:cs= [Value.bool d]:=h
  have hl:cs= [u]:=hl
  rw[h] at hl;exact (List.cons.inj hl).1⟩
 | .str,d,cs,h,hl=>⟨Eq.refl true,by
  have h:cs= [Value.string d]:=h
  have hl:cs= [u]:=hl
  rw[h] at hl;exact (List.cons.inj hl).1⟩
 | .raw,d,cs,h,hl=>⟨d.2,by
  have h:cs= [d.1]:=h
  have hl:cs= [u]:=hl
  rw[h] at hl;exact (List.cons.inj hl).1⟩
 | .prod a b,d,cs,h,hl=>by
  have hl:u= .agg cs.toArray:=hl
  obtain ⟨e1,e2⟩:=gV (J:=J) hid (hu.trans hl) (.prod a b) d 0 cs h (fun i v hv=>by rwa [Nat.zero_add])
  exact ⟨e1,by show Value.agg _=_;rw[e2,hl]⟩
 | .sl E t,d,cs,h,hl=>by
  have hl:cs= [u]:=hl
  subst hl
  have hh:hv θ ⟨id,[]⟩=u:=hu
  exact ⟨⟨hid,by rw[hh];exact h⟩,hh⟩
 | .fro t,d,cs,h,hl=>oL hid hu t d cs h hl
 | .wr t,d,cs,h,hl=>by
  have hl:u= .agg cs.toArray:=hl
  obtain ⟨e1,e2⟩:=gV (J:=J) hid (hu.trans hl) t d 0 cs h (fun i v hv=>by rwa [Nat.zero_add])
  exact ⟨e1,by show Value.agg _=_;rw[e2,hl]⟩
 | .tree T E t,d,cs,h,hl=>by
  have hl:cs= [u]:=hl
  subst hl
  have hh:hv θ ⟨id,[]⟩=u:=hu
  exact ⟨⟨hid,by rw[hh];exact h⟩,hh⟩
structure Part (t:Ty) where
 ty:Ty
 get:t.den→ty.den
 set:t.den→ty.den→t.den
def sY (g:Bool):(t:Ty)→Nat→Nat→Option (Part t)
 | t,off,n=>if Nat.beq off 0&&(Nat.beq t.size n&&(t.isProd==g)) then some ⟨t,fun x=>x,fun _ y=>y⟩ else match t with
  | .prod a b=>if Nat.blt off a.size then (sY g a off n).bind fun r=>some ⟨r.ty,fun x=>r.get x.1,fun x y=>(r.set x.1 y,x.2)⟩ else (sY g b (off - a.size) n).bind fun r=>some ⟨r.ty,fun x=>r.get x.2,fun x y=>(x.1,r.set x.2 y)⟩
  | .fro a=>(sY g a off n).bind fun r=>some ⟨.fro r.ty,r.get,r.set⟩
  | .wr a=>(sY g a off n).bind fun r=>some ⟨r.ty,r.get,r.set⟩
  | _=>none
def Lens {α β:Type} (R:Rep α) (off:Nat) (S:Rep β) (f:α→β) (u:α→β→α):Prop:= ∀I w c x G,R.own I w c x G→ ∃d G1 K,G.Perm (G1++K)∧(c.drop off).take S.size=d∧S.own I w d (f x) G1 ∧
 ∀J w' d' y G',I.le J→(∀b,b∈K→w'.heap[b]? =w.heap[b]?)→S.own J w' d' y G'→ ∃F,F.Perm (G'++K)∧R.own J w' (spl c off d') (u x y) F
theorem Lens.self {α:Type} {R:Rep α} :Lens R 0 R (fun x=>x) (fun _ y=>y):=fun I w c x G h =>
 ⟨c,G,[],by simp,by rw[←R.own_len h];simp,h,fun J w' d' y G' hJ hK h'=>⟨G',by simp,by rw[yp _ _ _ (by rw[R.own_len h,R.own_len h'];omega),R.own_len h',←R.own_len h];simpa using h'⟩⟩
theorem Lens.fst {α β γ:Type} {A:Rep α} {B:Rep β} {S:Rep γ} {off:Nat} {f:α→γ} {u:α→γ→α} (hs:off+S.size≤A.size) (h:Lens A off S f u):Lens (aH A B) off S (fun x=>f x.1) (fun x y=>(u x.1 y,x.2)):=by
 rintro I w c x G ⟨c1,c2,Ga,Gb,rfl,rfl,h1,h2⟩
 obtain ⟨d,G1,K,p,e1,e2,e3⟩:=h I w c1 x.1 Ga h1
 refine ⟨d,G1,K++Gb,by rw[←List.append_assoc];exact p.append_right _,?_,e2,fun J w' d' y G' hJ hK h'=>?_⟩
 ·have hl:=A.own_len h1
  rw[List.drop_append_of_le_length (by omega),List.take_append_of_le_length (by rw[List.length_drop];omega)]
  exact e1
 ·obtain ⟨F,q,k⟩:=e3 J w' d' y G' hJ (fun b hb=>hK b (List.mem_append_left _ hb)) h'
  refine ⟨F++Gb,by rw[←List.append_assoc];exact q.append_right _,spl c1 off d',c2,F,Gb,?_,rfl,k,B.own_stay (B.own_mono h2 hJ) fun b hb=>hK b (List.mem_append_right _ hb)⟩
  rw[rE _ _ _ _ (by rw[A.own_len h1,S.own_len h'];exact hs)]
theorem Lens.snd {α β γ:Type} {A:Rep α} {B:Rep β} {S:Rep γ} {off:Nat} {f:β→γ} {u:β→γ→β} (h:Lens B off S f u):Lens (aH A B) (A.size+off) S (fun x=>f x.2) (fun x y=>(x.1,u x.2 y)):=by
 rintro I w c x G ⟨c1,c2,Ga,Gb,rfl,rfl,h1,h2⟩
 obtain ⟨d,G1,K,p,e1,e2,e3⟩:=h I w c2 x.2 Gb h2
 have hl:=A.own_len h1
 refine ⟨d,G1,Ga++K,(p.append_left Ga).trans (List.perm_append_comm_assoc _ _ _),?_,e2,fun J w' d' y G' hJ hK h'=>?_⟩
 ·rw[←hl,List.drop_append,List.drop_of_length_le (by omega),Nat.add_sub_cancel_left,List.nil_append];exact e1
 ·obtain ⟨F,q,k⟩:=e3 J w' d' y G' hJ (fun b hb=>hK b (List.mem_append_right _ hb)) h'
  refine ⟨Ga++F,(q.append_left Ga).trans (List.perm_append_comm_assoc _ _ _),c1,spl c2 off d',Ga,F,?_,rfl,A.own_stay (A.own_mono h1 hJ) fun b hb=>hK b (List.mem_append_left _ hb),k⟩
  rw[←hl,mH]
theorem Lens.fro {α β:Type} {R:Rep α} {S:Rep β} {off:Nat} {f:α→β} {u:α→β→α} (h:Fld R off S f) (k:Upd R off S u):Lens (KO R) off (KO S) f u:=by
 rintro I w c x G ⟨rfl,h1⟩
 obtain ⟨d,e1,e2⟩:=h I c x h1
 refine ⟨d,[],[],by simp,e1,⟨rfl,e2⟩,fun J w' d' y G' hJ hK h'=>⟨[],by rw[h'.1];simp,rfl,k J c x d' y (R.rd_mono h1 hJ) h'.2⟩⟩
structure PartOk {t:Ty} (off n:Nat) (r:Part t):Prop where
 fld:Fld t.rep off r.ty.rep r.get
 upd:Upd t.rep off r.ty.rep r.set
 updO:UpdO t.rep off r.ty.rep r.set
 lens:Lens t.rep off r.ty.rep r.get r.set
 eta: ∀x,r.set x (r.get x)=x
 size:r.ty.size=n
 fit:off+n≤t.size
theorem u9 {g:Bool} : ∀(t:Ty) (off n:Nat) (r:Part t),sY g t off n=some r→PartOk off n r:=by
 intro t
 induction t with
 | prod a b iha ihb =>
  intro off n r h
  unfold sY at h
  split at h
  ·rename_i hc
   rw[Bool.and_eq_true,Bool.and_eq_true] at hc
   have h1:=Nat.eq_of_beq_eq_true hc.1
   have h2:=Nat.eq_of_beq_eq_true hc.2.1
   subst h1
   obtain rfl:=Option.some.inj h
   exact ⟨Fld.self,Upd.self,UpdO.self,Lens.self,fun _=>rfl,h2,by rw[←h2];exact Nat.le_of_eq (Nat.zero_add _)⟩
  ·simp only at h
   split at h
   ·obtain ⟨q,e,h⟩:=bind_some h
    obtain rfl:=Option.some.inj h
    have k:=iha off n q e
    have hfit:off+q.ty.rep.size≤a.rep.size:=by rw[q.ty.rep_size,a.rep_size,k.size];exact k.fit
    exact ⟨Fld.fst k.fld,Upd.fst hfit k.upd,UpdO.fst hfit k.updO,Lens.fst hfit k.lens,fun x=>congrArg (fun z=>(z,x.2)) (k.eta x.1),k.size,by have:=k.fit;show off+n≤a.size+b.size;omega⟩
   ·rename_i hlt
    obtain ⟨q,e,h⟩:=bind_some h
    obtain rfl:=Option.some.inj h
    have k:=ihb (off - a.size) n q e
    have hge:a.size≤off:=by
     rw[Nat.blt_eq] at hlt;omega
    have e1:a.rep.size+(off - a.size)=off:=by rw[a.rep_size];omega
    refine ⟨?_,?_,?_,?_,fun x=>congrArg (fun z=>(x.1,z)) (k.eta x.2),k.size,by have:=k.fit;show off+n≤a.size+b.size;omega⟩
    ·have:=Fld.snd (A:=a.rep) k.fld
     rwa [e1] at this
    ·have:=Upd.snd (A:=a.rep) k.upd
     rwa [e1] at this
    ·have:=UpdO.snd (A:=a.rep) k.updO
     rwa [e1] at this
    ·have:=Lens.snd (A:=a.rep) k.lens
     rwa [e1] at this
 | fro a ih =>
  intro off n r h
  unfold sY at h
  split at h
  ·rename_i hc
   rw[Bool.and_eq_true,Bool.and_eq_true] at hc
   have h1:=Nat.eq_of_beq_eq_true hc.1
   have h2:=Nat.eq_of_beq_eq_true hc.2.1
   subst h1
   obtain rfl:=Option.some.inj h
   exact ⟨Fld.self,Upd.self,UpdO.self,Lens.self,fun _=>rfl,h2,by rw[←h2];exact Nat.le_of_eq (Nat.zero_add _)⟩
  ·simp only at h
   obtain ⟨q,e,h⟩:=bind_some h
   obtain rfl:=Option.some.inj h
   have k:=ih off n q e
   exact ⟨k.fld,k.upd,fun I w c x G d y K h1 h2=>⟨[],[],⟨rfl,k.upd I c x d y h1.2 h2.2⟩,by rw[h1.1,h2.1]⟩,Lens.fro k.fld k.upd,k.eta,k.size,k.fit⟩
 | wr a ih =>
  intro off n r h
  unfold sY at h
  split at h
  ·rename_i hc
   rw[Bool.and_eq_true,Bool.and_eq_true] at hc
   have h1:=Nat.eq_of_beq_eq_true hc.1
   have h2:=Nat.eq_of_beq_eq_true hc.2.1
   subst h1
   obtain rfl:=Option.some.inj h
   exact ⟨Fld.self,Upd.self,UpdO.self,Lens.self,fun _=>rfl,h2,by rw[←h2];exact Nat.le_of_eq (Nat.zero_add _)⟩
  ·simp only at h
   obtain ⟨q,e,h⟩:=bind_some h
   obtain rfl:=Option.some.inj h
   have k:=ih off n q e
   exact ⟨k.fld,k.upd,k.updO,k.lens,k.eta,k.size,k.fit⟩
 | _ =>
  intro off n r h
  unfold sY at h
  split at h
  ·rename_i hc
   rw[Bool.and_eq_true,Bool.and_eq_true] at hc
   have h1:=Nat.eq_of_beq_eq_true hc.1
   have h2:=Nat.eq_of_beq_eq_true hc.2.1
   subst h1
   obtain rfl:=Option.some.inj h
   exact ⟨Fld.self,Upd.self,UpdO.self,Lens.self,fun _=>rfl,h2,by rw[←h2];exact Nat.le_of_eq (Nat.zero_add _)⟩
  ·cases h
end R
namespace R
open Go.RowKit
open D
def one (v:Value):AV:=.one (.val v)
def asB:AV→Option (Bool×Bool)
 | .one (.val (.bool b))=>some (b,true)
 | .one (.nb b)=>some (b,false)
 | _=>none
def onB {Y:Type} (v:AV) (x y:Option Y):Option Y:=match v with
 | .one (.val (.bool b))=>if b then x else y
 | .one (.nb b)=>if b then y else x
 | _=>none
theorem NP {Y:Type} {v:AV} {x y:Option Y} {r:Y} (h:onB v x y=some r): ∃b:Bool,(∀θ,v.v θ= .bool b)∧(if b then x else y)=some r:=by
 unfold onB at h
 split at h
 ·exact ⟨_,fun θ=>rfl,h⟩
 ·rename_i b
  refine ⟨!b,fun θ=>rfl,?_⟩
  cases b <;> exact h
 ·cases h
def bp {Y:Type} (b:Bool) (x:Option Y):Option Y:=match b with
 | true=>x
 | false=>none
theorem ah {Y:Type} {b:Bool} {x:Option Y} {r:Y} (h:bp b x=some r):b=true∧x=some r:=by
 cases b
 ·cases h
 ·exact ⟨rfl,h⟩
def isLit:Value→Bool
 | .int _ (.ofNat _)=>true
 | .int _ (.negSucc _)=>true
 | _=>false
def arith (b:BinOp) (k:IntKind) (m n:Int):Option Value:=match k,b with
 | .i64,.add=>some (.int .i64 (IntKind.i64.wrap (m+n)))
 | .i64,.sub=>some (.int .i64 (IntKind.i64.wrap (m - n)))
 | .i64,.mul=>some (.int .i64 (IntKind.i64.wrap (m*n)))
 | .i64,.and=>some (.int .i64 (pC m n))
 | .i64,.or=>some (.int .i64 (orI m n))
 | .i64,.xor=>some (.int .i64 (T9 m n))
 | .u64,.add=>some (.int .u64 (IntKind.u64.wrap (m+n)))
 | .u64,.sub=>some (.int .u64 (IntKind.u64.wrap (m - n)))
 | .u64,.mul=>some (.int .u64 (IntKind.u64.wrap (m*n)))
 | .u64,.and=>some (.int .u64 (KQ m n))
 | _,.eql=>some (.bool (m==n))
 | _,.neq=>some (.bool (m !=n))
 | _,.lss=>some (.bool (decide (m<n)))
 | _,.leq=>some (.bool (decide (m≤n)))
 | _,.gtr=>some (.bool (decide (m>n)))
 | _,.geq=>some (.bool (decide (m≥n)))
 | _,_=>none
def Bi (b:BinOp) (k:IntKind) (m n:Int):Option (Value×((p:Prop)×Decidable p)):=match k,b with
 | .i64,.quo=>some (.int .i64 (C1 m n),⟨n≠0,inferInstance⟩)
 | .i64,.rem=>some (.int .i64 (Int.tmod m n),⟨n≠0,inferInstance⟩)
 | .i64,.shl=>some (.int .i64 (sU m n),⟨0≤n,inferInstance⟩)
 | .i64,.shr=>some (.int .i64 (lU m n),⟨0≤n,inferInstance⟩)
 | .u64,.shr=>some (.int .u64 (lU m n),⟨0≤n,inferInstance⟩)
 | _,_=>none
def Uc (k:IntKind) (m n:Int):Int:=k.wrap (m*2 ^ (min n.toNat k.bits))
def Ud (k:IntKind) (m n:Int):Int:=m.fdiv (2 ^ (min n.toNat k.bits))
def Bj (b:BinOp) (k:IntKind) (m n:Int):Option Value:=match b,k with
 | .shl,.i64=>some (.int .i64 (sU m n))
 | .shr,.i64=>some (.int .i64 (lU m n))
 | .shr,.u64=>some (.int .u64 (lU m n))
 | .shl,k=>some (.int k (Uc k m n))
 | .shr,k=>some (.int k (Ud k m n))
 | _,_=>none
def SD {Y:Type} (c:Bool) (p:Prop) (d:Decidable p) (x:Option Y):Option Y:=match c with
 | true=> @ite _ p d x none
 | false=>(@chk p d).bind fun _=>x
theorem Dc {Y:Type} {c:Bool} {p:Prop} {d:Decidable p} {x:Option Y} {r:Y} (h:SD c p d x=some r):p∧x=some r:=by
 cases c with
 | true =>
  have h: @ite _ p d x none=some r:=h
  split at h
  ·exact ⟨by assumption,h⟩
  ·cases h
 | false =>
  obtain ⟨u,e,h⟩:=bind_some (show (@chk p d).bind _=some r from h)
  exact ⟨@bh p d u e,h⟩
def isConst:Operand→Bool
 | .const _=>true
 | _=>false
def eqB (b:BinOp) (m n:Bool):Option Value:=match b with
 | .eql=>some (.bool (m==n))
 | .neq=>some (.bool (m !=n))
 | _=>none
def eqS (b:BinOp) (m n:ByteArray):Option Value:=match b with
 | .eql=>some (.bool (m==n))
 | .neq=>some (.bool (m !=n))
 | _=>none
section
variable {P:Program} {I:Hp} {w0:World} {o:Oper} {ev:Operand→Value} {x y:Operand} {t u:TypeId}
theorem Li {b:BinOp} {k:IntKind} {m n:Int} {r:Value} (h:arith b k m n=some r) (ho:o.op= .binOp b t x y u) (hx:ev x= .int k m) (hy:ev y= .int k n):OpT P I w0 o ev [] (· =r) (fun _=>[]):=by
 unfold arith at h
 split at h <;> first | cases h | (obtain rfl:=Option.some.inj h)
 ·exact OK ho hx hy
 ·exact OL ho hx hy
 ·exact OM ho hx hy
 ·exact OR ho hx hy
 ·exact Q7 ho hx hy
 ·exact OS ho hx hy
 ·exact Pd ho hx hy
 ·exact Pe ho hx hy
 ·exact Pf ho hx hy
 ·exact Pg ho hx hy
 ·exact qF ho hx hy rfl rfl
 ·exact qF ho hx hy rfl rfl
 ·exact qF ho hx hy rfl rfl
 ·exact qF ho hx hy rfl rfl
 ·exact qF ho hx hy rfl rfl
 ·exact qF ho hx hy rfl rfl
theorem H0 {b:BinOp} {k:IntKind} {m n:Int} {r:Value×((p:Prop)×Decidable p)} (h:Bi b k m n=some r) (hp:r.2.1) (ho:o.op= .binOp b t x y u) (hx:ev x= .int k m) (hy:ev y= .int k n):OpT P I w0 o ev [] (· =r.1) (fun _=>[]):=by
 unfold Bi at h
 split at h <;> first | cases h | (obtain rfl:=Option.some.inj h)
 ·exact ON ho hx hy hp
 ·exact OO ho hx hy hp
 ·exact OP ho hx hy hp
 ·exact OQ ho hx hy hp
 ·exact Ph ho hx hy hp
theorem H1 {b:BinOp} {k j:IntKind} {m n:Int} {r:Value} (h:Bj b k m n=some r) (hp:0≤n) (ho:o.op= .binOp b t x y u) (hx:ev x= .int k m) (hy:ev y= .int j n):OpT P I w0 o ev [] (· =r) (fun _=>[]):=by
 have hn: ¬n<0:=by omega
 unfold Bj at h
 split at h <;> first | (obtain rfl:=Option.some.inj h) | (cases h)
 all_goals exact aO fun w=>by simp[execOp,ho,hx,hy,eqGuard,binOp,Op.shift,hn,Result.andThen,sU,lU,Uc,Ud,IntKind.bits]
theorem F8 {b:BinOp} {k:IntKind} {m n:Int} {r:Value} (h:Bj b k m n=some r):r.oneCell'=true:=by
 unfold Bj at h
 split at h <;> first | (obtain rfl:=Option.some.inj h;rfl) | (cases h)
theorem H2 {b:BinOp} {k:IntKind} {m n:Int} {r:Value} (h:arith b k m n=some r):r.oneCell'=true:=by
 unfold arith at h
 split at h <;> cases h <;> rfl
theorem F9 {b:BinOp} {k:IntKind} {m n:Int} {r:Value×((p:Prop)×Decidable p)} (h:Bi b k m n=some r):r.1.oneCell'=true:=by
 unfold Bi at h
 split at h <;> cases h <;> rfl
theorem zB {b:BinOp} {m n:Bool} {r:Value} (h:eqB b m n=some r):r.oneCell'=true:=by
 unfold eqB at h
 split at h <;> cases h <;> rfl
theorem Pp {b:BinOp} {m n:ByteArray} {r:Value} (h:eqS b m n=some r):r.oneCell'=true:=by
 unfold eqS at h
 split at h <;> cases h <;> rfl
theorem EL {b:BinOp} {m n:Bool} {r:Value} (h:eqB b m n=some r) (hT:P.underlying t=some .bool) (ho:o.op= .binOp b t x y u) (hx:ev x= .bool m) (hy:ev y= .bool n):OpT P I w0 o ev [] (· =r) (fun _=>[]):=by
 unfold eqB at h
 split at h <;> first | cases h | (obtain rfl:=Option.some.inj h)
 ·exact OT hT ho hx hy
 ·exact OU hT ho hx hy
theorem Ro {b:BinOp} {m n:ByteArray} {r:Value} (h:eqS b m n=some r) (ho:o.op= .binOp b t x y u) (hx:ev x= .string m) (hy:ev y= .string n):OpT P I w0 o ev [] (· =r) (fun _=>[]):=by
 unfold eqS at h
 split at h <;> first | cases h | (obtain rfl:=Option.some.inj h)
 ·exact O4 ho hx hy
 ·exact O5 ho hx hy
end
section
variable {Y:Type} (tt:TT) (s:Sg) (k:Res→Option Y)
def kv (v:Value):Option Y:=k (.pure s (.one (.val v)))
def Pq (x:Operand):Option Y:=(opd s x).bind fun v=>k (.pure s v)
def Rp (c x y:Operand):Option Y:=(opd s c).bind fun c=>onB c ((opd s x).bind fun v=>k (.pure s v)) ((opd s y).bind fun v=>k (.pure s v))
def S9 (x:Operand):Option Y:=match opd s x with
 | some (.one (.val (.bool b)))=>k (.pure s (.one (.nb b)))
 | some (.one (.nb b))=>kv s k (.bool b)
 | _=>none
def Ta (x:Operand):Option Y:=match opd s x with
 | some (.one (.val (.int .i64 n)))=>kv s k (.int .i64 (IntKind.i64.wrap (-n)))
 | _=>none
def Tb (b:BinOp) (t:TypeId) (x y:Operand):Option Y:=match opd s x,opd s y with
 | some (.one (.val (.int j m))),some (.one (.val (.int j' n)))=>if j=j' then match arith b j m n with
   | some r=>kv s k r
   | none=>(Bi b j m n).bind fun r=>SD (isConst y) r.2.1 r.2.2 (kv s k r.1)
  else (Bj b j m n).bind fun r=>SD (isConst y) (0≤n) inferInstance (kv s k r)
 | some (.one (.val (.bool m))),some (.one (.val (.bool n)))=>(td tt t).bind fun d=>bp d.boo ((eqB b m n).bind fun r=>kv s k r)
 | some (.one (.nb m)),some (.one (.val (.bool n)))=>(td tt t).bind fun d=>bp d.boo ((eqB b (!m) n).bind fun r=>kv s k r)
 | some (.one (.val (.bool m))),some (.one (.nb n))=>(td tt t).bind fun d=>bp d.boo ((eqB b m (!n)).bind fun r=>kv s k r)
 | some (.one (.nb m)),some (.one (.nb n))=>(td tt t).bind fun d=>bp d.boo ((eqB b (!m) (!n)).bind fun r=>kv s k r)
 | some (.one (.val (.string m))),some (.one (.val (.string n)))=>(eqS b m n).bind fun r=>kv s k r
 | some (.agg xs),some (.agg ys)=>(td tt t).bind fun d=>d.eq.bind fun ks=>(S8 ks xs ys).bind fun r=>match b with
  | .eql=>kv s k (.bool r)
  | .neq=>k (.pure s (.one (.nb r)))
  | _=>none
 | _,_=>none
def Rq (S D:TypeId) (x:Operand):Option Y:=(td tt S).bind fun a=>(td tt D).bind fun b=>a.ik.bind fun k1=>b.ik.bind fun k2=>match opd s x,k1,k2 with
 | some (.one (.val (.int j m))),some k1,some k2=>if j=k1 then kv s k (.int k2 (k2.wrap m)) else none
 | _,_,_=>none
def zC (x:Operand) (i:Nat):Option Y:=match opd s x with
 | some (.tup ys)=>(ys[i]?).bind fun y=>if y.1 then k (.pure s (.agg y.2)) else match y.2 with
  | [x] =>k (.pure s (.one x))
  | _=>none
 | _=>none
def sLen (T:TypeId) (x:Operand):Option Y:=(td tt T).bind fun d=>match d.el,opd s x with
 | some _,some (.one (.rd _ (.sl _ _) xs))=>kv s k (.int .i64 (xs.length:Int))
 | some _,some (.one (.val (.slice none 0 0)))=>kv s k (.int .i64 ((0:Nat):Int))
 | none,some (.one (.val (.string b)))=>d.ik.bind fun k1=>match k1 with
  | none=>kv s k (.int .i64 (b.size:Int))
  | _=>none
 | _,_=>none
def Dd (T:TypeId) (x i:Operand):Option Y:=(td tt T).bind fun d=>match d.el,opd s x,opd s i with
 | some E,some (.one (.rd h (.sl E' t) xs)),some (.one (.val (.int .i64 i)))=>(td tt E).bind fun e=>bp (Nat.beq e.n t.size) ((az xs i).bind fun a=>k (.pure s (.elr h E' t xs a i 0)))
 | _,_,_=>none
def H3 (T:TypeId) (x:Operand) (f:Nat):Option Y:=(td tt T).bind fun d=>(d.fields[f]?).bind fun q=>match opd s x with
 | some (.elr h E t xs a i off)=>k (.pure s (.elr h E t xs a i (off+q.1)))
 | some (.elo h ver E t xs a i off)=>k (.pure s (.elo h ver E t xs a i (off+q.1)))
 | some (.one (.ptr h off))=>k (.pure s (.one (.ptr h (off+q.1))))
 | _=>none
def H4 (T:TypeId) (x:Operand):Option Y:=(td tt T).bind fun d=>match opd s x with
 | some (.elr h E t xs a i off)=>(sY d.agg t off d.n).bind fun p=>bp (p.ty.isProd==d.agg) (k (.pure s (KR s.nxt p.ty (p.get a))))
 | _=>none
end
section
variable {Y:Type} {tt:TT} {s:Sg} {k:Res→Option Y} {P:Program} {w0:World} {o:Oper} {res:Y} {x y:Operand}
def Oks (P:Program) (w0:World) (s:Sg) (o:Oper) (k:Res→Option Y) (res:Y):Prop:= ∃r,k r=some res∧Good P w0 s o r
theorem kq {v:Value} (h:kv s k v=some res) (h1:v.oneCell'=true) (hop: ∀J θ,Fine P w0 J θ s→OpT P J w0 o (evL (envL θ s)) [] (· =v) (fun _=>[])):Oks P w0 s o k res:=
 ⟨_,h,cX hop fun _ _ _=>h1⟩
theorem EM (ho:o.op= .move x∨o.op= .assign x) (h:Pq s k x=some res):Oks P w0 s o k res:=by
 obtain ⟨v,hv,h⟩:=bind_some h
 refine ⟨_,h,cX (fun J θ hf=>?_) fun J θ hf=>a6 hf hv⟩
 rcases ho with ho | ho
 ·exact KV ho (ak hv)
 ·exact FY ho (ak hv)
theorem Lj {c:Operand} (ho:o.op= .pick c x y) (h:Rp s k c x y=some res):Oks P w0 s o k res:=by
 obtain ⟨v,hv,h⟩:=bind_some h
 obtain ⟨b,hb,h⟩:=NP h
 cases b with
 | true =>
  obtain ⟨u,hu,h⟩:=bind_some (show (opd s x).bind _=some res from h)
  exact ⟨_,h,cX (fun J θ hf=>EB ho ((ak hv).trans (hb θ)) (ak hu)) fun J θ hf=>a6 hf hu⟩
 | false =>
  obtain ⟨u,hu,h⟩:=bind_some (show (opd s y).bind _=some res from h)
  exact ⟨_,h,cX (fun J θ hf=>EB ho ((ak hv).trans (hb θ)) (ak hu)) fun J θ hf=>a6 hf hu⟩
theorem Pr {t:TypeId} (ho:o.op= .unOp .not t x) (h:S9 s k x=some res):Oks P w0 s o k res:=by
 unfold S9 at h
 split at h
 ·rename_i b hx
  exact ⟨_,h,cX (fun J θ hf=>HD ho (ak hx)) fun _ _ _=>trivial⟩
 ·rename_i b hx
  exact kq h rfl fun J θ hf=>by
   have:=HD (P:=P) (I:=J) (w0:=w0) (b:= !b) ho (ak (θ:=θ) hx)
   rwa [Bool.not_not] at this
 ·cases h
theorem Ps {t:TypeId} (ho:o.op= .unOp .neg t x) (h:Ta s k x=some res):Oks P w0 s o k res:=by
 unfold Ta at h
 split at h
 ·rename_i b hx
  exact kq h rfl fun J θ hf=>OJ ho (ak hx)
 ·cases h
theorem Pt (hT:TTok P tt) {b:BinOp} {t u:TypeId} (ho:o.op= .binOp b t x y u) (h:Tb tt s k b t x y=some res):Oks P w0 s o k res:=by
 unfold Tb at h
 split at h
 ·rename_i j m j' n hx hy
  split at h
  ·rename_i hj
   subst hj
   split at h
   ·rename_i r hr
    exact kq h (H2 hr) fun J θ hf=>Li hr ho (ak hx) (ak hy)
   ·obtain ⟨r,hr,h⟩:=bind_some h
    obtain ⟨hp,h⟩:=Dc h
    exact kq h (F9 hr) fun J θ hf=>H0 hr hp ho (ak hx) (ak hy)
  ·obtain ⟨r,hr,h⟩:=bind_some h
   obtain ⟨hp,h⟩:=Dc h
   exact kq h (F8 hr) fun J θ hf=>H1 hr hp ho (ak hx) (ak hy)
 ·rename_i m n hx hy
  obtain ⟨d,hd,h⟩:=bind_some h
  obtain ⟨hb,h⟩:=ah h
  obtain ⟨r,hr,h⟩:=bind_some h
  exact kq h (zB hr) fun J θ hf=>EL hr ((hT.get hd).boo hb) ho (ak hx) (ak hy)
 ·rename_i m n hx hy
  obtain ⟨d,hd,h⟩:=bind_some h
  obtain ⟨hb,h⟩:=ah h
  obtain ⟨r,hr,h⟩:=bind_some h
  exact kq h (zB hr) fun J θ hf=>EL hr ((hT.get hd).boo hb) ho (ak hx) (ak hy)
 ·rename_i m n hx hy
  obtain ⟨d,hd,h⟩:=bind_some h
  obtain ⟨hb,h⟩:=ah h
  obtain ⟨r,hr,h⟩:=bind_some h
  exact kq h (zB hr) fun J θ hf=>EL hr ((hT.get hd).boo hb) ho (ak hx) (ak hy)
 ·rename_i m n hx hy
  obtain ⟨d,hd,h⟩:=bind_some h
  obtain ⟨hb,h⟩:=ah h
  obtain ⟨r,hr,h⟩:=bind_some h
  exact kq h (zB hr) fun J θ hf=>EL hr ((hT.get hd).boo hb) ho (ak hx) (ak hy)
 ·rename_i m n hx hy
  obtain ⟨r,hr,h⟩:=bind_some h
  exact kq h (Pp hr) fun J θ hf=>Ro hr ho (ak hx) (ak hy)
 ·rename_i xs ys hx hy
  obtain ⟨d,hd,h⟩:=bind_some h
  obtain ⟨ks,hk,h⟩:=bind_some h
  obtain ⟨r,hr,h⟩:=bind_some h
  have he: ∀(θ:Th) w,EqT P t (AV.v θ (.agg xs)) (AV.v θ (.agg ys)) r w:=fun θ w=>Po ((hT.get hd).eq _ hk w) hr
  split at h
  ·exact kq h rfl fun J θ hf=>O6 (he θ) ho (ak hx) (ak hy) rfl
  ·exact ⟨_,h,cX (fun J θ hf=>O7 (he θ) ho (ak hx) (ak hy) rfl) fun _ _ _=>trivial⟩
  ·cases h
 ·cases h
theorem Lk (hT:TTok P tt) {S D:TypeId} (ho:o.op= .convert S D x) (h:Rq tt s k S D x=some res):Oks P w0 s o k res:=by
 obtain ⟨a,ha,g1⟩:=bind_some h
 obtain ⟨b,hb,g2⟩:=bind_some g1
 obtain ⟨k1,h1,g3⟩:=bind_some g2
 obtain ⟨k2,h2,g4⟩:=bind_some g3
 clear h g1 g2 g3
 split at g4
 ·rename_i j m k1 k2 hx
  split at g4
  ·rename_i e;subst e
   exact kq g4 rfl fun J θ hf=>Bc ((hT.get ha).ik _ h1) ((hT.get hb).ik _ h2) ho (ak hx)
  ·cases g4
 ·cases g4
theorem De {i:Nat} (ho:o.op= .extract x i) (h:zC s k x i=some res):Oks P w0 s o k res:=by
 unfold zC at h
 split at h
 ·rename_i ys hx
  obtain ⟨y,hy,h⟩:=bind_some h
  have hi: ∀θ,((ys.map (iu θ)).toArray)[i]? =some (iu θ y):=fun θ=>by simp[hy]
  have hm:y∈ys:=List.mem_of_getElem? hy
  split at h
  ·rename_i h1
   exact ⟨_,h,cX (fun J θ hf=>vu ho (ak hx) ((hi θ).trans (by unfold iu;rw[if_pos h1];rfl))) fun J θ hf=>(a6 hf hx) y hm⟩
  ·rename_i h1
   split at h
   ·rename_i z hz
    exact ⟨_,h,cX (fun J θ hf=>vu ho (ak hx) ((hi θ).trans (by unfold iu;rw[if_neg h1,hz];rfl))) fun J θ hf=>(a6 hf hx) y hm z (by rw[hz];simp)⟩
   ·cases h
 ·cases h
theorem Pu (hT:TTok P tt) {T:TypeId} (ho:o.op= .call { callee:=.builtin .len,args:= #[x],argTypes:= #[T] }) (h:sLen tt s k T x=some res):Oks P w0 s o k res:=by
 unfold sLen at h
 obtain ⟨d,hd,h⟩:=bind_some h
 split at h
 ·rename_i E h' E' t xs he hx
  exact kq h rfl fun J θ hf=>yn (Hd.of_rd (a6 hf hx).2) ((hT.get hd).el _ he) ho (ak hx)
 ·rename_i E he hx
  exact kq h rfl fun J θ hf=>rB ((hT.get hd).el _ he) ho (ak hx)
 ·rename_i b he hx
  obtain ⟨k1,h1,g⟩:=bind_some h
  clear h
  cases k1 with
  | none=>exact kq g rfl fun J θ hf=>C2 ((hT.get hd).ik _ h1) ho (ak hx)
  | some k1=>cases g
 ·cases h
theorem Gc (hT:TTok P tt) {T:TypeId} {i:Operand} (ho:o.op= .indexAddr T x i) (h:Dd tt s k T x i=some res):Oks P w0 s o k res:=by
 unfold Dd at h
 obtain ⟨d,hd,h⟩:=bind_some h
 split at h
 ·rename_i E h' E' t xs j he hx hi
  obtain ⟨e,hE,h⟩:=bind_some h
  obtain ⟨hn,h⟩:=ah h
  obtain ⟨a,ha,h⟩:=bind_some h
  have hn:=Nat.eq_of_beq_eq_true hn
  refine ⟨_,h,cX (fun J θ hf=>?_) fun J θ hf=>⟨(a6 hf hx).1,ha,(a6 hf hx).2⟩⟩
  have:=oF (I:=J) (w0:=w0) (Hd.of_rd (a6 hf hx).2) ((hT.get hd).el _ he) (hT.get hE).ti ho (ak hx) (ak hi) (zr ha)
  rw[hn] at this
  exact this
 ·cases h
theorem H5 (hT:TTok P tt) {T:TypeId} {f:Nat} (ho:o.op= .fieldAddr T x f) (h:H3 tt s k T x f=some res):Oks P w0 s o k res:=by
 unfold H3 at h
 obtain ⟨d,hd,h⟩:=bind_some h
 obtain ⟨q,hq,h⟩:=bind_some h
 have hf:=(hT.get hd).fld f q hq
 split at h
 ·rename_i hh E t xs a i off hx
  refine ⟨_,h,cX (fun J θ hF=>?_) fun J θ hF=>(by have:=a6 hF hx;exact this)⟩
  have:=tV (I:=J) (w0:=w0) hf ho (ak (θ:=θ) hx)
  rw[Nat.add_assoc] at this
  exact this
 ·rename_i hh ver E t xs a i off hx
  refine ⟨_,h,cX (fun J θ hF=>?_) fun J θ hF=>(by have:=a6 hF hx;exact this)⟩
  have:=tV (I:=J) (w0:=w0) hf ho (ak (θ:=θ) hx)
  rw[Nat.add_assoc] at this
  exact this
 ·rename_i hh off hx
  exact ⟨_,h,cX (fun J θ hF=>jB hf ho (ak (θ:=θ) hx)) fun J θ hF=>(by have:=a6 hF hx;exact this)⟩
 ·cases h
theorem H6 (hT:TTok P tt) {T:TypeId} (ho:o.op= .load T x) (h:H4 tt s k T x=some res):Oks P w0 s o k res:=by
 unfold H4 at h
 obtain ⟨d,hd,h⟩:=bind_some h
 split at h
 ·rename_i hh E t xs a i off hx
  obtain ⟨p,hp,h⟩:=bind_some h
  obtain ⟨hg,h⟩:=ah h
  have hp:=u9 _ _ _ _ hp
  have hdk:=hT.get hd
  refine ⟨_,h,List.Perm.refl _,aC rfl,fun J θ hf=>?_⟩
  have ho':=a6 hf hx
  have:=C3 (P:=P) (w0:=w0) (o:=o) (T:=T) ho'.2.2 ho'.2.1 hp.fld hdk.ti (p.ty.rep_size.trans hp.size) hdk.one ho (ak (θ:=θ) hx) t.rep_size
  refine OpT.weak this (fun v hv=>?_) (fun v hv=>rfl)
  obtain ⟨c,h1,h2⟩:=hv
  rw[←show (p.ty.isProd==d.agg)=true→p.ty.isProd=d.agg from fun e=>by simpa using e,] at h2
  all_goals first | exact hg | skip
  have:=oL (P:=P) (w0:=w0) (J:=J) (θ:=upd θ s.nxt v) (id:=s.nxt) (n:=s.nxt+1) (chs:=(Res.pure s (KR s.nxt p.ty (p.get a))).chs s.nxt) (Nat.lt_succ_self _) eT p.ty (p.get a) c h1 h2
  exact ⟨this.1,this.2,fun g hg=>by cases hg⟩
 ·cases h
end
end R
namespace R
open Go.RowKit
open D
def pull (h:Hdr):List Ent→Option (Ent×List Ent)
 | [] =>none
 | e::l=>if Hdr.beq e.1 h then some (e,l) else (pull h l).bind fun r=>some (r.1,e::r.2)
theorem fe {h:Hdr} : ∀ {l:List Ent} {r:Ent×List Ent},pull h l=some r→l.Perm (r.1::r.2)∧r.1.1=h
 | [],r,e=>by cases e
 | x::l,r,e=>by
  unfold pull at e
  split at e
  ·rename_i hx
   obtain rfl:=Option.some.inj e
   exact ⟨List.Perm.refl _,Hdr.beq_eq hx⟩
  ·obtain ⟨q,hq,e⟩:=bind_some e
   obtain rfl:=Option.some.inj e
   obtain ⟨p,k⟩:=fe hq
   exact ⟨(p.cons x).trans (List.Perm.swap _ _ _),k⟩
def Bk (h:Hdr) (l:List Ent):Bool:=l.all fun e=> !(Hdr.beq e.1 h)
theorem vB: ∀l:List Nat,QU l l=true
 | [] =>rfl
 | a::l=>by show (Nat.beq a a&&QU l l)=true;rw[Nat.beq_refl,vB l];rfl
theorem nr {h:Hdr} {l:List Ent} (k:Bk h l=true) {e:Ent} (he:e∈l):e.1≠h:=by
 intro e1
 have:=(List.all_eq_true.1 k) e he
 rw[e1] at this
 unfold Hdr.beq at this
 rw[Nat.beq_refl,vB] at this
 cases this
structure Row where
 ver:Nat
 E:TypeId
 t:Ty
 xs:List t.den
 rest:List Ent
def rowOf (h:Hdr) (chs:List Ent):Option Row:=(pull h chs).bind fun r=>match r.1.2.2 with
 | .own (.sl E t) xs=>bp (Bk h r.2) (some ⟨r.1.2.1,E,t,xs,r.2⟩)
 | _=>none
def Row.ent (r:Row) (h:Hdr):Ent:=(h,r.ver,.own (.sl r.E r.t) r.xs)
theorem aY {h:Hdr} {chs:List Ent} {r:Row} (e:rowOf h chs=some r):chs.Perm (r.ent h::r.rest)∧ ∀e∈r.rest,e.1≠h:=by
 obtain ⟨q,hq,e⟩:=bind_some e
 obtain ⟨p,k⟩:=fe hq
 obtain ⟨⟨h',ver,c⟩,rest⟩:=q
 obtain rfl:h'=h:=k
 cases c with
 | own t' d =>
  cases t' with
  | sl E t =>
   obtain ⟨hn,e⟩:=ah (show bp (Bk h' rest) _=some r from e)
   obtain rfl:=Option.some.inj e
   exact ⟨p,fun e he=>nr hn he⟩
  | _=>cases e
 | _=>cases e
theorem rI {h:Hdr} {chs:List Ent} {r:Row} (e:rowOf h chs=some r) {n:Nat} (hv:r.ver<n):Mem chs n h r.ver (.own (.sl r.E r.t) r.xs):=by
 obtain ⟨p,k⟩:=aY e
 refine ⟨hv,fun x hx c hs=>?_⟩
 rcases List.mem_cons.1 (p.mem_iff.1 hx) with rfl | hx
 ·rcases hs.2 with h1 | h1
  ·exact h1.2
  ·exact h1.elim
 ·exact absurd hs.1 (k x hx)
structure Blk where
 ver:Nat
 T:TypeId
 cells:List LV
 rest:List Ent
def sZ (h:Hdr) (chs:List Ent):Option Blk:=(pull h chs).bind fun r=>match r.1.2.2 with
 | .blk T cells=>some ⟨r.1.2.1,T,cells,r.2⟩
 | _=>none
def Blk.ent (r:Blk) (h:Hdr):Ent:=(h,r.ver,.blk r.T r.cells)
theorem kK {h:Hdr} {chs:List Ent} {r:Blk} (e:sZ h chs=some r):chs.Perm (r.ent h::r.rest):=by
 obtain ⟨q,hq,e⟩:=bind_some e
 obtain ⟨p,k⟩:=fe hq
 obtain ⟨⟨h',ver,c⟩,rest⟩:=q
 obtain rfl:h'=h:=k
 cases c with
 | blk T cells =>
  obtain rfl:=Option.some.inj (show some _=some r from e)
  exact p
 | _=>cases e
def gK:AV→Option (List LV)
 | .one x=>some [x]
 | .agg xs=>some xs
 | _=>none
theorem fK {v:AV} {cs:List LV} (h:gK v=some cs) {P:Program} {w0:World} {J:Hp} {θ:Th} {n:Nat} {chs:List Ent} (hv:v.ok P w0 J θ n chs):(∀x∈cs,x.ok P w0 J θ n)∧(v.v θ).cells=(cs.map (·.v θ)).toArray:=by
 unfold gK at h
 split at h
 ·obtain rfl:=Option.some.inj h
  exact ⟨fun x hx=>by obtain rfl:=List.mem_singleton.1 hx;exact hv,Bf (LV.one (show LV.ok P w0 J θ n _ from hv))⟩
 ·obtain rfl:=Option.some.inj h
  exact ⟨hv,rfl⟩
 ·cases h
theorem Df {P:Program} {w0:World} {J:Hp} {θ:Th} {n:Nat} {cs:List LV} (h: ∀x∈cs,x.ok P w0 J θ n):(cs.map (·.v θ)).all (·.oneCell')=true:=List.all_eq_true.2 fun v hv=>by
 obtain ⟨x,hx,rfl⟩:=List.mem_map.1 hv
 exact LV.one (h x hx)
def Ge (k:IntKind):LV→Option Int
 | .val (.int k' n)=>if k'=k then some n else none
 | _=>none
def yr:LV→Option Bool
 | .val (.bool b)=>some b
 | .nb b=>some (!b)
 | _=>none
def Gf:LV→Option ByteArray
 | .val (.string b)=>some b
 | _=>none
def isNil:Value→Bool
 | .slice none 0 0=>true
 | _=>false
theorem kL {v:Value} (h:isNil v=true):v= .slice none 0 0:=by
 unfold isNil at h
 split at h
 ·rfl
 ·cases h
def Ll (E:TypeId) (t:Ty):LV→Option (List t.den)
 | .rd _ t' d=>nV t' (.sl E t) d
 | .val v=>bp (isNil v) (some [])
 | _=>none
def yt:Value→Bool
 | .pointer none=>true
 | _=>false
theorem vC {v:Value} (h:yt v=true):v= .pointer none:=by
 unfold yt at h
 split at h
 ·rfl
 ·cases h
def QV (T E:TypeId) (t:Ty):LV→Option (Tr t.den)
 | .rd _ t' d=>nV t' (.tree T E t) d
 | .val v=>bp (yt v) (some .nil)
 | _=>none
def hd1 {α:Type} (f:LV→Option α):List LV→Option (α×List LV)
 | x::r=>(f x).bind fun d=>some (d,r)
 | [] =>none
def cM:(t:Ty)→List LV→Option (t.den×List LV)
 | .int k,l=>hd1 (Ge k) l
 | .bool,l=>hd1 yr l
 | .str,l=>hd1 Gf l
 | .raw,_=>none
 | .prod a b,l=>(cM a l).bind fun x=>(cM b x.2).bind fun y=>some ((x.1,y.1),y.2)
 | .sl E t,l=>hd1 (Ll E t) l
 | .fro t,l=>cM t l
 | .wr t,l=>cM t l
 | .tree T E t,l=>hd1 (QV T E t) l
theorem EN {k:IntKind} {x:LV} {n:Int} (h:Ge k x=some n) (θ:Th):x.v θ= .int k n:=by
 unfold Ge at h
 split at h
 ·split at h
  ·rename_i hk
   subst hk
   obtain rfl:=Option.some.inj h
   rfl
  ·cases h
 ·cases h
theorem Bl {x:LV} {n:Bool} (h:yr x=some n) (θ:Th):x.v θ= .bool n:=by
 unfold yr at h
 split at h
 ·obtain rfl:=Option.some.inj h;rfl
 ·obtain rfl:=Option.some.inj h;rfl
 ·cases h
theorem EO {x:LV} {n:ByteArray} (h:Gf x=some n) (θ:Th):x.v θ= .string n:=by
 unfold Gf at h
 split at h
 ·obtain rfl:=Option.some.inj h;rfl
 ·cases h
theorem vD {E:TypeId} {t:Ty} {x:LV} {d:List t.den} (h:Ll E t x=some d) {P:Program} {w0:World} {J:Hp} {θ:Th} {n:Nat} (hx:x.ok P w0 J θ n):(Ty.sl E t).rep.rd J [x.v θ] d:=by
 cases x with
 | rd h' t' d'=>exact jZ (show nV t' (.sl E t) d'=some d from h) hx.2
 | val v =>
  obtain ⟨h1,h⟩:=ah (show bp (isNil v) (some [])=some d from h)
  obtain rfl:=Option.some.inj h
  show (Ty.sl E t).rep.rd J [v] []
  rw[kL h1]
  exact NK
 | _=>cases h
theorem Dg {T E:TypeId} {t:Ty} {x:LV} {d:Tr t.den} (h:QV T E t x=some d) {P:Program} {w0:World} {J:Hp} {θ:Th} {n:Nat} (hx:x.ok P w0 J θ n):(Ty.tree T E t).rep.rd J [x.v θ] d:=by
 cases x with
 | rd h' t' d'=>exact jZ (show nV t' (.tree T E t) d'=some d from h) hx.2
 | val v =>
  obtain ⟨h1,h⟩:=ah (show bp (yt v) (some .nil)=some d from h)
  obtain rfl:=Option.some.inj h
  show (Ty.tree T E t).rep.rd J [v] .nil
  rw[vC h1]
  exact ⟨_,rfl,.nil⟩
 | _=>cases h
theorem Bm {α:Type} {f:LV→Option α} {cs:List LV} {r:α×List LV} (h:hd1 f cs=some r): ∃x,cs=x::r.2∧f x=some r.1:=by
 cases cs with
 | nil=>cases h
 | cons x l =>
  obtain ⟨d,hd,h⟩:=bind_some (show (f x).bind _=some r from h)
  obtain rfl:=Option.some.inj h
  exact ⟨x,rfl,hd⟩
theorem ff {P:Program} {w0:World} {J:Hp} {θ:Th} {n:Nat} : ∀ {t:Ty} {cs:List LV} {r:t.den×List LV},cM t cs=some r→(∀x∈cs,x.ok P w0 J θ n)→ ∃c1,cs=c1++r.2∧t.rep.rd J (c1.map (·.v θ)) r.1:=by
 intro t
 induction t with
 | int k =>
  intro cs r h hc
  obtain ⟨x,rfl,hx⟩:=Bm (show hd1 _ _=some r from h)
  exact ⟨[x],rfl,congrArg (fun v=>[v]) (EN hx θ)⟩
 | bool =>
  intro cs r h hc
  obtain ⟨x,rfl,hx⟩:=Bm (show hd1 _ _=some r from h)
  exact ⟨[x],rfl,congrArg (fun v=>[v]) (Bl hx θ)⟩
 | str =>
  intro cs r h hc
  obtain ⟨x,rfl,hx⟩:=Bm (show hd1 _ _=some r from h)
  exact ⟨[x],rfl,congrArg (fun v=>[v]) (EO hx θ)⟩
 | raw =>
  intro cs r h hc
  cases (show none=some r from h)
 | prod a b iha ihb =>
  intro cs r h hc
  obtain ⟨x,hx,h⟩:=bind_some (show (cM a cs).bind _=some r from h)
  obtain ⟨y,hy,h⟩:=bind_some h
  obtain rfl:=Option.some.inj h
  obtain ⟨c1,rfl,k1⟩:=iha hx hc
  obtain ⟨c2,e2,k2⟩:=ihb hy fun z hz=>hc z (List.mem_append_right _ hz)
  exact ⟨c1++c2,by rw[e2,List.append_assoc],c1.map (·.v θ),c2.map (·.v θ),by rw[List.map_append],k1,k2⟩
 | sl E t ih =>
  intro cs r h hc
  obtain ⟨x,rfl,hx⟩:=Bm (show hd1 _ _=some r from h)
  exact ⟨[x],rfl,vD hx (hc x (by simp))⟩
 | fro t ih =>
  intro cs r h hc
  exact ih (show cM t cs=some r from h) hc
 | wr t ih =>
  intro cs r h hc
  exact ih (show cM t cs=some r from h) hc
 | tree T E t ih =>
  intro cs r h hc
  obtain ⟨x,rfl,hx⟩:=Bm (show hd1 _ _=some r from h)
  exact ⟨[x],rfl,Dg hx (hc x (by simp))⟩
end R
namespace R
open Go.RowKit
open D
section
variable {P:Program} {I J:Hp} {w0 w w':World} {C:List Ch} {o:Oper} {ev:Operand→Value} {α β:Type} {R:Rep α} {S:Rep β} {E T:TypeId}
theorem vE {v:Value} {xs:List α} {i:Nat} {x:α} {F:List Nat} (h:(ae E R).own I w [v] xs F) (hx:xs[i]? =some x) :
  ∃g ofs cap cur K1 K3 c1 cell c3 G,v= .slice (some ⟨g,ofs,none⟩) xs.length cap∧xs.length≤lim∧w.heap[g]? =some (.cells cur E (0,0))∧xs.length≤cap∧cap≤maxLen∧ofs+cap*R.size≤cur.size∧F=g::(K1++(G++K3)) ∧
   cur.toList.drop ofs=c1++(cell++c3)∧c1.length=i*R.size∧cell.length=R.size∧OwnEls R I w c1 (xs.take i) K1∧R.own I w cell x G∧OwnEls R I w c3 (xs.drop (i+1)) K3:=by
 have hlt:=(List.getElem?_eq_some_iff.1 hx).1
 obtain ⟨hl,⟨-,rfl,-⟩ | ⟨g,ofs,cap,cur,K,hv,k1,k2,k3,k4,rfl,k5⟩⟩:=h
 ·simp at hlt
 obtain rfl:v= .slice (some ⟨g,ofs,none⟩) xs.length cap:=by simpa using hv
 have e:xs=xs.take i++(x::xs.drop (i+1)):=by
  have:=(List.getElem?_eq_some_iff.1 hx).2
  rw[←this,←List.drop_eq_getElem_cons hlt,List.take_append_drop]
 rw[e] at k5
 obtain ⟨c1,c2,K1,K2,f1,f2,rfl,f4,cells,c3,G,K3,rfl,f6,rfl,f8,f9⟩:=k5.cut2
 have hi:(xs.take i).length=i:=by rw[List.length_take];omega
 rw[hi] at f2
 exact ⟨g,ofs,cap,cur,K1,K3,c1,cells,c3,G,rfl,hl,k1,k2,k3,k4,rfl,f1,f2,f6,f4,f8,f9⟩
theorem zD {off n k:Nat} {f:α→β} {u:α→β→α} {x:Operand} {v:Value} {xs:List α} {a:α} {i:Int} {agg:Bool} (hS:S.Sh) (ha:az xs i=some a) (hf:Lens R off S f u) (hT:TI P T agg n) (hSn:S.size=n) (hn:(agg || n==1)=true) (ho:o.op= .load T x) (hx:ev x=pt v (i.toNat*k+off)) (hk:R.size=k) :
  OpT P I w0 o ev [Ch.own (ae E R) [v] xs] (fun u=> ∃d,S.rd I d (f a)∧Lds agg d u) (fun _=>[Ch.own (ae E R) [v] xs]):=by
 intro w C hs
 obtain ⟨hb,hi,F,⟨G,K,rfl,e2,e3⟩,h2,h3⟩:=id hs
 obtain ⟨g,ofs,cap,cur,K1,K3,c1,cell,c3,G1,rfl,hl,k1,k2,k3,k4,rfl,f1,f2,f3,-,f5,-⟩:=vE e2 (qG ha)
 obtain ⟨d,G2,K2,p,e1,e4,-⟩:=hf I w cell a G1 f5
 obtain ⟨-,d2⟩:=hS e4
 have hdl:d.length=n:=(S.rd_len d2).trans hSn
 obtain ⟨u,hr,hu⟩:=HE (P:=P) (w:=w) (b:=g) (off:=ofs+(i.toNat*k+off)) hT hdl (fun e=>by subst e;simpa using hn) (fun j u hj=>by
  rw[←e1,List.getElem?_take] at hj
  split at hj
  ·rw[List.getElem?_drop] at hj
   have hlt:=(List.getElem?_eq_some_iff.1 hj).1
   simp only[World.cell?,k1]
   rw[←Array.getElem?_toList,show ofs+(i.toNat*k+off)+j=ofs+(i.toNat*k+off+j) from Nat.add_assoc _ _ _,←List.getElem?_drop,f1,List.getElem?_append_right (by rw[f2,hk];omega),List.getElem?_append_left (by rw[f2,hk];omega),f2,hk]
   rw[show i.toNat*k+off+j - i.toNat*k=off+j from by omega];exact hj
  ·cases hj)
 simp only[execOp,ho,hx,pt,ptB,ptO,Sem.run_bind,hr,Result.andThen_ok]
 exact ⟨⟨d,d2,hu⟩,hs⟩
theorem Rr {off:Nat} {u:α→β→α} {xs:List α} {i:Nat} {a:α} {g ofs cap:Nat} {cur:Array Value} {K1 K2 K3:List Nat} {c1 cell c3:List Value} {v0:Value}
  (hlt:i<xs.length) (hl:xs.length≤lim) (k1:w.heap[g]? =some (.cells cur E (0,0))) (k2:xs.length≤cap) (k3:cap≤maxLen) (k4:ofs+cap*R.size≤cur.size) (f1:cur.toList.drop ofs=c1++(cell++c3)) (f2:c1.length=i*R.size) (f3:cell.length=R.size)
  (f4:OwnEls R I w c1 (xs.take i) K1) (f6:OwnEls R I w c3 (xs.drop (i+1)) K3) (hv:cell[off]? =some v0) (hne: ∀b,b∈K1++(K2++K3)→b≠g) (hlv: ∀b,b∈K2→b<w.heap.size) (hS:S.size=1)
  (hW: ∀J w' d' y G',I.le J→(∀b,b∈K2→w'.heap[b]? =w.heap[b]?)→S.own J w' d' y G'→ ∃F,F.Perm (G'++K2)∧R.own J w' (spl cell off d') (u a y) F) :
  (Ch.gap (ae E R) [.slice (some ⟨g,ofs,none⟩) xs.length cap] S (fun y=>xs.set i (u a y)) g (ofs+(i*R.size+off)) v0).holds I w (g::(K1++(K2++K3))):=by
 have hoff:=(List.getElem?_eq_some_iff.1 hv).1
 refine ⟨by simp,⟨cur,E,k1,?_⟩,fun b hb=>?_,fun J w' v' y G' hJ hs hg h'=>?_⟩
 ·rw[←Array.getElem?_toList,←List.getElem?_drop (i:=ofs),f1,List.getElem?_append_right (by omega),List.getElem?_append_left (by omega),f2]
  rw[show i*R.size+off - i*R.size=off from by omega];exact hv
 ·rcases List.mem_cons.1 hb with rfl | hb
  ·exact (Array.getElem?_eq_some_iff.1 k1).1
  ·rcases List.mem_append.1 hb with hb | hb
   ·exact f4.live b hb
   ·rcases List.mem_append.1 hb with hb | hb
    ·exact hlv b hb
    ·exact f6.live b hb
 ·have st: ∀b,b∈K1++(K2++K3)→w'.heap[b]? =w.heap[b]? :=fun b hb=>hs b (List.mem_cons_of_mem _ hb) (hne b hb)
  obtain ⟨F1,p,q⟩:=hW J w' [v'] y G' hJ (fun b hb=>st b (List.mem_append_right _ (List.mem_append_left _ hb))) h'
  have hcur:=hg cur E k1
  have hcells:(cur.setIfInBounds (ofs+(i*R.size+off)) v').toList.drop ofs=c1++(spl cell off [v'] ++c3):=by
   rw[Array.toList_setIfInBounds,List.drop_set,if_neg (by omega),Nat.add_sub_cancel_left,f1,List.set_append_right _ _ (by omega),List.set_append_left _ _ (by omega),f2]
   rw[show i*R.size+off - i*R.size=off from by omega];rfl
  have hi:(xs.take i).length=i:=by rw[List.length_take];omega
  refine ⟨g::(K1++(F1++K3)),?_,by rw[List.length_set];exact hl,.inr ⟨g,ofs,cap,_,K1++(F1++K3),by rw[List.length_set],hcur,by rw[List.length_set];exact k2,k3,by rw[Array.size_setIfInBounds];exact k4,rfl,?_⟩⟩
  ·have p1:(F1++K3).Perm (G'++(K2++K3)):=by rw[←List.append_assoc];exact p.append_right _
   have p2:(K1++(F1++K3)).Perm (G'++(K1++(K2++K3))):=(p1.append_left K1).trans (List.perm_append_comm_assoc _ _ _)
   exact (p2.cons g).trans (List.perm_middle (l₁:=G')).symm
  ·show OwnEls R J w' _ (xs.set i (u a y)) _
   rw[List.set_eq_take_append_cons_drop,if_pos hlt,hcells]
   exact OwnEls.glue (ys:=xs.take i) (zs:=u a y::xs.drop (i+1)) (by rw[hi,f2]) ((f4.mono hJ).stay fun b hb=>st b (List.mem_append_left _ hb))
    ⟨spl cell off [v'],c3,F1,K3,rfl,by rw[sV];exact f3,rfl,q,(f6.mono hJ).stay fun b hb=>st b (List.mem_append_right _ (List.mem_append_right _ hb))⟩
theorem zE {off k:Nat} {f:α→β} {u:α→β→α} {x:Operand} {v:Value} {xs:List α} {a:α} {i:Int} (ha:az xs i=some a) (hf:Lens R off S f u) (hT:TI P T false 1) (hS:S.size=1) (ho:o.op= .load T x) (hx:ev x=pt v (i.toNat*k+off)) (hk:R.size=k) :
  OpT P I w0 o ev [Ch.own (ae E R) [v] xs] (fun u=>u.oneCell'=true) (fun c=>[Ch.own S [c] (f a),Ch.gap (ae E R) [v] S (fun y=>xs.set i.toNat (u a y)) (ptB v) (ptO v+(i.toNat*k+off)) c]):=by
 intro w C hs
 obtain ⟨hb,hi,F,⟨G,K,rfl,e2,e3⟩,h2,h3⟩:=hs
 have hlt:=(List.getElem?_eq_some_iff.1 (qG ha)).1
 obtain ⟨g,ofs,cap,cur,K1,K3,c1,cell,c3,G1,rfl,hl,k1,k2,k3,k4,rfl,f1,f2,f3,f4,f5,f6⟩:=vE e2 (qG ha)
 obtain ⟨d,G2,K2,p,e1,e4,e5⟩:=hf I w cell a G1 f5
 have hdl:d.length=1:=(S.own_len e4).trans hS
 obtain ⟨c,rfl⟩:=List.length_eq_one_iff.1 hdl
 have hc:cell[off]? =some c:=by
  have:=congrArg (fun l:List Value=>l[0]?) e1
  simpa [List.getElem?_take,List.getElem?_drop,hS] using this
 obtain ⟨u',hr,hu⟩:=HE (P:=P) (w:=w) (b:=g) (off:=ofs+(i.toNat*k+off)) (d:=[c]) hT rfl (fun _=>rfl) (fun j u hj=>by
  have hj0:j=0:=by have:=(List.getElem?_eq_some_iff.1 hj).1;simpa using this
  subst hj0
  obtain rfl:c=u:=by simpa using hj
  have hoff:=(List.getElem?_eq_some_iff.1 hc).1
  simp only[World.cell?,k1]
  rw[←Array.getElem?_toList,show ofs+(i.toNat*k+off)+0=ofs+(i.toNat*k+off+0) from Nat.add_assoc _ _ _,←List.getElem?_drop,f1,List.getElem?_append_right (by rw[f2,hk];omega),List.getElem?_append_left (by rw[f2,hk];omega),f2,hk]
  rw[show i.toNat*k+off+0 - i.toNat*k=off from by omega];exact hc)
 obtain rfl:c=u':=by simpa using (show [c] = [u'] from hu)
 simp only[execOp,ho,hx,pt,ptB,ptO,Sem.run_bind,hr,Result.andThen_ok]
 have hperm:((g::(K1++(G1++K3)))++K).Perm (G2++((g::(K1++(K2++K3)))++K)):=by
  have p1:(G1++K3).Perm (G2++(K2++K3)):=by rw[←List.append_assoc];exact p.append_right _
  have p2:(K1++(G1++K3)).Perm (G2++(K1++(K2++K3))):=(p1.append_left K1).trans (List.perm_append_comm_assoc _ _ _)
  have p3:=((p2.cons g).trans (List.perm_middle (l₁:=G2)).symm).append_right K
  rwa [List.append_assoc] at p3
 have hnd:=hperm.nodup_iff.1 h2
 have hnd2:(g::(K1++(K2++K3))).Nodup:=(List.nodup_append.1 (List.nodup_append.1 hnd).2.1).1
 refine ⟨S.own_one e4 c (by simp),hb,hi,G2++((g::(K1++(K2++K3)))++K),⟨G2,_,rfl,e4,g::(K1++(K2++K3)),K,rfl,?_,e3⟩,hnd,fun b hb=>h3 b (hperm.mem_iff.2 hb)⟩
 have:=Rr (u:=u) (a:=a) (v0:=c) hlt hl k1 k2 k3 k4 f1 f2 f3 f4 f6 hc (K2:=K2) (S:=S) (fun b hb e=>by
  subst e;exact (List.nodup_cons.1 hnd2).1 hb) (fun b hb=>R.own_live f5 b (p.mem_iff.2 (List.mem_append_right _ hb))) hS e5
 rw[hk] at this
 exact this
theorem St.settle {cs:List Value} {f:β→α} {b off:Nat} {v:Value} {y:β} (h:St I w0 w (Ch.own S [v] y::Ch.gap R cs S f b off v::C)):St I w0 w (Ch.own R cs (f y)::C):=by
 obtain ⟨h1,h2,F,⟨G,K,rfl,e1,K',K2,rfl,⟨k1,⟨cur,E,k2,k2'⟩,k3,k4⟩,e3⟩,h4,h5⟩:=h
 obtain ⟨F,p,q⟩:=k4 I w v y G Hp.le.rfl (fun _ _ _=>rfl) (fun cur' E' hc=>by
  rw[k2] at hc⊢
  obtain ⟨rfl,rfl⟩:cur=cur'∧E=E':=by injection hc with hc;injection hc with a b c;exact ⟨a,b⟩
  congr 2
  obtain ⟨hlt,he⟩:=Array.getElem?_eq_some_iff.1 k2'
  exact Array.ext (by simp) fun i h1 h2=>by
   by_cases e:i=off
   ·subst e;simp[he]
   ·rw[Array.getElem_setIfInBounds_ne _ (by omega)]) e1
 have p2:(F++K2).Perm (G++(K'++K2)):=by rw[←List.append_assoc];exact p.append_right _
 exact ⟨h1,h2,F++K2,⟨F,K2,rfl,q,e3⟩,p2.nodup_iff.2 h4,fun b hb=>h5 b (p2.mem_iff.1 hb)⟩
theorem zF {cs:List Value} {f:β→α} {b off:Nat} {v u:Value} {x y:Operand} (hT:TI P T false 1) (ho:o.op= .store T x y) (hx:ev x= .pointer (some ⟨b,off,none⟩)) (hy:ev y=u) (h1:u.oneCell'=true) :
  OpT P I w0 o ev [Ch.gap R cs S f b off v] (fun _=>True) (fun _=>[Ch.gap R cs S f b off u]):=by
 intro w C hs
 obtain ⟨hb0,hi,F,⟨K,K2,rfl,⟨k1,⟨cur,E,k2,k2'⟩,k3,k4⟩,e3⟩,h4,h5⟩:=id hs
 obtain ⟨hlt,he⟩:=Array.getElem?_eq_some_iff.1 k2'
 have hr:=EC (P:=P) (w:=w) hT (g:=b) (o:=off) (l:=[u]) (Bf h1) rfl (fun j hj=>by
  have hj0:j=0:=by simpa using hj
  subst hj0
  simp only[World.cell?,k2,Option.isSome_none,Bool.false_eq_true,ite_false]
  rw[Nat.add_zero,k2'];rfl) (fun j=>by simp[World.frozen?,k2]) (fun v hv=>by obtain rfl:=List.mem_singleton.1 hv;exact h1)
 simp only[execOp,ho,hx,hy,Sem.run_bind,hr,Result.andThen_ok]
 refine ⟨trivial,?_⟩
 have hw:ld w b off [u] =w.setCell ⟨b,off,none⟩ u:=rfl
 rw[hw]
 refine St.step (w:=w) (c:=[Ch.gap R cs S f b off v]) (c':=[Ch.gap R cs S f b off u]) (w':=w.setCell ⟨b,off,none⟩ u) hs rfl rfl rfl (by simp[World.setCell]) ?_
 rintro F ⟨K,K',rfl,⟨q1,⟨cur',E',q2,q2'⟩,q3,q4⟩,rfl⟩ hnd hfr
 rw[List.append_nil] at *
 refine ⟨fun c hc hn=>Below.heap_setCell _ _ _ _ fun e=>hn (e ▸ q1),K,⟨K,[],by simp,⟨q1,⟨_,E',dM q2,?_⟩,fun c hc=>by have:=q3 c hc;simpa [World.setCell] using this,fun J w'' v' y' G hJ s1 s2=>q4 J w'' v' y' G hJ (fun c hc hne=>by rw[s1 c hc hne,Below.heap_setCell _ _ _ _ hne]) fun cur2 E2 hc=>?_⟩,rfl⟩,hnd,fun c hc=>.inl hc⟩
 ·obtain ⟨hlt,-⟩:=Array.getElem?_eq_some_iff.1 q2'
  rw[Array.getElem?_setIfInBounds_self_of_lt hlt]
 ·have:=s2 _ E2 (dM (v:=u) (o:=off) hc)
  rw[this]
  congr 2
  exact Array.ext (by simp) fun i h1 h2=>by
   by_cases e:off=i
   ·subst e;simp
   ·simp[Array.getElem_setIfInBounds_ne,e]
end
end R
namespace R
open Go.RowKit
open D
def rJ (E:TypeId) (t:Ty) (x:LV) (chs:List Ent):Option (List t.den×List Ent×List Ent):=match x with
 | .own h=>(pull h chs).bind fun r=>match r.1.2.2 with
  | .own t' d=>(lY t' (.sl E t) d).bind fun d=>some (d,[r.1],r.2)
  | _=>none
 | .val v=>bp (isNil v) (some ([],[],chs))
 | _=>none
def vF (T E:TypeId) (t:Ty) (x:LV) (chs:List Ent):Option (Tr t.den×List Ent×List Ent):=match x with
 | .own h=>(pull h chs).bind fun r=>match r.1.2.2 with
  | .own t' d=>(lY t' (.tree T E t) d).bind fun d=>some (d,[r.1],r.2)
  | _=>none
 | x=>(QV T E t x).bind fun d=>some (d,[],chs)
structure Took (t:Ty) where
 d:t.den
 cells:List LV
 used:List Ent
 rest:List Ent
def dk:(t:Ty)→List LV→List Ent→Option (Took t)
 | .prod a b,l,chs=>(dk a l chs).bind fun x=>(dk b x.cells x.rest).bind fun y=>some ⟨(x.d,y.d),y.cells,x.used++y.used,y.rest⟩
 | .sl E t,l,chs=>match l with
  | x::r=>(rJ E t x chs).bind fun q=>some ⟨q.1,r,q.2.1,q.2.2⟩
  | [] =>none
 | .int k,l,chs=>(cM (.int k) l).bind fun x=>some ⟨x.1,x.2,[],chs⟩
 | .bool,l,chs=>(cM .bool l).bind fun x=>some ⟨x.1,x.2,[],chs⟩
 | .str,l,chs=>(cM .str l).bind fun x=>some ⟨x.1,x.2,[],chs⟩
 | .raw,_,_=>none
 | .fro t,l,chs=>(cM t l).bind fun x=>some ⟨x.1,x.2,[],chs⟩
 | .wr t,l,chs=>(dk t l chs).bind fun x=>some ⟨x.d,x.cells,x.used,x.rest⟩
 | .tree T E t,l,chs=>match l with
  | x::r=>(vF T E t x chs).bind fun q=>some ⟨q.1,r,q.2.1,q.2.2⟩
  | [] =>none
theorem vG {E:TypeId} {t:Ty} {x:LV} {chs:List Ent} {q:List t.den×List Ent×List Ent} (h:rJ E t x chs=some q) (P:Program) (J:Hp) (θ:Th):chs.Perm (q.2.1++q.2.2)∧Bun J (q.2.1.map (toCh P θ)) (Ty.sl E t).rep [x.v θ] q.1:=by
 cases x with
 | own h' =>
  obtain ⟨r,hr,h⟩:=bind_some (show (pull h' chs).bind _=some q from h)
  obtain ⟨p,k⟩:=fe hr
  obtain ⟨⟨h2,ver,c⟩,rest⟩:=r
  obtain rfl:h2=h':=k
  cases c with
  | own t' d =>
   obtain ⟨d',hd,h⟩:=bind_some (show (lY t' (.sl E t) d).bind _=some q from h)
   obtain ⟨e,rfl⟩:=mI hd
   obtain rfl:=Option.some.inj h
   subst e
   exact ⟨p,HO⟩
  | _=>cases h
 | val v =>
  obtain ⟨h1,h⟩:=ah (show bp (isNil v) _=some q from h)
  obtain rfl:=Option.some.inj h
  refine ⟨List.Perm.refl _,?_⟩
  show Bun J [] _ [v] []
  rw[kL h1]
  exact O9
 | _=>cases h
theorem vH {E:TypeId} {t:Ty} {x:LV} {chs:List Ent} {q:List t.den×List Ent×List Ent} (h:rJ E t x chs=some q):chs.Perm (q.2.1++q.2.2):=by
 cases x with
 | own h' =>
  obtain ⟨r,hr,h⟩:=bind_some (show (pull h' chs).bind _=some q from h)
  obtain ⟨p,k⟩:=fe hr
  obtain ⟨⟨h2,ver,c⟩,rest⟩:=r
  cases c with
  | own t' d =>
   obtain ⟨d',hd,h⟩:=bind_some (show (lY t' (.sl E t) d).bind _=some q from h)
   obtain rfl:=Option.some.inj h
   exact p
  | _=>cases h
 | val v =>
  obtain ⟨h1,h⟩:=ah (show bp (isNil v) _=some q from h)
  obtain rfl:=Option.some.inj h
  exact List.Perm.refl _
 | _=>cases h
theorem vI {T E:TypeId} {t:Ty} {x:LV} {chs:List Ent} {q:Tr t.den×List Ent×List Ent} (h:vF T E t x chs=some q):chs.Perm (q.2.1++q.2.2):=by
 unfold vF at h
 split at h
 ·rename_i h'
  obtain ⟨r,hr,h⟩:=bind_some h
  obtain ⟨p,k⟩:=fe hr
  split at h
  ·obtain ⟨d',hd,h⟩:=bind_some h
   obtain rfl:=Option.some.inj h
   exact p
  ·cases h
 ·obtain ⟨d,hd,h⟩:=bind_some h
  obtain rfl:=Option.some.inj h
  exact List.Perm.refl _
theorem rK {J:Hp} {α:Type} {R:Rep α} (hc:Cpy R R) {c:List Value} {x:α} (h:R.rd J c x):Bun J [] R c x:=fun w F k=>by
 rw[show F= [] from k];exact hc h
theorem H7 {T E:TypeId} {t:Ty} {x:LV} {chs:List Ent} {q:Tr t.den×List Ent×List Ent} (h:vF T E t x chs=some q) {P:Program} {w0:World} {J:Hp} {θ:Th} {n:Nat} (hx:x.ok P w0 J θ n):Bun J (q.2.1.map (toCh P θ)) (Ty.tree T E t).rep [x.v θ] q.1:=by
 unfold vF at h
 split at h
 ·rename_i h'
  obtain ⟨r,hr,h⟩:=bind_some h
  obtain ⟨p,k⟩:=fe hr
  obtain ⟨⟨h2,ver,c⟩,rest⟩:=r
  obtain rfl:h2=h':=k
  cases c with
  | own t' d =>
   obtain ⟨d',hd,h⟩:=bind_some (show (lY t' (.tree T E t) d).bind _=some q from h)
   obtain ⟨e,rfl⟩:=mI hd
   obtain rfl:=Option.some.inj h
   subst e
   exact HO
  | _=>cases h
 ·obtain ⟨d,hd,h⟩:=bind_some h
  obtain rfl:=Option.some.inj h
  exact rK Ld (Dg hd hx)
theorem gL {P:Program} {w0:World} {J:Hp} {θ:Th} {n:Nat} : ∀ {t:Ty} {cs:List LV} {chs:List Ent} {r:Took t},dk t cs chs=some r→(∀x∈cs,x.ok P w0 J θ n)→
  chs.Perm (r.used++r.rest)∧ ∃c1,cs=c1++r.cells∧Bun J (r.used.map (toCh P θ)) t.rep (c1.map (·.v θ)) r.d:=by
 intro t
 induction t with
 | prod a b iha ihb =>
  intro cs chs r h hc
  obtain ⟨x,hx,h⟩:=bind_some (show (dk a cs chs).bind _=some r from h)
  obtain ⟨y,hy,h⟩:=bind_some h
  obtain rfl:=Option.some.inj h
  obtain ⟨p1,c1,rfl,k1⟩:=iha hx hc
  obtain ⟨p2,c2,e2,k2⟩:=ihb hy fun z hz=>hc z (List.mem_append_right _ hz)
  refine ⟨by rw[List.append_assoc];exact p1.trans (p2.append_left _),c1++c2,by rw[e2,List.append_assoc],?_⟩
  rw[List.map_append,List.map_append]
  exact K8 k1 k2
 | sl E t ih =>
  intro cs chs r h hc
  cases cs with
  | nil=>cases h
  | cons x l =>
   obtain ⟨q,hq,h⟩:=bind_some (show (rJ E t x chs).bind _=some r from h)
   obtain rfl:=Option.some.inj h
   obtain ⟨p,k⟩:=vG hq P J θ
   exact ⟨p,[x],rfl,k⟩
 | fro t ih =>
  intro cs chs r h hc
  obtain ⟨x,hx,h⟩:=bind_some (show (cM t cs).bind _=some r from h)
  obtain rfl:=Option.some.inj h
  obtain ⟨c1,e,k⟩:=ff hx hc
  exact ⟨List.Perm.refl _,c1,e,Rg k⟩
 | wr t ih =>
  intro cs chs r h hc
  obtain ⟨x,hx,h⟩:=bind_some (show (dk t cs chs).bind _=some r from h)
  obtain rfl:=Option.some.inj h
  exact ih hx hc
 | tree T E t ih =>
  intro cs chs r h hc
  cases cs with
  | nil=>cases h
  | cons x l =>
   obtain ⟨q,hq,h⟩:=bind_some (show (vF T E t x chs).bind _=some r from h)
   obtain rfl:=Option.some.inj h
   exact ⟨vI hq,[x],rfl,H7 hq (hc x (by simp))⟩
 | int k =>
  intro cs chs r h hc
  obtain ⟨x,hx,h⟩:=bind_some (show (cM _ cs).bind _=some r from h)
  obtain rfl:=Option.some.inj h
  obtain ⟨c1,e,k⟩:=ff hx hc
  exact ⟨List.Perm.refl _,c1,e,rK rC k⟩
 | bool =>
  intro cs chs r h hc
  obtain ⟨x,hx,h⟩:=bind_some (show (cM _ cs).bind _=some r from h)
  obtain rfl:=Option.some.inj h
  obtain ⟨c1,e,k⟩:=ff hx hc
  exact ⟨List.Perm.refl _,c1,e,rK EF k⟩
 | str =>
  intro cs chs r h hc
  obtain ⟨x,hx,h⟩:=bind_some (show (cM _ cs).bind _=some r from h)
  obtain rfl:=Option.some.inj h
  obtain ⟨c1,e,k⟩:=ff hx hc
  exact ⟨List.Perm.refl _,c1,e,rK HI k⟩
 | raw =>
  intro cs chs r h hc
  cases (show none=some r from h)
theorem iw: ∀ {t:Ty} {cs:List LV} {chs:List Ent} {r:Took t},dk t cs chs=some r→chs.Perm (r.used++r.rest):=by
 intro t
 induction t with
 | prod a b iha ihb =>
  intro cs chs r h
  obtain ⟨x,hx,h⟩:=bind_some (show (dk a cs chs).bind _=some r from h)
  obtain ⟨y,hy,h⟩:=bind_some h
  obtain rfl:=Option.some.inj h
  exact (by rw[List.append_assoc];exact (iha hx).trans ((ihb hy).append_left _))
 | sl E t ih =>
  intro cs chs r h
  cases cs with
  | nil=>cases h
  | cons x l =>
   obtain ⟨q,hq,h⟩:=bind_some (show (rJ E t x chs).bind _=some r from h)
   obtain rfl:=Option.some.inj h
   exact vH hq
 | fro t ih =>
  intro cs chs r h
  obtain ⟨x,hx,h⟩:=bind_some (show (cM t cs).bind _=some r from h)
  obtain rfl:=Option.some.inj h
  exact List.Perm.refl _
 | wr t ih =>
  intro cs chs r h
  obtain ⟨x,hx,h⟩:=bind_some (show (dk t cs chs).bind _=some r from h)
  obtain rfl:=Option.some.inj h
  exact ih hx
 | tree T E t ih =>
  intro cs chs r h
  cases cs with
  | nil=>cases h
  | cons x l =>
   obtain ⟨q,hq,h⟩:=bind_some (show (vF T E t x chs).bind _=some r from h)
   obtain rfl:=Option.some.inj h
   exact vI hq
 | int k =>
  intro cs chs r h
  obtain ⟨x,hx,h⟩:=bind_some (show (cM _ cs).bind _=some r from h)
  obtain rfl:=Option.some.inj h
  exact List.Perm.refl _
 | bool =>
  intro cs chs r h
  obtain ⟨x,hx,h⟩:=bind_some (show (cM _ cs).bind _=some r from h)
  obtain rfl:=Option.some.inj h
  exact List.Perm.refl _
 | str =>
  intro cs chs r h
  obtain ⟨x,hx,h⟩:=bind_some (show (cM _ cs).bind _=some r from h)
  obtain rfl:=Option.some.inj h
  exact List.Perm.refl _
 | raw =>
  intro cs chs r h
  cases (show none=some r from h)
section
variable {Y:Type} (tt:TT) (s:Sg) (k:Res→Option Y)
def Ue (T:TypeId) (x:Operand):Option Y:=(opd s x).bind fun v=>(gK v).bind fun cs=>k ⟨[],[],s.chs,[(⟨s.nxt,[]⟩,.blk T cs)],.one (.ptr ⟨s.nxt,[]⟩ 0)⟩
def NQ (T:TypeId):Option Y:=(td tt T).bind fun d=>match d.fz with
 | true=>k ⟨[],[],s.chs,[(⟨s.nxt,[]⟩,.blk T [.val .nilFunc])],.one (.ptr ⟨s.nxt,[]⟩ 0)⟩
 | false=>d.bytes.bind fun _=>k ⟨[],[],s.chs,[(⟨s.nxt,[]⟩,.blk T ((zeroCells d.ty).map .val))],.one (.ptr ⟨s.nxt,[]⟩ 0)⟩
def Tc (agg:Bool) (cs:List LV):Option AV:=match agg with
 | true=>some (.agg cs)
 | false=>match cs with
  | [x] =>some (.one x)
  | _=>none
def NR (T:TypeId) (x:Operand):Option Y:=(td tt T).bind fun d=>match opd s x with
 | some (.one (.ptr h off))=>(sZ h s.chs).bind fun b=>bp (Nat.beq ((b.cells.drop off).take d.n).length d.n) ((Tc d.agg ((b.cells.drop off).take d.n)).bind fun v=>k ⟨[b.ent h],[],b.rest,[],v⟩)
 | _=>none
def H8 (T:TypeId) (x y:Operand):Option Y:=(td tt T).bind fun d=>match opd s x with
 | some (.one (.ptr h off))=>(opd s y).bind fun v=>(gK v).bind fun cs=>(sZ h s.chs).bind fun b=>bp (Nat.beq cs.length d.n&&Nat.ble (off+d.n) b.cells.length) (k ⟨[],[b.ent h],b.rest,[(h,.blk b.T (b.cells.take off++cs++b.cells.drop (off+cs.length)))],.any ⟨s.nxt,[]⟩⟩)
 | _=>none
def Rs (T:TypeId) (x:Operand):Option Y:=(td tt T).bind fun d=>match d.el,opd s x with
 | some _,some (.one (.own h))=>(rowOf h s.chs).bind fun r=>k ⟨[r.ent h],[],r.rest,[],.one (.val (.int .i64 (r.xs.length:Int)))⟩
 | _,_=>none
def H9 (T:TypeId) (x i:Operand):Option Y:=(td tt T).bind fun d=>match d.el,opd s x,opd s i with
 | some E,some (.one (.own h)),some (.one (.val (.int .i64 i)))=>(rowOf h s.chs).bind fun r=>(td tt E).bind fun e=>bp (Nat.beq e.n r.t.size) ((az r.xs i).bind fun a=>k ⟨[r.ent h],[],r.rest,[],.elo h r.ver r.E r.t r.xs a i 0⟩)
 | _,_,_=>none
def NS (T:TypeId) (x:Operand):Option Y:=(td tt T).bind fun d=>match opd s x with
 | some (.elo h ver E t xs a i off)=>(rowOf h s.chs).bind fun r=>bp (Nat.beq r.ver ver) ((sY d.agg t off d.n).bind fun p=>match p.ty.sh with
  | true=>bp (p.ty.isProd==d.agg) (k ⟨[r.ent h],[],r.rest,[],KR s.nxt p.ty (p.get a)⟩)
  | false=>bp (Nat.beq p.ty.size 1 && !d.agg) (k ⟨[],[r.ent h],r.rest,[(⟨s.nxt,[]⟩,.own p.ty (p.get a)),(h,.hole ver (.sl E t) xs p.ty (p.get a) (fun y=>xs.set i.toNat (p.set a y)) i t.size off (.own ⟨s.nxt,[]⟩))],.one (.own ⟨s.nxt,[]⟩)⟩))
 | _=>none
def Ia (T:TypeId) (x y:Operand):Option Y:=(td tt T).bind fun d=>match opd s x with
 | some (.elo h ver E t xs a i off)=>(opd s y).bind fun v=>(gK v).bind fun cs=>(rowOf h s.chs).bind fun r=>bp (Nat.beq r.ver ver&&Nat.beq cs.length d.n) ((sY d.agg t off d.n).bind fun p=>match t.sh with
  | true=>(cM p.ty cs).bind fun b=>bp b.2.isEmpty (k ⟨[],[r.ent h],r.rest,[(h,.own (.sl E t) (xs.set i.toNat (p.set a b.1)))],.any ⟨s.nxt,[]⟩⟩)
  | false=>(dk p.ty cs r.rest).bind fun q=>bp q.cells.isEmpty (k ⟨[],r.ent h::q.used,q.rest,[(h,.own (.sl E t) (xs.set i.toNat (p.set a q.d)))],.any ⟨s.nxt,[]⟩⟩))
 | _=>none
end
section
variable {Y:Type} {tt:TT} {s:Sg} {k:Res→Option Y} {P:Program} {w0:World} {o:Oper} {res:Y} {x y:Operand}
theorem qK {I:Hp} {ev:Operand→Value} {α:Type} {R:Rep α} {E:TypeId} {v:Value} {xs:List α} {fact:Value→Prop} (h:Hd v xs.length→OpT P I w0 o ev [] fact (fun _=>[])):OpT P I w0 o ev [Ch.own (ae E R) [v] xs] fact (fun _=>[Ch.own (ae E R) [v] xs]):=
 fun w C hs=>h (hs.hd 0 rfl).1 w (Ch.own (ae E R) [v] xs::C) hs
theorem cO {θ:Th} {n:Nat} {v:Value} :hv (upd θ n v) ⟨n,[]⟩=v:=eT
theorem Pv {T:TypeId} (ho:o.op= .box T x) (h:Ue s k T x=some res):Oks P w0 s o k res:=by
 obtain ⟨v,hv',h⟩:=bind_some h
 obtain ⟨cs,hcs,h⟩:=bind_some h
 refine ⟨_,h,by simp,aC rfl,fun J θ hf=>?_⟩
 obtain ⟨h1,h2⟩:=fK hcs (a6 hf hv')
 refine OpT.weak (OV (l:=cs.map (·.v θ)) (ak hv') h2 ho) (fun v hpt=>⟨Nat.lt_succ_self _,?_,fun g hg=>?_⟩) (fun v hpt=>?_)
 ·show Value.pointer (some ⟨bk (hv _ ⟨s.nxt,[]⟩),0,none⟩)=v
  rw[cO];exact (C7 hpt).symm
 ·obtain rfl:=List.mem_singleton.1 hg
  exact ⟨Nat.lt_succ_self _,Nat.lt_succ_self _,fun x hx=>LV.ok_same Same.upd (Nat.le_succ _) (h1 x hx) Hp.le.rfl⟩
 ·show [Ch.blk (bk v) _ T] = [Ch.blk (bk (hv _ ⟨s.nxt,[]⟩)) (cs.map _) T]
  rw[cO,gT Same.upd h1]
theorem Ib (hT:TTok P tt) {T:TypeId} (ho:o.op= .alloc T) (h:NQ tt s k T=some res):Oks P w0 s o k res:=by
 obtain ⟨d,hd,h⟩:=bind_some h
 split at h
 ·rename_i hfz
  obtain ⟨b,hb⟩:=(hT.get hd).fz hfz
  refine ⟨_,h,by simp,aC rfl,fun J θ hf=>?_⟩
  refine OpT.weak (A5 (l:=[.nilFunc]) hb rfl ho) (fun v hpt=>⟨Nat.lt_succ_self _,?_,fun g hg=>?_⟩) (fun v hpt=>?_)
  ·show Value.pointer (some ⟨bk (hv _ ⟨s.nxt,[]⟩),0,none⟩)=v
   rw[cO];exact (C7 hpt).symm
  ·obtain rfl:=List.mem_singleton.1 hg
   refine ⟨Nat.lt_succ_self _,Nat.lt_succ_self _,fun x hx=>?_⟩
   obtain rfl:=List.mem_singleton.1 hx
   exact Eq.refl true
  ·show [Ch.blk (bk v) _ T] = [Ch.blk (bk (hv _ ⟨s.nxt,[]⟩)) _ T]
   rw[cO];rfl
 obtain ⟨z,hz,h⟩:=bind_some h
 obtain ⟨zv,hz1,hz2,-⟩:=(hT.get hd).zero z hz
 refine ⟨_,h,by simp,aC rfl,fun J θ hf=>?_⟩
 refine OpT.weak (A5 (l:=zeroCells d.ty) hz1 hz2 ho) (fun v hpt=>⟨Nat.lt_succ_self _,?_,fun g hg=>?_⟩) (fun v hpt=>?_)
 ·show Value.pointer (some ⟨bk (hv _ ⟨s.nxt,[]⟩),0,none⟩)=v
  rw[cO];exact (C7 hpt).symm
 ·obtain rfl:=List.mem_singleton.1 hg
  refine ⟨Nat.lt_succ_self _,Nat.lt_succ_self _,fun x hx=>?_⟩
  obtain ⟨u,hu,rfl⟩:=List.mem_map.1 hx
  exact EK _ u hu
 ·show [Ch.blk (bk v) _ T] = [Ch.blk (bk (hv _ ⟨s.nxt,[]⟩)) (((zeroCells d.ty).map LV.val).map _) T]
  rw[cO,List.map_map]
  congr 2
  exact (List.map_id' _).symm
theorem Ic {agg:Bool} {cs:List LV} {v:AV} (h:Tc agg cs=some v) {P:Program} {w0:World} {J:Hp} {θ:Th} {n:Nat} {chs:List Ent} (hc: ∀x∈cs,x.ok P w0 J θ n):v.ok P w0 J θ n chs∧(if agg then Value.agg (cs.map (·.v θ)).toArray else (cs.map (·.v θ)).getD 0 undef)=v.v θ:=by
 cases agg with
 | true =>
  obtain rfl:=Option.some.inj (show some (AV.agg cs)=some v from h)
  exact ⟨hc,rfl⟩
 | false =>
  cases cs with
  | nil=>cases h
  | cons x l =>
   cases l with
   | nil =>
    obtain rfl:=Option.some.inj (show some (AV.one x)=some v from h)
    exact ⟨hc x (by simp),rfl⟩
   | cons _ _=>cases h
theorem gW {e:Ent} {r:List Ent} {J:Hp} {θ:Th} (hf:Fine P w0 J θ s) (hp:s.chs.Perm (e::r)):okE P w0 J θ s.nxt s.chs e:=hf.chs e (hp.mem_iff.2 (by simp))
theorem lV {e:Ent} {r l:List Ent} (hp:l.Perm (e::r)):l.Perm ([e] ++ [] ++r):=hp
theorem xI {e:Ent} {r l:List Ent} (hp:l.Perm (e::r)):l.Perm ([] ++ [e] ++r):=hp
theorem Ie (hT:TTok P tt) {T:TypeId} (ho:o.op= .load T x) (h:NR tt s k T x=some res):Oks P w0 s o k res:=by
 obtain ⟨d,hd,h⟩:=bind_some h
 split at h
 ·rename_i hh off hx
  obtain ⟨b,hb,h⟩:=bind_some h
  obtain ⟨hl,h⟩:=ah h
  obtain ⟨v,hv',h⟩:=bind_some h
  have hp:=kK hb
  have hl:=Nat.eq_of_beq_eq_true hl
  refine ⟨_,h,lV hp,aC rfl,fun J θ hf=>?_⟩
  have hc: ∀z∈(b.cells.drop off).take d.n,z.ok P w0 J θ s.nxt:=fun z hz=>(gW hf hp).2.2 z (List.mem_of_mem_drop (List.mem_of_mem_take hz))
  obtain ⟨k1,k2⟩:=Ic (chs:=s.chs) hv' hc
  have hdk:=hT.get hd
  refine OpT.weak (A6 (l:=b.cells.map (·.v θ)) (E:=b.T) hdk.ti ho (ak hx) hdk.one (by rw[←List.map_drop,←List.map_take]) (by rw[List.length_map];exact hl) k2) (fun u hu=>?_) (fun u hu=>rfl)
  subst hu
  exact ⟨AV.ok_same Same.upd (Nat.le_succ _) (Res.newer (lV hp) (aC rfl J θ hf)) k1 Hp.le.rfl,AV.v_same Same.upd k1,fun g hg=>by cases hg⟩
 ·cases h
theorem Gg (hT:TTok P tt) {T:TypeId} (ho:o.op= .store T x y) (h:H8 tt s k T x y=some res):Oks P w0 s o k res:=by
 obtain ⟨d,hd,h⟩:=bind_some h
 split at h
 ·rename_i hh off hx
  obtain ⟨v,hv',h⟩:=bind_some h
  obtain ⟨cs,hcs,h⟩:=bind_some h
  obtain ⟨b,hb,h⟩:=bind_some h
  obtain ⟨hl,h⟩:=ah h
  rw[Bool.and_eq_true] at hl
  have hl1:=Nat.eq_of_beq_eq_true hl.1
  have hl2:=Nat.le_of_ble_eq_true hl.2
  have hp:=kK hb
  refine ⟨_,h,xI hp,aC rfl,fun J θ hf=>?_⟩
  obtain ⟨c1,c2⟩:=fK hcs (a6 hf hv')
  have hok:=gW hf hp
  have hdk:=hT.get hd
  have hall: ∀z∈b.cells.take off++cs++b.cells.drop (off+cs.length),z.ok P w0 J θ s.nxt:=fun z hz=>by
   rcases List.mem_append.1 hz with hz | hz
   ·rcases List.mem_append.1 hz with hz | hz
    ·exact hok.2.2 z (List.mem_of_mem_take hz)
    ·exact c1 z hz
   ·exact hok.2.2 z (List.mem_of_mem_drop hz)
  refine OpT.weak (zu (l:=b.cells.map (·.v θ)) (E:=b.T) hdk.ti ho (ak hx) (ak hv') c2 (by rw[List.length_map];exact hl1) (Df c1) (by rw[List.length_map];exact hl2)) (fun u hu=>⟨Nat.lt_succ_self _,cO,fun g hg=>?_⟩) (fun u hu=>?_)
  ·obtain rfl:=List.mem_singleton.1 hg
   exact ⟨Nat.lt_succ_of_lt hok.1,Nat.lt_succ_self _,fun z hz=>LV.ok_same Same.upd (Nat.le_succ _) (hall z hz) Hp.le.rfl⟩
  ·show [Ch.blk (bk (hv θ hh)) _ b.T] = [Ch.blk (bk (hv (upd θ s.nxt u) hh)) _ b.T]
   rw[show hv (upd θ s.nxt u) hh=hv θ hh from aK Same.upd hok.1,yp _ _ _ (by rw[List.length_map,List.length_map,hl1];exact hl2),gT Same.upd hall,List.map_append,List.map_append,List.map_take,List.map_drop,List.length_map]
 ·cases h
theorem Lm (hT:TTok P tt) {T:TypeId} (ho:o.op= .call { callee:=.builtin .len,args:= #[x],argTypes:= #[T] }) (h:Rs tt s k T x=some res):Oks P w0 s o k res:=by
 obtain ⟨d,hd,h⟩:=bind_some h
 split at h
 ·rename_i E hh he hx
  obtain ⟨r,hr,h⟩:=bind_some h
  obtain ⟨hp,-⟩:=aY hr
  refine ⟨_,h,lV hp,aC rfl,fun J θ hf=>OpT.weak (qK fun hD=>yn hD ((hT.get hd).el _ he) ho (ak hx)) (fun u hu=>?_) (fun u hu=>rfl)⟩
  subst hu
  exact ⟨Eq.refl true,rfl,fun g hg=>by cases hg⟩
 ·cases h
theorem Gh (hT:TTok P tt) {T:TypeId} {i:Operand} (ho:o.op= .indexAddr T x i) (h:H9 tt s k T x i=some res):Oks P w0 s o k res:=by
 obtain ⟨d,hd,h⟩:=bind_some h
 split at h
 ·rename_i E hh j he hx hi
  obtain ⟨r,hr,h⟩:=bind_some h
  obtain ⟨e,hE,h⟩:=bind_some h
  obtain ⟨hn,h⟩:=ah h
  obtain ⟨a,ha,h⟩:=bind_some h
  have hn:=Nat.eq_of_beq_eq_true hn
  obtain ⟨hp,hno⟩:=aY hr
  refine ⟨_,h,lV hp,aC rfl,fun J θ hf=>OpT.weak (qK (fact:=(· =pt (hv θ hh) (j.toNat*r.t.size+0))) fun hD=>?_) (fun u hu=>?_) (fun u hu=>rfl)⟩
  ·have:=oF (I:=J) (w0:=w0) hD ((hT.get hd).el _ he) (hT.get hE).ti ho (ak hx) (ak hi) (zr ha)
   rw[hn] at this
   exact this
  ·have hok:=gW hf hp
   refine ⟨⟨Nat.lt_succ_of_lt hok.1,ha,(rI hr hok.2.1).newer (Res.newer (lV hp) (aC rfl J θ hf)) (Nat.le_succ _)⟩,?_,fun g hg=>by cases hg⟩
   rw[hu]
   show pt (hv (upd θ s.nxt _) hh) _=pt (hv θ hh) _
   rw[show hv (upd θ s.nxt _) hh=hv θ hh from aK Same.upd hok.1]
 ·cases h
theorem vJ {h:Hdr} {ver:Nat} {E:TypeId} {t:Ty} {xs:List t.den} {a:t.den} {i:Int} {off:Nat} {J:Hp} {θ:Th} {r:Row} (hr:rowOf h s.chs=some r) (hv:r.ver=ver) (hm:AV.ok P w0 J θ s.nxt s.chs (.elo h ver E t xs a i off)):r.ent h=(h,ver,.own (.sl E t) xs):=by
 obtain ⟨hp,-⟩:=aY hr
 have:=hm.2.2.2 (r.ent h) (hp.mem_iff.2 (by simp)) _ ⟨rfl,.inl ⟨hv,rfl⟩⟩
 show (h,r.ver,Chk.own (.sl r.E r.t) r.xs)=_
 rw[hv,show Chk.own (.sl r.E r.t) r.xs=_ from this]
theorem If (hT:TTok P tt) {T:TypeId} (ho:o.op= .load T x) (h:NS tt s k T x=some res):Oks P w0 s o k res:=by
 obtain ⟨d,hd,h⟩:=bind_some h
 split at h
 ·rename_i hh ver E t xs a i off hx
  obtain ⟨r,hr,h⟩:=bind_some h
  obtain ⟨hv',h⟩:=ah h
  have hv':=Nat.eq_of_beq_eq_true hv'
  obtain ⟨p,hp',h⟩:=bind_some h
  have hpo:=u9 _ _ _ _ hp'
  obtain ⟨hp,-⟩:=aY hr
  have hdk:=hT.get hd
  split at h
  ·rename_i hsh
   obtain ⟨hg,h⟩:=ah h
   have hg:p.ty.isProd=d.agg:=by simpa using hg
   refine ⟨_,h,lV hp,aC rfl,fun J θ hf=>?_⟩
   have ho':=a6 hf hx
   have he:=vJ hr hv' ho'
   have:=zD (P:=P) (I:=J) (w0:=w0) (o:=o) (T:=T) (E:=E) (Ty.sh_ok hsh) ho'.2.1 hpo.lens hdk.ti (p.ty.rep_size.trans hpo.size) hdk.one ho (ak (θ:=θ) hx) t.rep_size
   rw[he]
   refine OpT.weak this (fun u hu=>?_) (fun u hu=>rfl)
   obtain ⟨c,h1,h2⟩:=hu
   rw[←hg] at h2
   have:=oL (P:=P) (w0:=w0) (J:=J) (θ:=upd θ s.nxt u) (id:=s.nxt) (n:=s.nxt+1) (chs:=Res.chs ⟨[r.ent hh],[],r.rest,[],KR s.nxt p.ty (p.get a)⟩ s.nxt) (Nat.lt_succ_self _) eT p.ty (p.get a) c h1 h2
   rw[he] at this
   exact ⟨this.1,this.2,fun g hg=>by cases hg⟩
  ·obtain ⟨hg,h⟩:=ah h
   rw[Bool.and_eq_true] at hg
   have hg1:=Nat.eq_of_beq_eq_true hg.1
   have hg2:d.agg=false:=by simpa using hg.2
   refine ⟨_,h,xI hp,fun J θ hf g hg ver' c hs=>?_,fun J θ hf=>?_⟩
   ·rcases List.mem_cons.1 hg with rfl | hg
    ·exact hs.elim
    ·obtain rfl:=List.mem_singleton.1 hg
     obtain ⟨rfl,rfl⟩:=hs
     exact ⟨r.ent hh,hp.mem_iff.2 (by simp),by rw[vJ hr hv' (a6 hf hx)];exact ⟨rfl,.inl ⟨rfl,rfl⟩⟩⟩
   have ho':=a6 hf hx
   have he:=vJ hr hv' ho'
   have hok:=gW hf hp
   have hti:=hdk.ti
   rw[hg2,←hpo.size,hg1] at hti
   have:=zE (P:=P) (I:=J) (w0:=w0) (o:=o) (T:=T) (E:=E) ho'.2.1 hpo.lens hti (p.ty.rep_size.trans hg1) ho (ak (θ:=θ) hx) t.rep_size
   rw[he]
   have hset:xs.set i.toNat (p.set a (p.get a))=xs:=by
    obtain ⟨hlt,e⟩:=List.getElem?_eq_some_iff.1 (qG ho'.2.1)
    rw[hpo.eta,←e];exact List.set_getElem_self hlt
   have hver:ver<s.nxt:=by rw[←hv'];exact hok.2.1
   refine OpT.weak this (fun u hu=>⟨⟨Nat.lt_succ_self _,by rw[cO];exact hu⟩,cO,fun g hg=>?_⟩) (fun u hu=>?_)
   ·rcases List.mem_cons.1 hg with rfl | hg
    ·exact ⟨Nat.lt_succ_self _,Nat.lt_succ_self _,trivial⟩
    ·obtain rfl:=List.mem_singleton.1 hg
     refine ⟨Nat.lt_succ_of_lt hok.1,Nat.lt_succ_self _,⟨Nat.lt_succ_self _,by rw[cO];exact hu⟩,hver,hset,fun l hl=>?_⟩
     obtain rfl:=LV.own.inj hl
     refine ⟨Nat.lt_succ_self _,fun e he c hs=>?_⟩
     rcases List.mem_append.1 he with he | he
     ·obtain ⟨g,hg,rfl⟩:=List.mem_map.1 he
      rcases List.mem_cons.1 hg with rfl | hg
      ·rcases hs.2 with h1 | h1
       ·exact h1.2
       ·exact h1.elim
      ·obtain rfl:=List.mem_singleton.1 hg
       have:=hok.1
       rw[show hh=(⟨s.nxt,[]⟩:Hdr) from hs.1] at this
       exact absurd this (Nat.lt_irrefl _)
     ·have he:e∈s.chs:=hp.mem_iff.2 (List.mem_cons_of_mem _ (by simpa using he))
      have hek:=hf.chs e he
      have:=hek.1
      rw[hs.1] at this
      exact absurd this (Nat.lt_irrefl _)
   ·show [Ch.own p.ty.rep [u] (p.get a),Ch.gap _ [hv θ hh] p.ty.rep _ (ptB (hv θ hh)) (ptO (hv θ hh)+_) u] = [Ch.own p.ty.rep [hv (upd θ s.nxt u) ⟨s.nxt,[]⟩] (p.get a),Ch.gap _ [hv (upd θ s.nxt u) hh] p.ty.rep _ (ptB (hv (upd θ s.nxt u) hh)) (ptO (hv (upd θ s.nxt u) hh)+_) (hv (upd θ s.nxt u) ⟨s.nxt,[]⟩)]
    rw[cO,show hv (upd θ s.nxt u) hh=hv θ hh from aK Same.upd hok.1];rfl
 ·cases h
theorem Gi (hT:TTok P tt) {T:TypeId} (ho:o.op= .store T x y) (h:Ia tt s k T x y=some res):Oks P w0 s o k res:=by
 obtain ⟨d,hd,h⟩:=bind_some h
 split at h
 ·rename_i hh ver E t xs a i off hx
  obtain ⟨v,hv',h⟩:=bind_some h
  obtain ⟨cs,hcs,h⟩:=bind_some h
  obtain ⟨r,hr,h⟩:=bind_some h
  obtain ⟨hg,h⟩:=ah h
  rw[Bool.and_eq_true] at hg
  have hver:=Nat.eq_of_beq_eq_true hg.1
  have hcl:=Nat.eq_of_beq_eq_true hg.2
  obtain ⟨p,hp',h⟩:=bind_some h
  have hpo:=u9 _ _ _ _ hp'
  obtain ⟨hp,-⟩:=aY hr
  have hdk:=hT.get hd
  split at h
  ·rename_i hsh
   obtain ⟨b,hb,h⟩:=bind_some h
   obtain ⟨hbe,h⟩:=ah h
   refine ⟨_,h,xI hp,aC rfl,fun J θ hf=>?_⟩
   have ho':=a6 hf hx
   have he:=vJ hr hver ho'
   have hok:=gW hf hp
   obtain ⟨c1,c2⟩:=fK hcs (a6 hf hv')
   obtain ⟨cc,e1,e2⟩:=ff (J:=J) hb c1
   rw[List.isEmpty_iff.1 hbe,List.append_nil] at e1
   subst e1
   have:=A9 (P:=P) (I:=J) (w0:=w0) (o:=o) (T:=T) (E:=E) (Ty.sh_ok hsh) (Ty.cpy hsh) ho'.2.1 hpo.upd hdk.ti ho (ak (θ:=θ) hx) (ak hv') c2 (Df c1) (by rw[List.length_map];exact hcl) t.rep_size hpo.fit e2
   rw[he]
   refine OpT.weak this (fun u hu=>⟨Nat.lt_succ_self _,cO,fun g hg=>?_⟩) (fun u hu=>?_)
   ·obtain rfl:=List.mem_singleton.1 hg
    exact ⟨Nat.lt_succ_of_lt hok.1,Nat.lt_succ_self _,trivial⟩
   ·show [Ch.own _ [hv θ hh] _] = [Ch.own _ [hv (upd θ s.nxt u) hh] _]
    rw[show hv (upd θ s.nxt u) hh=hv θ hh from aK Same.upd hok.1];rfl
  ·obtain ⟨q,hq,h⟩:=bind_some h
   obtain ⟨hbe,h⟩:=ah h
   refine ⟨_,h,(hp.trans ((iw hq).cons _)),aC rfl,fun J θ hf=>?_⟩
   have ho':=a6 hf hx
   have he:=vJ hr hver ho'
   have hok:=gW hf hp
   obtain ⟨c1,c2⟩:=fK hcs (a6 hf hv')
   obtain ⟨-,cc,e1,e2⟩:=gL (J:=J) (θ:=θ) hq c1
   rw[List.isEmpty_iff.1 hbe,List.append_nil] at e1
   subst e1
   have:=zx (P:=P) (I:=J) (w0:=w0) (o:=o) (T:=T) (E:=E) e2 ho'.2.1 hpo.updO hdk.ti ho (ak (θ:=θ) hx) (ak hv') c2 (Df c1) (by rw[List.length_map];exact hcl) (p.ty.rep_size.trans hpo.size) t.rep_size hpo.fit
   rw[he]
   refine OpT.weak this (fun u hu=>⟨Nat.lt_succ_self _,cO,fun g hg=>?_⟩) (fun u hu=>?_)
   ·obtain rfl:=List.mem_singleton.1 hg
    exact ⟨Nat.lt_succ_of_lt hok.1,Nat.lt_succ_self _,trivial⟩
   ·show [Ch.own _ [hv θ hh] _] = [Ch.own _ [hv (upd θ s.nxt u) hh] _]
    rw[show hv (upd θ s.nxt u) hh=hv θ hh from aK Same.upd hok.1];rfl
 ·cases h
end
end R
namespace R
open Go.RowKit
open D
def Ln (pl:List (Nat×Nat)) (cells:List LV):List (Nat×List LV)→Option (List LV)
 | [] =>some cells
 | (i,l)::rest=>(pl[i]?).bind fun q=>bp (Nat.beq l.length q.2&&Nat.ble (q.1+q.2) cells.length) (Ln pl (cells.take q.1++l++cells.drop (q.1+q.2)) rest)
theorem EP {pl:List (Nat×Nat)} {θ:Th} : ∀ {ps:List (Nat×List LV)} {cells r:List LV},Ln pl cells ps=some r→C6 (pl[·]?) (cells.map (·.v θ)) (ps.map fun p=>(p.1,p.2.map (·.v θ)))=some (r.map (·.v θ))
 | [],cells,r,h=>by obtain rfl:=Option.some.inj (show some cells=some r from h);rfl
 | (i,l)::ps,cells,r,h=>by
  obtain ⟨q,hq,h⟩:=bind_some (show (pl[i]?).bind _=some r from h)
  obtain ⟨hc,h⟩:=ah h
  rw[Bool.and_eq_true] at hc
  have h1:=Nat.eq_of_beq_eq_true hc.1
  have h2:=Nat.le_of_ble_eq_true hc.2
  have:=EP (θ:=θ) h
  simp only[List.map_cons,C6,hq,List.length_map]
  rw[if_pos ⟨h1,h2⟩,←this,List.map_append,List.map_append,List.map_take,List.map_drop]
theorem Bn {pl:List (Nat×Nat)} {Q:LV→Prop} : ∀ {ps:List (Nat×List LV)} {cells r:List LV},Ln pl cells ps=some r→(∀x∈cells,Q x)→(∀p∈ps,∀x∈p.2,Q x)→ ∀x∈r,Q x
 | [],cells,r,h,hc,hp=>by obtain rfl:=Option.some.inj (show some cells=some r from h);exact hc
 | (i,l)::ps,cells,r,h,hc,hp=>by
  obtain ⟨q,hq,h⟩:=bind_some (show (pl[i]?).bind _=some r from h)
  obtain ⟨-,h⟩:=ah h
  refine Bn h (fun x hx=>?_) fun p hp'=>hp p (by simp[hp'])
  rcases List.mem_append.1 hx with hx | hx
  ·rcases List.mem_append.1 hx with hx | hx
   ·exact hc x (List.mem_of_mem_take hx)
   ·exact hp (i,l) (by simp) x hx
  ·exact hc x (List.mem_of_mem_drop hx)
def partsOf (s:Sg):List (Nat×Operand)→Option (List (Nat×List LV))
 | [] =>some []
 | (i,x)::l=>(opd s x).bind fun v=>(gK v).bind fun cs=>(partsOf s l).bind fun r=>some ((i,cs)::r)
theorem mJ {P:Program} {w0:World} {s:Sg} {J:Hp} {θ:Th} (hf:Fine P w0 J θ s): ∀ {l:List (Nat×Operand)} {ps:List (Nat×List LV)},partsOf s l=some ps→
  peq (l.map fun p=>(p.1,evL (envL θ s) p.2)) (ps.map fun p=>(p.1,p.2.map (·.v θ)))∧ ∀p∈ps,∀x∈p.2,x.ok P w0 J θ s.nxt
 | [],ps,h=>by obtain rfl:=Option.some.inj (show some [] =some ps from h);exact ⟨trivial,fun p hp=>by cases hp⟩
 | (i,x)::l,ps,h=>by
  obtain ⟨v,hv',h⟩:=bind_some (show (opd s x).bind _=some ps from h)
  obtain ⟨cs,hcs,h⟩:=bind_some h
  obtain ⟨r,hr,h⟩:=bind_some h
  obtain rfl:=Option.some.inj h
  obtain ⟨h1,h2⟩:=mJ hf hr
  obtain ⟨c1,c2⟩:=fK hcs (a6 hf hv')
  refine ⟨⟨rfl,by rw[ak (θ:=θ) hv'];exact c2,h1⟩,fun p hp=>?_⟩
  rcases List.mem_cons.1 hp with rfl | hp
  ·exact c1
  ·exact h2 p hp
structure Lits (t:Ty) where
 xs:List t.den
 used:List Ent
 rest:List Ent
def Pw (t:Ty):List (Nat×List LV)→Nat→Option (List t.den)
 | [],_=>some []
 | (i,cs)::l,j=>bp (Nat.beq i j) ((cM t cs).bind fun d=>bp d.2.isEmpty ((Pw t l (j+1)).bind fun r=>some (d.1::r)))
def ER (t:Ty):List (Nat×List LV)→Nat→List Ent→Option (Lits t)
 | [],_,chs=>some ⟨[],[],chs⟩
 | (i,cs)::l,j,chs=>bp (Nat.beq i j&&Nat.beq cs.length t.size) ((dk t cs chs).bind fun d=>bp d.cells.isEmpty ((ER t l (j+1) d.rest).bind fun r=>some ⟨d.d::r.xs,d.used++r.used,r.rest⟩))
section
variable {P:Program} {w0:World} {J:Hp} {θ:Th} {n:Nat} {t:Ty}
theorem ES: ∀ {l:List (Nat×List LV)} {j:Nat} {xs:List t.den},Pw t l j=some xs→(∀p∈l,∀x∈p.2,x.ok P w0 J θ n)→l.map (·.1)=(List.range' j l.length)∧xs.length=l.length∧(∀p∈l,p.2.length=t.size)∧ ∀p,p∈(l.map fun p=>p.2.map (·.v θ)).zip xs→t.rep.rd J p.1 p.2
 | [],j,xs,h,hc=>by obtain rfl:=Option.some.inj (show some [] =some xs from h);exact ⟨rfl,rfl,fun p hp=>(by cases hp),fun p hp=>(by simp at hp)⟩
 | (i,cs)::l,j,xs,h,hc=>by
  obtain ⟨hi,h⟩:=ah (show bp (Nat.beq i j) _=some xs from h)
  obtain ⟨d,hd,h⟩:=bind_some h
  obtain ⟨he,h⟩:=ah h
  obtain ⟨r,hr,h⟩:=bind_some h
  obtain rfl:=Option.some.inj h
  have hi:=Nat.eq_of_beq_eq_true hi
  subst hi
  obtain ⟨c1,e1,e2⟩:=ff (J:=J) hd (hc (i,cs) (by simp))
  rw[List.isEmpty_iff.1 he,List.append_nil] at e1
  subst e1
  obtain ⟨h1,h2,h3,h4⟩:=ES hr fun p hp=>hc p (by simp[hp])
  refine ⟨by rw[List.map_cons,h1];rfl,by rw[List.length_cons,h2];rfl,fun p hp=>?_,fun p hp=>?_⟩
  ·rcases List.mem_cons.1 hp with rfl | hp
   ·have:=Rep.rd_len _ e2
    rw[List.length_map,t.rep_size] at this;exact this
   ·exact h3 p hp
  ·rw[List.map_cons,List.zip_cons_cons] at hp
   rcases List.mem_cons.1 hp with rfl | hp
   ·exact e2
   ·exact h4 p hp
theorem vK: ∀ {l:List (Nat×List LV)} {j:Nat} {chs:List Ent} {r:Lits t},ER t l j chs=some r→chs.Perm (r.used++r.rest)
 | [],j,chs,r,h=>by obtain rfl:=Option.some.inj (show some _=some r from h);exact List.Perm.refl _
 | (i,cs)::l,j,chs,r,h=>by
  obtain ⟨hi,h⟩:=ah (show bp (Nat.beq i j&&Nat.beq cs.length t.size) _=some r from h)
  obtain ⟨d,hd,h⟩:=bind_some h
  obtain ⟨he,h⟩:=ah h
  obtain ⟨q,hq,h⟩:=bind_some h
  obtain rfl:=Option.some.inj h
  rw[List.append_assoc]
  exact (iw hd).trans ((vK hq).append_left _)
theorem Bo: ∀ {l:List (Nat×List LV)} {j:Nat} {chs:List Ent} {r:Lits t},ER t l j chs=some r→(∀p∈l,∀x∈p.2,x.ok P w0 J θ n)→l.map (·.1)=(List.range' j l.length)∧r.xs.length=l.length∧(∀p∈l,p.2.length=t.size)∧np J (r.used.map (toCh P θ)) (A8 t.rep (l.map fun p=>p.2.map (·.v θ)) r.xs)
 | [],j,chs,r,h,hc=>by obtain rfl:=Option.some.inj (show some _=some r from h);exact ⟨rfl,rfl,fun p hp=>(by cases hp),rF⟩
 | (i,cs)::l,j,chs,r,h,hc=>by
  obtain ⟨hi,h⟩:=ah (show bp (Nat.beq i j&&Nat.beq cs.length t.size) _=some r from h)
  obtain ⟨d,hd,h⟩:=bind_some h
  obtain ⟨he,h⟩:=ah h
  obtain ⟨q,hq,h⟩:=bind_some h
  obtain rfl:=Option.some.inj h
  rw[Bool.and_eq_true] at hi
  have hcl:=Nat.eq_of_beq_eq_true hi.2
  have hi:=Nat.eq_of_beq_eq_true hi.1
  subst hi
  obtain ⟨-,c1,e1,e2⟩:=gL (J:=J) (θ:=θ) hd (hc (i,cs) (by simp))
  rw[List.isEmpty_iff.1 he,List.append_nil] at e1
  subst e1
  obtain ⟨h1,h2,h3,h4⟩:=Bo hq fun p hp=>hc p (by simp[hp])
  refine ⟨by rw[List.map_cons,h1];rfl,by rw[List.length_cons,h2];rfl,fun p hp=>?_,?_⟩
  ·rcases List.mem_cons.1 hp with rfl | hp
   ·exact hcl
   ·exact h3 p hp
  ·rw[List.map_append]
   exact oJ e2 h4
end
section
variable {P:Program} {w0:World} {I:Hp} {o:Oper} {ev:Operand→Value} {s:Sg}
def NT (ev:Operand→Value) (θ:Th):List (Nat×Operand)→List (Nat×List LV)→List (Value×List Value)
 | p::l,q::m=>(ev p.2,q.2.map (·.v θ))::NT ev θ l m
 | _,_=>[]
theorem Dh {θ:Th} : ∀ {l:List (Nat×Operand)} {ps:List (Nat×List LV)} {j:Nat},peq (l.map fun p=>(p.1,ev p.2)) (ps.map fun p=>(p.1,p.2.map (·.v θ)))→ps.map (·.1)=List.range' j ps.length→
  l.map (fun p=>(p.1,ev p.2))=((NT ev θ l ps).zipIdx j).map (fun p=>(p.2,p.1.1))∧(NT ev θ l ps).length=ps.length∧(NT ev θ l ps).map (·.2)=ps.map (fun p=>p.2.map (·.v θ))∧ ∀u∈NT ev θ l ps,u.1.cells=u.2.toArray∧ ∃p∈ps,u.2.length=p.2.length
 | [],[],j,_,_=>⟨rfl,rfl,rfl,fun u hu=>by cases hu⟩
 | (i,x)::l,(i',cs)::ps,j,h,hj=>by
  obtain ⟨e1,e2,h⟩:=(show i=i'∧(ev x).cells=(cs.map (·.v θ)).toArray∧peq _ _ from h)
  have hj1:i'=j:=by
   have:=congrArg (fun l:List Nat=>l.head?) hj
   simpa [List.range'] using this
  have hj2:ps.map (·.1)=List.range' (j+1) ps.length:=by
   have:=congrArg List.tail hj
   simpa [List.range'] using this
  obtain ⟨h1,h2,h3,h4⟩:=Dh h hj2
  refine ⟨?_,by show (NT ev θ l ps).length+1=ps.length+1;rw[h2],by show _::_=_::_;rw[h3],fun u hu=>?_⟩
  ·show (i,ev x)::_=(j,ev x)::_
   rw[e1,hj1,h1]
  ·rcases List.mem_cons.1 hu with rfl | hu
   ·exact ⟨e2,(i',cs),by simp,by rw[List.length_map]⟩
   ·obtain ⟨k1,p,hp,k2⟩:=h4 u hu
    exact ⟨k1,p,by simp[hp],k2⟩
 | [],_::_,j,h,_=>h.elim
 | _::_,[],j,h,_=>h.elim
theorem Px {α:Type} {R:Rep α} {E:TypeId} {xs:List α} {rn:List Ch} {fact:Value→Prop} {gv:Value→List Ch} (h:OpT P I w0 o ev rn fact (fun v=>Ch.own (ae E R) [v] xs::gv v)):OpT P I w0 o ev rn (fun v=>fact v∧v.oneCell'=true) (fun v=>Ch.own (ae E R) [v] xs::gv v):=
 OpT.weak (OpT.hdk (fun v=>v) 0 (fun v=>rfl) h) (fun v hv=>⟨hv.1,Hd.one hv.2⟩) fun v hv=>rfl
theorem good_row {rs ns rest:List Ent} {E:TypeId} {t:Ty} {xs:List t.den} (hp:s.chs.Perm (rs++ns++rest)) (hop: ∀J θ,Fine P w0 J θ s→OpT P J w0 o (evL (envL θ s)) ((rs++ns).map (toCh P θ)) (fun _=>True) (fun v=>Ch.own (Ty.sl E t).rep [v] xs::rs.map (toCh P θ))):Good P w0 s o ⟨rs,ns,rest,[(⟨s.nxt,[]⟩,.own (.sl E t) xs)],.one (.own ⟨s.nxt,[]⟩)⟩:=
 ⟨hp,aC rfl,fun J θ hf=>by
  have h1:=Px (hop J θ hf)
  have h2:OpT P J w0 o (evL (envL θ s)) ((rs++ns).map (toCh P θ)) (fun v=>True∧v.oneCell'=true) (fun v=>rs.map (toCh P θ)++ [Ch.own (Ty.sl E t).rep [v] xs]):=
   fun w C hs=>(h1 w C hs).imp fun v w hv=>⟨hv.1,hv.2.perm (List.Perm.append_right C (List.perm_append_comm (l₁:=[_])))⟩
  refine OpT.weak h2 (fun v hv0=>⟨⟨Nat.lt_succ_self _,by rw[cO];exact hv0.2⟩,cO,fun g hg=>?_⟩) (fun v hv0=>?_)
  ·obtain rfl:=List.mem_singleton.1 hg
   exact ⟨Nat.lt_succ_self _,Nat.lt_succ_self _,trivial⟩
  ·show _=_++ [Ch.own _ [hv (upd θ s.nxt v) ⟨s.nxt,[]⟩] _]
   rw[cO]⟩
end
section
variable {Y:Type} (tt:TT) (an:List (Nat×Ty)) (s:Sg) (k:Res→Option Y)
def NU (T:TypeId) (parts:Array (Nat×Operand)):Option Y:=(td tt T).bind fun d=>d.place.bind fun pl=>d.bytes.bind fun _=>(partsOf s parts.toList).bind fun ps=>(Ln pl ((zeroCells d.ty).map .val) ps).bind fun r=>k (.pure s (.agg r))
def Uf:List (Nat×Ty)→Nat→Ty→Ty
 | [],_,t=>t
 | (u,t')::l,d,t=>if Nat.beq u d then t' else Uf l d t
def KS (d:Option Nat) (t:Ty):Ty:=match d with
 | none=>t
 | some d=>Uf an d t
def newRow (E:TypeId) (t:Ty) (ns rest:List Ent) (xs:List t.den):Option Y:=k ⟨[],ns,rest,[(⟨s.nxt,[]⟩,.own (.sl E t) xs)],.one (.own ⟨s.nxt,[]⟩)⟩
def Td (E:TypeId) (n:Nat) (t:Ty) (m:Nat) (l:List (Nat×Operand)):Option Y:=(partsOf s l).bind fun ps=>bp (Nat.beq ps.length (m+1)&&Nat.beq t.size n&&Nat.ble ((m+1)*n) 16777216) (match t.sh with
  | true=>(Pw t ps 0).bind fun xs=>newRow s k E t [] s.chs xs
  | false=>(ER t ps 0 s.chs).bind fun r=>newRow s k E t r.used r.rest r.xs)
def Ug (dst:Option Nat) (T:TypeId) (m:Nat) (parts:Array (Nat×Operand)):Option Y:=(td tt T).bind fun d=>d.el.bind fun E=>(td tt E).bind fun e=>match m with
 | 0=>bp parts.toList.isEmpty (newRow s k E (KS an dst e.ty) [] s.chs [])
 | m+1=>e.bytes.bind fun _=>Td s k E e.n (KS an dst e.ty) m parts.toList
def Di:Operand→Operand→Bool
 | .tmp t,.tmp u=>Nat.beq t u
 | .const (.int .i64 m),.const (.int .i64 n)=>match m,n with
  | .ofNat a,.ofNat b=>Nat.beq a b
  | _,_=>false
 | _,_=>false
def Rt (dst:Option Nat) (T:TypeId) (x y:Operand):Option Y:=(td tt T).bind fun d=>d.el.bind fun E=>(td tt E).bind fun e=>e.bytes.bind fun b=>match opd s x with
 | some (.one (.val (.int .i64 l)))=>bp (Di x y&&Nat.beq e.ty.size e.n&&decide ((KS an dst e.ty).erase=e.ty.erase)) ((mkI b l (Bh (KS an dst e.ty))).bind fun xs=>newRow s k E (KS an dst e.ty) [] s.chs xs)
 | _=>none
end
section
variable {Y:Type} {tt:TT} {an:List (Nat×Ty)} {s:Sg} {k:Res→Option Y} {P:Program} {w0:World} {o:Oper} {res:Y} {x y:Operand}
theorem Ig (hT:TTok P tt) {T:TypeId} {parts:Array (Nat×Operand)} (ho:o.op= .build T parts) (h:NU tt s k T parts=some res):Oks P w0 s o k res:=by
 obtain ⟨d,hd,h⟩:=bind_some h
 obtain ⟨pl,hpl,h⟩:=bind_some h
 obtain ⟨b,hb,h⟩:=bind_some h
 obtain ⟨ps,hps,h⟩:=bind_some h
 obtain ⟨r,hr,h⟩:=bind_some h
 have hdk:=hT.get hd
 obtain ⟨z,hz1,hz2,-⟩:=hdk.zero b hb
 refine ⟨_,h,cX (fun J θ hf=>?_) fun J θ hf=>?_⟩
 ·obtain ⟨h1,h2⟩:=mJ hf hps
  have h3:=EP (θ:=θ) hr
  rw[List.map_map,show (zeroCells d.ty).map ((fun x:LV=>x.v θ) ∘ LV.val)=zeroCells d.ty from List.map_id' _] at h3
  exact HL _ (hdk.place pl hpl) hz1 hz2 ho h1 h3
 ·obtain ⟨h1,h2⟩:=mJ hf hps
  exact Bn hr (fun x hx=>by
   obtain ⟨u,hu,rfl⟩:=List.mem_map.1 hx
   exact EK _ u hu) h2
theorem Py (hT:TTok P tt) {T:TypeId} {m:Nat} {parts:Array (Nat×Operand)} (ho:o.op= .buildSlice T m parts) (h:Ug tt an s k o.dst T m parts=some res):Oks P w0 s o k res:=by
 obtain ⟨d,hd,h⟩:=bind_some h
 obtain ⟨E,hE,h⟩:=bind_some h
 obtain ⟨e,he,h⟩:=bind_some h
 have hdk:=hT.get hd
 have hek:=hT.get he
 cases m with
 | zero =>
  obtain ⟨hp,h⟩:=ah (show bp parts.toList.isEmpty _=some res from h)
  have hp0:parts= #[]:=by apply Array.ext';simpa using hp
  subst hp0
  exact ⟨_,h,good_row (rs:=[]) (by simp) fun J θ hf=>KW (hdk.el E hE) hek.ti ho⟩
 | succ m =>
  obtain ⟨b,hb,h⟩:=bind_some (show e.bytes.bind _=some res from h)
  obtain ⟨ps,hps,h⟩:=bind_some h
  obtain ⟨hc,h⟩:=ah h
  rw[Bool.and_eq_true,Bool.and_eq_true] at hc
  have hc1:=Nat.eq_of_beq_eq_true hc.1.1
  have hc2:=Nat.eq_of_beq_eq_true hc.1.2
  have hc3:=Nat.le_of_ble_eq_true hc.2
  obtain ⟨z,hz1,hz2,-⟩:=hek.zero b hb
  have hn:0<e.n:=by rw[←hc2];exact Ty.size_pos _
  split at h
  ·rename_i hsh
   obtain ⟨xs,hxs,h⟩:=bind_some h
   refine ⟨_,h,good_row (rs:=[]) (by simp) fun J θ hf=>?_⟩
   obtain ⟨h1,h2⟩:=mJ hf hps
   obtain ⟨l1,l2,l3,l4⟩:=ES (J:=J) hxs h2
   obtain ⟨u1,u2,u3,u4⟩:=Dh h1 l1
   exact C4 (NT (evL (envL θ s)) θ parts.toList ps) xs (Ty.cpy hsh) (by rw[u3];exact l4) (hdk.el E hE) hz1 hn ((Ty.rep_size _).trans hc2) (Nat.succ_pos _) hc3 ho u1 (u2.trans hc1) (l2.trans hc1) fun u hu=>⟨(u4 u hu).1,by
    obtain ⟨-,p,hp,e⟩:=u4 u hu
    rw[e,l3 p hp,hc2]⟩
  ·obtain ⟨r,hr,h⟩:=bind_some h
   refine ⟨_,h,good_row (rs:=[]) (vK hr) fun J θ hf=>?_⟩
   obtain ⟨h1,h2⟩:=mJ hf hps
   obtain ⟨l1,l2,l3,l4⟩:=Bo (J:=J) hr h2
   obtain ⟨u1,u2,u3,u4⟩:=Dh h1 l1
   rw[←u3] at l4
   exact OpT.pre l4 rfl (HH (NT (evL (envL θ s)) θ parts.toList ps) r.xs (hdk.el E hE) hz1 hn ((Ty.rep_size _).trans hc2) (Nat.succ_pos _) hc3 ho u1 (u2.trans hc1) (l2.trans hc1) fun u hu=>⟨(u4 u hu).1,by
    obtain ⟨-,p,hp,e⟩:=u4 u hu
    rw[e,l3 p hp,hc2]⟩)
theorem Gj {x y:Operand} (h:Di x y=true):x=y:=by
 unfold Di at h
 split at h
 ·rw[Nat.eq_of_beq_eq_true h]
 ·split at h
  ·rw[Nat.eq_of_beq_eq_true h]
  ·cases h
 ·cases h
theorem Lo (hT:TTok P tt) {T:TypeId} (ho:o.op= .makeSlice T x y) (h:Rt tt an s k o.dst T x y=some res):Oks P w0 s o k res:=by
 obtain ⟨d,hd,h⟩:=bind_some h
 obtain ⟨E,hE,h⟩:=bind_some h
 obtain ⟨e,he,h⟩:=bind_some h
 obtain ⟨b,hb,h⟩:=bind_some h
 have hdk:=hT.get hd
 have hek:=hT.get he
 split at h
 ·rename_i l hx
  obtain ⟨hc,h⟩:=ah h
  rw[Bool.and_eq_true,Bool.and_eq_true] at hc
  obtain ⟨⟨hc1,hc2⟩,hc3⟩:=hc
  obtain ⟨xs,hxs,h⟩:=bind_some h
  have hc1:=Gj hc1
  have hc2:=Nat.eq_of_beq_eq_true hc2
  have hc3:=of_decide_eq_true hc3
  obtain ⟨z,hz1,hz2,hz3⟩:=hek.zero b hb
  have hz:z.cells.toList=zeroCells (KS an o.dst e.ty):=by rw[hz2,←gU (KS an o.dst e.ty),hc3,gU]
  have hn:(KS an o.dst e.ty).size=e.n:=by rw[←hc2,←pF,←pF,←gU,hc3,gU]
  refine ⟨_,h,good_row (rs:=[]) (by simp) fun J θ hf=>?_⟩
  exact Rh (by rw[hz];exact u7 _) (hdk.el E hE) hz1 ho ((Ty.rep_size _).trans hn) (by rw[←hn];exact Ty.size_pos _) hz3 (ak hx) (by rw[←hc1];exact ak hx) hxs
 ·cases h
end
end R
namespace R
open Go.RowKit
open D
section
variable {Y:Type} (tt:TT) (an:List (Nat×Ty)) (s:Sg) (k:Res→Option Y)
def SE (E:TypeId) (b:Nat) (t:Ty) (xs:List t.den) (nsx rest:List Ent) (y:AV):Option Y:=match y with
 | .one (.own h)=>(rowOf h rest).bind fun r=>(lY (.sl r.E r.t) (.sl E t) r.xs).bind fun ys=>(cC b xs ys).bind fun zs=>match t.sh with
  | true=>k ⟨[r.ent h],nsx,r.rest,[(⟨s.nxt,[]⟩,.own (.sl E t) zs)],.one (.own ⟨s.nxt,[]⟩)⟩
  | false=>k ⟨[],nsx++ [r.ent h],r.rest,[(⟨s.nxt,[]⟩,.own (.sl E t) zs)],.one (.own ⟨s.nxt,[]⟩)⟩
 | .one (.rd h t' d)=>bp t.sh ((nV t' (.sl E t) d).bind fun ys=>(cC b xs ys).bind fun zs=>k ⟨[],nsx,rest,[(⟨s.nxt,[]⟩,.own (.sl E t) zs)],.one (.own ⟨s.nxt,[]⟩)⟩)
 | .one (.rdn h _ t' d)=>bp t.sh ((nV t' (.sl E t) d).bind fun ys=>(cC b xs ys).bind fun zs=>k ⟨[],nsx,rest,[(⟨s.nxt,[]⟩,.own (.sl E t) zs)],.one (.own ⟨s.nxt,[]⟩)⟩)
 | _=>none
def Ru (y:AV) (t:Ty):Ty:=match y with
 | .one (.own h)=>match rowOf h s.chs with
  | some r=>r.t
  | none=>t
 | _=>t
def Uh (dst:Option Nat) (T:TypeId) (x y:Operand):Option Y:=(td tt T).bind fun d=>d.el.bind fun E=>(td tt E).bind fun e=>e.bytes.bind fun b=>(opd s y).bind fun yv=>match opd s x with
 | some (.one (.own h))=>(rowOf h s.chs).bind fun r=>bp (Nat.beq r.E E&&Nat.beq r.t.size e.n) (SE s k r.E b r.t r.xs [r.ent h] r.rest yv)
 | some (.one (.val v))=>bp (isNil v&&Nat.beq (Ru s yv (KS an dst e.ty)).size e.n) (SE s k E b (Ru s yv (KS an dst e.ty)) [] [] s.chs yv)
 | _=>none
end
section
variable {Y:Type} {tt:TT} {an:List (Nat×Ty)} {s:Sg} {k:Res→Option Y} {P:Program} {w0:World} {o:Oper} {res:Y} {x y:Operand}
theorem OpT.nilrow {I:Hp} {ev:Operand→Value} {α:Type} {E:TypeId} {R:Rep α} {rn:List Ch} {fact:Value→Prop} {gv:Value→List Ch} (h:OpT P I w0 o ev (Ch.own (ae E R) [.slice none 0 0] ([] :List α)::rn) fact gv):OpT P I w0 o ev rn fact gv:=fun w C hs=>h w C hs.nil
theorem OpT.permN {I:Hp} {ev:Operand→Value} {rn rn':List Ch} {fact:Value→Prop} {gv:Value→List Ch} (hp:rn'.Perm rn) (h:OpT P I w0 o ev rn fact gv):OpT P I w0 o ev rn' fact gv:=fun w C hs=>h w C (hs.perm (hp.append_right C))
theorem ta {r:Row} {E:TypeId} {t:Ty} {ys:List t.den} {h:Hdr} (hc:lY (.sl r.E r.t) (.sl E t) r.xs=some ys):r.ent h=(h,r.ver,.own (.sl E t) ys):=by
 obtain ⟨e,e2⟩:=mI hc
 obtain ⟨ver,E',t',xs,rest⟩:=r
 simp only at e
 obtain ⟨rfl,rfl⟩:=Ty.sl.inj e
 rw[e2];rfl
theorem Ih {T E:TypeId} {z:Value} {n b:Nat} {t:Ty} {xs:List t.den} {nsx rest:List Ent} {yv:AV} (hp:s.chs.Perm (nsx++rest)) (hT:P.underlying T=some (.slice E)) (hE:TZ P E z n b) (hzs:z.cells.size=n) (hn:0<n) (ht:t.size=n) (hb1:1≤b) (ho:o.op= .call { callee:=.builtin .append,args:= #[x,y],argTypes:= #[T,T] }) (hy:opd s y=some yv)
  (hx: ∀J θ,Fine P w0 J θ s→ ∃v,evL (envL θ s) x=v∧ ∀(rn:List Ch) (fact:Value→Prop) (gv:Value→List Ch),OpT P J w0 o (evL (envL θ s)) (Ch.own (ae E t.rep) [v] xs::rn) fact gv→OpT P J w0 o (evL (envL θ s)) (nsx.map (toCh P θ)++rn) fact gv)
  (h:SE s k E b t xs nsx rest yv=some res):Oks P w0 s o k res:=by
 unfold SE at h
 split at h
 ·rename_i hh
  obtain ⟨r,hr,h⟩:=bind_some h
  obtain ⟨ys,hys,h⟩:=bind_some h
  obtain ⟨zs,hzs',h⟩:=bind_some h
  obtain ⟨hpr,-⟩:=aY hr
  have he:=ta (h:=hh) hys
  split at h
  ·rename_i hsh
   refine ⟨_,h,good_row (hp.trans ((hpr.append_left nsx).trans List.perm_middle)) fun J θ hf=>?_⟩
   obtain ⟨v,hv',hx⟩:=hx J θ hf
   rw[he]
   have:=Ba (P:=P) (I:=J) (w0:=w0) (R:=t.rep) hzs' (Ty.sh_ok hsh) (Ty.cpy hsh) hT hE hzs hn (t.rep_size.trans ht) hb1 ho hv' (ak (θ:=θ) hy)
   exact OpT.permN (List.perm_append_comm (l₁:=[_])) (hx _ _ _ this)
  ·refine ⟨_,h,good_row (rs:=[]) (by
    have:s.chs.Perm (nsx++(r.ent hh::r.rest)):=hp.trans (hpr.append_left nsx)
    simpa using this) fun J θ hf=>?_⟩
   obtain ⟨v,hv',hx⟩:=hx J θ hf
   rw[he]
   have:=O3 (P:=P) (I:=J) (w0:=w0) (R:=t.rep) hzs' hT hE hzs hn (t.rep_size.trans ht) hb1 ho hv' (ak (θ:=θ) hy)
   have:=hx _ _ _ this
   rw[List.nil_append,List.map_append]
   exact this
 ·rename_i hh t' d
  obtain ⟨hsh,h⟩:=ah h
  obtain ⟨ys,hys,h⟩:=bind_some h
  obtain ⟨zs,hzs',h⟩:=bind_some h
  refine ⟨_,h,good_row (rs:=[]) hp fun J θ hf=>?_⟩
  obtain ⟨v,hv',hx⟩:=hx J θ hf
  have hrd:=jZ hys (a6 hf hy).2
  have:=qH (P:=P) (I:=J) (w0:=w0) (R:=t.rep) (S:=t.rep) (E':=E) hzs' (Ty.cpy hsh) (t.rep_size.trans ht) hrd hT hE hzs hn (t.rep_size.trans ht) hb1 ho hv' (ak (θ:=θ) hy)
  have:=hx _ _ _ this
  rw[List.append_nil] at this
  exact this
 ·rename_i hh b' t' d
  obtain ⟨hsh,h⟩:=ah h
  obtain ⟨ys,hys,h⟩:=bind_some h
  obtain ⟨zs,hzs',h⟩:=bind_some h
  refine ⟨_,h,good_row (rs:=[]) hp fun J θ hf=>?_⟩
  obtain ⟨v,hv',hx⟩:=hx J θ hf
  have hrd:=jZ hys (a6 hf hy).2.1
  have:=qH (P:=P) (I:=J) (w0:=w0) (R:=t.rep) (S:=t.rep) (E':=E) hzs' (Ty.cpy hsh) (t.rep_size.trans ht) hrd hT hE hzs hn (t.rep_size.trans ht) hb1 ho hv' (ak (θ:=θ) hy)
  have:=hx _ _ _ this
  rw[List.append_nil] at this
  exact this
 ·cases h
theorem Pz (hT:TTok P tt) {T:TypeId} (ho:o.op= .call { callee:=.builtin .append,args:= #[x,y],argTypes:= #[T,T] }) (h:Uh tt an s k o.dst T x y=some res):Oks P w0 s o k res:=by
 obtain ⟨d,hd,h⟩:=bind_some h
 obtain ⟨E,hE,h⟩:=bind_some h
 obtain ⟨e,he,h⟩:=bind_some h
 obtain ⟨b,hb,h⟩:=bind_some h
 obtain ⟨yv,hy,h⟩:=bind_some h
 have hdk:=hT.get hd
 have hek:=hT.get he
 obtain ⟨z,hz1,hz2,hz3⟩:=hek.zero b hb
 have hzs:z.cells.size=e.n:=by rw[hz2,List.size_toArray,pF,hek.sz]
 split at h
 ·rename_i hh hx
  obtain ⟨r,hr,h⟩:=bind_some h
  obtain ⟨hc,h⟩:=ah h
  rw[Bool.and_eq_true] at hc
  have hc1:=Nat.eq_of_beq_eq_true hc.1
  have hc2:=Nat.eq_of_beq_eq_true hc.2
  obtain ⟨hp,-⟩:=aY hr
  exact Ih (nsx:=[r.ent hh]) hp ((hdk.el E hE).trans (by rw[hc1])) (by rw[hc1];exact hz1) hzs (by rw[←hc2];exact Ty.size_pos _) hc2 hz3 ho hy (fun J θ hf=>⟨_,ak hx,fun rn fact gv h=>h⟩) h
 ·rename_i v hx
  obtain ⟨hc,h⟩:=ah h
  rw[Bool.and_eq_true] at hc
  have hc1:=kL hc.1
  have hc2:=Nat.eq_of_beq_eq_true hc.2
  refine Ih (nsx:=[]) (List.Perm.refl _) (hdk.el E hE) hz1 hzs (by rw[←hc2];exact Ty.size_pos _) hc2 hz3 ho hy (fun J θ hf=>⟨_,ak hx,fun rn fact gv h=>?_⟩) h
  rw[show (AV.one (LV.val v)).v θ= .slice none 0 0 from hc1] at h
  exact OpT.nilrow h
 ·cases h
end
structure Hol where
 ver:Nat
 over:Nat
 t:Ty
 d:t.den
 u:Ty
 y:u.den
 f:u.den→t.den
 i:Int
 k:Nat
 off:Nat
 lv:LV
 rest:List Ent
def Dj (h:Hdr) (chs:List Ent):Option Hol:=(pull h chs).bind fun r=>match r.1.2.2 with
 | .hole over t d u y f i k off lv=>some ⟨r.1.2.1,over,t,d,u,y,f,i,k,off,lv,r.2⟩
 | _=>none
def Hol.ent (r:Hol) (h:Hdr):Ent:=(h,r.ver,.hole r.over r.t r.d r.u r.y r.f r.i r.k r.off r.lv)
theorem vc {h:Hdr} {chs:List Ent} {r:Hol} (e:Dj h chs=some r):chs.Perm (r.ent h::r.rest):=by
 obtain ⟨q,hq,e⟩:=bind_some e
 obtain ⟨p,k⟩:=fe hq
 obtain ⟨⟨h',ver,c⟩,rest⟩:=q
 obtain rfl:h'=h:=k
 cases c with
 | hole over t d u y f i k off lv =>
  obtain rfl:=Option.some.inj (show some _=some r from e)
  exact p
 | _=>cases e
def partOf (r:Hol):Option (Bool×r.u.den×List Ent):=match r.lv with
 | .own l=>(pull l r.rest).bind fun q=>match q.1.2.2 with
  | .own u' d=>(lY u' r.u d).bind fun d=>some (Nat.beq q.1.2.1 r.ver,d,q.2)
  | _=>none
 | _=>none
theorem Bp {r:Hol} {q:Bool×r.u.den×List Ent} (h:partOf r=some q): ∃l ver,r.lv= .own l∧r.rest.Perm ((l,ver,.own r.u q.2.1)::q.2.2)∧(q.1=true→ver=r.ver):=by
 obtain ⟨ver,over,t,d,u,y,f,i,k,off,lv,rest⟩:=r
 cases lv with
 | own l =>
  obtain ⟨e,he,h⟩:=bind_some (show (pull l rest).bind _=some q from h)
  obtain ⟨p,hk⟩:=fe he
  obtain ⟨⟨l',v',c⟩,rest'⟩:=e
  obtain rfl:l'=l:=hk
  cases c with
  | own u' d' =>
   obtain ⟨d'',hd,h⟩:=bind_some (show (lY u' u d').bind _=some q from h)
   obtain rfl:=Option.some.inj h
   obtain ⟨e,rfl⟩:=mI hd
   subst e
   exact ⟨l',v',rfl,p,fun hb=>Nat.eq_of_beq_eq_true hb⟩
  | _=>cases h
 | _=>cases h
def Dk (h:Hdr) (s:Sg):Option Sg:=(Dj h s.chs).bind fun r=>(partOf r).bind fun q=>match q.1 with
 | true=>some ⟨s.env,(h,r.over,.own r.t r.d)::q.2.2,s.nxt+1⟩
 | false=>some ⟨s.env,(h,s.nxt,.own r.t (r.f q.2.1))::q.2.2,s.nxt+1⟩
section
variable {P:Program} {I J:Hp} {w0 w:World} {F:Ch} {n:Nat} {θ:Th} {s s':Sg} {a:Act} {o:Oper}
theorem Sim.chs (hS:Sim P I w0 F n J θ s a w) {chs':List Ent} (hst:St J w0 w (chs'.map (toCh P θ)++ [F])) (hn:Newer s.nxt s.chs chs') (hok: ∀e∈chs',okE P w0 J θ (s.nxt+1) chs' e):Sim P I w0 F n J θ ⟨s.env,chs',s.nxt+1⟩ a w:=
 ⟨hS.le,hS.agr,hst,fun e he=>AV.ok_same Same.rfl (Nat.le_succ _) hn (hS.fine.env e he) Hp.le.rfl,fun e he=>Nat.lt_succ_of_lt (hS.fine.ver e he),hS.fine.nd,hok⟩
theorem Gk {h:Hdr} (hs:Dk h s=some s') (hS:Sim P I w0 F n J θ s a w):Sim P I w0 F n J θ s' a w:=by
 obtain ⟨r,hr,hs⟩:=bind_some hs
 obtain ⟨q,hq,hs⟩:=bind_some hs
 have hp:=vc hr
 obtain ⟨l,ver,hl,hp2,hu⟩:=Bp hq
 have hp3:s.chs.Perm (r.ent h::(l,ver,.own r.u q.2.1)::q.2.2):=hp.trans (hp2.cons _)
 have hok:=hS.fine.chs (r.ent h) (hp.mem_iff.2 (by simp))
 have hst:St J w0 w (Ch.own r.t.rep [hv θ h] (r.f q.2.1)::(q.2.2.map (toCh P θ)++ [F])):=by
  have h0:=hS.st.perm ((hp3.map (toCh P θ)).append_right [F])
  have h1:St J w0 w (Ch.own r.u.rep [hv θ l] q.2.1::Ch.gap r.t.rep [hv θ h] r.u.rep r.f (ptB (hv θ h)) (ptO (hv θ h)+(r.i.toNat*r.k+r.off)) (r.lv.v θ)::(q.2.2.map (toCh P θ)++ [F])):=h0.perm (List.Perm.swap _ _ _)
  rw[hl] at h1
  exact St.settle h1
 have hmem: ∀e,e∈q.2.2→e∈s.chs:=fun e he=>hp3.mem_iff.2 (by simp[he])
 cases hb:q.1 with
 | true =>
  rw[hb] at hs
  obtain rfl:=Option.some.inj (show some _=some s' from hs)
  have hver:=hu hb
  have hd:q.2.1=r.y:=by
   have:=(hok.2.2.2.2.2 l hl).2 (l,ver,.own r.u q.2.1) (hp3.mem_iff.2 (by simp)) _ ⟨rfl,.inl ⟨hver,rfl⟩⟩
   injection this with _ h2
  have hfd:r.f q.2.1=r.d:=by rw[hd];exact hok.2.2.2.2.1
  rw[hfd] at hst
  have hnew:Newer s.nxt s.chs ((h,r.over,.own r.t r.d)::q.2.2):=fun e he h' ver' c hs'=>by
   rcases List.mem_cons.1 he with rfl | he
   ·obtain ⟨rfl,hs'⟩:=hs'
    rcases hs' with ⟨rfl,rfl⟩ | hs'
    ·exact .inr ⟨r.ent h,hp.mem_iff.2 (by simp),rfl,.inr ⟨rfl,rfl⟩⟩
    ·exact hs'.elim
   ·exact .inr ⟨e,hmem e he,hs'⟩
  refine hS.chs hst hnew fun e he=>?_
  rcases List.mem_cons.1 he with rfl | he
  ·exact ⟨Nat.lt_succ_of_lt hok.1,Nat.lt_succ_of_lt (Nat.lt_trans hok.2.2.2.1 hok.2.1),trivial⟩
  ·exact eU Same.rfl (Nat.le_succ _) hnew (hS.fine.chs e (hmem e he)) Hp.le.rfl
 | false =>
  rw[hb] at hs
  obtain rfl:=Option.some.inj (show some _=some s' from hs)
  have hnew:Newer s.nxt s.chs ((h,s.nxt,.own r.t (r.f q.2.1))::q.2.2):=fun e he h' ver' c hs'=>by
   rcases List.mem_cons.1 he with rfl | he
   ·obtain ⟨rfl,hs'⟩:=hs'
    rcases hs' with ⟨rfl,rfl⟩ | hs'
    ·exact .inl (Nat.le_refl _)
    ·exact hs'.elim
   ·exact .inr ⟨e,hmem e he,hs'⟩
  refine hS.chs hst hnew fun e he=>?_
  rcases List.mem_cons.1 he with rfl | he
  ·exact ⟨Nat.lt_succ_of_lt hok.1,Nat.lt_succ_self _,trivial⟩
  ·exact eU Same.rfl (Nat.le_succ _) hnew (hS.fine.chs e (hmem e he)) Hp.le.rfl
def settle:Nat→Hdr→Sg→Sg
 | 0,_,s=>s
 | m+1,h,s=>match Dj h s.chs with
  | some r=>match r.lv with
   | .own l=>match Dk h (settle m l s) with
    | some s'=>s'
    | none=>s
   | _=>s
  | none=>s
theorem vL: ∀ {m:Nat} {h:Hdr} {s:Sg},Sim P I w0 F n J θ s a w→Sim P I w0 F n J θ (settle m h s) a w
 | 0,_,_,hS=>hS
 | m+1,h,s,hS=>by
  unfold settle
  split
  ·split
   ·split
    ·rename_i hs
     exact Gk hs (vL hS)
    ·exact hS
   ·exact hS
  ·exact hS
end
section
variable {Y:Type} (tt:TT) (s:Sg) (k:Res→Option Y)
def Ii (T:TypeId) (x y:Operand):Option Y:=(td tt T).bind fun d=>match opd s x,opd s y with
 | some (.elo h ver E t xs a i off),some (.one lv)=>(Dj h s.chs).bind fun r=>bp (Nat.beq r.k t.size&&Nat.beq r.off off && !d.agg&&Nat.beq d.n 1&&(match lv with | .own l=> !(Hdr.beq l h) | _=>true)) ((chk (i=r.i)).bind fun _=>k ⟨[],[r.ent h],r.rest,[(h,.hole r.over r.t r.d r.u r.y r.f r.i r.k r.off lv)],.any ⟨s.nxt,[]⟩⟩)
 | _,_=>none
end
theorem zG (h:Hdr):Hdr.beq h h=true:=by unfold Hdr.beq;rw[Nat.beq_refl,vB];rfl
section
variable {Y:Type} {tt:TT} {s:Sg} {k:Res→Option Y} {P:Program} {w0:World} {o:Oper} {res:Y} {x y:Operand}
theorem Gl (hT:TTok P tt) {T:TypeId} (ho:o.op= .store T x y) (h:Ii tt s k T x y=some res):Oks P w0 s o k res:=by
 obtain ⟨d,hd,h⟩:=bind_some h
 split at h
 ·rename_i hh ver E t xs a i off lv hx hy
  obtain ⟨r,hr,h⟩:=bind_some h
  obtain ⟨hc,h⟩:=ah h
  rw[Bool.and_eq_true,Bool.and_eq_true,Bool.and_eq_true,Bool.and_eq_true] at hc
  obtain ⟨⟨⟨⟨hc1,hc2⟩,hc3⟩,hc4⟩,hc5⟩:=hc
  obtain ⟨u,hi,h⟩:=bind_some h
  have hi:=bh hi
  have hc1:=Nat.eq_of_beq_eq_true hc1
  have hc2:=Nat.eq_of_beq_eq_true hc2
  have hc3:d.agg=false:=by simpa using hc3
  have hc4:=Nat.eq_of_beq_eq_true hc4
  have hp:=vc hr
  have hti:=(hT.get hd).ti
  rw[hc3,hc4] at hti
  refine ⟨_,h,xI hp,fun J θ hf g hg ver' c hs=>?_,fun J θ hf=>?_⟩
  ·obtain rfl:=List.mem_singleton.1 hg
   exact ⟨r.ent hh,hp.mem_iff.2 (by simp),rfl,.inr hs⟩
  ·have hok:=gW hf hp
   have hlv:lv.ok P w0 J θ s.nxt:=a6 hf hy
   have hxv:evL (envL θ s) x= .pointer (some ⟨ptB (hv θ hh),ptO (hv θ hh)+(r.i.toNat*r.k+r.off),none⟩):=by
    rw[ak (θ:=θ) hx,hc1,hc2,←hi];rfl
   have hu: ∀u,hv (upd θ s.nxt u) hh=hv θ hh:=fun u=>aK Same.upd hok.1
   have:=zF (P:=P) (I:=J) (w0:=w0) (R:=r.t.rep) (S:=r.u.rep) (cs:=[hv θ hh]) (f:=r.f) (v:=r.lv.v θ) hti ho hxv (ak (θ:=θ) hy) (LV.one hlv)
   refine OpT.weak this (fun v hv0=>⟨Nat.lt_succ_self _,cO,fun g hg=>?_⟩) (fun v hv0=>?_)
   ·obtain rfl:=List.mem_singleton.1 hg
    refine ⟨Nat.lt_succ_of_lt hok.1,Nat.lt_succ_self _,LV.ok_same Same.upd (Nat.le_succ _) hlv Hp.le.rfl,Nat.lt_trans hok.2.2.2.1 hok.2.1,hok.2.2.2.2.1,fun l hl=>?_⟩
    subst hl
    have hne:l≠hh:=fun e=>by
     subst e
     rw[show (match LV.own l with | .own l'=> !(Hdr.beq l' l) | _=>true)= !(Hdr.beq l l) from rfl,zG] at hc5
     cases hc5
    refine ⟨Nat.lt_succ_self _,fun e he c hs=>?_⟩
    rcases List.mem_append.1 he with he | he
    ·obtain ⟨g,hg,rfl⟩:=List.mem_map.1 he
     obtain rfl:=List.mem_singleton.1 hg
     exact absurd hs.1.symm hne
    ·have he:e∈s.chs:=hp.mem_iff.2 (List.mem_cons_of_mem _ (by simpa using he))
     have hek:=hf.chs e he
     obtain ⟨h',v',c'⟩:=e
     rcases hs.2 with ⟨h1,h2⟩ | h1
     ·have:=hek.2.1
      rw[h1] at this
      exact absurd this (Nat.lt_irrefl _)
     ·cases c' with
      | hole over _ _ _ _ _ _ _ _ _ =>
       have:=Nat.lt_trans hek.2.2.2.1 hek.2.1
       rw[h1.1] at this
       exact absurd this (Nat.lt_irrefl _)
      | _=>exact h1.elim
   ·show [Ch.gap _ [hv θ hh] _ _ (ptB (hv θ hh)) (ptO (hv θ hh)+_) (lv.v θ)] = [Ch.gap _ [hv (upd θ s.nxt v) hh] _ _ (ptB (hv (upd θ s.nxt v) hh)) (ptO (hv (upd θ s.nxt v) hh)+_) (lv.v (upd θ s.nxt v))]
    rw[hu,LV.v_same Same.upd hlv]
 ·cases h
end
end R
namespace R
open Go.RowKit
open D
inductive PM
 | rd (t:Ty)
 | ow (t:Ty)
 | fn (ps rs:List Ty)
 | cap (T:TypeId) (t:Ty)
 | capf (T:TypeId) (ps rs:List Ty)
 | ptr (T:TypeId) (t:Ty)
 | eat (t:Ty)
 | fk (g:Nat)
 deriving DecidableEq
def PM.den:PM→Type
 | .rd t=>t.den
 | .ow t=>t.den
 | .fn ps rs=>cur ps (Option (dens rs))
 | .cap _ t=>t.den
 | .capf _ ps rs=>cur ps (Option (dens rs))
 | .ptr _ t=>t.den
 | .eat t=>t.den
 | .fk _=>Unit
def denP:List PM→Type
 | [] =>Unit
 | p::ps=>p.den×denP ps
def curP:List PM→Type→Type
 | [],R=>R
 | p::ps,R=>p.den→curP ps R
def appP {R:Type} :(ps:List PM)→curP ps R→denP ps→R
 | [],f,_=>f
 | _::ps,f,d=>appP ps (f d.1) d.2
def PM.out:PM→List Ty
 | .ow t=>[t]
 | .ptr _ t=>[t]
 | _=>[]
def outs:List PM→List Ty
 | [] =>[]
 | p::ps=>match p with
  | .ow t=>t::outs ps
  | .ptr _ t=>t::outs ps
  | _=>outs ps
def hFst:(ts us:List Ty)→fZ (ts++us)→fZ ts
 | [],_,_=>()
 | _::ts,us,d=>(d.1,hFst ts us d.2)
def hSnd:(ts us:List Ty)→fZ (ts++us)→fZ us
 | [],_,d=>d
 | _::ts,us,d=>hSnd ts us d.2
structure FS where
 ps:List PM
 rs:List Ty
 m:curP ps (Option (dens (rs++outs ps)))
 cl:Option (TypeId×Nat)
theorem Rv:CW.Dp:=vy
def tc (P:Program) (k:FuncId) (E b:Nat):Prop:=Enters P k∧ ∀(E':TypeId) (I:Hp) (w0:World) (v:Value) (xs zs:List Raw),(ae E' CW).rd I [v] xs→cC b [] xs=some zs→Con P k #[v] I w0 [] (fun _=>True) (fun r=>[Ch.own (ae E CW) [r] zs])
abbrev FT:=List (Nat×FS)
def fs (ft:FT) (k:Nat):Option FS:=match ft with
 | [] =>none
 | (j,f)::l=>if Nat.beq j k then some f else fs l k
def Te (P:Program) (w0:World) (J:Hp):(p:PM)→Value→p.den→Prop
 | .rd t,v,d=> ∃cs,Lds t.isProd cs v∧t.rep.rd J cs d
 | .ow t,v,_=>lZ v=t.isProd
 | .fn a b,v,d=>FnOk P w0 J v a b d
 | .cap T t,v,d=> ∃b,v= .pointer (some ⟨b,0,none⟩)∧ ∃cells:List Value,J b=some (.cells cells.toArray T (0,0))∧t.rep.rd J cells d
 | .capf T x y,v,d=> ∃b,v= .pointer (some ⟨b,0,none⟩)∧ ∃u:Value,J b=some (.cells [u].toArray T (0,0))∧FnOk P w0 J u x y d
 | .ptr T t,v,_=> ∃b,v= .pointer (some ⟨b,0,none⟩)
 | .eat t,v,_=>lZ v=t.isProd
 | .fk g,v,_=>v= .func (.func g) #[] #[]
def PArgs (P:Program) (w0:World) (J:Hp):(ps:List PM)→List Value→denP ps→Prop
 | [],vs,_=>vs= []
 | p::ps,vs,d=> ∃v r,vs=v::r∧Te P w0 J p v d.1∧PArgs P w0 J ps r d.2
def owCh:(ps:List PM)→List Value→denP ps→List Ch
 | p::ps,v::vs,d=>match p,d with
  | .ow t,d=>Ch.own t.rep (ga t.isProd v) d.1::owCh ps vs d.2
  | .ptr T t,d=>Ch.box (bk v) T t.rep d.1::owCh ps vs d.2
  | .eat t,d=>Ch.own t.rep (ga t.isProd v) d.1::owCh ps vs d.2
  | .rd _,d=>owCh ps vs d.2
  | .fn _ _,d=>owCh ps vs d.2
  | .cap _ _,d=>owCh ps vs d.2
  | .capf _ _ _,d=>owCh ps vs d.2
  | .fk _,d=>owCh ps vs d.2
 | _,_,_=>[]
def outCh:(ps:List PM)→List Value→fZ (outs ps)→List Ch
 | p::ps,v::vs,d=>match p,d with
  | .ow t,d=>Ch.own t.rep (ga t.isProd v) d.1::outCh ps vs d.2
  | .ptr T t,d=>Ch.box (bk v) T t.rep d.1::outCh ps vs d.2
  | .eat _,d=>outCh ps vs d
  | .rd _,d=>outCh ps vs d
  | .fn _ _,d=>outCh ps vs d
  | .cap _ _,d=>outCh ps vs d
  | .capf _ _ _,d=>outCh ps vs d
  | .fk _,d=>outCh ps vs d
 | _,_,_=>[]
def Ui (P:Program) (k:FuncId):Prop:= ∀(w:World) (g h oa ob la lb ca cb:Nat) (curA curB:Array Value) (tA tB:TypeId),g≠h→w.heap[g]? =some (.cells curA tA (0,0))→w.heap[h]? =some (.cells curB tB (0,0))→0<curB.size→(callFunc k #[.slice (some ⟨g,oa,none⟩) la ca,.slice (some ⟨h,ob,none⟩) lb cb]).run P w= .ok (.value (.bool false)) w
def FS.ov (f:FS):Bool:=match f.cl with
 | some q=>Nat.beq q.2 0
 | none=>false
def ClOk (P:Program) (k:FuncId) (E b:Nat):Prop:=(Nat.beq b 0=true→Ui P k)∧(Nat.beq b 0=false→Nat.beq b 7=false→tc P k E b)
def tY:(ts:List Ty)→fZ ts→Value→Prop
 | [.sl _ t],d,v=>List.length (α:=t.den) d.1=0→v= .slice none 0 0
 | _,_,_=>True
def NilOk (P:Program) (k:FuncId) (f:FS):Prop:= ∀w0 J vs (d:denP f.ps) r,PArgs P w0 J f.ps vs d→appP f.ps f.m d=some r→
  Con P k vs.toArray J w0 (owCh f.ps vs d) (fun v=>resFa f.rs v∧tY f.rs (hFst f.rs (outs f.ps) (toH _ r)) v) (fun v=>resGv f.rs (hFst f.rs (outs f.ps) (toH _ r)) v++outCh f.ps vs (hSnd f.rs (outs f.ps) (toH _ r)))
structure FOk (P:Program) (k:FuncId) (f:FS):Prop where
 cl: ∀q,f.cl=some q→ClOk P k q.1 q.2∧(Nat.beq q.2 7=true→NilOk P k f)
 en:f.ov=false→Enters P k
 con: ∀w0 J vs (d:denP f.ps) r,PArgs P w0 J f.ps vs d→appP f.ps f.m d=some r→
  Con P k vs.toArray J w0 (owCh f.ps vs d) (resFa f.rs) (fun v=>resGv f.rs (hFst f.rs (outs f.ps) (toH _ r)) v++outCh f.ps vs (hSnd f.rs (outs f.ps) (toH _ r)))
def FTok (P:Program):FT→Prop
 | [] =>True
 | (k,f)::l=>FOk P k f∧FTok P l
theorem FTok.get {P:Program} {k:Nat} {f:FS} : ∀ {ft:FT},FTok P ft→fs ft k=some f→FOk P k f
 | (j,x)::l,⟨h1,h2⟩,h=>by
  unfold fs at h
  split at h
  ·rename_i hj
   have:j=k:=Nat.eq_of_beq_eq_true hj
   subst this
   rw[←Option.some.inj h];exact h1
  ·exact FTok.get h2 h
def Ty.dp:Ty→Bool
 | .prod a b=>a.dp&&b.dp
 | .sl _ t=>t.dp
 | .fro _=>false
 | .wr t=>t.dp
 | .tree _ _ _=>false
 | _=>true
theorem Ty.dp_ok: ∀ {t:Ty},t.dp=true→t.rep.Dp
 | .int _,_=>vy
 | .bool,_=>OY
 | .str,_=>Rb
 | .raw,_=>vy (α:=Raw) (enc:=(·.1)) (h1:=(·.2))
 | .prod a b,h=>by
  have h:(a.dp&&b.dp)=true:=h
  rw[Bool.and_eq_true] at h
  exact OZ (dp_ok h.1) (dp_ok h.2)
 | .sl _ t,h=>zw (dp_ok (show t.dp=true from h))
 | .fro _,h=>by cases h
 | .wr t,h=>dp_ok (t:=t) h
 | .tree _ _ _,h=>by cases h
def jC (id:Nat) (pth:Nat→List Nat):(t:Ty)→t.den→Nat→List LV
 | .int k,d,_=>[.val (.int k d)]
 | .bool,d,_=>[.val (.bool d)]
 | .str,d,_=>[.val (.string d)]
 | .raw,d,_=>[.val d.1]
 | .prod a b,d,j=>jC id pth a d.1 j++jC id pth b d.2 (j+a.size)
 | .sl E t,d,j=>[.rd ⟨id,pth j⟩ (.sl E t) d]
 | .fro t,d,j=>jC id pth t d j
 | .wr t,d,j=>jC id pth t d j
 | .tree T E t,d,j=>[.rd ⟨id,pth j⟩ (.tree T E t) d]
theorem ix {P:Program} {w0:World} {J:Hp} {θ:Th} {id n:Nat} {pth:Nat→List Nat} (hid:id<n): ∀(t:Ty) (d:t.den) (j:Nat) (cs:List Value),t.rep.rd J cs d→(∀i v,cs[i]? =some v→vg (θ id) (pth (j+i))=v)→
  (∀x∈jC id pth t d j,x.ok P w0 J θ n)∧(jC id pth t d j).map (·.v θ)=cs
 | .int k,d,j,cs,h,_=>⟨fun x hx=>by obtain rfl:=List.mem_singleton.1 hx;exact Eq.refl true,h.symm⟩
 | .bool,d,j,cs,h,_=>⟨fun x hx=>by obtain rfl:=List.mem_singleton.1 hx;exact Eq.refl true,h.symm⟩
 | .str,d,j,cs,h,_=>⟨fun x hx=>by obtain rfl:=List.mem_singleton.1 hx;exact Eq.refl true,h.symm⟩
 | .raw,d,j,cs,h,_=>⟨fun x hx=>by obtain rfl:=List.mem_singleton.1 hx;exact d.2,h.symm⟩
 | .prod a b,d,j,cs,h,hc=>by
  obtain ⟨c1,c2,rfl,h1,h2⟩:=h
  have hl:c1.length=a.size:=(Rep.rd_len _ h1).trans a.rep_size
  obtain ⟨e1,e2⟩:=ix hid a d.1 j c1 h1 fun i v hv=>hc i v (by rw[List.getElem?_append_left (List.getElem?_eq_some_iff.1 hv).1];exact hv)
  obtain ⟨e3,e4⟩:=ix hid b d.2 (j+a.size) c2 h2 fun i v hv=>by
   have:=hc (a.size+i) v (by rw[List.getElem?_append_right (by omega),hl,Nat.add_sub_cancel_left];exact hv)
   rwa [show j+a.size+i=j+(a.size+i) from by omega]
  refine ⟨fun x hx=>?_,?_⟩
  ·rcases List.mem_append.1 hx with hx | hx
   ·exact e1 x hx
   ·exact e3 x hx
  ·show (jC id pth a d.1 j++jC id pth b d.2 (j+a.size)).map _=_
   rw[List.map_append,e2,e4]
 | .sl E t,d,j,cs,h,hc=>by
  obtain ⟨u,rfl⟩:=List.length_eq_one_iff.1 (Rep.rd_len _ h)
  have hh:hv θ ⟨id,pth j⟩=u:=by
   have:=hc 0 u rfl
   rwa [Nat.add_zero] at this
  refine ⟨fun x hx=>?_,?_⟩
  ·obtain rfl:=List.mem_singleton.1 hx
   exact ⟨hid,by rw[hh];exact h⟩
  ·show [hv θ ⟨id,pth j⟩] = [u]
   rw[hh]
 | .fro t,d,j,cs,h,hc=>ix hid t d j cs h hc
 | .wr t,d,j,cs,h,hc=>ix hid t d j cs h hc
 | .tree T E t,d,j,cs,h,hc=>by
  obtain ⟨u,rfl⟩:=List.length_eq_one_iff.1 (Rep.rd_len _ h)
  have hh:hv θ ⟨id,pth j⟩=u:=by
   have:=hc 0 u rfl
   rwa [Nat.add_zero] at this
  refine ⟨fun x hx=>?_,?_⟩
  ·obtain rfl:=List.mem_singleton.1 hx
   exact ⟨hid,by rw[hh];exact h⟩
  ·show [hv θ ⟨id,pth j⟩] = [u]
   rw[hh]
def dF (id:Nat) (pth:Nat→List Nat):(t:Ty)→t.den→Nat→List LV
 | .int k,d,_=>[.val (.int k d)]
 | .bool,d,_=>[.val (.bool d)]
 | .str,d,_=>[.val (.string d)]
 | .raw,d,_=>[.val d.1]
 | .prod a b,d,j=>dF id pth a d.1 j++dF id pth b d.2 (j+a.size)
 | .sl _ _,_,j=>[.own ⟨id,pth j⟩]
 | .fro t,d,j=>jC id pth t d j
 | .wr t,d,j=>dF id pth t d j
 | .tree _ _ _,_,j=>[.own ⟨id,pth j⟩]
def nW (id:Nat) (pth:Nat→List Nat):(t:Ty)→t.den→Nat→List (Hdr×Chk)
 | .prod a b,d,j=>nW id pth a d.1 j++nW id pth b d.2 (j+a.size)
 | .wr t,d,j=>nW id pth t d j
 | .tree T E t,d,j=>[(⟨id,pth j⟩,.own (.tree T E t) d)]
 | .sl E t,d,j=>[(⟨id,pth j⟩,.own (.sl E t) d)]
 | _,_,_=>[]
section
variable {P:Program} {I J:Hp} {w0 w:World} {C:List Ch} {θ:Th} {n m:Nat}
theorem ET {α β:Type} {A:Rep α} {B:Rep β} {cs:List Value} {x:α×β} (h:St I w0 w (Ch.own (aH A B) cs x::C)): ∃c d,cs=c++d∧c.length=A.size∧St I w0 w (Ch.own A c x.1::Ch.own B d x.2::C):=by
 obtain ⟨h1,h2,F,⟨G,K,rfl,⟨c,d,G1,G2,rfl,rfl,k1,k2⟩,e⟩,h4,h5⟩:=h
 exact ⟨c,d,rfl,A.own_len k1,h1,h2,(G1++G2)++K,⟨G1,G2++K,by rw[List.append_assoc],k1,G2,K,rfl,k2,e⟩,h4,h5⟩
theorem rL {α:Type} {enc:α→Value} {h1: ∀a,(enc a).oneCell'=true} {cs:List Value} {x:α} (h:St I w0 w (Ch.own (jY α enc h1) cs x::C)):cs= [enc x] ∧St I w0 w C:=by
 obtain ⟨h1,h2,F,⟨G,K,rfl,⟨rfl,k⟩,e⟩,h4,h5⟩:=h
 exact ⟨k,h1,h2,K,e,h4,h5⟩
theorem fL {id:Nat} {pth:Nat→List Nat} (hid:id<n): ∀(t:Ty) (d:t.den) (j:Nat) (cs:List Value) (C:List Ch),(∀i v,cs[i]? =some v→vg (θ id) (pth (j+i))=v)→St J w0 w (Ch.own t.rep cs d::C)→
  (∀x∈dF id pth t d j,x.ok P w0 J θ n)∧(dF id pth t d j).map (·.v θ)=cs∧(∀g∈nW id pth t d j,g.1.id=id)∧St J w0 w (((nW id pth t d j).map fun g=>toCh P θ (g.1,m,g.2))++C)
 | .int k,d,j,cs,C,_,h=>by
  obtain ⟨rfl,h0⟩:=rL h
  exact ⟨fun x hx=>by obtain rfl:=List.mem_singleton.1 hx;exact Eq.refl true,rfl,fun g hg=>(by cases hg),h0⟩
 | .bool,d,j,cs,C,_,h=>by
  obtain ⟨rfl,h0⟩:=rL (h1:=fun _=>rfl) h
  exact ⟨fun x hx=>by obtain rfl:=List.mem_singleton.1 hx;exact Eq.refl true,rfl,fun g hg=>(by cases hg),h0⟩
 | .str,d,j,cs,C,_,h=>by
  obtain ⟨rfl,h0⟩:=rL (h1:=fun _=>rfl) h
  exact ⟨fun x hx=>by obtain rfl:=List.mem_singleton.1 hx;exact Eq.refl true,rfl,fun g hg=>(by cases hg),h0⟩
 | .raw,d,j,cs,C,_,h=>by
  obtain ⟨rfl,h0⟩:=rL (α:=Raw) (enc:=(·.1)) (h1:=(·.2)) h
  exact ⟨fun x hx=>by obtain rfl:=List.mem_singleton.1 hx;exact d.2,rfl,fun g hg=>(by cases hg),h0⟩
 | .prod a b,d,j,cs,C,hc,h=>by
  obtain ⟨c1,c2,rfl,hl,h⟩:=ET h
  rw[a.rep_size] at hl
  obtain ⟨e1,e2,e3,e4⟩:=fL hid a d.1 j c1 _ (fun i v hv=>hc i v (by rw[List.getElem?_append_left (List.getElem?_eq_some_iff.1 hv).1];exact hv)) h
  obtain ⟨k1,k2,k3,k4⟩:=fL hid b d.2 (j+a.size) c2 _ (fun i v hv=>by
   have:=hc (a.size+i) v (by rw[List.getElem?_append_right (by omega),hl,Nat.add_sub_cancel_left];exact hv)
   rwa [show j+a.size+i=j+(a.size+i) from by omega]) (e4.perm List.perm_middle)
  refine ⟨fun x hx=>?_,?_,fun g hg=>?_,?_⟩
  ·rcases List.mem_append.1 hx with hx | hx
   ·exact e1 x hx
   ·exact k1 x hx
  ·show (dF id pth a d.1 j++dF id pth b d.2 (j+a.size)).map _=_
   rw[List.map_append,e2,k2]
  ·rcases List.mem_append.1 hg with hg | hg
   ·exact e3 g hg
   ·exact k3 g hg
  ·show St J w0 w (((nW id pth a d.1 j++nW id pth b d.2 (j+a.size)).map _)++C)
   rw[List.map_append]
   refine k4.perm ?_
   rw[List.append_assoc]
   exact List.perm_append_comm_assoc _ _ _
 | .sl E t,d,j,cs,C,hc,h=>by
  have hone: ∃u,cs= [u] ∧u.oneCell'=true:=by
   obtain ⟨h1,h2,F,⟨G,K,rfl,k,e⟩,h4,h5⟩:=h
   have hl:cs.length=1:=(Ty.sl E t).rep.own_len k
   obtain ⟨u,rfl⟩:=List.length_eq_one_iff.1 hl
   exact ⟨u,rfl,(Ty.sl E t).rep.own_one k u (by simp)⟩
  obtain ⟨u,rfl,h1⟩:=hone
  have hh:hv θ ⟨id,pth j⟩=u:=by
   have:=hc 0 u rfl
   rwa [Nat.add_zero] at this
  refine ⟨fun x hx=>?_,?_,fun g hg=>?_,?_⟩
  ·obtain rfl:=List.mem_singleton.1 hx
   exact ⟨hid,by rw[hh];exact h1⟩
  ·show [hv θ ⟨id,pth j⟩] = [u]
   rw[hh]
  ·obtain rfl:=List.mem_singleton.1 hg;rfl
  ·show St J w0 w (Ch.own _ [hv θ ⟨id,pth j⟩] d::C)
   rw[hh];exact h
 | .fro t,d,j,cs,C,hc,h=>by
  obtain ⟨h1,h2,F,⟨G,K,rfl,⟨rfl,k⟩,e⟩,h4,h5⟩:=h
  obtain ⟨e1,e2⟩:=ix (J:=J) hid t d j cs k hc
  exact ⟨e1,e2,fun g hg=>(by cases hg),h1,h2,K,e,h4,h5⟩
 | .wr t,d,j,cs,C,hc,hs=>fL hid t d j cs C hc hs
 | .tree T E t,d,j,cs,C,hc,h=>by
  have hone: ∃u,cs= [u] ∧u.oneCell'=true:=by
   obtain ⟨h1,h2,F,⟨G,K,rfl,k,e⟩,h4,h5⟩:=h
   have hl:cs.length=1:=(Ty.tree T E t).rep.own_len k
   obtain ⟨u,rfl⟩:=List.length_eq_one_iff.1 hl
   exact ⟨u,rfl,(Ty.tree T E t).rep.own_one k u (by simp)⟩
  obtain ⟨u,rfl,h1⟩:=hone
  have hh:hv θ ⟨id,pth j⟩=u:=by
   have:=hc 0 u rfl
   rwa [Nat.add_zero] at this
  refine ⟨fun x hx=>?_,?_,fun g hg=>?_,?_⟩
  ·obtain rfl:=List.mem_singleton.1 hx
   exact ⟨hid,by rw[hh];exact h1⟩
  ·show [hv θ ⟨id,pth j⟩] = [u]
   rw[hh]
  ·obtain rfl:=List.mem_singleton.1 hg;rfl
  ·show St J w0 w (Ch.own _ [hv θ ⟨id,pth j⟩] d::C)
   rw[hh];exact h
end
def Dl (agg:Bool) (pre:List Nat):Nat→List Nat:=match agg with
 | true=>fun j=>pre++ [j]
 | false=>fun _=>pre
def iy (id:Nat) (pre:List Nat) (t:Ty) (d:t.den):Bool×List LV:=(t.isProd,dF id (Dl t.isProd pre) t d 0)
def jg (id:Nat) (pre:List Nat) (t:Ty) (d:t.den):List (Hdr×Chk):=nW id (Dl t.isProd pre) t d 0
def Bq (id:Nat):(i:Nat)→(ts:List Ty)→fZ ts→List (Bool×List LV)
 | _,[],_=>[]
 | i,t::ts,d=>iy id [i] t d.1::Bq id (i+1) ts d.2
def tZ (id:Nat):(i:Nat)→(ts:List Ty)→fZ ts→List (Hdr×Chk)
 | _,[],_=>[]
 | i,t::ts,d=>jg id [i] t d.1++tZ id (i+1) ts d.2
def Ij (y:Bool×List LV):AV:=match y with
 | (true,l)=>.agg l
 | (false,[x])=>.one x
 | _=>.und
def Br (id:Nat):(ts:List Ty)→fZ ts→AV
 | [t],d=>Ij (iy id [] t d.1)
 | ts,d=>.tup (Bq id 0 ts d)
def mK (id:Nat):(ts:List Ty)→fZ ts→List (Hdr×Chk)
 | [t],d=>jg id [] t d.1
 | ts,d=>tZ id 0 ts d
theorem EU: ∀p:List Nat,vg undef p=undef
 | [] =>rfl
 | i::l=>by
  show vg ((#[] :Array Value).getD i undef) l=undef
  rw[show (#[] :Array Value).getD i undef=undef from by simp[Array.getD_eq_getD_getElem?]]
  exact EU l
theorem Ik: ∀(p q:List Nat) (v:Value),vg v (p++q)=vg (vg v p) q
 | [],q,v=>by cases v <;> rfl
 | i::p,q,v=>by
  cases v with
  | tuple vs=>exact Ik p q _
  | agg cs=>exact Ik p q _
  | _=>exact (EU q).symm
theorem NV {cs:Array Value} {j:Nat} {v:Value} (h:cs.toList[j]? =some v):vg (.agg cs) [j] =v:=by
 show cs.getD j undef=v
 rw[Array.getElem?_toList] at h
 rw[Array.getD_eq_getD_getElem?,h];rfl
theorem ua {id:Nat} {pth:Nat→List Nat} : ∀ {t:Ty} {d:t.den} {j:Nat},t.isProd=false→(jC id pth t d j).length=1
 | .int _,_,_,_=>rfl
 | .bool,_,_,_=>rfl
 | .str,_,_,_=>rfl
 | .raw,_,_,_=>rfl
 | .prod _ _,_,_,h=>by cases h
 | .sl _ _,_,_,_=>rfl
 | .fro t,d,j,h=>ua (t:=t) h
 | .wr _,_,_,h=>by cases h
 | .tree _ _ _,_,_,_=>rfl
theorem oM {id:Nat} {pth:Nat→List Nat} {t:Ty} {d:t.den} {j:Nat} (h1:t.isProd=false):(dF id pth t d j).length=1:=by
 cases t with
 | prod a b=>cases h1
 | fro t=>exact ua (t:=t) h1
 | wr t=>cases h1
 | _=>rfl
def Bs:List Ty→Bool
 | [] =>true
 | t::ts=>t.dp&&Bs ts
section
variable {P:Program} {I J:Hp} {w0 w:World} {C:List Ch} {θ:Th} {n m:Nat}
theorem zH {chs:List Ent} : ∀y:Bool×List LV,(y.1=false→y.2.length=1)→(∀x∈y.2,x.ok P w0 J θ n)→(Ij y).ok P w0 J θ n chs∧(Ij y).v θ=iu θ y:=by
 rintro ⟨b,l⟩ hl hx
 cases b with
 | true=>exact ⟨hx,rfl⟩
 | false =>
  obtain ⟨x,rfl⟩:=List.length_eq_one_iff.1 (hl rfl)
  exact ⟨hx x (by simp),rfl⟩
theorem rM {id:Nat} {pre:List Nat} (hid:id<n) {t:Ty} {d:t.den} {u:Value} (hu:hv θ ⟨id,pre⟩=u) (hg:lZ u=t.isProd) (h:St J w0 w (Ch.own t.rep (ga t.isProd u) d::C)) :
  (∀x∈(iy id pre t d).2,x.ok P w0 J θ n)∧(iy id pre t d).2.map (·.v θ)=ga t.isProd u∧iu θ (iy id pre t d)=u∧(∀g∈jg id pre t d,g.1.id=id)∧St J w0 w (((jg id pre t d).map fun g=>toCh P θ (g.1,m,g.2))++C):=by
 have hu:vg (θ id) pre=u:=hu
 cases hb:t.isProd with
 | true =>
  rw[hb] at hg h
  cases u with
  | agg cs =>
   obtain ⟨k1,k2,k3,k4⟩:=fL (P:=P) (m:=m) (θ:=θ) (pth:=Dl true pre) hid t d 0 cs.toList C (fun i v hv=>by
    show vg (θ id) (pre++ [0+i])=v
    rw[Ik,hu,Nat.zero_add]
    exact NV hv) h
   refine ⟨by unfold iy;rw[hb];exact k1,by unfold iy;rw[hb];exact k2,?_,by unfold jg;rw[hb];exact k3,by unfold jg;rw[hb];exact k4⟩
   unfold iy iu
   rw[hb]
   show Value.agg ((dF id (Dl true pre) t d 0).map _).toArray=_
   rw[k2]
  | _=>cases hg
 | false =>
  rw[hb] at hg h
  obtain ⟨k1,k2,k3,k4⟩:=fL (P:=P) (m:=m) (θ:=θ) (pth:=Dl false pre) hid t d 0 [u] C (fun i v hv=>by
   cases i with
   | zero=>exact hu.trans (by simpa using hv)
   | succ i=>simp at hv) h
  refine ⟨by unfold iy;rw[hb];exact k1,by unfold iy;rw[hb];exact k2,?_,by unfold jg;rw[hb];exact k3,by unfold jg;rw[hb];exact k4⟩
  unfold iy iu
  rw[hb]
  show (match dF id (Dl false pre) t d 0 with
   | x::_=>x.v θ
   | [] =>undef)=u
  cases hc:dF id (Dl false pre) t d 0 with
  | nil=>rw[hc] at k2;cases k2
  | cons x l =>
   rw[hc] at k2
   exact (List.cons.inj k2).1
theorem EV {id:Nat} (hid:id<n) {vs:Array Value} (hu:θ id= .tuple vs): ∀(ts:List Ty) (i:Nat) (d:fZ ts) (C:List Ch),(∀j t,ts[j]? =some t→lZ (vs.getD (i+j) undef)=t.isProd)→St J w0 w (rH i ts d (.tuple vs)++C)→
  (∀y∈Bq id i ts d,∀x∈y.2,x.ok P w0 J θ n)∧(Bq id i ts d).map (iu θ)=(List.range' i ts.length).map (fun j=>vs.getD j undef)∧(∀g∈tZ id i ts d,g.1.id=id)∧St J w0 w (((tZ id i ts d).map fun g=>toCh P θ (g.1,m,g.2))++C)
 | [],i,d,C,_,h=>⟨fun y hy=>(by cases hy),rfl,fun g hg=>(by cases hg),h⟩
 | t::ts,i,d,C,ha,h=>by
  have h:St J w0 w (Ch.own t.rep (ga t.isProd (vs.getD i undef)) d.1::(rH (i+1) ts d.2 (.tuple vs)++C)):=h
  obtain ⟨e1,-,e2,e3,e4⟩:=rM (P:=P) (m:=m) (θ:=θ) (pre:=[i]) (u:=vs.getD i undef) hid (by show vg (θ id) [i] =_;rw[hu];rfl) (ha 0 t rfl) h
  obtain ⟨k1,k2,k3,k4⟩:=EV hid hu ts (i+1) d.2 (((jg id [i] t d.1).map fun g=>toCh P θ (g.1,m,g.2))++C) (fun j t hj=>by
   have:=ha (j+1) t hj
   rwa [show i+(j+1)=i+1+j from by omega] at this) (e4.perm (List.perm_append_comm_assoc _ _ _))
  refine ⟨fun y hy=>?_,?_,fun g hg=>?_,?_⟩
  ·rcases List.mem_cons.1 hy with rfl | hy
   ·exact e1
   ·exact k1 y hy
  ·show iu θ _::(Bq id (i+1) ts d.2).map _=_
   rw[e2,k2];rfl
  ·rcases List.mem_append.1 hg with hg | hg
   ·exact e3 g hg
   ·exact k3 g hg
  ·show St J w0 w (((jg id [i] t d.1++tZ id (i+1) ts d.2).map _)++C)
   rw[List.map_append]
   refine k4.perm ?_
   rw[List.append_assoc]
   exact List.perm_append_comm_assoc _ _ _
theorem EW {id:Nat} (hid:id<n) {chs:List Ent} {v:Value} (hu:θ id=v): ∀(ts:List Ty) (d:fZ ts) (C:List Ch),resFa ts v→St J w0 w (resGv ts d v++C)→
  (Br id ts d).ok P w0 J θ n chs∧(Br id ts d).v θ=v∧(∀g∈mK id ts d,g.1.id=id)∧St J w0 w (((mK id ts d).map fun g=>toCh P θ (g.1,m,g.2))++C):=by
 intro ts d C hf h
 have tup: ∀vs,v= .tuple vs→vs.size=ts.length→(∀i t,ts[i]? =some t→lZ (vs.getD i undef)=t.isProd)→St J w0 w (rH 0 ts d v++C)→
   (AV.tup (Bq id 0 ts d)).ok P w0 J θ n chs∧(AV.tup (Bq id 0 ts d)).v θ=v∧(∀g∈tZ id 0 ts d,g.1.id=id)∧St J w0 w (((tZ id 0 ts d).map fun g=>toCh P θ (g.1,m,g.2))++C):=by
  rintro vs rfl hsz ha h
  obtain ⟨k1,k2,k3,k4⟩:=EV (P:=P) (m:=m) hid hu ts 0 d C (fun j t hj=>by rw[Nat.zero_add];exact ha j t hj) h
  refine ⟨k1,?_,k3,k4⟩
  show Value.tuple ((Bq id 0 ts d).map (iu θ)).toArray=_
  rw[k2]
  congr 1
  apply Array.ext'
  apply List.ext_getElem?
  intro i
  by_cases hi:i<ts.length
  ·simp[hi,hsz,Array.getD_eq_getD_getElem?]
  ·simp[hi,hsz]
 match ts,d,hf,h,tup with
 | [t],d,hf,h,_ =>
  obtain ⟨k1,-,k2,k3,k4⟩:=rM (P:=P) (m:=m) (θ:=θ) (pre:=[]) hid (show hv θ ⟨id,[]⟩=v from hu) hf h
  obtain ⟨q1,q2⟩:=zH _ (fun e=>oM e) k1
  exact ⟨q1,q2.trans k2,k3,k4⟩
 | [],d,hf,h,tup=>obtain ⟨vs,h1,h2,h3⟩:=hf;exact tup vs h1 h2 h3 h
 | _::_::_,d,hf,h,tup=>obtain ⟨vs,h1,h2,h3⟩:=hf;exact tup vs h1 h2 h3 h
end
end R
namespace R
open Go.RowKit
open D
section
variable {P:Program} {I:Hp} {w0 w:World} {o:Oper} {ev:Operand→Value}
theorem Il {ls rn cs:List Ch} (h:St I w0 w (ls++(rn++cs))): ∃J,I.le J∧(∀ {α:Type} (R:Rep α) (v:List Value) (a:α),Ch.own R v a∈ls→R.rd J v a)∧(∀g l E,Ch.blk g l E∈ls→J g=some (.cells l.toArray E (0,0)))∧St J w0 w (rn++ [Ch.fr I cs]) ∧
  ∀w' ds,Ch.deeps ds→St J w0 w' (ds++ [Ch.fr I cs])→St I w0 w' (ds++(ls++cs)):=by
 obtain ⟨hb,hi,F,h1,h2,h3⟩:=h
 obtain ⟨G,K,rfl,e2,e3⟩:=h1.split
 obtain ⟨n1,n2,n3⟩:=List.nodup_append.1 h2
 let J:Hp:=fun b=>if b∈G then w.heap[b]? else I b
 have hIJ:I.le J:=fun b o hb'=>by
  show (if b∈G then w.heap[b]? else I b)=some o
  split
  ·exact hi b o hb'
  ·exact hb'
 have hJG: ∀b,b∈G→J b=w.heap[b]? :=fun b hb'=>if_pos hb'
 have hJn: ∀b,b∉G→J b=I b:=fun b hb'=>if_neg hb'
 have hmem: ∀ {ls:List Ch} {G:List Nat} {c:Ch},Sep I ls w G→c∈ls→ ∃G',(∀b,b∈G'→b∈G)∧c.holds I w G':=by
  intro ls
  induction ls with
  | nil=>intro G c _ hc;cases hc
  | cons d ls ih =>
   rintro G c ⟨G1,K1,rfl,e,e'⟩ hc
   rcases List.mem_cons.1 hc with rfl | hc
   ·exact ⟨G1,fun b hb=>List.mem_append_left _ hb,e⟩
   ·obtain ⟨G',f1,f2⟩:=ih e' hc
    exact ⟨G',fun b hb=>List.mem_append_right _ (f1 b hb),f2⟩
 obtain ⟨K1,K2,rfl,g1,g2⟩:=e3.split
 refine ⟨J,hIJ,fun R v a hm=>?_,fun g l E hm=>?_,⟨hb,fun b o hb'=>?_,K1++K2,(g1.mono hIJ).append ⟨K2,[],by simp,g2,rfl⟩,n2,fun b hb'=>?_⟩,?_⟩
 ·obtain ⟨G',f1,f2⟩:=hmem e2 hm
  exact R.own_rd f2 hIJ fun b hb=>hJG b (f1 b hb)
 ·obtain ⟨G',f1,f2,f3⟩:=hmem e2 hm
  subst f2
  rw[hJG g (f1 g (by simp))];exact f3
 ·by_cases hg:b∈G
  ·rw[hJG b hg] at hb';exact hb'
  ·rw[hJn b hg] at hb';exact hi b o hb'
 ·rw[hJn b fun hg=>n3 b hg b hb' rfl];exact h3 b (List.mem_append_right _ hb')
 ·rintro w' ds hd ⟨kb,ki,F',k1,k2,k3⟩
  obtain ⟨F1,F2,rfl,q1,F3,F4,rfl,q4,rfl⟩:=k1.split
  have hl2:=e2.live
  have hlv: ∀b,b∈G→w'.heap[b]? =w.heap[b]? :=fun b hg=>by
   obtain ⟨o,ho⟩: ∃o,w.heap[b]? =some o:=⟨_,Array.getElem?_eq_getElem (hl2 b hg)⟩
   rw[ho]
   exact ki b o (by rw[hJG b hg];exact ho)
  have hgd: ∀b,b∈G→b∉F1++(F3++ []):=fun b hg hf=>by
   have:=k3 b hf
   rw[hJG b hg,Array.getElem?_eq_getElem (hl2 b hg)] at this
   cases this
  rw[List.append_nil] at k2 k3 hgd
  refine ⟨kb,hIJ.trans ki,F1++(G++F3),(q1.deeps hd).append ((e2.stay hlv).append q4),?_,fun b hb'=>?_⟩
  ·have hp:(F1++(G++F3)).Perm (G++(F1++F3)):=List.perm_append_comm_assoc _ _ _
   exact hp.nodup_iff.2 (List.nodup_append.2 ⟨n1,k2,fun b hb1 c hb2 hbc=>hgd b hb1 (hbc ▸ hb2)⟩)
  ·have hb'':b∈G∨b∈F1++F3:=by simp at hb'⊢;rcases hb' with h | h | h <;> simp[h]
   rcases hb'' with h | h
   ·exact h3 b (List.mem_append_left _ h)
   ·have:=k3 b h
    rw[hJn b fun hg=>hgd b hg h] at this
    exact this
theorem vd {ls rn:List Ch} {fact:Value→Prop} {gv:Value→List Ch} (hd: ∀v,Ch.deeps (gv v))
  (h: ∀J,I.le J→(∀ {α:Type} (R:Rep α) (v:List Value) (a:α),Ch.own R v a∈ls→R.rd J v a)→(∀g l E,Ch.blk g l E∈ls→J g=some (.cells l.toArray E (0,0)))→OpT P J w0 o ev rn fact gv):OpT P I w0 o ev (ls++rn) fact (fun v=>ls++gv v):=by
 intro w C hs
 rw[List.append_assoc] at hs
 obtain ⟨J,h1,h2,h3,h4,h5⟩:=Il hs
 refine (h J h1 h2 h3 w _ h4).imp fun v w' hv=>⟨hv.1,?_⟩
 have:=h5 w' _ (hd v) hv.2
 refine this.perm ?_
 rw[List.append_assoc]
 exact List.perm_append_comm_assoc _ _ _
end
def NW (chs:List Ent) (E:TypeId) (t:Ty) (x:LV):Option (List t.den×List Hdr):=match x with
 | .own h=>(rowOf h chs).bind fun q=>(nV (.sl q.E q.t) (.sl E t) q.xs).bind fun d=>some (d,[h])
 | x=>(Ll E t x).bind fun d=>some (d,[])
def gu (chs:List Ent):(t:Ty)→List LV→Option (t.den×List LV×List Hdr)
 | .prod a b,l=>(gu chs a l).bind fun x=>(gu chs b x.2.1).bind fun y=>some ((x.1,y.1),y.2.1,x.2.2++y.2.2)
 | .sl E t,l=>match l with
  | x::r=>(NW chs E t x).bind fun q=>some (q.1,r,q.2)
  | [] =>none
 | .fro t,l=>gu chs t l
 | .wr t,l=>gu chs t l
 | .int k,l=>(cM (.int k) l).bind fun x=>some (x.1,x.2,[])
 | .bool,l=>(cM .bool l).bind fun x=>some (x.1,x.2,[])
 | .str,l=>(cM .str l).bind fun x=>some (x.1,x.2,[])
 | .raw,_=>none
 | .tree T E t,l=>(cM (.tree T E t) l).bind fun x=>some (x.1,x.2,[])
def QW (h:Hdr) (chs:List Ent):Option Blk:=(sZ h chs).bind fun b=>bp (Bk h b.rest) (some b)
theorem Im {h:Hdr} {chs:List Ent} {b:Blk} (k:QW h chs=some b):sZ h chs=some b∧ ∀e∈b.rest,e.1≠h:=by
 obtain ⟨b',hb,k⟩:=bind_some k
 obtain ⟨h1,k⟩:=ah k
 obtain rfl:=Option.some.inj k
 exact ⟨hb,fun e he=>nr h1 he⟩
def Lent (J:Hp) (θ:Th) (chs:List Ent) (hs:List Hdr):Prop:= ∀h∈hs,(∀q,rowOf h chs=some q→(Ty.sl q.E q.t).rep.rd J [hv θ h] q.xs)∧ ∀b,QW h chs=some b→J (bk (hv θ h))=some (.cells (b.cells.map (·.v θ)).toArray b.T (0,0))
theorem Lent.l {J:Hp} {θ:Th} {chs:List Ent} {a b:List Hdr} (h:Lent J θ chs (a++b)):Lent J θ chs a:=fun x hx=>h x (List.mem_append_left _ hx)
theorem Lent.r {J:Hp} {θ:Th} {chs:List Ent} {a b:List Hdr} (h:Lent J θ chs (a++b)):Lent J θ chs b:=fun x hx=>h x (List.mem_append_right _ hx)
theorem nt {P:Program} {w0:World} {J:Hp} {θ:Th} {n:Nat} {chs:List Ent} : ∀ {t:Ty} {cs:List LV} {r:t.den×List LV×List Hdr},gu chs t cs=some r→(∀x∈cs,x.ok P w0 J θ n)→Lent J θ chs r.2.2→ ∃c1,cs=c1++r.2.1∧t.rep.rd J (c1.map (·.v θ)) r.1:=by
 intro t
 induction t with
 | prod a b iha ihb =>
  intro cs r h hc hl
  obtain ⟨x,hx,h⟩:=bind_some (show (gu chs a cs).bind _=some r from h)
  obtain ⟨y,hy,h⟩:=bind_some h
  obtain rfl:=Option.some.inj h
  obtain ⟨c1,rfl,k1⟩:=iha hx hc hl.l
  obtain ⟨c2,e2,k2⟩:=ihb hy (fun z hz=>hc z (List.mem_append_right _ hz)) hl.r
  exact ⟨c1++c2,by rw[e2,List.append_assoc],c1.map (·.v θ),c2.map (·.v θ),by rw[List.map_append],k1,k2⟩
 | sl E t ih =>
  intro cs r h hc hl
  cases cs with
  | nil=>cases h
  | cons x l =>
   obtain ⟨q,hq,h⟩:=bind_some (show (NW chs E t x).bind _=some r from h)
   obtain rfl:=Option.some.inj h
   refine ⟨[x],rfl,?_⟩
   cases x with
   | own h' =>
    obtain ⟨z,hz,hq⟩:=bind_some (show (rowOf h' chs).bind _=some q from hq)
    obtain ⟨d,hd,hq⟩:=bind_some hq
    obtain rfl:=Option.some.inj hq
    exact jZ hd ((hl h' (by simp)).1 z hz)
   | rd h2 t2 d2 =>
    obtain ⟨d,hd,hq⟩:=bind_some (show (Ll E t (.rd h2 t2 d2)).bind _=some q from hq)
    obtain rfl:=Option.some.inj hq
    exact vD hd (hc _ (by simp))
   | val v =>
    obtain ⟨d,hd,hq⟩:=bind_some (show (Ll E t (.val v)).bind _=some q from hq)
    obtain rfl:=Option.some.inj hq
    exact vD hd (hc _ (by simp))
   | nb _=>cases (show none=some q from hq)
   | ptr _ _=>cases (show none=some q from hq)
   | fn _ _ _ _=>cases (show none=some q from hq)
   | fz _ _ _ _ _=>cases (show none=some q from hq)
   | fzf _ _ _ _ _=>cases (show none=some q from hq)
   | rdn _ _ _ _=>cases (show none=some q from hq)
 | fro t ih =>
  intro cs r h hc hl
  exact ih (show gu chs t cs=some r from h) hc hl
 | wr t ih =>
  intro cs r h hc hl
  exact ih (show gu chs t cs=some r from h) hc hl
 | int k =>
  intro cs r h hc hl
  obtain ⟨x,hx,h⟩:=bind_some (show (cM _ cs).bind _=some r from h)
  obtain rfl:=Option.some.inj h
  exact ff hx hc
 | bool =>
  intro cs r h hc hl
  obtain ⟨x,hx,h⟩:=bind_some (show (cM _ cs).bind _=some r from h)
  obtain rfl:=Option.some.inj h
  exact ff hx hc
 | raw =>
  intro cs r h hc hl
  cases (show none=some r from h)
 | str =>
  intro cs r h hc hl
  obtain ⟨x,hx,h⟩:=bind_some (show (cM _ cs).bind _=some r from h)
  obtain rfl:=Option.some.inj h
  exact ff hx hc
 | tree T E t ih =>
  intro cs r h hc hl
  obtain ⟨x,hx,h⟩:=bind_some (show (cM _ cs).bind _=some r from h)
  obtain rfl:=Option.some.inj h
  exact ff hx hc
def EX (chs:List Ent) (t:Ty) (v:AV):Option (t.den×List Hdr):=match v,t.isProd with
 | .agg cs,true=>(gu chs t cs).bind fun r=>bp r.2.1.isEmpty (some (r.1,r.2.2))
 | .one x,false=>(gu chs t [x]).bind fun r=>bp r.2.1.isEmpty (some (r.1,r.2.2))
 | _,_=>none
theorem Bt {P:Program} {w0:World} {J:Hp} {θ:Th} {n:Nat} {chs:List Ent} {t:Ty} {v:AV} {r:t.den×List Hdr} (h:EX chs t v=some r) (hv':v.ok P w0 J θ n chs) (hl:Lent J θ chs r.2): ∃cs,Lds t.isProd cs (v.v θ)∧t.rep.rd J cs r.1:=by
 unfold EX at h
 split at h
 ·rename_i cs hb
  obtain ⟨q,hq,h⟩:=bind_some h
  obtain ⟨he,h⟩:=ah h
  obtain rfl:=Option.some.inj h
  obtain ⟨c1,e,k⟩:=nt hq hv' hl
  rw[List.isEmpty_iff.1 he,List.append_nil] at e
  subst e
  exact ⟨_,by rw[hb];rfl,k⟩
 ·rename_i x hb
  obtain ⟨q,hq,h⟩:=bind_some h
  obtain ⟨he,h⟩:=ah h
  obtain rfl:=Option.some.inj h
  obtain ⟨c1,e,k⟩:=nt hq (fun y hy=>by obtain rfl:=List.mem_singleton.1 hy;exact hv') hl
  rw[List.isEmpty_iff.1 he,List.append_nil] at e
  subst e
  exact ⟨_,by rw[hb];rfl,k⟩
 ·cases h
def Bu (ps rs ps' rs':List Ty) (e:cur ps (Option (dens rs))):Option (cur ps' (Option (dens rs'))):=if h:ps=ps'∧rs=rs' then some (h.1 ▸ h.2 ▸ e) else none
theorem Bv {ps rs ps' rs':List Ty} {e:cur ps (Option (dens rs))} {e':cur ps' (Option (dens rs'))} (h:Bu ps rs ps' rs' e=some e') {P:Program} {w0:World} {J:Hp} {v:Value} (hf:FnOk P w0 J v ps rs e):FnOk P w0 J v ps' rs' e':=by
 unfold Bu at h
 split at h
 ·rename_i hh
  obtain ⟨rfl,rfl⟩:=hh
  obtain rfl:=Option.some.inj h
  exact hf
 ·cases h
structure FnR (a b:List Ty) where
 e:cur a (Option (dens b))
 lent:List Hdr
structure CapR (p:PM) where
 d:p.den
 lent:List Hdr
section
variable (ft:FT) (chs:List Ent)
def PA (rec:(a b:List Ty)→LV→Option (FnR a b)):(p:PM)→LV→Option (CapR p)
 | .cap T t,x=>match x with
  | .ptr h off=>bp (Nat.beq off 0) ((QW h chs).bind fun b=>bp (Nat.beq b.T T) ((gu chs t b.cells).bind fun r=>bp r.2.1.isEmpty (some ⟨r.1,h::r.2.2⟩)))
  | .fz h T' t' d off=>bp (Nat.beq off 0&&Nat.beq T' T) ((nV t' t d).bind fun d=>some ⟨d,[]⟩)
  | _=>none
 | .capf T a b,x=>match x with
  | .ptr h off=>bp (Nat.beq off 0) ((QW h chs).bind fun bl=>bp (Nat.beq bl.T T) (match bl.cells with
   | [y] =>(rec a b y).bind fun r=>some ⟨r.e,h::r.lent⟩
   | _=>none))
  | .fzf h T' a' b' e=>bp (Nat.beq T' T) ((Bu a' b' a b e).bind fun e=>some ⟨e,[]⟩)
  | _=>none
 | _,_=>none
def Io (rec:(a b:List Ty)→LV→Option (FnR a b)):(qs:List PM)→List LV→Option (denP qs×List Hdr)
 | [],[] =>some ((),[])
 | q::qs,x::xs=>(PA chs rec q x).bind fun r=>(Io rec qs xs).bind fun s=>some ((r.d,s.1),r.lent++s.2)
 | _,_=>none
def Dm:(ts:List Ty)→List (Bool×List LV)→Option (fZ ts×List Hdr)
 | [],[] =>some ((),[])
 | t::ts,y::ys=>bp (y.1==t.isProd) ((gu chs t y.2).bind fun r=>bp (r.2.1.isEmpty&&(y.1 || Nat.beq y.2.length 1)) ((Dm ts ys).bind fun q=>some ((r.1,q.1),r.2.2++q.2)))
 | _,_=>none
end
def PB:List PM→Option (List Ty)
 | [] =>some []
 | .rd t::ps=>(PB ps).bind fun ts=>some (t::ts)
 | _=>none
def rds:List Ty→List PM→List PM
 | [],qs=>qs
 | t::ts,qs=>.rd t::rds ts qs
def Lp:(ts:List Ty)→(qs:List PM)→fZ ts→denP qs→denP (rds ts qs)
 | [],_,_,e=>e
 | _::ts,qs,d,e=>(d.1,Lp ts qs d.2 e)
def Lq {R:Type} :(a:List Ty)→(fZ a→R)→cur a R
 | [],g=>g ()
 | _::a,g=>fun x=>Lq a fun d=>g (x,d)
theorem Bw {R:Type} : ∀(a:List Ty) (g:fZ a→R) (d:fZ a),app a (Lq a g) d=g d
 | [],_,_=>rfl
 | _::a,g,d=>Bw a (fun x=>g (d.1,x)) d.2
def Lr:PM→Bool
 | .cap _ _=>true
 | .capf _ _ _=>true
 | _=>false
def rN:List PM→Bool
 | [] =>true
 | p::ps=>Lr p&&rN ps
def Rw (chs:List Ent) (rec:(a b:List Ty)→LV→Option (FnR a b)) (a b:List Ty) (f:FS) (r1:List Ty) (qs:List PM) (first:List (Bool×List LV)) (capt:List LV):Option (FnR a b):=
 if h:f.ps=rds r1 (rds a qs)∧f.rs++outs f.ps=b then
  (Dm chs r1 first).bind fun d1=>(Io chs rec qs capt).bind fun dc =>
   some ⟨Lq a fun x=>h.2 ▸ appP f.ps f.m (h.1 ▸ Lp r1 (rds a qs) d1.1 (Lp a qs x dc.1)),d1.2++dc.2⟩
 else none
def SF (ft:FT) (chs:List Ent) (rec:(a b:List Ty)→LV→Option (FnR a b)) (a b:List Ty) (k:FuncId) (first:List (Bool×List LV)) (capt:List LV):Option (FnR a b):=(fs ft k).bind fun f=>(PB (f.ps.take first.length)).bind fun r1 =>
 bp (!f.ov&&rN (f.ps.drop (first.length+a.length))) (Rw chs rec a b f r1 (f.ps.drop (first.length+a.length)) first capt)
def Ls (h:Hdr) (chs:List Ent):Option (FuncId×List (Bool×List LV)×List LV):=(pull h chs).bind fun r=>match r.1.2.2 with
 | .clo k first capt=>some (k,first,capt)
 | _=>none
def PC (ft:FT) (chs:List Ent):Nat→(a b:List Ty)→LV→Option (FnR a b)
 | 0,_,_,_=>none
 | n+1,a,b,x=>match x with
  | .fn h a' b' e=>(Bu a' b' a b e).bind fun e=>some ⟨e,[]⟩
  | .own h=>(Ls h chs).bind fun q=>SF ft chs (PC ft chs n) a b q.1 q.2.1 q.2.2
  | .val v=>match v with
   | .func (.func k) f c=>bp (f.toList.isEmpty&&c.toList.isEmpty) (SF ft chs (PC ft chs n) a b k [] [])
   | _=>none
  | _=>none
section
variable {P:Program} {w0:World} {J J':Hp} {θ:Th} {n:Nat} {chs chs0:List Ent} {ft:FT}
theorem Bx: ∀(rs us:List Ty) (i:Nat) (d:fZ (rs++us)) (v:Value),us= [] →rH i (rs++us) d v=rH i rs (hFst rs us d) v
 | [],us,i,d,v,h=>by subst h;rfl
 | t::rs,us,i,d,v,h=>by
  show Ch.own _ _ _::rH (i+1) (rs++us) d.2 v=Ch.own _ _ _::rH (i+1) rs (hFst rs us d.2) v
  rw[Bx rs us (i+1) d.2 v h];rfl
theorem Ip (rs us:List Ty) (d:fZ (rs++us)) (v:Value) (h:us= []):resGv (rs++us) d v=resGv rs (hFst rs us d) v:=by
 match rs,d with
 | [],d=>subst h;rfl
 | [t],d=>subst h;rfl
 | t::u::rs,d=>exact Bx (t::u::rs) us 0 d v h
theorem Iq (rs us:List Ty) (v:Value) (h:us= []):resFa rs v→resFa (rs++us) v:=by
 subst h
 rw[List.append_nil]
 exact id
theorem zI {qs:List PM} : ∀ts:List Ty,outs (rds ts qs)=outs qs
 | [] =>rfl
 | _::ts=>zI ts
theorem Lt {qs:List PM} :rN qs=true→outs qs= []:=by
 induction qs with
 | nil=>intro _;rfl
 | cons q qs ih =>
  intro h
  have h:(Lr q&&rN qs)=true:=h
  rw[Bool.and_eq_true] at h
  cases q with
  | cap _ _=>exact ih h.2
  | capf _ _ _=>exact ih h.2
  | _=>cases h.1
theorem zJ {qs:List PM} : ∀(ts:List Ty) (vs us:List Value) (d:fZ ts) (e:denP qs),vs.length=ts.length→owCh (rds ts qs) (vs++us) (Lp ts qs d e)=owCh qs us e
 | [],[],us,d,e,_=>rfl
 | _::ts,v::vs,us,d,e,h=>zJ ts vs us d.2 e (by simpa using h)
 | [],_::_,_,_,_,h=>by cases h
 | _::_,[],_,_,_,h=>by cases h
theorem Lu {qs:List PM} : ∀(us:List Value) (e:denP qs),rN qs=true→owCh qs us e= []:=by
 induction qs with
 | nil=>intro us e _;cases us <;> rfl
 | cons q qs ih =>
  intro us e h
  cases us with
  | nil=>rfl
  | cons u us =>
   have h:(Lr q&&rN qs)=true:=h
   rw[Bool.and_eq_true] at h
   cases q with
   | cap _ _=>exact ih us e.2 h.2
   | capf _ _ _=>exact ih us e.2 h.2
   | _=>cases h.1
theorem By {qs:List PM} {us:List Value} : ∀(ts:List Ty) (vs:List Value),vs.length=ts.length→rN qs=true→ ∀d:fZ (outs (rds ts qs)),outCh (rds ts qs) (vs++us) d= []
 | [],[],_,h=>fun d=>by
  have key: ∀ {qs:List PM} (us:List Value) (d:fZ (outs qs)),rN qs=true→outCh qs us d= []:=by
   intro qs
   induction qs with
   | nil=>intro us d _;cases us <;> rfl
   | cons q qs ih =>
    intro us d h
    cases us with
    | nil=>rfl
    | cons u us =>
     have h:(Lr q&&rN qs)=true:=h
     rw[Bool.and_eq_true] at h
     cases q with
     | cap _ _=>exact ih us d h.2
     | capf _ _ _=>exact ih us d h.2
     | _=>cases h.1
  exact key us d h
 | _::ts,v::vs,hl,h=>fun d=>By ts vs (by simpa using hl) h d
 | [],_::_,h,_=>by cases h
 | _::_,[],h,_=>by cases h
theorem vM {qs:List PM} {us:List Value} {e:denP qs} (h:PArgs P w0 J qs us e): ∀ {ts:List Ty} {vs:List Value} {d:fZ ts},HV J ts vs d→PArgs P w0 J (rds ts qs) (vs++us) (Lp ts qs d e)∧vs.length=ts.length
 | [],vs,d,hr=>by
  have hr:vs= []:=hr
  subst hr
  exact ⟨h,rfl⟩
 | t::ts,vs,d,hr=>by
  obtain ⟨v,cs,r,rfl,k1,k2,k3⟩:=hr
  obtain ⟨q1,q2⟩:=vM h k3
  exact ⟨⟨v,r++us,rfl,⟨cs,k1,k2⟩,q1⟩,by simpa using q2⟩
theorem EY {h:Hdr} {b:Blk} (k:QW h chs=some b) (hc: ∀e∈chs,okE P w0 J θ n chs0 e):okE P w0 J θ n chs0 (b.ent h):=hc _ ((kK (Im k).1).mem_iff.2 (List.mem_cons_self ..))
theorem Lv {rec:(a b:List Ty)→LV→Option (FnR a b)} (hrec: ∀a b x r,rec a b x=some r→x.ok P w0 J θ n→Lent J' θ chs r.lent→FnOk P w0 J' (x.v θ) a b r.e) (hJ:J.le J') (hc: ∀e∈chs,okE P w0 J θ n chs0 e) {p:PM} {x:LV} {r:CapR p} (h:PA chs rec p x=some r) (hx:x.ok P w0 J θ n) (hl:Lent J' θ chs r.lent):Te P w0 J' p (x.v θ) r.d:=by
 cases p with
 | cap T t =>
  cases x with
  | ptr hh off =>
   obtain ⟨ho,h⟩:=ah (show bp (Nat.beq off 0) _=some r from h)
   obtain ⟨b,hb,h⟩:=bind_some h
   obtain ⟨hT,h⟩:=ah h
   obtain ⟨q,hq,h⟩:=bind_some h
   obtain ⟨he,h⟩:=ah h
   obtain rfl:=Option.some.inj h
   obtain rfl:=Nat.eq_of_beq_eq_true ho
   have hT:=Nat.eq_of_beq_eq_true hT
   have hk:=(hl hh (by simp)).2 b hb
   have hbo:=EY (P:=P) (w0:=w0) (J:=J) (n:=n) hb hc
   obtain ⟨c1,e1,k⟩:=nt (J:=J') hq (fun x hx=>LV.ok_same Same.rfl (Nat.le_refl _) (hbo.2.2 x hx) hJ) (fun y hy=>hl y (by simp[hy]))
   rw[List.isEmpty_iff.1 he,List.append_nil] at e1
   subst e1
   exact ⟨_,rfl,_,by rw[←hT];exact hk,k⟩
  | fz hh T' t' d off =>
   obtain ⟨ho,h⟩:=ah (show bp (Nat.beq off 0&&Nat.beq T' T) _=some r from h)
   rw[Bool.and_eq_true] at ho
   obtain ⟨d',hd,h⟩:=bind_some h
   obtain rfl:=Option.some.inj h
   obtain rfl:=Nat.eq_of_beq_eq_true ho.1
   obtain rfl:=Nat.eq_of_beq_eq_true ho.2
   obtain ⟨h1,cells,h2,h3⟩:=hx
   exact ⟨_,rfl,cells,hJ _ _ h2,jZ hd (Rep.rd_mono _ h3 hJ)⟩
  | _=>cases h
 | capf T a b =>
  cases x with
  | ptr hh off =>
   obtain ⟨ho,g1⟩:=ah (show bp (Nat.beq off 0) _=some r from h)
   obtain ⟨bl,hb,g2⟩:=bind_some g1
   obtain ⟨hT,g3⟩:=ah g2
   clear h g1 g2
   obtain rfl:=Nat.eq_of_beq_eq_true ho
   have hT:=Nat.eq_of_beq_eq_true hT
   have hbo:=EY (P:=P) (w0:=w0) (J:=J) (n:=n) hb hc
   split at g3
   ·rename_i y hy
    obtain ⟨q,hq,g4⟩:=bind_some g3
    obtain rfl:=Option.some.inj g4
    have hk:=(hl hh (by simp)).2 bl hb
    rw[hy] at hk
    exact ⟨_,rfl,_,by rw[←hT];exact hk,hrec a b y q hq (hbo.2.2 y (by show y∈bl.cells;rw[hy];simp)) fun z hz=>hl z (by simp[hz])⟩
   ·cases g3
  | fzf hh T' a' b' e =>
   obtain ⟨ho,h⟩:=ah (show bp (Nat.beq T' T) _=some r from h)
   obtain ⟨e',he,h⟩:=bind_some h
   obtain rfl:=Option.some.inj h
   obtain rfl:=Nat.eq_of_beq_eq_true ho
   obtain ⟨h1,u,h2,h3⟩:=hx
   exact ⟨_,rfl,u,hJ _ _ h2,(Bv he h3).mono hJ⟩
  | _=>cases h
 | _=>cases h
theorem Bz {rec:(a b:List Ty)→LV→Option (FnR a b)} (hrec: ∀a b x r,rec a b x=some r→x.ok P w0 J θ n→Lent J' θ chs r.lent→FnOk P w0 J' (x.v θ) a b r.e) (hJ:J.le J') (hc: ∀e∈chs,okE P w0 J θ n chs0 e): ∀ {qs:List PM} {xs:List LV} {r:denP qs×List Hdr},Io chs rec qs xs=some r→(∀x∈xs,x.ok P w0 J θ n)→Lent J' θ chs r.2→PArgs P w0 J' qs (xs.map (·.v θ)) r.1
 | [],[],r,h,_,_=>by obtain rfl:=Option.some.inj (show some _=some r from h);exact Eq.refl _
 | q::qs,x::xs,r,h,hx,hl=>by
  obtain ⟨a,ha,h⟩:=bind_some (show (PA chs rec q x).bind _=some r from h)
  obtain ⟨s,hs,h⟩:=bind_some h
  obtain rfl:=Option.some.inj h
  exact ⟨_,_,rfl,Lv hrec hJ hc ha (hx x (by simp)) hl.l,Bz hrec hJ hc hs (fun y hy=>hx y (by simp[hy])) hl.r⟩
 | [],_::_,r,h,_,_=>by cases h
 | _::_,[],r,h,_,_=>by cases h
theorem yu (hJ:J.le J'): ∀ {ts:List Ty} {ys:List (Bool×List LV)} {r:fZ ts×List Hdr},Dm chs ts ys=some r→(∀y∈ys,∀x∈y.2,x.ok P w0 J θ n)→Lent J' θ chs r.2→HV J' ts (ys.map (iu θ)) r.1
 | [],[],r,h,_,_=>by obtain rfl:=Option.some.inj (show some _=some r from h);exact Eq.refl _
 | t::ts,y::ys,r,h,hy,hl=>by
  obtain ⟨hg,h⟩:=ah (show bp (y.1==t.isProd) _=some r from h)
  obtain ⟨a,ha,h⟩:=bind_some h
  obtain ⟨he,h⟩:=ah h
  obtain ⟨q,hq,h⟩:=bind_some h
  obtain rfl:=Option.some.inj h
  rw[Bool.and_eq_true] at he
  have hg:y.1=t.isProd:=by simpa using hg
  obtain ⟨c1,e1,k⟩:=nt (J:=J') ha (fun x hx=>LV.ok_same Same.rfl (Nat.le_refl _) (hy y (by simp) x hx) hJ) hl.l
  rw[List.isEmpty_iff.1 he.1,List.append_nil] at e1
  refine ⟨_,y.2.map (·.v θ),_,rfl,?_,by rw[e1];exact k,yu hJ hq (fun z hz=>hy z (by simp[hz])) hl.r⟩
  obtain ⟨yb,yl⟩:=y
  simp only at hg he
  subst hg
  cases hb:t.isProd with
  | true=>show iu θ (true,yl)=_;rfl
  | false =>
   rw[hb] at he
   have hlen:yl.length=1:=Nat.eq_of_beq_eq_true (by simpa using he.2)
   obtain ⟨x,rfl⟩:=List.length_eq_one_iff.1 hlen
   rfl
 | [],_::_,r,h,_,_=>by cases h
 | _::_,[],r,h,_,_=>by cases h
theorem Ir (hF:FTok P ft) {rec:(a b:List Ty)→LV→Option (FnR a b)} (hrec: ∀a b x r,rec a b x=some r→x.ok P w0 J θ n→ ∀J',J.le J'→Lent J' θ chs r.lent→FnOk P w0 J' (x.v θ) a b r.e) (hJ:J.le J') (hc: ∀e∈chs,okE P w0 J θ n chs0 e) {a b:List Ty} {k:FuncId} {first:List (Bool×List LV)} {capt:List LV} {r:FnR a b} (h:SF ft chs rec a b k first capt=some r)
  (h1: ∀y∈first,∀x∈y.2,x.ok P w0 J θ n) (h2: ∀x∈capt,x.ok P w0 J θ n) (hl:Lent J' θ chs r.lent):FnOk P w0 J' (.func (.func k) (first.map (iu θ)).toArray (capt.map (·.v θ)).toArray) a b r.e:=by
 obtain ⟨f,hf,h⟩:=bind_some h
 obtain ⟨r1,hr1,h⟩:=bind_some h
 obtain ⟨hcap,h⟩:=ah h
 rw[Bool.and_eq_true] at hcap
 have hov:f.ov=false:=by simpa using hcap.1
 replace hcap:=hcap.2
 have hfo:=hF.get hf
 have hen:=hfo.en hov
 clear hov
 generalize f.ps.drop (first.length+a.length)=qs at h hcap
 unfold Rw at h
 split at h
 ·rename_i hh
  obtain ⟨d1,hd1,h⟩:=bind_some h
  obtain ⟨dc,hdc,h⟩:=bind_some h
  obtain rfl:=Option.some.inj h
  clear hf hr1
  obtain ⟨ps,rs,m⟩:=f
  obtain ⟨e1,e2⟩:=hh
  simp only at e1 e2
  subst e1
  subst e2
  refine ⟨k,_,_,rfl,hen,fun J2 hJ2 args d hargs q hq=>?_⟩
  have hl2:Lent J2 θ chs (d1.2++dc.2):=fun x hx=>⟨fun z hz=>Rep.rd_mono _ ((hl x hx).1 z hz) hJ2,fun z hz=>hJ2 _ _ ((hl x hx).2 z hz)⟩
  have k1:=yu (hJ.trans hJ2) hd1 h1 hl2.l
  have k2:=Bz (fun a b x r hr hx hlx=>hrec a b x r hr hx J2 (hJ.trans hJ2) hlx) (hJ.trans hJ2) hc hdc h2 hl2.r
  obtain ⟨k3,k4⟩:=vM k2 hargs
  obtain ⟨k5,k6⟩:=vM k3 k1
  have hq:app a (Lq a fun x=>appP _ m (Lp r1 (rds a qs) d1.1 (Lp a qs x dc.1))) d=some q:=hq
  rw[Bw] at hq
  have hcon:=hfo.con w0 J2 _ _ q k5 hq
  have hou:outs (rds r1 (rds a qs))= []:=by rw[zI,zI];exact Lt hcap
  have how:owCh (rds r1 (rds a qs)) ((first.map (iu θ))++(args++capt.map (·.v θ))) (Lp r1 (rds a qs) d1.1 (Lp a qs d dc.1))= []:=by
   rw[zJ _ _ _ _ _ k6,zJ _ _ _ _ _ k4];exact Lu _ _ hcap
  have hout: ∀z,outCh (rds r1 (rds a qs)) ((first.map (iu θ))++(args++capt.map (·.v θ))) z= []:=by
   intro z
   have hrd: ∀(x y:List Ty),rds x (rds y qs)=rds (x++y) qs:=by
    intro x y
    induction x with
    | nil=>rfl
    | cons t x ih=>exact congrArg (PM.rd t:: ·) ih
   have key: ∀(X:List PM),X=rds (r1++a) qs→ ∀z:fZ (outs X),outCh X ((first.map (iu θ))++(args++capt.map (·.v θ))) z= []:=by
    rintro X rfl z
    rw[←List.append_assoc]
    exact By (r1++a) _ (by rw[List.length_append,List.length_append,k6,k4]) hcap z
   exact key _ (hrd r1 a) z
  rw[how] at hcon
  intro w C hS
  have hS':=hcon w C hS
  have hargs':((first.map (iu θ))++(args++capt.map (·.v θ))).toArray=((first.map (iu θ)).toArray.toList++args++(capt.map (·.v θ)).toArray.toList).toArray:=by simp
  rw[hargs'] at hS'
  refine hS'.mono fun e w' ⟨v,he,hfa,hst⟩=>⟨v,he,Iq _ _ v hou hfa,?_⟩
  have e3:=Ip rs (outs (rds r1 (rds a qs))) (toH _ q) v hou
  show St J2 w0 w' (resGv (rs++outs (rds r1 (rds a qs))) (toH _ q) v++C)
  rw[e3]
  have hst:St J2 w0 w' ((resGv rs (hFst rs (outs (rds r1 (rds a qs))) (toH _ q)) v++outCh _ _ _)++C):=hst
  rw[hout,List.append_nil] at hst
  exact hst
 ·cases h
theorem Lw {h:Hdr} {q:FuncId×List (Bool×List LV)×List LV} (k:Ls h chs=some q): ∃ver,(h,ver,Chk.clo q.1 q.2.1 q.2.2)∈chs:=by
 obtain ⟨r,hr,k⟩:=bind_some k
 obtain ⟨p,e⟩:=fe hr
 obtain ⟨⟨h',ver,c⟩,rest⟩:=r
 obtain rfl:h'=h:=e
 cases c with
 | clo f first capt =>
  obtain rfl:=Option.some.inj (show some _=some q from k)
  exact ⟨ver,p.mem_iff.2 (List.mem_cons_self ..)⟩
 | _=>cases k
theorem Dn (hF:FTok P ft) (hc: ∀e∈chs,okE P w0 J θ n chs0 e): ∀ {m:Nat} {a b:List Ty} {x:LV} {r:FnR a b},PC ft chs m a b x=some r→x.ok P w0 J θ n→ ∀J',J.le J'→Lent J' θ chs r.lent→FnOk P w0 J' (x.v θ) a b r.e
 | 0,_,_,_,_,h,_,_,_,_=>by cases h
 | m+1,a,b,x,r,h,hx,J',hJ,hl=>by
  have hrec: ∀a b x r,PC ft chs m a b x=some r→x.ok P w0 J θ n→ ∀J',J.le J'→Lent J' θ chs r.lent→FnOk P w0 J' (x.v θ) a b r.e:=fun a b x r h hx J' hJ hl=>Dn hF hc h hx J' hJ hl
  cases x with
  | fn hh a' b' e =>
   obtain ⟨e',he,h⟩:=bind_some (show (Bu a' b' a b e).bind _=some r from h)
   obtain rfl:=Option.some.inj h
   exact (Bv he hx.2).mono hJ
  | own hh =>
   obtain ⟨q,hq,h⟩:=bind_some (show (Ls hh chs).bind _=some r from h)
   obtain ⟨ver,hm⟩:=Lw hq
   obtain ⟨-,-,k1,k2,k3⟩:=hc _ hm
   have:=Ir hF hrec hJ hc h k1 k2 hl
   show FnOk P w0 J' (hv θ hh) a b r.e
   rw[show hv θ hh=_ from k3];exact this
  | val v =>
   cases v with
   | func fk f c =>
    cases fk with
    | func k =>
     obtain ⟨he,h⟩:=ah (show bp (f.toList.isEmpty&&c.toList.isEmpty) (SF ft chs (PC ft chs m) a b k [] [])=some r from h)
     rw[Bool.and_eq_true,List.isEmpty_iff,List.isEmpty_iff] at he
     have:=Ir hF hrec hJ hc h (fun y hy=>by cases hy) (fun y hy=>by cases hy) hl
     have e1:f= #[]:=by simpa using he.1
     have e2:c= #[]:=by simpa using he.2
     subst e1
     subst e2
     exact this
    | _=>cases h
   | _=>cases h
  | _=>cases h
end
def zK:List Hdr→List Ent→Option (List Ent×List Ent)
 | [],chs=>some ([],chs)
 | h::hs,chs=>(pull h chs).bind fun r=>(zK hs r.2).bind fun q=>some (r.1::q.1,q.2)
theorem te: ∀ {hs:List Hdr} {chs:List Ent} {r:List Ent×List Ent},zK hs chs=some r→chs.Perm (r.1++r.2)∧r.1.map (·.1)=hs
 | [],chs,r,h=>by obtain rfl:=Option.some.inj (show some _=some r from h);exact ⟨List.Perm.refl _,rfl⟩
 | h'::hs,chs,r,h=>by
  obtain ⟨q,hq,h⟩:=bind_some (show (pull h' chs).bind _=some r from h)
  obtain ⟨q2,hq2,h⟩:=bind_some h
  obtain rfl:=Option.some.inj h
  obtain ⟨p1,e1⟩:=fe hq
  obtain ⟨p2,e2⟩:=te hq2
  exact ⟨p1.trans (p2.cons _),by show q.1.1::q2.1.map _=_;rw[e1,e2]⟩
def Uj (h:Hdr) (l:List Hdr):Bool:=l.any fun x=>Hdr.beq x h
def Do:List Hdr→List Hdr→List Hdr
 | [],_=>[]
 | h::hs,acc=>if Uj h acc then Do hs acc else h::Do hs (h::acc)
theorem vN {h:Hdr} : ∀ {hs acc:List Hdr},h∈hs→h∈Do hs acc∨h∈acc
 | x::hs,acc,hm=>by
  unfold Do
  split
  ·rename_i hh
   rcases List.mem_cons.1 hm with rfl | hm
   ·obtain ⟨y,hy,he⟩:=List.any_eq_true.1 hh
    exact .inr (Hdr.beq_eq he ▸ hy)
   ·exact vN hm
  ·rcases List.mem_cons.1 hm with rfl | hm
   ·exact .inl (by simp)
   ·rcases vN (acc:=x::acc) hm with h1 | h1
    ·exact .inl (by simp[h1])
    ·rcases List.mem_cons.1 h1 with rfl | h1
     ·exact .inl (by simp)
     ·exact .inr h1
end R
end Go.Proofs.YtakjhbbbjbebdaaGreat
