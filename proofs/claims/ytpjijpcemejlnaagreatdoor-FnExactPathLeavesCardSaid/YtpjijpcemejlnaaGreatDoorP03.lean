/- Texts joined. Conditions: as each theorem names them. -/
import Derived.Test.YtpjijpcemejlnaaGreatDoorP02
set_option maxRecDepth 100000
set_option maxHeartbeats 32000000
set_option linter.unusedVariables false
set_option linter.unusedSimpArgs false
namespace Go.Proofs.YtpjijpcemejlnaaGreatDoor
open Go.RowKit Go.Proofs.Tryz
inductive Vl where
 |mk (what:UInt8) (text:List UInt8) (tag:Nat) (kids:List Vl)
def Vl.what:Vl->UInt8|.mk w _ _ _=>w
def Vl.text:Vl->List UInt8|.mk _ t _ _=>t
def Vl.tag:Vl->Nat|.mk _ _ g _=>g
def Vl.kids:Vl->List Vl|.mk _ _ _ k=>k
def G1(w:UInt8)(tx:List UInt8)(tg:Nat)(ps:List (List UInt8)):List UInt8:=
 if w=116 then 39::(tx++[39])
 else if w=91 then 91::(Aq 44 ps++[93])
 else if w=63 then(match ps with|[]=>[45]|_=>43::Aq 44 ps)
 else if w=61 then An tg++61::Aq 44 ps
 else if w=82 then 123::(Aq 44 ps++[125])
 else if w=85 then 60::(An tg++61::(Aq 44 ps++[62]))
 else if w=69 then 35::An tg
 else tx
mutual
def Bg:Vl->List UInt8
 |.mk w tx tg ks=>G1 w tx tg (D2 ks)
def D2:List Vl->List (List UInt8)
 |[]=>[]
 |x::xs=>Bg x::D2 xs
end
theorem Pv:∀ks:List Vl,D2 ks=ks.map Bg
 |[]=>rfl
 |x::xs=>by rw[D2,Pv xs];rfl
mutual
def Jw:Vl->Nat
 |.mk w _ _ ks=>if w=61 then Fy ks else Fy ks+1
def Fy:List Vl->Nat
 |[]=>0
 |x::xs=>max (Jw x) (Fy xs)
end
theorem Rr:∀(ks:List Vl) (d:Nat),Fy ks<=d↔∀x∈ks,Jw x<=d
 |[],d=>by simp[Fy]
 |x::xs,d=>by rw[Fy,Nat.max_le,Rr xs d];simp
def D8:List UInt8:=[121,101,115]
def Kv:List UInt8:=[110,111]
def Do(p:Fd × Vl):Vl:=.mk 61 [] p.1.tag [p.2]
inductive J9(S:List Ty):Nat->Kd->Vl->Prop
 |n {d:Nat} {k:Kd} {m:Nat} (hs:k.signs=[]) (hb:k.base=[110]) (h:m<=999999):J9 S (d+1) k (.mk 110 (An m) 0 [])
 |t {d:Nat} {k:Kd} {s:List UInt8} (hs:k.signs=[]) (hb:k.base=[116]) (h:De s=true):J9 S (d+1) k (.mk 116 s 0 [])
 |f {d:Nat} {k:Kd} {b:Bool} (hs:k.signs=[]) (hb:k.base=[102]):J9 S (d+1) k (.mk 102 (if b then D8 else Kv) 0 [])
 |lst {d:Nat} {k:Kd} {r:List UInt8} {ks:List Vl} (hs:k.signs=91::r) (hl:ks.length<=20) (h:∀x∈ks,J9 S d k.part x):J9 S (d+1) k (.mk 91 [] 0 ks)
 |non {d:Nat} {k:Kd} {r:List UInt8} (hs:k.signs=63::r):J9 S (d+1) k (.mk 63 [] 0 [])
 |som {d:Nat} {k:Kd} {r:List UInt8} {x:Vl} (hs:k.signs=63::r) (h:J9 S d k.part x):J9 S (d+1) k (.mk 63 [] 0 [x])
 |enm {d:Nat} {k:Kd} {t:Ty} {f:Fd} (hs:k.signs=[]) (hb:k.base=[64]) (ht:Ck S k.name=some t) (h9:t.sort=69) (hf:Bu t.fields f.tag=some f):J9 S (d+1) k (.mk 69 [] f.tag [])
 |uni {d:Nat} {k:Kd} {t:Ty} {f:Fd} {x:Vl} (hs:k.signs=[]) (hb:k.base=[64]) (ht:Ck S k.name=some t) (h5:t.sort=85) (hf:Bu t.fields f.tag=some f) (h:J9 S d f.kind x):J9 S (d+1) k (.mk 85 [] f.tag [x])
 |rcd {d:Nat} {k:Kd} {t:Ty} {fs:List (Fd × Vl)} (hs:k.signs=[]) (hb:k.base=[64]) (ht:Ck S k.name=some t) (h2:t.sort=82) (hf:∀p∈fs,Bu t.fields p.1.tag=some p.1) (h:∀p∈fs,J9 S d p.1.kind p.2)
   (hn:∀p∈fs,Bg p.2≠Qa S p.1) (hp:fs.Pairwise fun p q=>p.1.tag<q.1.tag):J9 S (d+1) k (.mk 82 [] 0 (fs.map Do))
theorem Qd0(p:Fd × Vl):Jw (Do p)=Jw p.2:=by simp[Do,Jw,Fy]
theorem Fz(S:List Ty):∀(n:Nat) (k:Kd) (v:Vl),J9 S n k v->∀d,J9 S d k v↔Jw v<=d:=by
 intro n;induction n with
 |zero=>intro k v h;cases h
 |succ n ih=>
  intro k v h d;cases d with
  |zero=>
   constructor
   ·intro h;cases h
   intro hd;cases h<;>simp[Jw]at hd
  |succ d=>
   cases h with
   |n hs hb h=>exact⟨fun _=>by simp[Jw,Fy],fun _=>.n hs hb h⟩
   |t hs hb h=>exact⟨fun _=>by simp[Jw,Fy],fun _=>.t hs hb h⟩
   |f hs hb=>exact⟨fun _=>by simp[Jw,Fy],fun _=>.f hs hb⟩
   |non hs=>exact⟨fun _=>by simp[Jw,Fy],fun _=>.non hs⟩
   |enm hs hb ht h9 hf=>exact⟨fun _=>by simp[Jw,Fy],fun _=>.enm hs hb ht h9 hf⟩
   |@lst _ _ r ks hs hl h=>
    have e:Jw (.mk 91 [] 0 ks)<=d+1↔∀x∈ks,Jw x<=d:=by rw[<-Rr];simp[Jw]
    rw[e];constructor
    ·intro hv x hx;cases hv with
     |lst _ _ h2=>exact(ih _ _ (h x hx) d).1 (h2 x hx)
    intro hv;exact .lst hs hl fun x hx=>(ih _ _ (h x hx) d).2 (hv x hx)
   |@som _ _ r x hs h=>
    have e:Jw (.mk 63 [] 0 [x])<=d+1↔Jw x<=d:=by simp[Jw,Fy]
    rw[e];constructor
    ·intro hv;cases hv with
     |som _ h2=>exact(ih _ _ h d).1 h2
    intro hv;exact .som hs ((ih _ _ h d).2 hv)
   |@uni _ _ t f x hs hb ht h5 hf h=>
    have e:Jw (.mk 85 [] f.tag [x])<=d+1↔Jw x<=d:=by simp[Jw,Fy]
    rw[e];constructor
    ·intro hv;generalize hg:f.tag=g at hv;cases hv with
     |uni hs2 hb2 ht2 h52 hf2 h2=>
      rw[ht]at ht2;injection ht2 with ht2;subst ht2;rw[<-hg,hf]at hf2;injection hf2 with hf2;subst hf2;exact(ih _ _ h d).1 h2
    intro hv;exact .uni hs hb ht h5 hf ((ih _ _ h d).2 hv)
   |@rcd _ _ t fs hs hb ht h2 hf h hn hp=>
    have e:Jw (.mk 82 [] 0 (fs.map Do))<=d+1↔∀p∈fs,Jw p.2<=d:=by
     have:Jw (.mk 82 [] 0 (fs.map Do))=Fy (fs.map Do)+1:=by simp[Jw]
     rw[this,Nat.succ_le_succ_iff,Rr];constructor
     ·intro h p hp;have:=h _ (ao hp);rwa [Qd0]at this
     intro h x hx;obtain⟨p,hp,rfl⟩:=aw.1 hx;rw[Qd0];exact h p hp
    rw[e];constructor
    ·intro hv p hp;generalize hg:fs.map Do=ks at hv;cases hv with
     |@rcd _ _ t2 fs2 hs2 hb2 ht2 h22 hf2 h2 hn2 hp2=>
      rw[ht]at ht2;injection ht2 with ht2;subst ht2;have hm:Do p∈fs2.map Do:=hg ▸ ao hp;obtain⟨q,hq,eq⟩:=aw.1 hm;have e1:q.1.tag=p.1.tag:=by injection eq
      have e2:q.2=p.2:=by injection eq with _ _ _ e4;injection e4
      have e3:q.1=p.1:=by have:=hf2 q hq;rw[e1,hf p hp]at this;injection this with this;exact this.symm
      have:=h2 q hq;rw[e2,e3]at this;exact(ih _ _ (h p hp) d).1 this
    intro hv;exact .rcd hs hb ht h2 hf (fun p hp=>(ih _ _ (h p hp) d).2 (hv p hp)) hn hp
def N0(s:List UInt8):Option (Nat × List UInt8):=match Cf (s.takeWhile Az)with
 |some n=>some (n,s.dropWhile Az)
 |none=>none
def E7(fs:List Fd)(s:List UInt8):Option (Fd × List UInt8):=match N0 s with
 |some (n,r)=>if n<=200 then(match Bu fs n with|some f=>some (f,r)|none=>none)else none
 |none=>none
def Am(c:UInt8):List UInt8->Option (List UInt8)
 |x::r=>if x=c then some r else none
 |[]=>none
def Kj(s:List UInt8):Option (List UInt8 × List UInt8):=match Am 39 s with
 |none=>none
 |some r=>match Am 39 (r.dropWhile By)with
  |none=>none
  |some q=>if (r.takeWhile By).length<=12 then some (r.takeWhile By,q)else none
def Ex:List UInt8->List UInt8->Option (List UInt8)
 |[],s=>some s
 |c::p,s=>match Am c s with|none=>none|some r=>Ex p r
def Mx(s:List UInt8):Option (Bool × List UInt8):=match Ex D8 s with
 |some r=>some (true,r)
 |none=>match Ex Kv s with|some r=>some (false,r)|none=>none
def Cl(K:List UInt8->Option (Vl × List UInt8)):Nat->List UInt8->Option (List Vl × List UInt8)
 |0,_=>none
 |m+1,s=>match K s with
  |none=>none
  |some (v,r)=>match Am 44 r with
   |some q=>(match Cl K m q with|some (vs,z)=>some (v::vs,z)|none=>none)
   |none=>match Am 93 r with|some q=>some ([v],q)|none=>none
def Re(K:List UInt8->Option (Vl × List UInt8))(m:Nat)(s:List UInt8):Option (Vl × List UInt8):=match Am 91 s with
 |none=>none
 |some r=>match Am 93 r with
  |some q=>some (.mk 91 [] 0 [],q)
  |none=>match Cl K m r with|some (vs,q)=>if vs.length<=20 then some (.mk 91 [] 0 vs,q)else none|none=>none
def Zm(K:List UInt8->Option (Vl × List UInt8))(s:List UInt8):Option (Vl × List UInt8):=match Am 45 s with
 |some q=>some (.mk 63 [] 0 [],q)
 |none=>match Am 43 s with
  |none=>none
  |some r=>match K r with|some (v,q)=>some (.mk 63 [] 0 [v],q)|none=>none
def Cp(K:Kd->List UInt8->Option (Vl × List UInt8))(fs:List Fd)(s:List UInt8):Option ((Fd × Vl) × List UInt8):=match E7 fs s with
 |none=>none
 |some (f,r)=>match Am 61 r with
  |none=>none
  |some q=>match K f.kind q with|some (v,z)=>some ((f,v),z)|none=>none
def Dn(S:List Ty)(K:Kd->List UInt8->Option (Vl × List UInt8))(fs:List Fd):Nat->Nat->List UInt8->Option (List (Fd × Vl) × List UInt8)
 |0,_,_=>none
 |m+1,last,s=>match Cp K fs s with
  |none=>none
  |some (p,r)=>if p.1.tag<=last\/Bg p.2=Qa S p.1 then none else match Am 44 r with
   |some q=>(match Dn S K fs m p.1.tag q with|some (ps,z)=>some (p::ps,z)|none=>none)
   |none=>match Am 125 r with|some q=>some ([p],q)|none=>none
def G8(S:List Ty)(K:Kd->List UInt8->Option (Vl × List UInt8))(t:Ty)(s:List UInt8):Option (Vl × List UInt8):=
 if t.sort=69 then(match Am 35 s with
  |none=>none
  |some r=>match E7 t.fields r with|some (f,q)=>some (.mk 69 [] f.tag [],q)|none=>none)
 else if t.sort=85 then(match Am 60 s with
  |none=>none
  |some r=>match Cp K t.fields r with
   |none=>none
   |some (p,q)=>match Am 62 q with|some z=>some (.mk 85 [] p.1.tag [p.2],z)|none=>none)
 else match Am 123 s with
  |none=>none
  |some r=>match Am 125 r with
   |some q=>some (.mk 82 [] 0 [],q)
   |none=>match Dn S K t.fields 201 0 r with|some (ps,q)=>some (.mk 82 [] 0 (ps.map Do),q)|none=>none
def Ai(S:List Ty)(m:Nat):Nat->Kd->List UInt8->Option (Vl × List UInt8)
 |0,_,_=>none
 |d+1,k,s=>match k.signs with
  |c::_=>if c=91 then Re (Ai S m d k.part) m s else Zm (Ai S m d k.part) s
  |[]=>
   if k.base=[110]then(match N0 s with|some (n,r)=>some (.mk 110 (An n) 0 [],r)|none=>none)
   else if k.base=[116]then(match Kj s with|some (x,r)=>some (.mk 116 x 0 [],r)|none=>none)
   else if k.base=[102]then(match Mx s with|some (b,r)=>some (.mk 102 (if b then D8 else Kv) 0 [],r)|none=>none)
   else match Ck S k.name with
    |none=>none
    |some t=>G8 S (Ai S m d) t s
theorem B0{c:UInt8}{s r:List UInt8}:Am c s=some r↔s=c::r:=by
 cases s with
 |nil=>simp[Am]
 |cons x t=>
  by_cases h:x=c
  ·subst h;simp[Am]
  simp[Am,h]
theorem Bk(c:UInt8)(r:List UInt8):Am c (c::r)=some r:=if_pos rfl
theorem Dd{c x:UInt8}(h:x≠c)(r:List UInt8):Am c (x::r)=none:=if_neg h
theorem E9{p s r:List UInt8}:Ex p s=some r↔s=p++r:=by
 induction p generalizing s with
 |nil=>simp[Ex]
 |cons c p ih=>
  unfold Ex;cases h:Am c s with
  |none=>
   simp only[false_iff,reduceCtorEq];intro e;subst e;rw[au,Bk]at h;cases h
  |some q=>rw[B0]at h;subst h;simp[ih]
def Nu(r:List UInt8):Prop:=∀c t,r=c::t->Az c=false
theorem Kh:Nu []:=by intro c t h;cases h
theorem Gl{c:UInt8}(r:List UInt8)(h:Az c=false):Nu (c::r):=by intro x t e;injection e with e;subst e;exact h
theorem Qct{a r:List UInt8}(ha:a.all Az=true)(hr:Nu r):(a++r).takeWhile Az=a/\(a++r).dropWhile Az=r:=by
 cases r with
 |nil=>
  rw[List.append_nil];induction a with
  |nil=>exact⟨rfl,rfl⟩
  |cons c a ih=>
   rw[List.all_cons,av]at ha;obtain⟨i1,i2⟩:=ih ha.2;rw[List.takeWhile_cons_of_pos ha.1,List.dropWhile_cons_of_pos ha.1,i1,i2];exact gC
 |cons c t=>exact Eo ha ⟨c,t,rfl,hr c t rfl⟩
theorem Vc{s r:List UInt8}{n:Nat}(h:N0 s=some (n,r)):n<=999999/\s=An n++r/\Nu r:=by
 unfold N0 at h;cases hd:Cf (s.takeWhile Az)with
 |none=>rw[hd]at h;cases h
 |some m=>
  rw[hd]at h;simp only[aj,aD]at h;obtain⟨rfl,rfl⟩:=h;obtain⟨h1,h2⟩:=Bt.1 hd;refine⟨h1,by rw[<-h2,List.takeWhile_append_dropWhile],fun c t e=>?_⟩;have:=List.head?_dropWhile_not Az s;rw[e]at this;simpa using this
theorem Yz{n:Nat}{r:List UInt8}(h:n<=999999)(hr:Nu r):N0 (An n++r)=some (n,r):=by
 obtain⟨e1,e2⟩:=Qct (Kp n) hr;unfold N0;rw[e1,e2,Bt.2 ⟨h,rfl⟩]
theorem Bn{fs:List Fd}{n:Nat}{f:Fd}(h:Bu fs n=some f):f.tag=n/\f∈fs:=by
 unfold Bu at h;have:=List.find?_some h;exact⟨by simpa using this,List.mem_of_find?_eq_some h⟩
theorem Gh{fs:List Fd}{s r:List UInt8}{f:Fd}(h:E7 fs s=some (f,r)):f.tag<=200/\Bu fs f.tag=some f/\s=An f.tag++r/\Nu r:=by
 unfold E7 at h;cases hn:N0 s with
 |none=>rw[hn]at h;cases h
 |some q=>
  obtain⟨n,z⟩:=q;rw[hn]at h;simp only at h;split at h
  ·rename_i h2;cases hf:Bu fs n with
   |none=>rw[hf]at h;cases h
   |some g=>
    rw[hf]at h;simp only[aj,aD]at h;obtain⟨rfl,rfl⟩:=h;have e:=(Bn hf).1;obtain⟨_,e2,e3⟩:=Vc hn;rw[e];exact⟨h2,hf,e2,e3⟩
  cases h
theorem Yx{fs:List Fd}{f:Fd}{r:List UInt8}(h:f.tag<=200)(hf:Bu fs f.tag=some f)(hr:Nu r):E7 fs (An f.tag++r)=some (f,r):=by
 unfold E7;rw[Yz aG hr];simp[h,hf]
theorem Zj:By 39=false:=aJ
theorem Vp{s b r:List UInt8}:Kj s=some (b,r)↔De b=true/\s=39::(b++39::r):=by
 unfold Kj;cases h:Am 39 s with
 |none=>
  simp only[reduceCtorEq,false_iff,not_and];rintro _ rfl;rw[Bk]at h;cases h
 |some q=>
  rw[B0]at h;subst h;simp only[List.cons.injEq,true_and];cases h:Am 39 (q.dropWhile By)with
  |none=>
   simp only[reduceCtorEq,false_iff,not_and];rintro hb rfl;have hb2:b.all By=true:=by unfold De at hb;simp only[av]at hb;exact hb.2
   rw[(Eo hb2 ⟨39,r,rfl,Zj⟩).2,Bk]at h;cases h
  |some z=>
   rw[B0]at h;have eq:q=q.takeWhile By++39::z:=by rw[<-h,List.takeWhile_append_dropWhile]
   simp only;constructor
   ·intro h2;split at h2
    ·rename_i hl;simp only[aj,aD]at h2;obtain⟨rfl,rfl⟩:=h2;exact⟨by unfold De;simp only[av];exact⟨by simpa using hl,Gu q⟩,eq⟩
    cases h2
   rintro⟨hb,rfl⟩;unfold De at hb;simp only[av,decide_eq_true_eq]at hb;obtain⟨e1,e2⟩:=Eo hb.2 ⟨39,r,rfl,Zj⟩;rw[e2]at h;injection h with _ h;subst h;rw[e1,if_pos hb.1]
theorem Tg{s r:List UInt8}{b:Bool}:Mx s=some (b,r)↔s=(if b then D8 else Kv)++r:=by
 unfold Mx;cases h:Ex D8 s with
 |some q=>
  rw[E9]at h;subst h;cases b<;>simp[D8,Kv]
 |none=>
  simp only;cases h2:Ex Kv s with
  |some q=>
   rw[E9]at h2;subst h2;cases b<;>simp[D8,Kv]
  |none=>
   simp only[reduceCtorEq,false_iff];rintro rfl;cases b
   ·rw[show Ex Kv ((if false=true then D8 else Kv)++r)=some r from E9.2 rfl]at h2;cases h2
   rw[show Ex D8 ((if true=true then D8 else Kv)++r)=some r from E9.2 rfl]at h;cases h
theorem Zp{K:List UInt8->Option (Vl × List UInt8)}{P:Vl->Prop}(hK:∀s v r,K s=some (v,r)->P v/\s=Bg v++r):∀(m:Nat) (s:List UInt8) (vs:List Vl) (r:List UInt8),
  Cl K m s=some (vs,r)->vs≠[]/\vs.length<=m/\(∀x∈vs,P x)/\s=Aq 44 (vs.map Bg)++93::r:=by
 intro m;induction m with
 |zero=>intro s vs r h;cases h
 |succ m ih=>
  intro s vs r h;unfold Cl at h;cases hk:K s with
  |none=>rw[hk]at h;cases h
  |some q=>
   obtain⟨v,z⟩:=q;rw[hk]at h;simp only at h;obtain⟨hp,rfl⟩:=hK _ _ _ hk;cases hb:Am 44 z with
   |some q=>
    rw[hb]at h;simp only at h;cases hi:Cl K m q with
    |none=>rw[hi]at h;cases h
    |some y=>
     obtain⟨us,y⟩:=y;rw[hi]at h;simp only[aj,aD]at h;obtain⟨rfl,rfl⟩:=h;obtain⟨h1,h2,h3,h4⟩:=ih _ _ _ hi;rw[B0]at hb;subst hb;refine⟨by simp,by simp;omega,by simpa using⟨hp,h3⟩,?_⟩;rw[ax,Cj 44 _ dv,h4];simp
   |none=>
    rw[hb]at h;simp only at h;cases hb:Am 93 z with
    |none=>rw[hb]at h;cases h
    |some q=>
     rw[hb]at h;simp only[aj,aD]at h;obtain⟨rfl,rfl⟩:=h;rw[B0]at hb;subst hb;exact⟨by simp,by simp,by simpa using hp,by simp[Aq]⟩
theorem Qy{K:List UInt8->Option (Vl × List UInt8)}:∀(m:Nat) (vs:List Vl) (r:List UInt8),(∀x∈vs,∀r,Nu r->K (Bg x++r)=some (x,r))->vs≠[]->vs.length<=m ->
  Cl K m (Aq 44 (vs.map Bg)++93::r)=some (vs,r)
 |0,vs,r,_,h,hl=>by cases vs with|nil=>exact absurd rfl h|cons=>simp at hl
 |m+1,[],r,_,h,_=>absurd rfl h
 |m+1,[x],r,hK,_,_=>by
  have e:=hK x aK (93::r) (Gl _ aJ);simp only[ax,List.map_nil,Aq];unfold Cl;rw[e];simp only[Dd (show (93:UInt8)≠44 by decide),Bk]
 |m+1,x::y::vs,r,hK,_,hl=>by
  have ih:=Qy m (y::vs) r (fun z hz=>hK z dB) aK dX;have e:=hK x aK (44::(Aq 44 ((y::vs).map Bg)++93::r)) (Gl _ aJ);rw[ax,Cj 44 _ aK,List.append_assoc,au];unfold Cl;rw[e];simp only[Bk,ih]
theorem Pc{K:Kd->List UInt8->Option (Vl × List UInt8)}{P:Fd->Vl->Prop}{fs:List Fd}(hK:∀f∈fs,∀s v r,K f.kind s=some (v,r)->P f v/\s=Bg v++r){s r:List UInt8}{p:Fd × Vl}
  (h:Cp K fs s=some (p,r)):p.1.tag<=200/\Bu fs p.1.tag=some p.1/\P p.1 p.2/\s=Bg (Do p)++r:=by
 unfold Cp at h;cases ht:E7 fs s with
 |none=>rw[ht]at h;cases h
 |some q=>
  obtain⟨f,z⟩:=q;rw[ht]at h;simp only at h;obtain⟨h1,h2,rfl,_⟩:=Gh ht;cases hb:Am 61 z with
  |none=>rw[hb]at h;cases h
  |some q=>
   rw[hb]at h;simp only at h;rw[B0]at hb;subst hb;cases hk:K f.kind q with
   |none=>rw[hk]at h;cases h
   |some y=>
    obtain⟨v,y⟩:=y;rw[hk]at h;simp only[aj,aD]at h;obtain⟨rfl,rfl⟩:=h;obtain⟨h3,rfl⟩:=hK f (Bn h2).2 _ _ _ hk;exact⟨h1,h2,h3,by simp[Do,Bg,D2,G1,Aq]⟩
theorem N3{K:Kd->List UInt8->Option (Vl × List UInt8)}{fs:List Fd}{p:Fd × Vl}{r:List UInt8}(h1:p.1.tag<=200)(h2:Bu fs p.1.tag=some p.1)(hK:K p.1.kind (Bg p.2++r)=some (p.2,r)):
  Cp K fs (Bg (Do p)++r)=some (p,r):=by
 have e:Bg (Do p)++r=An p.1.tag++(61::(Bg p.2++r)):=by simp[Do,Bg,D2,G1,Aq]
 rw[e];unfold Cp;rw[Yx h1 h2 (Gl _ aJ)];simp only[Bk,hK]
theorem Qab{S:List Ty}{K:Kd->List UInt8->Option (Vl × List UInt8)}{P:Fd->Vl->Prop}{fs:List Fd}(hK:∀f∈fs,∀s v r,K f.kind s=some (v,r)->P f v/\s=Bg v++r):∀(m last:Nat) (s:List UInt8) (ps:List (Fd × Vl)) (r:List UInt8),
  Dn S K fs m last s=some (ps,r)->ps≠[]/\(∀p∈ps,last<p.1.tag/\Bu fs p.1.tag=some p.1/\P p.1 p.2/\Bg p.2≠Qa S p.1)/\(ps.Pairwise fun p q=>p.1.tag<q.1.tag)/\s=Aq 44 (ps.map fun p=>Bg (Do p))++125::r:=by
 intro m;induction m with
 |zero=>intro last s ps r h;cases h
 |succ m ih=>
  intro last s ps r h;unfold Dn at h;cases hk:Cp K fs s with
  |none=>rw[hk]at h;cases h
  |some q=>
   obtain⟨p,z⟩:=q;rw[hk]at h;simp only at h;obtain⟨h1,h2,h3,rfl⟩:=Pc hK hk;split at h
   ·cases h
   rename_i hno;have hno1:last<p.1.tag:=aG;have hno2:Bg p.2≠Qa S p.1:=fun e=>hno (.inr e);cases hb:Am 44 z with
   |some q=>
    rw[hb]at h;simp only at h;cases hi:Dn S K fs m p.1.tag q with
    |none=>rw[hi]at h;cases h
    |some y=>
     obtain⟨us,y⟩:=y;rw[hi]at h;simp only[aj,aD]at h;obtain⟨rfl,rfl⟩:=h;obtain⟨i1,i2,i3,i4⟩:=ih _ _ _ _ hi;rw[B0]at hb;subst hb;refine⟨by simp,?_,?_,?_⟩
     ·intro x hx;rcases az.1 hx with rfl|hx
      ·exact⟨hno1,h2,h3,hno2⟩
      obtain⟨j1,j2⟩:=i2 x hx;exact⟨by omega,j2⟩
     ·exact List.pairwise_cons.2 ⟨fun x hx=>(i2 x hx).1,i3⟩
     rw[ax,Cj 44 _ (by simpa using i1),i4];simp
   |none=>
    rw[hb]at h;simp only at h;cases hb:Am 125 z with
    |none=>rw[hb]at h;cases h
    |some q=>
     rw[hb]at h;simp only[aj,aD]at h;obtain⟨rfl,rfl⟩:=h;rw[B0]at hb;subst hb;refine⟨by simp,?_,by simp,by simp[Aq]⟩;intro x hx;rw[ap]at hx;subst hx;exact⟨hno1,h2,h3,hno2⟩
theorem S6{S:List Ty}{K:Kd->List UInt8->Option (Vl × List UInt8)}{fs:List Fd}:∀(m last:Nat) (ps:List (Fd × Vl)) (r:List UInt8),
  (∀p∈ps,∀r,Nu r->K p.1.kind (Bg p.2++r)=some (p.2,r))->ps≠[]->(∀p∈ps,last<p.1.tag/\p.1.tag<=200/\Bu fs p.1.tag=some p.1/\Bg p.2≠Qa S p.1)->(ps.Pairwise fun p q=>p.1.tag<q.1.tag)->201<=m+last ->
  Dn S K fs m last (Aq 44 (ps.map fun p=>Bg (Do p))++125::r)=some (ps,r)
 |0,last,[],r,_,h,_,_,_=>absurd rfl h
 |0,last,p::ps,r,_,_,hp,_,hl=>by have:=hp p aK;omega
 |m+1,last,[],r,_,h,_,_,_=>absurd rfl h
 |m+1,last,[p],r,hK,_,hp,_,hl=>by
  obtain⟨h1,h2,h3,h4⟩:=hp p aK;have e:=N3 h2 h3 (hK p aK (125::r) (Gl _ aJ));simp only[ax,List.map_nil,Aq];unfold Dn;rw[e];simp only;rw[if_neg co];simp only[Dd (show (125:UInt8)≠44 by decide),Bk]
 |m+1,last,p::q::ps,r,hK,_,hp,hw,hl=>by
  obtain⟨h1,h2,h3,h4⟩:=hp p aK;obtain⟨w1,w2⟩:=List.pairwise_cons.1 hw;have ih:=S6 m p.1.tag (q::ps) r (fun z hz=>hK z dB) aK (fun z hz=>⟨w1 z hz,(hp z dB).2⟩) w2 aG;have e:=N3 (K:=K) h2 h3 (hK p aK (44::(Aq 44 ((q::ps).map fun p=>Bg (Do p))++125::r)) (Gl _ aJ));rw[ax,Cj 44 _ aK,List.append_assoc,au];unfold Dn;rw[e];simp only;rw[if_neg co];simp only[Bk,ih]
theorem Zx{k:Kd}(h:Da k){c:UInt8}{t:List UInt8}(hs:k.signs=c::t):c=91\/c=63:=by
 have:=h.1;rw[hs]at this;simp only[List.all_cons,av,Bl,Bool.or_eq_true,beq_iff_eq]at this;exact this.1
theorem Ra{S:List Ty}(hS:∀t∈S,Du t){n:List UInt8}{t:Ty}(ht:Ck S n=some t)(h9:t.sort≠69){f:Fd}(hf:f∈t.fields):Da f.kind/\f.tag<=200:=by
 have h:=(hS t (Bq ht).1).2.2.1.1 f hf;exact⟨(h.2.2.2.2 h9).1,h.2.1⟩
theorem Pn(fs:List (Fd × Vl)):Bg (.mk 82 [] 0 (fs.map Do))=123::(Aq 44 (fs.map fun p=>Bg (Do p))++[125]):=by
 simp[Bg,Pv,G1];rfl
theorem Gs(ks:List Vl):Bg (.mk 91 [] 0 ks)=91::(Aq 44 (ks.map Bg)++[93]):=by simp[Bg,Pv,G1]
theorem Xn(f:Fd)(x:Vl):Bg (.mk 85 [] f.tag [x])=60::(Bg (Do (f,x))++[62]):=by simp[Bg,D2,G1,Do,Aq]
theorem E5{S:List Ty}(hS:∀t∈S,Du t)(m:Nat):∀(d:Nat) (k:Kd) (s:List UInt8) (v:Vl) (r:List UInt8),Da k->Ai S m d k s=some (v,r)->J9 S d k v/\s=Bg v++r:=by
 intro d;induction d with
 |zero=>intro k s v r _ h;cases h
 |succ d ih=>
  intro k s v r hk h;unfold Ai at h;cases hs:k.signs with
  |cons c t=>
   rw[hs]at h;simp only at h;have hp:=(Kx hk).1;by_cases h91:c=91
   ·subst h91;rw[if_pos rfl]at h;unfold Re at h;cases hb:Am 91 s with
    |none=>rw[hb]at h;cases h
    |some q=>
     rw[hb]at h;simp only at h;rw[B0]at hb;subst hb;cases hb:Am 93 q with
     |some z=>
      rw[hb]at h;simp only[aj,aD]at h;obtain⟨rfl,rfl⟩:=h;rw[B0]at hb;subst hb;exact⟨.lst hs aK aK,by rw[Gs];rfl⟩
     |none=>
      rw[hb]at h;simp only at h;cases hi:Cl (Ai S m d k.part) m q with
      |none=>rw[hi]at h;cases h
      |some y=>
       obtain⟨us,y⟩:=y;rw[hi]at h;simp only at h;split at h
       ·rename_i hl;simp only[aj,aD]at h;obtain⟨rfl,rfl⟩:=h;obtain⟨_,_,i3,i4⟩:=Zp (P:=J9 S d k.part) (fun s v r h=>ih _ _ _ _ hp h) _ _ _ _ hi;exact⟨.lst hs hl i3,by rw[Gs,i4];simp⟩
       cases h
   have h63:=(Zx hk hs).resolve_left h91;subst h63;rw[if_neg h91]at h;unfold Zm at h;cases hb:Am 45 s with
   |some q=>
    rw[hb]at h;simp only[aj,aD]at h;obtain⟨rfl,rfl⟩:=h;rw[B0]at hb;subst hb;exact⟨.non hs,rfl⟩
   |none=>
    rw[hb]at h;simp only at h;cases hb:Am 43 s with
    |none=>rw[hb]at h;cases h
    |some q=>
     rw[hb]at h;simp only at h;rw[B0]at hb;subst hb;cases hi:Ai S m d k.part q with
     |none=>rw[hi]at h;cases h
     |some y=>
      obtain⟨x,y⟩:=y;rw[hi]at h;simp only[aj,aD]at h;obtain⟨rfl,rfl⟩:=h;obtain⟨i1,rfl⟩:=ih _ _ _ _ hp hi;exact⟨.som hs i1,by simp[Bg,D2,G1,Aq]⟩
  |nil=>
   rw[hs]at h;simp only at h;split at h
   ·rename_i hb;cases hn:N0 s with
    |none=>rw[hn]at h;cases h
    |some q=>
     obtain⟨n,q⟩:=q;rw[hn]at h;simp only[aj,aD]at h;obtain⟨rfl,rfl⟩:=h;obtain⟨h1,h2,_⟩:=Vc hn;exact⟨.n hs hb h1,by rw[h2];simp[Bg,D2,G1]⟩
   split at h
   ·rename_i hb;cases hn:Kj s with
    |none=>rw[hn]at h;cases h
    |some q=>
     obtain⟨x,q⟩:=q;rw[hn]at h;simp only[aj,aD]at h;obtain⟨rfl,rfl⟩:=h;obtain⟨h1,rfl⟩:=Vp.1 hn;exact⟨.t hs hb h1,by simp[Bg,D2,G1]⟩
   split at h
   ·rename_i hb;cases hn:Mx s with
    |none=>rw[hn]at h;cases h
    |some q=>
     obtain⟨x,q⟩:=q;rw[hn]at h;simp only[aj,aD]at h;obtain⟨rfl,rfl⟩:=h;have:=Tg.1 hn;exact⟨.f hs hb,by rw[this];simp[Bg,D2,G1]⟩
   rename_i b1 b2 b3;have hb:k.base=[64]:=by
    rcases hk.2.1 with h|⟨h|h|h,_⟩
    ·exact h.1
    ·exact absurd h b1
    ·exact absurd h b2
    exact absurd h b3
   cases ht:Ck S k.name with
   |none=>rw[ht]at h;cases h
   |some t=>
    rw[ht]at h;simp only at h;unfold G8 at h;by_cases h9:t.sort=69
    ·rw[if_pos h9]at h;cases hb3:Am 35 s with
     |none=>rw[hb3]at h;cases h
     |some q=>
      rw[hb3]at h;simp only at h;rw[B0]at hb3;subst hb3;cases hg:E7 t.fields q with
      |none=>rw[hg]at h;cases h
      |some y=>
       obtain⟨f,y⟩:=y;rw[hg]at h;simp only[aj,aD]at h;obtain⟨rfl,rfl⟩:=h;obtain⟨_,h2,h3,_⟩:=Gh hg;exact⟨.enm hs hb ht h9 h2,by rw[h3];simp[Bg,D2,G1]⟩
    rw[if_neg h9]at h;have hK:∀f∈t.fields,∀s v r,Ai S m d f.kind s=some (v,r)->J9 S d f.kind v/\s=Bg v++r:=fun f hf s v r hr=>ih _ _ _ _ (Ra hS ht h9 hf).1 hr;by_cases h5:t.sort=85
    ·rw[if_pos h5]at h;cases hb3:Am 60 s with
     |none=>rw[hb3]at h;cases h
     |some q=>
      rw[hb3]at h;simp only at h;rw[B0]at hb3;subst hb3;cases hg:Cp (Ai S m d) t.fields q with
      |none=>rw[hg]at h;cases h
      |some y=>
       obtain⟨p,y⟩:=y;rw[hg]at h;simp only at h;cases hb4:Am 62 y with
       |none=>rw[hb4]at h;cases h
       |some z=>
        rw[hb4]at h;simp only[aj,aD]at h;obtain⟨rfl,rfl⟩:=h;rw[B0]at hb4;subst hb4;obtain⟨_,h2,h3,rfl⟩:=Pc (P:=fun f v=>J9 S d f.kind v) hK hg;exact⟨.uni hs hb ht h5 h2 h3,by rw[Xn];simp⟩
    rw[if_neg h5]at h;have h2:t.sort=82:=by
     rcases(hS t (Bq ht).1).1 with h|h|h
     ·exact h
     ·exact absurd h h5
     exact absurd h h9
    cases hb3:Am 123 s with
    |none=>rw[hb3]at h;cases h
    |some q=>
     rw[hb3]at h;simp only at h;rw[B0]at hb3;subst hb3;cases hb4:Am 125 q with
     |some z=>
      rw[hb4]at h;simp only[aj,aD]at h;obtain⟨rfl,rfl⟩:=h;rw[B0]at hb4;subst hb4;exact⟨.rcd (fs:=[]) hs hb ht h2 aK aK aK aK,rfl⟩
     |none=>
      rw[hb4]at h;simp only at h;cases hg:Dn S (Ai S m d) t.fields 201 0 q with
      |none=>rw[hg]at h;cases h
      |some y=>
       obtain⟨ps,y⟩:=y;rw[hg]at h;simp only[aj,aD]at h;obtain⟨rfl,rfl⟩:=h;obtain⟨_,i2,i3,i4⟩:=Qab (P:=fun f v=>J9 S d f.kind v) hK _ _ _ _ _ hg;exact⟨.rcd hs hb ht h2 (fun p hp=>(i2 p hp).2.1) (fun p hp=>(i2 p hp).2.2.1) (fun p hp=>(i2 p hp).2.2.2) i3,by rw[Pn,i4];simp⟩
theorem Qd1{S:List Ty}{d:Nat}{k:Kd}{v:Vl}(h:J9 S d k v):∃c t,Bg v=c::t/\c≠93/\c≠125/\c≠44:=by
 cases h with
 |@n _ _ m hs hb h=>
  have e:Bg (.mk 110 (An m) 0 [])=An m:=by simp[Bg,D2,G1]
  rw[e];cases hd:An m with
  |nil=>exact absurd hd (Nl m)
  |cons c t=>
   have:=Kp m;rw[hd,List.all_cons,av,C9]at this;refine⟨c,t,rfl,?_,?_,?_⟩<;>(rintro rfl;revert this;simp)
 |t=>exact⟨39,_,rfl,by decide,by decide,by decide⟩
 |@f _ _ b=>cases b<;>exact⟨_,_,rfl,by decide,by decide,by decide⟩
 |lst=>exact⟨91,_,rfl,by decide,by decide,by decide⟩
 |non=>exact⟨45,_,rfl,by decide,by decide,by decide⟩
 |som=>exact⟨43,_,rfl,by decide,by decide,by decide⟩
 |enm=>exact⟨35,_,rfl,by decide,by decide,by decide⟩
 |uni=>exact⟨60,_,rfl,by decide,by decide,by decide⟩
 |rcd=>exact⟨123,_,rfl,by decide,by decide,by decide⟩
theorem Jg{S:List Ty}(hS:∀t∈S,Du t){m:Nat}(hm:20<=m):∀(d:Nat) (k:Kd) (v:Vl) (r:List UInt8),J9 S d k v->Nu r->Ai S m d k (Bg v++r)=some (v,r):=by
 intro d;induction d with
 |zero=>intro k v r h;cases h
 |succ d ih=>
  intro k v r h hr;unfold Ai;cases h with
  |@n _ _ n hs hb h=>
   rw[hs];simp only;rw[if_pos hb];have e:Bg (.mk 110 (An n) 0 [])=An n:=by simp[Bg,D2,G1]
   rw[e,Yz h hr]
  |@t _ _ s hs hb h=>
   rw[hs];simp only;rw[if_neg bE,if_pos hb];rw[show Kj (Bg (.mk 116 s 0 [])++r)=some (s,r)from Vp.2 ⟨h,by simp[Bg,D2,G1]⟩]
  |@f _ _ b hs hb=>
   rw[hs];simp only;rw[if_neg bE,if_neg bE,if_pos hb];rw[show Mx (Bg (.mk 102 (if b then D8 else Kv) 0 [])++r)=some (b,r)from Tg.2 (by cases b<;>simp[Bg,D2,G1])]
  |@lst _ _ t ks hs hl h=>
   rw[hs];simp only;rw[if_pos Ab];unfold Re;rw[Gs,au,Bk];simp only;cases ks with
   |nil=>rfl
   |cons x ks=>
    obtain⟨c,q,e1,e2,_⟩:=Qd1 (h x aK);have e3:Am 93 (Aq 44 ((x::ks).map Bg)++[93]++r)=none:=by
     cases ks with
     |nil=>simp only[ax,List.map_nil,Aq,e1,au,Dd e2]
     |cons y ks=>rw[ax,Cj 44 _ aK,e1];simp only[au,Dd e2]
    rw[e3];simp only;rw[List.append_assoc,List.singleton_append,Qy m (x::ks) r (fun y hy r hr=>ih _ _ _ (h y hy) hr) aK aG];simp only;rw[if_pos hl]
  |@non _ _ t hs=>rw[hs];rfl
  |@som _ _ t x hs h=>
   rw[hs];simp only;rw[if_neg aJ];have e:Bg (.mk 63 [] 0 [x])=43::Bg x:=by simp[Bg,D2,G1,Aq]
   unfold Zm;rw[e,au,Dd aJ,Bk];simp only;rw[ih _ _ _ h hr]
  |@enm _ _ t f hs hb ht h9 hf=>
   rw[hs];simp only;rw[if_neg bE,if_neg bE,if_neg bE,ht];simp only;unfold G8;have h200:f.tag<=200:=((hS t (Bq ht).1).2.2.1.1 f (Bn hf).2).2.1;have e:Bg (.mk 69 [] f.tag [])=35::An f.tag:=by simp[Bg,D2,G1]
   rw[if_pos h9,e,au,Bk];simp only;rw[Yx h200 hf hr]
  |@uni _ _ t f x hs hb ht h5 hf h=>
   rw[hs];simp only;rw[if_neg bE,if_neg bE,if_neg bE,ht];simp only;unfold G8;have h9:t.sort≠69:=by rw[h5];decide
   rw[if_neg h9,if_pos h5,Xn,au,Bk];simp only;rw[List.append_assoc,List.singleton_append,N3 (p:=(f,x)) (Ra hS ht h9 (Bn hf).2).2 hf (ih _ _ (62::r) h (Gl (c:=62) _ aJ))];simp only[Bk]
  |@rcd _ _ t fs hs hb ht h2 hf h hn hp=>
   rw[hs];simp only;rw[if_neg bE,if_neg bE,if_neg bE,ht];simp only;unfold G8;have h9:t.sort≠69:=dc;rw[if_neg h9,if_neg dc,Pn,au,Bk];simp only;cases fs with
   |nil=>rfl
   |cons p fs=>
    have e3:Am 125 (Aq 44 ((p::fs).map fun p=>Bg (Do p))++[125]++r)=none:=by
     have e1:Bg (Do p)=An p.1.tag++61::Bg p.2:=by simp[Do,Bg,D2,G1,Aq]
     cases hd:An p.1.tag with
     |nil=>exact absurd hd (Nl _)
     |cons c q=>
      have hc:=Kp p.1.tag;rw[hd,List.all_cons,av,C9]at hc;have e2:c≠125:=by rintro rfl;revert hc;simp
      rw[hd]at e1;cases fs with
      |nil=>simp only[ax,List.map_nil,Aq,e1,au,Dd e2]
      |cons y fs=>rw[ax,Cj 44 _ aK,e1];simp only[au,Dd e2]
    rw[e3];simp only
    rw[List.append_assoc,List.singleton_append,S6 201 0 (p::fs) r (fun q hq r hr=>ih _ _ _ (h q hq) hr) aK
     (fun q hq=>?_) hp aG]
    have hm:=(Bn (hf q hq)).2;have h1:=((hS t (Bq ht).1).2.2.1.1 q.1 hm).1;exact⟨h1,(Ra hS ht h9 hm).2,hf q hq,hn q hq⟩
theorem Qgd{S:List Ty}(hS:∀t∈S,Du t){d:Nat}{k:Kd}{v u:Vl}(hv:J9 S d k v)(hu:J9 S d k u)(h:Bg v=Bg u):v=u:=by
 have h1:=Jg hS (Ap 20) d k v [] hv Kh;have h2:=Jg hS (Ap 20) d k u [] hu Kh;rw[h,h2]at h1;injection h1 with h1;injection h1 with h1;exact h1.symm
def Kk(S:List Ty)(k:Kd)(s:List UInt8):Option Vl:=
 if 400<s.length then none else match Ai S 20 12 k s with
  |some (v,[])=>some v
  |_=>none
theorem Kg{S:List Ty}(hS:∀t∈S,Du t){k:Kd}(hk:Da k){s:List UInt8}{v:Vl}:Kk S k s=some v↔J9 S 12 k v/\Bg v=s/\s.length<=400:=by
 unfold Kk;constructor
 ·intro h;split at h
  ·cases h
  rename_i hl;cases hr:Ai S 20 12 k s with
  |none=>rw[hr]at h;cases h
  |some q=>
   obtain⟨x,r⟩:=q;rw[hr]at h;cases r with
   |cons c t=>cases h
   |nil=>
    simp only[aj]at h;subst h;obtain⟨h1,h2⟩:=E5 hS 20 12 k s x [] hk hr;exact⟨h1,by rw[h2,List.append_nil],by omega⟩
 rintro⟨h1,rfl,hl⟩;rw[if_neg aG];have:=Jg hS (Ap 20) 12 k v [] h1 Kh;rw[List.append_nil]at this;rw[this]
theorem Qda{S:List Ty}(hS:∀t∈S,Du t){k:Kd}(hk:Da k){s:List UInt8}(hl:s.length<=400)(m n:Nat)(hm:20<=m)(hn:12<=n):
  Kk S k s=match Ai S m n k s with|some (v,[])=>if Jw v<=12 then some v else none|_=>none:=by
 cases hr:Ai S m n k s with
 |none=>
  cases hv:Kk S k s with
  |none=>rfl
  |some v=>
   obtain⟨h1,h2,_⟩:=(Kg hS hk).1 hv;have h3:J9 S n k v:=(Fz S _ _ _ h1 n).2 (ad ((Fz S _ _ _ h1 12).1 h1) hn);have:=Jg hS hm n k v [] h3 Kh;rw[List.append_nil,h2,hr]at this;cases this
 |some q=>
  obtain⟨x,r⟩:=q;obtain⟨h1,h2⟩:=E5 hS m n k s x r hk hr;cases r with
  |nil=>
   simp only;rw[List.append_nil]at h2;by_cases hd:Jw x<=12
   ·rw[if_pos hd,Kg hS hk];exact⟨(Fz S _ _ _ h1 12).2 hd,h2.symm,hl⟩
   rw[if_neg hd];cases hv:Kk S k s with
   |none=>rfl
   |some v=>
    obtain⟨i1,i2,_⟩:=(Kg hS hk).1 hv;have h3:J9 S n k v:=(Fz S _ _ _ i1 n).2 (ad ((Fz S _ _ _ i1 12).1 i1) hn);have e:=Qgd hS h3 h1 (by rw[i2,h2]);subst e;exact absurd ((Fz S _ _ _ i1 12).1 i1) hd
  |cons c t=>
   simp only;cases hv:Kk S k s with
   |none=>rfl
   |some v=>
    obtain⟨i1,i2,_⟩:=(Kg hS hk).1 hv;have h3:J9 S n k v:=(Fz S _ _ _ i1 n).2 (ad ((Fz S _ _ _ i1 12).1 i1) hn);have:=Jg hS hm n k v [] h3 Kh;rw[List.append_nil,i2,hr]at this;injection this with this;injection this with _ this;cases this
abbrev Cm:=List UInt8
def Qo(S:List Ty):Nat->Kd->List Cm->List Cm
 |0,_,out=>out
 |n+1,k,out=>
  if k.base=[64]/\k.name∉out then
   (match Ck S k.name with
    |none=>out++[k.name]
    |some t=>if t.sort=69 then out++[k.name]else t.fields.foldl (fun o f=>Qo S n f.kind o) (out++[k.name]))
  else out
def Jz(S:List Ty):List Cm:=S.map (·.name)
def Qf0(S:List Ty)(out:List Cm):Prop:=out.Nodup/\∀x∈out,x∈Jz S
theorem Qf0.nil(S:List Ty):Qf0 S []:=⟨List.nodup_nil,by simp⟩
theorem Qb1:∀(l m:List Cm),l.Nodup->(∀x∈l,x∈m)->l.length<=m.length
 |[],m,_,_=>ag _
 |x::l,m,hn,hs=>by
  obtain⟨h1,h2⟩:=List.nodup_cons.1 hn;have hx:=hs x aK
  have ih:=Qb1 l (m.erase x) h2 (fun y hy=>by
   have hne:y≠x:=by rintro rfl;exact h1 hy
   exact(List.mem_erase_of_ne hne).2 (hs y (by simp[hy])))
  have hl:=List.length_erase_of_mem hx;have hp:0<m.length:=List.length_pos_iff.2 (by rintro rfl;cases hx);simp;omega
theorem Qf0.len{S:List Ty}{out:List Cm}(h:Qf0 S out):out.length<=S.length:=by
 have:=Qb1 out (Jz S) h.1 h.2;simpa [Jz]using this
abbrev P1:=Cm × Cm
def Qf9(S T:List Ty)(m:List P1):Prop:=m.Nodup/\∀p∈m,p.1∈Jz S/\p.2∈Jz T
theorem Qf9.nil(S T:List Ty):Qf9 S T []:=⟨List.nodup_nil,by simp⟩
theorem Ye:∀(l m:List P1),l.Nodup->(∀x∈l,x∈m)->l.length<=m.length
 |[],m,_,_=>aK
 |x::l,m,hn,hs=>by
  have hx:=hs x aK;have:=Ye l (m.erase x) (List.nodup_cons.1 hn).2 (fun y hy=>(List.mem_erase_of_ne (by rintro rfl;exact(List.nodup_cons.1 hn).1 hy)).2 (hs y (by simp[hy])));rw[List.length_erase_of_mem hx]at this;have:=List.length_pos_of_mem hx;simp only[List.length_cons];omega
def Zv(a b:List Cm):List P1:=a.flatMap fun x=>b.map fun y=>(x,y)
theorem Ve(b:List Cm):∀a,(Zv a b).length=a.length*b.length
 |[]=>by simp[Zv]
 |x::a=>by
  have:=Ve b a;unfold Zv at this ⊢;rw[List.flatMap_cons,ah,List.length_map,this,List.length_cons,Nat.add_mul];omega
theorem Qf9.len{S T:List Ty}{m:List P1}(h:Qf9 S T m):m.length<=S.length*T.length:=by
 have:=Ye m (Zv (Jz S) (Jz T)) h.1 (fun x hx=>by
  obtain⟨a,b⟩:=x;have:=h.2 _ hx;unfold Zv;rw[List.mem_flatMap];exact⟨a,this.1,aw.2 ⟨b,this.2,rfl⟩⟩)
 rw[Ve]at this;simpa [Jz]using this
def Qfs(R:Cm->Cm->Prop)(a b:Kd):Prop:=a.signs=b.signs/\a.base=b.base/\(a.base=[64]->R a.name b.name)
def Qe7(S T:List Ty)(R:Cm->Cm->Prop)(t:Ty)(st:UInt8)(g:Fd):Prop:=
 match Bu t.fields g.tag with
 |none=>st=82
 |some f=>st=69\/(Qfs R f.kind g.kind/\(st=82->Qa S f=Qa T g))
def V6(S T:List Ty)(R:Cm->Cm->Prop)(a b:Cm):Prop:=∃t u,Ck S a=some t/\Ck T b=some u/\t.sort=u.sort/\∀g∈u.fields,Qe7 S T R t u.sort g
abbrev inM(m:List P1)(a b:Cm):Prop:=(a,b)∈m
theorem Qfs.mono{R Q:Cm->Cm->Prop}(h:∀a b,R a b->Q a b){a b:Kd}(hk:Qfs R a b):Qfs Q a b:=⟨hk.1,hk.2.1,fun e=>h _ _ (hk.2.2 e)⟩
theorem Qe7.mono{S T:List Ty}{R Q:Cm->Cm->Prop}(h:∀a b,R a b->Q a b){t:Ty}{st:UInt8}{g:Fd}(hk:Qe7 S T R t st g):Qe7 S T Q t st g:=by
 unfold Qe7 at hk ⊢;cases hf:Bu t.fields g.tag with
 |none=>rw[hf]at hk;exact hk
 |some f=>
  rw[hf]at hk;rcases hk with hk|⟨x,y⟩
  ·exact .inl hk
  exact .inr ⟨x.mono h,y⟩
theorem V6.mono{S T:List Ty}{R Q:Cm->Cm->Prop}(h:∀a b,R a b->Q a b){a b:Cm}(hk:V6 S T R a b):V6 S T Q a b:=by
 obtain⟨t,u,e1,e2,e3,e4⟩:=hk;exact⟨t,u,e1,e2,e3,fun g hg=>(e4 g hg).mono h⟩
def Qbn(S T:List Ty)(m m':List P1):Prop:=∀a b,(a,b)∈m'->(a,b)∉m->V6 S T (inM m') a b
theorem Qbn.trans{S T:List Ty}{m1 m2 m3:List P1}(h1:Qbn S T m1 m2)(h2:Qbn S T m2 m3)(hs:∀p∈m2,p∈m3):Qbn S T m1 m3:=by
 intro a b h3 hn;by_cases h:(a,b)∈m2
 ·exact(h1 a b h hn).mono fun x y hxy=>hs _ hxy
 exact h2 a b h3 h
def Tw(ρ:Cm->Cm)(k:Kd):Kd:=if k.base=[64]then {k with name:=ρ k.name} else k
def Rl(ρ:Cm->Cm)(st:UInt8)(f:Fd):Fd:=if st=69 then f else {f with kind:=Tw ρ f.kind}
def Xa(ρ:Cm->Cm)(t:Ty):Ty:={t with name:=ρ t.name,fields:=t.fields.map (Rl ρ t.sort)}
theorem Sy(ρ:Cm->Cm)(k:Kd):(Tw ρ k).signs=k.signs:=by unfold Tw;split<;>rfl
theorem Ni(ρ:Cm->Cm)(k:Kd):(Tw ρ k).base=k.base:=by unfold Tw;split<;>rfl
theorem Kl{ρ:Cm->Cm}{k:Kd}(h:k.base=[64]):(Tw ρ k).name=ρ k.name:=by unfold Tw;rw[if_pos h]
theorem Qec(ρ:Cm->Cm)(st:UInt8)(f:Fd):(Rl ρ st f).tag=f.tag:=by unfold Rl;split<;>rfl
theorem Qat(ρ:Cm->Cm)(st:UInt8)(f:Fd):(Rl ρ st f).given=f.given:=by unfold Rl;split<;>rfl
theorem Nd{ρ:Cm->Cm}{st:UInt8}(h:st≠69)(f:Fd):(Rl ρ st f).kind=Tw ρ f.kind:=by unfold Rl;rw[if_neg h]
def inN(ns:List Cm)(k:Kd):Prop:=k.base=[64]->k.name∈ns
structure Ren(S T:List Ty)(ns:List Cm)(ρ:Cm->Cm):Prop where
 get:∀n∈ns,∃t,Ck S n=some t/\Ck T (ρ n)=some (Xa ρ t)/\Du t/\(t.sort≠69->∀f∈t.fields,inN ns f.kind)
 inj:∀a∈ns,∀b∈ns,ρ a=ρ b->a=b
theorem Ren.met{S T:List Ty}{ns:List Cm}{ρ:Cm->Cm}(h:Ren S T ns ρ):∀(n:Nat) (k:Kd) (out:List Cm),inN ns k->(∀x∈out,x∈ns) ->
  Qo T n (Tw ρ k) (out.map ρ)=(Qo S n k out).map ρ/\∀x∈Qo S n k out,x∈ns
 |0,k,out,_,ho=>⟨rfl,ho⟩
 |n+1,k,out,hk,ho=>by
  by_cases hb:k.base=[64]
  ·have hkn:=hk hb;have hmem:ρ k.name∈out.map ρ↔k.name∈out:=by
    rw[aw];exact⟨fun⟨y,hy,e⟩=>by rw[<-h.inj y (ho y hy) k.name hkn e];exact hy,fun hy=>⟨_,hy,rfl⟩⟩
   by_cases hin:k.name∈out
   ·rw[Qo,Qo,if_neg (by rw[Kl hb];exact fun hh=>hh.2 (hmem.2 hin)),if_neg (fun hh=>hh.2 hin)];exact⟨rfl,ho⟩
   obtain⟨t,e1,e2,e3,e4⟩:=h.get _ hkn;have ho2:∀x∈out++[k.name],x∈ns:=fun x hx=>by
    rcases af.1 hx with hx|hx
    ·exact ho x hx
    simp at hx;subst hx;exact hkn
   rw[Qo,Qo,if_pos ⟨by rw[Ni];exact hb,by rw[Kl hb];exact fun hh=>hin (hmem.1 hh)⟩,if_pos ⟨hb,hin⟩,Kl hb,e1,e2];simp only;rw[show (Xa ρ t).sort=t.sort from rfl,show (Xa ρ t).fields=t.fields.map (Rl ρ t.sort)from rfl];have em:out.map ρ++[ρ k.name]=(out++[k.name]).map ρ:=aK;by_cases h69:t.sort=69
   ·rw[if_pos h69,if_pos h69];exact⟨em,ho2⟩
   rw[if_neg h69,if_neg h69,em];have key:∀(fs:List Fd),(∀f∈fs,inN ns f.kind)->∀(o:List Cm),(∀x∈o,x∈ns) ->
     (fs.map (Rl ρ t.sort)).foldl (fun o f=>Qo T n f.kind o) (o.map ρ)=(fs.foldl (fun o f=>Qo S n f.kind o) o).map ρ/\∀x∈fs.foldl (fun o f=>Qo S n f.kind o) o,x∈ns:=by
    intro fs;induction fs with
    |nil=>intro _ o ho;exact⟨rfl,ho⟩
    |cons f fs ih=>
     intro hfs o ho;obtain⟨m1,m2⟩:=h.met n f.kind o (hfs f aK) ho;simp only[ax,List.foldl_cons];rw[Nd h69,m1];exact ih (fun g hg=>hfs g (by simp[hg])) _ m2
   exact key t.fields (e4 h69) _ ho2
  rw[Qo,Qo,if_neg (fun hh=>hb (by rw[Ni]at hh;exact hh.1)),if_neg (fun hh=>hb hh.1)];exact⟨rfl,ho⟩
theorem Ren.stand{S T:List Ty}{ns:List Cm}{ρ:Cm->Cm}(h:Ren S T ns ρ):∀(n:Nat) (k:Kd),inN ns k->Vv k->Cu T n (Tw ρ k)=Cu S n k
 |0,_,_,_=>rfl
 |n+1,k,hk,hb=>by
  rw[Cu,Cu,Sy,Ni];split
  ·rfl
  split
  ·rfl
  split
  ·rfl
  rename_i h1;split
  ·rfl
  rename_i h2;split
  ·rfl
  rename_i h3;have hb64:k.base=[64]:=by
   rcases hb with⟨hb,_⟩|⟨hb|hb|hb,_⟩
   ·exact hb
   ·exact absurd hb h1
   ·exact absurd hb h2
   exact absurd hb h3
  obtain⟨t,e1,e2,e3,e4⟩:=h.get _ (hk hb64);rw[Kl hb64,e1,e2];simp only;rw[show (Xa ρ t).sort=t.sort from rfl,show (Xa ρ t).fields=t.fields.map (Rl ρ t.sort)from rfl];split
  ·rfl
  cases hf:t.fields with
  |nil=>rfl
  |cons f fs=>
   simp only[ax];rw[Qec];split
   ·rfl
   rename_i h69;rw[Nd h69,h.stand n f.kind (e4 h69 f da) ((e3.2.2.1.1 f da).2.2.2.2 h69).1.2.1]
theorem Ren.of{S T:List Ty}{ns:List Cm}{ρ:Cm->Cm}(h:Ren S T ns ρ){st:UInt8}{f:Fd}(h69:st≠69)(hf:Rh st f)(hk:inN ns f.kind):Qa T (Rl ρ st f)=Qa S f:=by
 unfold Qa;rw[Qat,Nd h69];unfold Qm;rw[h.stand 10 f.kind hk (hf.2.2.2.2 h69).1.2.1]
theorem Ren.ends{S T:List Ty}{ns:List Cm}{ρ:Cm->Cm}(h:Ren S T ns ρ):∀(n:Nat) (t:Ty),(t.sort≠69->∀f∈t.fields,inN ns f.kind)->Bm T n (Xa ρ t)=Bm S n t
 |0,_,_=>rfl
 |n+1,t,ht=>by
  unfold Bm;by_cases h85:t.sort=85
  ·have h69:t.sort≠69:=cZ;unfold Eu;rw[show (Xa ρ t).sort=t.sort from rfl,show (Xa ρ t).fields=t.fields.map (Rl ρ t.sort)from rfl,if_pos h85,if_pos h85];cases hf:t.fields with
   |nil=>rfl
   |cons f fs=>
    simp only[ax];rw[Nd h69,Sy,Ni];by_cases hc:f.kind.signs=[]/\f.kind.base=[64]
    ·rw[if_pos hc,if_pos hc,Kl hc.2];obtain⟨u,e1,e2,e3,e4⟩:=h.get _ (ht h69 f da hc.2);rw[e1,e2];exact h.ends n u e4
    rw[if_neg hc,if_neg hc]
  have e1:Eu T (Xa ρ t)=none:=if_neg h85;have e2:Eu S t=none:=if_neg h85;rw[e1,e2]
def Qeh(v:Vl):Vl:=v.kids.headD v
def LOk(v:Vl)(r:Vl × Bool):Prop:=(r.2=false->r.1=v)/\(r.2=true->(Bg r.1).length<(Bg v).length)
theorem LOk.le{v:Vl}{r:Vl × Bool}(h:LOk v r):(Bg r.1).length<=(Bg v).length:=by
 cases e:r.2 with
 |false=>rw[h.1 e];exact Ap _
 |true=>exact Nat.le_of_lt (h.2 e)
theorem LOk.same(v:Vl):LOk v (v,false):=⟨fun _=>rfl,fun h=>Bool.noConfusion h⟩
def Df(ps:List (List UInt8)):Nat:=(ps.map fun p=>p.length+1).sum
theorem Er(p:List UInt8)(ps:List (List UInt8)):Df (p::ps)=p.length+1+Df ps:=ej
theorem Bw(c:UInt8):∀ps:List (List UInt8),(Aq c ps).length=Df ps - 1
 |[]=>rfl
 |[p]=>by simp[Aq,Df]
 |p::q::ps=>by
  rw[Cj c p aK,ah,List.length_cons,Bw c (q::ps),Er p,Er q];omega
theorem Ql(w:UInt8)(tx:List UInt8)(tg:Nat)(ks:List Vl):Bg (.mk w tx tg ks)=G1 w tx tg (ks.map Bg):=by rw[Bg,Pv]
theorem Rq(p:Fd × Vl):(Bg (Do p)).length=(An p.1.tag).length+1+(Bg p.2).length:=by simp[Do,Bg,D2,G1,Aq];omega
theorem N6{fs:List Fd}{n:Nat}{f:Fd}(h:Bu fs n=some f):f∈fs/\f.tag=n:=⟨(Bn h).2,(Bn h).1⟩
end Go.Proofs.YtpjijpcemejlnaaGreatDoor
