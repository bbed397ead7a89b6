/- Texts joined. Conditions: as each theorem names them. -/
import Derived.Test.YtkigmebejmmikaaGreatDoorG02
set_option maxRecDepth 100000
set_option maxHeartbeats 32000000
set_option linter.unusedVariables false
set_option linter.unusedSimpArgs false
namespace Go.Proofs.YtkigmebejmmikaaGreatDoor
open Go.RowKit Go.Proofs.Tryz
inductive Vl where
 |mk (what:UInt8) (text:List UInt8) (tag:Nat) (kids:List Vl)
def Vl.what:Vl->UInt8|.mk w _ _ _=>w
def Vl.text:Vl->List UInt8|.mk _ t _ _=>t
def Vl.tag:Vl->Nat|.mk _ _ g _=>g
def Vl.kids:Vl->List Vl|.mk _ _ _ k=>k
def Ez(w:UInt8)(tx:List UInt8)(tg:Nat)(ps:List (List UInt8)):List UInt8:=
 if w=116 then 39::(tx++[39])
 else if w=91 then 91::(An 44 ps++[93])
 else if w=63 then(match ps with|[]=>[45]|_=>43::An 44 ps)
 else if w=61 then Az tg++61::An 44 ps
 else if w=82 then 123::(An 44 ps++[125])
 else if w=85 then 60::(Az tg++61::(An 44 ps++[62]))
 else if w=69 then 35::Az tg
 else tx
mutual
def Au:Vl->List UInt8
 |.mk w tx tg ks=>Ez w tx tg (Cs ks)
def Cs:List Vl->List (List UInt8)
 |[]=>[]
 |x::xs=>Au x::Cs xs
end
theorem Qm:∀ks:List Vl,Cs ks=ks.map Au
 |[]=>rfl
 |x::xs=>by rw[Cs,Qm xs];rfl
mutual
def Nh:Vl->Nat
 |.mk w _ _ ks=>if w=61 then Gz ks else Gz ks+1
def Gz:List Vl->Nat
 |[]=>0
 |x::xs=>max (Nh x) (Gz xs)
end
theorem S9:∀(ks:List Vl) (d:Nat),Gz ks<=d↔∀x∈ks,Nh x<=d
 |[],d=>by simp[Gz]
 |x::xs,d=>by rw[Gz,Nat.max_le,S9 xs d];simp
def Ei:List UInt8:=[121,101,115]
def Ma:List UInt8:=[110,111]
def Cw(p:Fd × Vl):Vl:=.mk 61 [] p.1.tag [p.2]
inductive Jq(S:List Ty):Nat->Kd->Vl->Prop
 |n {d:Nat} {k:Kd} {m:Nat} (hs:k.signs=[]) (hb:k.base=[110]) (h:m<=999999):Jq S (d+1) k (.mk 110 (Az m) 0 [])
 |t {d:Nat} {k:Kd} {s:List UInt8} (hs:k.signs=[]) (hb:k.base=[116]) (h:Dq s=true):Jq S (d+1) k (.mk 116 s 0 [])
 |f {d:Nat} {k:Kd} {b:Bool} (hs:k.signs=[]) (hb:k.base=[102]):Jq S (d+1) k (.mk 102 (if b then Ei else Ma) 0 [])
 |lst {d:Nat} {k:Kd} {r:List UInt8} {ks:List Vl} (hs:k.signs=91::r) (hl:ks.length<=20) (h:∀x∈ks,Jq S d k.part x):Jq S (d+1) k (.mk 91 [] 0 ks)
 |non {d:Nat} {k:Kd} {r:List UInt8} (hs:k.signs=63::r):Jq S (d+1) k (.mk 63 [] 0 [])
 |som {d:Nat} {k:Kd} {r:List UInt8} {x:Vl} (hs:k.signs=63::r) (h:Jq S d k.part x):Jq S (d+1) k (.mk 63 [] 0 [x])
 |enm {d:Nat} {k:Kd} {t:Ty} {f:Fd} (hs:k.signs=[]) (hb:k.base=[64]) (ht:B0 S k.name=some t) (h9:t.sort=69) (hf:Bp t.fields f.tag=some f):Jq S (d+1) k (.mk 69 [] f.tag [])
 |uni {d:Nat} {k:Kd} {t:Ty} {f:Fd} {x:Vl} (hs:k.signs=[]) (hb:k.base=[64]) (ht:B0 S k.name=some t) (h5:t.sort=85) (hf:Bp t.fields f.tag=some f) (h:Jq S d f.kind x):Jq S (d+1) k (.mk 85 [] f.tag [x])
 |rcd {d:Nat} {k:Kd} {t:Ty} {fs:List (Fd × Vl)} (hs:k.signs=[]) (hb:k.base=[64]) (ht:B0 S k.name=some t) (h2:t.sort=82) (hf:∀p∈fs,Bp t.fields p.1.tag=some p.1) (h:∀p∈fs,Jq S d p.1.kind p.2)
   (hn:∀p∈fs,Au p.2≠Kn S p.1) (hp:fs.Pairwise fun p q=>p.1.tag<q.1.tag):Jq S (d+1) k (.mk 82 [] 0 (fs.map Cw))
theorem Qfq(p:Fd × Vl):Nh (Cw p)=Nh p.2:=by simp[Cw,Nh,Gz]
theorem J3(S:List Ty):∀(n:Nat) (k:Kd) (v:Vl),Jq S n k v->∀d,Jq S d k v↔Nh v<=d:=by
 intro n;induction n with
 |zero=>intro k v h;cases h
 |succ n ih=>
  intro k v h d;cases d with
  |zero=>
   constructor
   ·intro h;cases h
   intro hd;cases h<;>simp[Nh]at hd
  |succ d=>
   cases h with
   |n hs hb h=>exact⟨fun _=>by simp[Nh,Gz],fun _=>.n hs hb h⟩
   |t hs hb h=>exact⟨fun _=>by simp[Nh,Gz],fun _=>.t hs hb h⟩
   |f hs hb=>exact⟨fun _=>by simp[Nh,Gz],fun _=>.f hs hb⟩
   |non hs=>exact⟨fun _=>by simp[Nh,Gz],fun _=>.non hs⟩
   |enm hs hb ht h9 hf=>exact⟨fun _=>by simp[Nh,Gz],fun _=>.enm hs hb ht h9 hf⟩
   |@lst _ _ r ks hs hl h=>
    have e:Nh (.mk 91 [] 0 ks)<=d+1↔∀x∈ks,Nh x<=d:=by rw[<-S9];simp[Nh]
    rw[e];constructor
    ·intro hv x hx;cases hv with
     |lst _ _ h2=>exact(ih _ _ (h x hx) d).1 (h2 x hx)
    intro hv;exact .lst hs hl fun x hx=>(ih _ _ (h x hx) d).2 (hv x hx)
   |@som _ _ r x hs h=>
    have e:Nh (.mk 63 [] 0 [x])<=d+1↔Nh x<=d:=by simp[Nh,Gz]
    rw[e];constructor
    ·intro hv;cases hv with
     |som _ h2=>exact(ih _ _ h d).1 h2
    intro hv;exact .som hs ((ih _ _ h d).2 hv)
   |@uni _ _ t f x hs hb ht h5 hf h=>
    have e:Nh (.mk 85 [] f.tag [x])<=d+1↔Nh x<=d:=by simp[Nh,Gz]
    rw[e];constructor
    ·intro hv;generalize hg:f.tag=g at hv;cases hv with
     |uni hs2 hb2 ht2 h52 hf2 h2=>
      rw[ht]at ht2;injection ht2 with ht2;subst ht2;rw[<-hg,hf]at hf2;injection hf2 with hf2;subst hf2;exact(ih _ _ h d).1 h2
    intro hv;exact .uni hs hb ht h5 hf ((ih _ _ h d).2 hv)
   |@rcd _ _ t fs hs hb ht h2 hf h hn hp=>
    have e:Nh (.mk 82 [] 0 (fs.map Cw))<=d+1↔∀p∈fs,Nh p.2<=d:=by
     have:Nh (.mk 82 [] 0 (fs.map Cw))=Gz (fs.map Cw)+1:=by simp[Nh]
     rw[this,Nat.succ_le_succ_iff,S9];constructor
     ·intro h p hp;have:=h _ (am hp);rwa [Qfq]at this
     intro h x hx;obtain⟨p,hp,rfl⟩:=au.1 hx;rw[Qfq];exact h p hp
    rw[e];constructor
    ·intro hv p hp;generalize hg:fs.map Cw=ks at hv;cases hv with
     |@rcd _ _ t2 fs2 hs2 hb2 ht2 h22 hf2 h2 hn2 hp2=>
      rw[ht]at ht2;injection ht2 with ht2;subst ht2;have hm:Cw p∈fs2.map Cw:=hg ▸ am hp;obtain⟨q,hq,eq⟩:=au.1 hm;have e1:q.1.tag=p.1.tag:=by injection eq
      have e2:q.2=p.2:=by injection eq with _ _ _ e4;injection e4
      have e3:q.1=p.1:=by have:=hf2 q hq;rw[e1,hf p hp]at this;injection this with this;exact this.symm
      have:=h2 q hq;rw[e2,e3]at this;exact(ih _ _ (h p hp) d).1 this
    intro hv;exact .rcd hs hb ht h2 hf (fun p hp=>(ih _ _ (h p hp) d).2 (hv p hp)) hn hp
def P8(s:List UInt8):Option (Nat × List UInt8):=match Cn (s.takeWhile Bg)with
 |some n=>some (n,s.dropWhile Bg)
 |none=>none
def Fz(fs:List Fd)(s:List UInt8):Option (Fd × List UInt8):=match P8 s with
 |some (n,r)=>if n<=200 then(match Bp fs n with|some f=>some (f,r)|none=>none)else none
 |none=>none
def Ae(c:UInt8):List UInt8->Option (List UInt8)
 |x::r=>if x=c then some r else none
 |[]=>none
def Mj(s:List UInt8):Option (List UInt8 × List UInt8):=match Ae 39 s with
 |none=>none
 |some r=>match Ae 39 (r.dropWhile Cg)with
  |none=>none
  |some q=>if (r.takeWhile Cg).length<=12 then some (r.takeWhile Cg,q)else none
def Dt:List UInt8->List UInt8->Option (List UInt8)
 |[],s=>some s
 |c::p,s=>match Ae c s with|none=>none|some r=>Dt p r
def Ni(s:List UInt8):Option (Bool × List UInt8):=match Dt Ei s with
 |some r=>some (true,r)
 |none=>match Dt Ma s with|some r=>some (false,r)|none=>none
def A0(K:List UInt8->Option (Vl × List UInt8)):Nat->List UInt8->Option (List Vl × List UInt8)
 |0,_=>none
 |m+1,s=>match K s with
  |none=>none
  |some (v,r)=>match Ae 44 r with
   |some q=>(match A0 K m q with|some (vs,z)=>some (v::vs,z)|none=>none)
   |none=>match Ae 93 r with|some q=>some ([v],q)|none=>none
def Kl(K:List UInt8->Option (Vl × List UInt8))(m:Nat)(s:List UInt8):Option (Vl × List UInt8):=match Ae 91 s with
 |none=>none
 |some r=>match Ae 93 r with
  |some q=>some (.mk 91 [] 0 [],q)
  |none=>match A0 K m r with|some (vs,q)=>if vs.length<=20 then some (.mk 91 [] 0 vs,q)else none|none=>none
def Vu(K:List UInt8->Option (Vl × List UInt8))(s:List UInt8):Option (Vl × List UInt8):=match Ae 45 s with
 |some q=>some (.mk 63 [] 0 [],q)
 |none=>match Ae 43 s with
  |none=>none
  |some r=>match K r with|some (v,q)=>some (.mk 63 [] 0 [v],q)|none=>none
def Ct(K:Kd->List UInt8->Option (Vl × List UInt8))(fs:List Fd)(s:List UInt8):Option ((Fd × Vl) × List UInt8):=match Fz fs s with
 |none=>none
 |some (f,r)=>match Ae 61 r with
  |none=>none
  |some q=>match K f.kind q with|some (v,z)=>some ((f,v),z)|none=>none
def Do(S:List Ty)(K:Kd->List UInt8->Option (Vl × List UInt8))(fs:List Fd):Nat->Nat->List UInt8->Option (List (Fd × Vl) × List UInt8)
 |0,_,_=>none
 |m+1,last,s=>match Ct K fs s with
  |none=>none
  |some (p,r)=>if p.1.tag<=last\/Au p.2=Kn S p.1 then none else match Ae 44 r with
   |some q=>(match Do S K fs m p.1.tag q with|some (ps,z)=>some (p::ps,z)|none=>none)
   |none=>match Ae 125 r with|some q=>some ([p],q)|none=>none
def Ha(S:List Ty)(K:Kd->List UInt8->Option (Vl × List UInt8))(t:Ty)(s:List UInt8):Option (Vl × List UInt8):=
 if t.sort=69 then(match Ae 35 s with
  |none=>none
  |some r=>match Fz t.fields r with|some (f,q)=>some (.mk 69 [] f.tag [],q)|none=>none)
 else if t.sort=85 then(match Ae 60 s with
  |none=>none
  |some r=>match Ct K t.fields r with
   |none=>none
   |some (p,q)=>match Ae 62 q with|some z=>some (.mk 85 [] p.1.tag [p.2],z)|none=>none)
 else match Ae 123 s with
  |none=>none
  |some r=>match Ae 125 r with
   |some q=>some (.mk 82 [] 0 [],q)
   |none=>match Do S K t.fields 201 0 r with|some (ps,q)=>some (.mk 82 [] 0 (ps.map Cw),q)|none=>none
def Ak(S:List Ty)(m:Nat):Nat->Kd->List UInt8->Option (Vl × List UInt8)
 |0,_,_=>none
 |d+1,k,s=>match k.signs with
  |c::_=>if c=91 then Kl (Ak S m d k.part) m s else Vu (Ak S m d k.part) s
  |[]=>
   if k.base=[110]then(match P8 s with|some (n,r)=>some (.mk 110 (Az n) 0 [],r)|none=>none)
   else if k.base=[116]then(match Mj s with|some (x,r)=>some (.mk 116 x 0 [],r)|none=>none)
   else if k.base=[102]then(match Ni s with|some (b,r)=>some (.mk 102 (if b then Ei else Ma) 0 [],r)|none=>none)
   else match B0 S k.name with
    |none=>none
    |some t=>Ha S (Ak S m d) t s
theorem Ax{c:UInt8}{s r:List UInt8}:Ae c s=some r↔s=c::r:=by
 cases s with
 |nil=>simp[Ae]
 |cons x t=>
  by_cases h:x=c
  ·subst h;simp[Ae]
  simp[Ae,h]
theorem Aq(c:UInt8)(r:List UInt8):Ae c (c::r)=some r:=if_pos rfl
theorem Bl{c x:UInt8}(h:x≠c)(r:List UInt8):Ae c (x::r)=none:=if_neg h
theorem Du{p s r:List UInt8}:Dt p s=some r↔s=p++r:=by
 induction p generalizing s with
 |nil=>simp[Dt]
 |cons c p ih=>
  unfold Dt;cases h:Ae c s with
  |none=>
   simp only[false_iff,reduceCtorEq];intro e;subst e;rw[aq,Aq]at h;cases h
  |some q=>rw[Ax]at h;subst h;simp[ih]
def Ng(r:List UInt8):Prop:=∀c t,r=c::t->Bg c=false
theorem Rv:Ng []:=by intro c t h;cases h
theorem Dk{c:UInt8}(r:List UInt8)(h:Bg c=false):Ng (c::r):=by intro x t e;injection e with e;subst e;exact h
theorem Qdw{a r:List UInt8}(ha:a.all Bg=true)(hr:Ng r):(a++r).takeWhile Bg=a/\(a++r).dropWhile Bg=r:=by
 cases r with
 |nil=>
  rw[List.append_nil];induction a with
  |nil=>exact⟨rfl,rfl⟩
  |cons c a ih=>
   rw[List.all_cons,ar]at ha;obtain⟨i1,i2⟩:=ih ha.2;rw[List.takeWhile_cons_of_pos ha.1,List.dropWhile_cons_of_pos ha.1,i1,i2];exact i6
 |cons c t=>exact Fj ha ⟨c,t,rfl,hr c t rfl⟩
theorem Vz{s r:List UInt8}{n:Nat}(h:P8 s=some (n,r)):n<=999999/\s=Az n++r/\Ng r:=by
 unfold P8 at h;cases hd:Cn (s.takeWhile Bg)with
 |none=>rw[hd]at h;cases h
 |some m=>
  rw[hd]at h;simp only[ai,aB]at h;obtain⟨rfl,rfl⟩:=h;obtain⟨h1,h2⟩:=Cb.1 hd;refine⟨h1,by rw[<-h2,List.takeWhile_append_dropWhile],fun c t e=>?_⟩;have:=List.head?_dropWhile_not Bg s;rw[e]at this;simpa using this
theorem N7{n:Nat}{r:List UInt8}(h:n<=999999)(hr:Ng r):P8 (Az n++r)=some (n,r):=by
 obtain⟨e1,e2⟩:=Qdw (Mq n) hr;unfold P8;rw[e1,e2,Cb.2 ⟨h,rfl⟩]
theorem Bz{fs:List Fd}{n:Nat}{f:Fd}(h:Bp fs n=some f):f.tag=n/\f∈fs:=by
 unfold Bp at h;have:=List.find?_some h;exact⟨by simpa using this,List.mem_of_find?_eq_some h⟩
theorem Jc{fs:List Fd}{s r:List UInt8}{f:Fd}(h:Fz fs s=some (f,r)):f.tag<=200/\Bp fs f.tag=some f/\s=Az f.tag++r/\Ng r:=by
 unfold Fz at h;cases hn:P8 s with
 |none=>rw[hn]at h;cases h
 |some q=>
  obtain⟨n,z⟩:=q;rw[hn]at h;simp only at h;split at h
  ·rename_i h2;cases hf:Bp fs n with
   |none=>rw[hf]at h;cases h
   |some g=>
    rw[hf]at h;simp only[ai,aB]at h;obtain⟨rfl,rfl⟩:=h;have e:=(Bz hf).1;obtain⟨_,e2,e3⟩:=Vz hn;rw[e];exact⟨h2,hf,e2,e3⟩
  cases h
theorem Qo{fs:List Fd}{f:Fd}{r:List UInt8}(h:f.tag<=200)(hf:Bp fs f.tag=some f)(hr:Ng r):Fz fs (Az f.tag++r)=some (f,r):=by
 unfold Fz;rw[N7 aE hr];simp[h,hf]
theorem Z8:Cg 39=false:=aH
theorem Rs{s b r:List UInt8}:Mj s=some (b,r)↔Dq b=true/\s=39::(b++39::r):=by
 unfold Mj;cases h:Ae 39 s with
 |none=>
  simp only[reduceCtorEq,false_iff,not_and];rintro _ rfl;rw[Aq]at h;cases h
 |some q=>
  rw[Ax]at h;subst h;simp only[List.cons.injEq,true_and];cases h:Ae 39 (q.dropWhile Cg)with
  |none=>
   simp only[reduceCtorEq,false_iff,not_and];rintro hb rfl;have hb2:b.all Cg=true:=by unfold Dq at hb;simp only[ar]at hb;exact hb.2
   rw[(Fj hb2 ⟨39,r,rfl,Z8⟩).2,Aq]at h;cases h
  |some z=>
   rw[Ax]at h;have eq:q=q.takeWhile Cg++39::z:=by rw[<-h,List.takeWhile_append_dropWhile]
   simp only;constructor
   ·intro h2;split at h2
    ·rename_i hl;simp only[ai,aB]at h2;obtain⟨rfl,rfl⟩:=h2;exact⟨by unfold Dq;simp only[ar];exact⟨by simpa using hl,Jj q⟩,eq⟩
    cases h2
   rintro⟨hb,rfl⟩;unfold Dq at hb;simp only[ar,decide_eq_true_eq]at hb;obtain⟨e1,e2⟩:=Fj hb.2 ⟨39,r,rfl,Z8⟩;rw[e2]at h;injection h with _ h;subst h;rw[e1,if_pos hb.1]
theorem P5{s r:List UInt8}{b:Bool}:Ni s=some (b,r)↔s=(if b then Ei else Ma)++r:=by
 unfold Ni;cases h:Dt Ei s with
 |some q=>
  rw[Du]at h;subst h;cases b<;>simp[Ei,Ma]
 |none=>
  simp only;cases h2:Dt Ma s with
  |some q=>
   rw[Du]at h2;subst h2;cases b<;>simp[Ei,Ma]
  |none=>
   simp only[reduceCtorEq,false_iff];rintro rfl;cases b
   ·rw[show Dt Ma ((if false=true then Ei else Ma)++r)=some r from Du.2 rfl]at h2;cases h2
   rw[show Dt Ei ((if true=true then Ei else Ma)++r)=some r from Du.2 rfl]at h;cases h
theorem Zw{K:List UInt8->Option (Vl × List UInt8)}{P:Vl->Prop}(hK:∀s v r,K s=some (v,r)->P v/\s=Au v++r):∀(m:Nat) (s:List UInt8) (vs:List Vl) (r:List UInt8),
  A0 K m s=some (vs,r)->vs≠[]/\vs.length<=m/\(∀x∈vs,P x)/\s=An 44 (vs.map Au)++93::r:=by
 intro m;induction m with
 |zero=>intro s vs r h;cases h
 |succ m ih=>
  intro s vs r h;unfold A0 at h;cases hk:K s with
  |none=>rw[hk]at h;cases h
  |some q=>
   obtain⟨v,z⟩:=q;rw[hk]at h;simp only at h;obtain⟨hp,rfl⟩:=hK _ _ _ hk;cases hb:Ae 44 z with
   |some q=>
    rw[hb]at h;simp only at h;cases hi:A0 K m q with
    |none=>rw[hi]at h;cases h
    |some y=>
     obtain⟨us,y⟩:=y;rw[hi]at h;simp only[ai,aB]at h;obtain⟨rfl,rfl⟩:=h;obtain⟨h1,h2,h3,h4⟩:=ih _ _ _ hi;rw[Ax]at hb;subst hb;refine⟨by simp,by simp;omega,by simpa using⟨hp,h3⟩,?_⟩;rw[av,Cf 44 _ dT,h4];simp
   |none=>
    rw[hb]at h;simp only at h;cases hb:Ae 93 z with
    |none=>rw[hb]at h;cases h
    |some q=>
     rw[hb]at h;simp only[ai,aB]at h;obtain⟨rfl,rfl⟩:=h;rw[Ax]at hb;subst hb;exact⟨by simp,by simp,by simpa using hp,by simp[An]⟩
theorem Sk{K:List UInt8->Option (Vl × List UInt8)}:∀(m:Nat) (vs:List Vl) (r:List UInt8),(∀x∈vs,∀r,Ng r->K (Au x++r)=some (x,r))->vs≠[]->vs.length<=m ->
  A0 K m (An 44 (vs.map Au)++93::r)=some (vs,r)
 |0,vs,r,_,h,hl=>by cases vs with|nil=>exact absurd rfl h|cons=>simp at hl
 |m+1,[],r,_,h,_=>absurd rfl h
 |m+1,[x],r,hK,_,_=>by
  have e:=hK x aI (93::r) (Dk _ aH);simp only[av,List.map_nil,An];unfold A0;rw[e];simp only[Bl (show (93:UInt8)≠44 by decide),Aq]
 |m+1,x::y::vs,r,hK,_,hl=>by
  have ih:=Sk m (y::vs) r (fun z hz=>hK z dZ) aI eO;have e:=hK x aI (44::(An 44 ((y::vs).map Au)++93::r)) (Dk _ aH);rw[av,Cf 44 _ aI,List.append_assoc,aq];unfold A0;rw[e];simp only[Aq,ih]
theorem P3{K:Kd->List UInt8->Option (Vl × List UInt8)}{P:Fd->Vl->Prop}{fs:List Fd}(hK:∀f∈fs,∀s v r,K f.kind s=some (v,r)->P f v/\s=Au v++r){s r:List UInt8}{p:Fd × Vl}
  (h:Ct K fs s=some (p,r)):p.1.tag<=200/\Bp fs p.1.tag=some p.1/\P p.1 p.2/\s=Au (Cw p)++r:=by
 unfold Ct at h;cases ht:Fz fs s with
 |none=>rw[ht]at h;cases h
 |some q=>
  obtain⟨f,z⟩:=q;rw[ht]at h;simp only at h;obtain⟨h1,h2,rfl,_⟩:=Jc ht;cases hb:Ae 61 z with
  |none=>rw[hb]at h;cases h
  |some q=>
   rw[hb]at h;simp only at h;rw[Ax]at hb;subst hb;cases hk:K f.kind q with
   |none=>rw[hk]at h;cases h
   |some y=>
    obtain⟨v,y⟩:=y;rw[hk]at h;simp only[ai,aB]at h;obtain⟨rfl,rfl⟩:=h;obtain⟨h3,rfl⟩:=hK f (Bz h2).2 _ _ _ hk;exact⟨h1,h2,h3,by simp[Cw,Au,Cs,Ez,An]⟩
theorem P4{K:Kd->List UInt8->Option (Vl × List UInt8)}{fs:List Fd}{p:Fd × Vl}{r:List UInt8}(h1:p.1.tag<=200)(h2:Bp fs p.1.tag=some p.1)(hK:K p.1.kind (Au p.2++r)=some (p.2,r)):
  Ct K fs (Au (Cw p)++r)=some (p,r):=by
 have e:Au (Cw p)++r=Az p.1.tag++(61::(Au p.2++r)):=by simp[Cw,Au,Cs,Ez,An]
 rw[e];unfold Ct;rw[Qo h1 h2 (Dk _ aH)];simp only[Aq,hK]
theorem Qbh{S:List Ty}{K:Kd->List UInt8->Option (Vl × List UInt8)}{P:Fd->Vl->Prop}{fs:List Fd}(hK:∀f∈fs,∀s v r,K f.kind s=some (v,r)->P f v/\s=Au v++r):∀(m last:Nat) (s:List UInt8) (ps:List (Fd × Vl)) (r:List UInt8),
  Do S K fs m last s=some (ps,r)->ps≠[]/\(∀p∈ps,last<p.1.tag/\Bp fs p.1.tag=some p.1/\P p.1 p.2/\Au p.2≠Kn S p.1)/\(ps.Pairwise fun p q=>p.1.tag<q.1.tag)/\s=An 44 (ps.map fun p=>Au (Cw p))++125::r:=by
 intro m;induction m with
 |zero=>intro last s ps r h;cases h
 |succ m ih=>
  intro last s ps r h;unfold Do at h;cases hk:Ct K fs s with
  |none=>rw[hk]at h;cases h
  |some q=>
   obtain⟨p,z⟩:=q;rw[hk]at h;simp only at h;obtain⟨h1,h2,h3,rfl⟩:=P3 hK hk;split at h
   ·cases h
   rename_i hno;have hno1:last<p.1.tag:=aE;have hno2:Au p.2≠Kn S p.1:=fun e=>hno (.inr e);cases hb:Ae 44 z with
   |some q=>
    rw[hb]at h;simp only at h;cases hi:Do S K fs m p.1.tag q with
    |none=>rw[hi]at h;cases h
    |some y=>
     obtain⟨us,y⟩:=y;rw[hi]at h;simp only[ai,aB]at h;obtain⟨rfl,rfl⟩:=h;obtain⟨i1,i2,i3,i4⟩:=ih _ _ _ _ hi;rw[Ax]at hb;subst hb;refine⟨by simp,?_,?_,?_⟩
     ·intro x hx;rcases ax.1 hx with rfl|hx
      ·exact⟨hno1,h2,h3,hno2⟩
      obtain⟨j1,j2⟩:=i2 x hx;exact⟨by omega,j2⟩
     ·exact List.pairwise_cons.2 ⟨fun x hx=>(i2 x hx).1,i3⟩
     rw[av,Cf 44 _ (by simpa using i1),i4];simp
   |none=>
    rw[hb]at h;simp only at h;cases hb:Ae 125 z with
    |none=>rw[hb]at h;cases h
    |some q=>
     rw[hb]at h;simp only[ai,aB]at h;obtain⟨rfl,rfl⟩:=h;rw[Ax]at hb;subst hb;refine⟨by simp,?_,by simp,by simp[An]⟩;intro x hx;rw[an]at hx;subst hx;exact⟨hno1,h2,h3,hno2⟩
theorem Tv{S:List Ty}{K:Kd->List UInt8->Option (Vl × List UInt8)}{fs:List Fd}:∀(m last:Nat) (ps:List (Fd × Vl)) (r:List UInt8),
  (∀p∈ps,∀r,Ng r->K p.1.kind (Au p.2++r)=some (p.2,r))->ps≠[]->(∀p∈ps,last<p.1.tag/\p.1.tag<=200/\Bp fs p.1.tag=some p.1/\Au p.2≠Kn S p.1)->(ps.Pairwise fun p q=>p.1.tag<q.1.tag)->201<=m+last ->
  Do S K fs m last (An 44 (ps.map fun p=>Au (Cw p))++125::r)=some (ps,r)
 |0,last,[],r,_,h,_,_,_=>absurd rfl h
 |0,last,p::ps,r,_,_,hp,_,hl=>by have:=hp p aI;omega
 |m+1,last,[],r,_,h,_,_,_=>absurd rfl h
 |m+1,last,[p],r,hK,_,hp,_,hl=>by
  obtain⟨h1,h2,h3,h4⟩:=hp p aI;have e:=P4 h2 h3 (hK p aI (125::r) (Dk _ aH));simp only[av,List.map_nil,An];unfold Do;rw[e];simp only;rw[if_neg cy];simp only[Bl (show (125:UInt8)≠44 by decide),Aq]
 |m+1,last,p::q::ps,r,hK,_,hp,hw,hl=>by
  obtain⟨h1,h2,h3,h4⟩:=hp p aI;obtain⟨w1,w2⟩:=List.pairwise_cons.1 hw;have ih:=Tv m p.1.tag (q::ps) r (fun z hz=>hK z dZ) aI (fun z hz=>⟨w1 z hz,(hp z dZ).2⟩) w2 aE;have e:=P4 (K:=K) h2 h3 (hK p aI (44::(An 44 ((q::ps).map fun p=>Au (Cw p))++125::r)) (Dk _ aH));rw[av,Cf 44 _ aI,List.append_assoc,aq];unfold Do;rw[e];simp only;rw[if_neg cy];simp only[Aq,ih]
theorem Kb{k:Kd}(h:C0 k){c:UInt8}{t:List UInt8}(hs:k.signs=c::t):c=91\/c=63:=by
 have:=h.1;rw[hs]at this;simp only[List.all_cons,ar,Bo,Bool.or_eq_true,beq_iff_eq]at this;exact this.1
theorem Js{S:List Ty}(hS:∀t∈S,Ed t){n:List UInt8}{t:Ty}(ht:B0 S n=some t)(h9:t.sort≠69){f:Fd}(hf:f∈t.fields):C0 f.kind/\f.tag<=200:=by
 have h:=(hS t (Bq ht).1).2.2.1.1 f hf;exact⟨(h.2.2.2.2 h9).1,h.2.1⟩
theorem Jk(fs:List (Fd × Vl)):Au (.mk 82 [] 0 (fs.map Cw))=123::(An 44 (fs.map fun p=>Au (Cw p))++[125]):=by
 simp[Au,Qm,Ez];rfl
theorem E4(ks:List Vl):Au (.mk 91 [] 0 ks)=91::(An 44 (ks.map Au)++[93]):=by simp[Au,Qm,Ez]
theorem Mb(f:Fd)(x:Vl):Au (.mk 85 [] f.tag [x])=60::(Au (Cw (f,x))++[62]):=by simp[Au,Cs,Ez,Cw,An]
theorem E9{S:List Ty}(hS:∀t∈S,Ed t)(m:Nat):∀(d:Nat) (k:Kd) (s:List UInt8) (v:Vl) (r:List UInt8),C0 k->Ak S m d k s=some (v,r)->Jq S d k v/\s=Au v++r:=by
 intro d;induction d with
 |zero=>intro k s v r _ h;cases h
 |succ d ih=>
  intro k s v r hk h;unfold Ak at h;cases hs:k.signs with
  |cons c t=>
   rw[hs]at h;simp only at h;have hp:=(Gh hk).1;by_cases h91:c=91
   ·subst h91;rw[if_pos rfl]at h;unfold Kl at h;cases hb:Ae 91 s with
    |none=>rw[hb]at h;cases h
    |some q=>
     rw[hb]at h;simp only at h;rw[Ax]at hb;subst hb;cases hb:Ae 93 q with
     |some z=>
      rw[hb]at h;simp only[ai,aB]at h;obtain⟨rfl,rfl⟩:=h;rw[Ax]at hb;subst hb;exact⟨.lst hs aI aI,by rw[E4];rfl⟩
     |none=>
      rw[hb]at h;simp only at h;cases hi:A0 (Ak S m d k.part) m q with
      |none=>rw[hi]at h;cases h
      |some y=>
       obtain⟨us,y⟩:=y;rw[hi]at h;simp only at h;split at h
       ·rename_i hl;simp only[ai,aB]at h;obtain⟨rfl,rfl⟩:=h;obtain⟨_,_,i3,i4⟩:=Zw (P:=Jq S d k.part) (fun s v r h=>ih _ _ _ _ hp h) _ _ _ _ hi;exact⟨.lst hs hl i3,by rw[E4,i4];simp⟩
       cases h
   have h63:=(Kb hk hs).resolve_left h91;subst h63;rw[if_neg h91]at h;unfold Vu at h;cases hb:Ae 45 s with
   |some q=>
    rw[hb]at h;simp only[ai,aB]at h;obtain⟨rfl,rfl⟩:=h;rw[Ax]at hb;subst hb;exact⟨.non hs,rfl⟩
   |none=>
    rw[hb]at h;simp only at h;cases hb:Ae 43 s with
    |none=>rw[hb]at h;cases h
    |some q=>
     rw[hb]at h;simp only at h;rw[Ax]at hb;subst hb;cases hi:Ak S m d k.part q with
     |none=>rw[hi]at h;cases h
     |some y=>
      obtain⟨x,y⟩:=y;rw[hi]at h;simp only[ai,aB]at h;obtain⟨rfl,rfl⟩:=h;obtain⟨i1,rfl⟩:=ih _ _ _ _ hp hi;exact⟨.som hs i1,by simp[Au,Cs,Ez,An]⟩
  |nil=>
   rw[hs]at h;simp only at h;split at h
   ·rename_i hb;cases hn:P8 s with
    |none=>rw[hn]at h;cases h
    |some q=>
     obtain⟨n,q⟩:=q;rw[hn]at h;simp only[ai,aB]at h;obtain⟨rfl,rfl⟩:=h;obtain⟨h1,h2,_⟩:=Vz hn;exact⟨.n hs hb h1,by rw[h2];simp[Au,Cs,Ez]⟩
   split at h
   ·rename_i hb;cases hn:Mj s with
    |none=>rw[hn]at h;cases h
    |some q=>
     obtain⟨x,q⟩:=q;rw[hn]at h;simp only[ai,aB]at h;obtain⟨rfl,rfl⟩:=h;obtain⟨h1,rfl⟩:=Rs.1 hn;exact⟨.t hs hb h1,by simp[Au,Cs,Ez]⟩
   split at h
   ·rename_i hb;cases hn:Ni s with
    |none=>rw[hn]at h;cases h
    |some q=>
     obtain⟨x,q⟩:=q;rw[hn]at h;simp only[ai,aB]at h;obtain⟨rfl,rfl⟩:=h;have:=P5.1 hn;exact⟨.f hs hb,by rw[this];simp[Au,Cs,Ez]⟩
   rename_i b1 b2 b3;have hb:k.base=[64]:=by
    rcases hk.2.1 with h|⟨h|h|h,_⟩
    ·exact h.1
    ·exact absurd h b1
    ·exact absurd h b2
    exact absurd h b3
   cases ht:B0 S k.name with
   |none=>rw[ht]at h;cases h
   |some t=>
    rw[ht]at h;simp only at h;unfold Ha at h;by_cases h9:t.sort=69
    ·rw[if_pos h9]at h;cases hb3:Ae 35 s with
     |none=>rw[hb3]at h;cases h
     |some q=>
      rw[hb3]at h;simp only at h;rw[Ax]at hb3;subst hb3;cases hg:Fz t.fields q with
      |none=>rw[hg]at h;cases h
      |some y=>
       obtain⟨f,y⟩:=y;rw[hg]at h;simp only[ai,aB]at h;obtain⟨rfl,rfl⟩:=h;obtain⟨_,h2,h3,_⟩:=Jc hg;exact⟨.enm hs hb ht h9 h2,by rw[h3];simp[Au,Cs,Ez]⟩
    rw[if_neg h9]at h;have hK:∀f∈t.fields,∀s v r,Ak S m d f.kind s=some (v,r)->Jq S d f.kind v/\s=Au v++r:=fun f hf s v r hr=>ih _ _ _ _ (Js hS ht h9 hf).1 hr;by_cases h5:t.sort=85
    ·rw[if_pos h5]at h;cases hb3:Ae 60 s with
     |none=>rw[hb3]at h;cases h
     |some q=>
      rw[hb3]at h;simp only at h;rw[Ax]at hb3;subst hb3;cases hg:Ct (Ak S m d) t.fields q with
      |none=>rw[hg]at h;cases h
      |some y=>
       obtain⟨p,y⟩:=y;rw[hg]at h;simp only at h;cases hb4:Ae 62 y with
       |none=>rw[hb4]at h;cases h
       |some z=>
        rw[hb4]at h;simp only[ai,aB]at h;obtain⟨rfl,rfl⟩:=h;rw[Ax]at hb4;subst hb4;obtain⟨_,h2,h3,rfl⟩:=P3 (P:=fun f v=>Jq S d f.kind v) hK hg;exact⟨.uni hs hb ht h5 h2 h3,by rw[Mb];simp⟩
    rw[if_neg h5]at h;have h2:t.sort=82:=by
     rcases(hS t (Bq ht).1).1 with h|h|h
     ·exact h
     ·exact absurd h h5
     exact absurd h h9
    cases hb3:Ae 123 s with
    |none=>rw[hb3]at h;cases h
    |some q=>
     rw[hb3]at h;simp only at h;rw[Ax]at hb3;subst hb3;cases hb4:Ae 125 q with
     |some z=>
      rw[hb4]at h;simp only[ai,aB]at h;obtain⟨rfl,rfl⟩:=h;rw[Ax]at hb4;subst hb4;exact⟨.rcd (fs:=[]) hs hb ht h2 aI aI aI aI,rfl⟩
     |none=>
      rw[hb4]at h;simp only at h;cases hg:Do S (Ak S m d) t.fields 201 0 q with
      |none=>rw[hg]at h;cases h
      |some y=>
       obtain⟨ps,y⟩:=y;rw[hg]at h;simp only[ai,aB]at h;obtain⟨rfl,rfl⟩:=h;obtain⟨_,i2,i3,i4⟩:=Qbh (P:=fun f v=>Jq S d f.kind v) hK _ _ _ _ _ hg;exact⟨.rcd hs hb ht h2 (fun p hp=>(i2 p hp).2.1) (fun p hp=>(i2 p hp).2.2.1) (fun p hp=>(i2 p hp).2.2.2) i3,by rw[Jk,i4];simp⟩
theorem Ms{S:List Ty}{d:Nat}{k:Kd}{v:Vl}(h:Jq S d k v):∃c t,Au v=c::t/\c≠93/\c≠125/\c≠44:=by
 cases h with
 |@n _ _ m hs hb h=>
  have e:Au (.mk 110 (Az m) 0 [])=Az m:=by simp[Au,Cs,Ez]
  rw[e];cases hd:Az m with
  |nil=>exact absurd hd (Ph m)
  |cons c t=>
   have:=Mq m;rw[hd,List.all_cons,ar,Di]at this;refine⟨c,t,rfl,?_,?_,?_⟩<;>(rintro rfl;revert this;simp)
 |t=>exact⟨39,_,rfl,by decide,by decide,by decide⟩
 |@f _ _ b=>cases b<;>exact⟨_,_,rfl,by decide,by decide,by decide⟩
 |lst=>exact⟨91,_,rfl,by decide,by decide,by decide⟩
 |non=>exact⟨45,_,rfl,by decide,by decide,by decide⟩
 |som=>exact⟨43,_,rfl,by decide,by decide,by decide⟩
 |enm=>exact⟨35,_,rfl,by decide,by decide,by decide⟩
 |uni=>exact⟨60,_,rfl,by decide,by decide,by decide⟩
 |rcd=>exact⟨123,_,rfl,by decide,by decide,by decide⟩
theorem Tj{S:List Ty}(hS:∀t∈S,Ed t){m:Nat}(hm:20<=m):∀(d:Nat) (k:Kd) (v:Vl) (r:List UInt8),Jq S d k v->Ng r->Ak S m d k (Au v++r)=some (v,r):=by
 intro d;induction d with
 |zero=>intro k v r h;cases h
 |succ d ih=>
  intro k v r h hr;unfold Ak;cases h with
  |@n _ _ n hs hb h=>
   rw[hs];simp only;rw[if_pos hb];have e:Au (.mk 110 (Az n) 0 [])=Az n:=by simp[Au,Cs,Ez]
   rw[e,N7 h hr]
  |@t _ _ s hs hb h=>
   rw[hs];simp only;rw[if_neg bC,if_pos hb];rw[show Mj (Au (.mk 116 s 0 [])++r)=some (s,r)from Rs.2 ⟨h,by simp[Au,Cs,Ez]⟩]
  |@f _ _ b hs hb=>
   rw[hs];simp only;rw[if_neg bC,if_neg bC,if_pos hb];rw[show Ni (Au (.mk 102 (if b then Ei else Ma) 0 [])++r)=some (b,r)from P5.2 (by cases b<;>simp[Au,Cs,Ez])]
  |@lst _ _ t ks hs hl h=>
   rw[hs];simp only;rw[if_pos Ad];unfold Kl;rw[E4,aq,Aq];simp only;cases ks with
   |nil=>rfl
   |cons x ks=>
    obtain⟨c,q,e1,e2,_⟩:=Ms (h x aI);have e3:Ae 93 (An 44 ((x::ks).map Au)++[93]++r)=none:=by
     cases ks with
     |nil=>simp only[av,List.map_nil,An,e1,aq,Bl e2]
     |cons y ks=>rw[av,Cf 44 _ aI,e1];simp only[aq,Bl e2]
    rw[e3];simp only;rw[List.append_assoc,List.singleton_append,Sk m (x::ks) r (fun y hy r hr=>ih _ _ _ (h y hy) hr) aI aE];simp only;rw[if_pos hl]
  |@non _ _ t hs=>rw[hs];rfl
  |@som _ _ t x hs h=>
   rw[hs];simp only;rw[if_neg aH];have e:Au (.mk 63 [] 0 [x])=43::Au x:=by simp[Au,Cs,Ez,An]
   unfold Vu;rw[e,aq,Bl aH,Aq];simp only;rw[ih _ _ _ h hr]
  |@enm _ _ t f hs hb ht h9 hf=>
   rw[hs];simp only;rw[if_neg bC,if_neg bC,if_neg bC,ht];simp only;unfold Ha;have h200:f.tag<=200:=((hS t (Bq ht).1).2.2.1.1 f (Bz hf).2).2.1;have e:Au (.mk 69 [] f.tag [])=35::Az f.tag:=by simp[Au,Cs,Ez]
   rw[if_pos h9,e,aq,Aq];simp only;rw[Qo h200 hf hr]
  |@uni _ _ t f x hs hb ht h5 hf h=>
   rw[hs];simp only;rw[if_neg bC,if_neg bC,if_neg bC,ht];simp only;unfold Ha;have h9:t.sort≠69:=dX;rw[if_neg h9,if_pos h5,Mb,aq,Aq];simp only;rw[List.append_assoc,List.singleton_append,P4 (p:=(f,x)) (Js hS ht h9 (Bz hf).2).2 hf (ih _ _ (62::r) h (Dk (c:=62) _ aH))];simp only[Aq]
  |@rcd _ _ t fs hs hb ht h2 hf h hn hp=>
   rw[hs];simp only;rw[if_neg bC,if_neg bC,if_neg bC,ht];simp only;unfold Ha;have h9:t.sort≠69:=cC;rw[if_neg h9,if_neg cC,Jk,aq,Aq];simp only;cases fs with
   |nil=>rfl
   |cons p fs=>
    have e3:Ae 125 (An 44 ((p::fs).map fun p=>Au (Cw p))++[125]++r)=none:=by
     have e1:Au (Cw p)=Az p.1.tag++61::Au p.2:=by simp[Cw,Au,Cs,Ez,An]
     cases hd:Az p.1.tag with
     |nil=>exact absurd hd (Ph _)
     |cons c q=>
      have hc:=Mq p.1.tag;rw[hd,List.all_cons,ar,Di]at hc;have e2:c≠125:=by rintro rfl;revert hc;simp
      rw[hd]at e1;cases fs with
      |nil=>simp only[av,List.map_nil,An,e1,aq,Bl e2]
      |cons y fs=>rw[av,Cf 44 _ aI,e1];simp only[aq,Bl e2]
    rw[e3];simp only
    rw[List.append_assoc,List.singleton_append,Tv 201 0 (p::fs) r (fun q hq r hr=>ih _ _ _ (h q hq) hr) aI
     (fun q hq=>?_) hp aE]
    have hm:=(Bz (hf q hq)).2;have h1:=((hS t (Bq ht).1).2.2.1.1 q.1 hm).1;exact⟨h1,(Js hS ht h9 hm).2,hf q hq,hn q hq⟩
def Pt(S:List Ty)(k:Kd)(s:List UInt8):Option Vl:=
 if 400<s.length then none else match Ak S 20 12 k s with
  |some (v,[])=>some v
  |_=>none
theorem Qc2{S:List Ty}(hS:∀t∈S,Ed t){k:Kd}(hk:C0 k){s:List UInt8}{v:Vl}:Pt S k s=some v↔Jq S 12 k v/\Au v=s/\s.length<=400:=by
 unfold Pt;constructor
 ·intro h;split at h
  ·cases h
  rename_i hl;cases hr:Ak S 20 12 k s with
  |none=>rw[hr]at h;cases h
  |some q=>
   obtain⟨x,r⟩:=q;rw[hr]at h;cases r with
   |cons c t=>cases h
   |nil=>
    simp only[ai]at h;subst h;obtain⟨h1,h2⟩:=E9 hS 20 12 k s x [] hk hr;exact⟨h1,by rw[h2,List.append_nil],by omega⟩
 rintro⟨h1,rfl,hl⟩;rw[if_neg aE];have:=Tj hS (As 20) 12 k v [] h1 Rv;rw[List.append_nil]at this;rw[this]
abbrev C5:=List UInt8
def Rf(S:List Ty):Nat->Kd->List C5->List C5
 |0,_,out=>out
 |n+1,k,out=>
  if k.base=[64]/\k.name∉out then
   (match B0 S k.name with
    |none=>out++[k.name]
    |some t=>if t.sort=69 then out++[k.name]else t.fields.foldl (fun o f=>Rf S n f.kind o) (out++[k.name]))
  else out
def Kp(S:List Ty):List C5:=S.map (·.name)
def Qhp(S:List Ty)(out:List C5):Prop:=out.Nodup/\∀x∈out,x∈Kp S
theorem Qhp.nil(S:List Ty):Qhp S []:=⟨List.nodup_nil,by simp⟩
theorem Qch:∀(l m:List C5),l.Nodup->(∀x∈l,x∈m)->l.length<=m.length
 |[],m,_,_=>af _
 |x::l,m,hn,hs=>by
  obtain⟨h1,h2⟩:=List.nodup_cons.1 hn;have hx:=hs x aI
  have ih:=Qch l (m.erase x) h2 (fun y hy=>by
   have hne:y≠x:=by rintro rfl;exact h1 hy
   exact(List.mem_erase_of_ne hne).2 (hs y f5))
  have hl:=List.length_erase_of_mem hx;have hp:0<m.length:=List.length_pos_iff.2 (by rintro rfl;cases hx);simp;omega
theorem Qhp.len{S:List Ty}{out:List C5}(h:Qhp S out):out.length<=S.length:=by
 have:=Qch out (Kp S) h.1 h.2;simpa [Kp]using this
abbrev Qb9:=C5 × C5
def Qgu(S T:List Ty)(m:List Qb9):Prop:=m.Nodup/\∀p∈m,p.1∈Kp S/\p.2∈Kp T
theorem Qgu.nil(S T:List Ty):Qgu S T []:=⟨List.nodup_nil,by simp⟩
theorem Zy:∀(l m:List Qb9),l.Nodup->(∀x∈l,x∈m)->l.length<=m.length
 |[],m,_,_=>aI
 |x::l,m,hn,hs=>by
  have hx:=hs x aI;have:=Zy l (m.erase x) (List.nodup_cons.1 hn).2 (fun y hy=>(List.mem_erase_of_ne eL).2 (hs y f5));exact i7
def Zg(a b:List C5):List Qb9:=a.flatMap fun x=>b.map fun y=>(x,y)
theorem Xp(b:List C5):∀a,(Zg a b).length=a.length*b.length
 |[]=>by simp[Zg]
 |x::a=>by
  have:=Xp b a;unfold Zg at this ⊢;rw[List.flatMap_cons,ag,List.length_map,this,List.length_cons,Nat.add_mul];omega
theorem Qgu.len{S T:List Ty}{m:List Qb9}(h:Qgu S T m):m.length<=S.length*T.length:=by
 have:=Zy m (Zg (Kp S) (Kp T)) h.1 (fun x hx=>by
  obtain⟨a,b⟩:=x;have:=h.2 _ hx;unfold Zg;rw[List.mem_flatMap];exact⟨a,this.1,au.2 ⟨b,this.2,rfl⟩⟩)
 rw[Xp]at this;simpa [Kp]using this
def Qhe(R:C5->C5->Prop)(a b:Kd):Prop:=a.signs=b.signs/\a.base=b.base/\(a.base=[64]->R a.name b.name)
def Qfg(S T:List Ty)(R:C5->C5->Prop)(t:Ty)(st:UInt8)(g:Fd):Prop:=
 match Bp t.fields g.tag with
 |none=>st=82
 |some f=>st=69\/(Qhe R f.kind g.kind/\(st=82->Kn S f=Kn T g))
def Yy(S T:List Ty)(R:C5->C5->Prop)(a b:C5):Prop:=∃t u,B0 S a=some t/\B0 T b=some u/\t.sort=u.sort/\∀g∈u.fields,Qfg S T R t u.sort g
abbrev inM(m:List Qb9)(a b:C5):Prop:=(a,b)∈m
theorem Qhe.mono{R Q:C5->C5->Prop}(h:∀a b,R a b->Q a b){a b:Kd}(hk:Qhe R a b):Qhe Q a b:=⟨hk.1,hk.2.1,fun e=>h _ _ (hk.2.2 e)⟩
theorem Qfg.mono{S T:List Ty}{R Q:C5->C5->Prop}(h:∀a b,R a b->Q a b){t:Ty}{st:UInt8}{g:Fd}(hk:Qfg S T R t st g):Qfg S T Q t st g:=by
 unfold Qfg at hk ⊢;cases hf:Bp t.fields g.tag with
 |none=>rw[hf]at hk;exact hk
 |some f=>
  rw[hf]at hk;rcases hk with hk|⟨x,y⟩
  ·exact .inl hk
  exact .inr ⟨x.mono h,y⟩
theorem Yy.mono{S T:List Ty}{R Q:C5->C5->Prop}(h:∀a b,R a b->Q a b){a b:C5}(hk:Yy S T R a b):Yy S T Q a b:=by
 obtain⟨t,u,e1,e2,e3,e4⟩:=hk;exact⟨t,u,e1,e2,e3,fun g hg=>(e4 g hg).mono h⟩
def Qcg(S T:List Ty)(m m':List Qb9):Prop:=∀a b,(a,b)∈m'->(a,b)∉m->Yy S T (inM m') a b
theorem Qcg.trans{S T:List Ty}{m1 m2 m3:List Qb9}(h1:Qcg S T m1 m2)(h2:Qcg S T m2 m3)(hs:∀p∈m2,p∈m3):Qcg S T m1 m3:=by
 intro a b h3 hn;by_cases h:(a,b)∈m2
 ·exact(h1 a b h hn).mono fun x y hxy=>hs _ hxy
 exact h2 a b h3 h
def Vt(ρ:C5->C5)(k:Kd):Kd:=if k.base=[64]then {k with name:=ρ k.name} else k
def S3(ρ:C5->C5)(st:UInt8)(f:Fd):Fd:=if st=69 then f else {f with kind:=Vt ρ f.kind}
def Yc(ρ:C5->C5)(t:Ty):Ty:={t with name:=ρ t.name,fields:=t.fields.map (S3 ρ t.sort)}
theorem Tn(ρ:C5->C5)(k:Kd):(Vt ρ k).signs=k.signs:=by unfold Vt;split<;>rfl
theorem Pm(ρ:C5->C5)(k:Kd):(Vt ρ k).base=k.base:=by unfold Vt;split<;>rfl
theorem Mx{ρ:C5->C5}{k:Kd}(h:k.base=[64]):(Vt ρ k).name=ρ k.name:=by unfold Vt;rw[if_pos h]
theorem Qf6(ρ:C5->C5)(st:UInt8)(f:Fd):(S3 ρ st f).tag=f.tag:=by unfold S3;split<;>rfl
theorem Qcd(ρ:C5->C5)(st:UInt8)(f:Fd):(S3 ρ st f).given=f.given:=by unfold S3;split<;>rfl
theorem Pg{ρ:C5->C5}{st:UInt8}(h:st≠69)(f:Fd):(S3 ρ st f).kind=Vt ρ f.kind:=by unfold S3;rw[if_neg h]
def inN(ns:List C5)(k:Kd):Prop:=k.base=[64]->k.name∈ns
structure Ren(S T:List Ty)(ns:List C5)(ρ:C5->C5):Prop where
 get:∀n∈ns,∃t,B0 S n=some t/\B0 T (ρ n)=some (Yc ρ t)/\Ed t/\(t.sort≠69->∀f∈t.fields,inN ns f.kind)
 inj:∀a∈ns,∀b∈ns,ρ a=ρ b->a=b
theorem Ren.met{S T:List Ty}{ns:List C5}{ρ:C5->C5}(h:Ren S T ns ρ):∀(n:Nat) (k:Kd) (out:List C5),inN ns k->(∀x∈out,x∈ns) ->
  Rf T n (Vt ρ k) (out.map ρ)=(Rf S n k out).map ρ/\∀x∈Rf S n k out,x∈ns
 |0,k,out,_,ho=>⟨rfl,ho⟩
 |n+1,k,out,hk,ho=>by
  by_cases hb:k.base=[64]
  ·have hkn:=hk hb;have hmem:ρ k.name∈out.map ρ↔k.name∈out:=by
    rw[au];exact⟨fun⟨y,hy,e⟩=>by rw[<-h.inj y (ho y hy) k.name hkn e];exact hy,fun hy=>⟨_,hy,rfl⟩⟩
   by_cases hin:k.name∈out
   ·rw[Rf,Rf,if_neg (by rw[Mx hb];exact fun hh=>hh.2 (hmem.2 hin)),if_neg (fun hh=>hh.2 hin)];exact⟨rfl,ho⟩
   obtain⟨t,e1,e2,e3,e4⟩:=h.get _ hkn;have ho2:∀x∈out++[k.name],x∈ns:=fun x hx=>by
    rcases ae.1 hx with hx|hx
    ·exact ho x hx
    simp at hx;subst hx;exact hkn
   rw[Rf,Rf,if_pos ⟨by rw[Pm];exact hb,by rw[Mx hb];exact fun hh=>hin (hmem.1 hh)⟩,if_pos ⟨hb,hin⟩,Mx hb,e1,e2];simp only;rw[show (Yc ρ t).sort=t.sort from rfl,show (Yc ρ t).fields=t.fields.map (S3 ρ t.sort)from rfl];have em:out.map ρ++[ρ k.name]=(out++[k.name]).map ρ:=aI;by_cases h69:t.sort=69
   ·rw[if_pos h69,if_pos h69];exact⟨em,ho2⟩
   rw[if_neg h69,if_neg h69,em];have key:∀(fs:List Fd),(∀f∈fs,inN ns f.kind)->∀(o:List C5),(∀x∈o,x∈ns) ->
     (fs.map (S3 ρ t.sort)).foldl (fun o f=>Rf T n f.kind o) (o.map ρ)=(fs.foldl (fun o f=>Rf S n f.kind o) o).map ρ/\∀x∈fs.foldl (fun o f=>Rf S n f.kind o) o,x∈ns:=by
    intro fs;induction fs with
    |nil=>intro _ o ho;exact⟨rfl,ho⟩
    |cons f fs ih=>
     intro hfs o ho;obtain⟨m1,m2⟩:=h.met n f.kind o (hfs f aI) ho;simp only[av,List.foldl_cons];rw[Pg h69,m1];exact ih (fun g hg=>hfs g (by simp[hg])) _ m2
   exact key t.fields (e4 h69) _ ho2
  rw[Rf,Rf,if_neg (fun hh=>hb (by rw[Pm]at hh;exact hh.1)),if_neg (fun hh=>hb hh.1)];exact⟨rfl,ho⟩
theorem Ren.stand{S T:List Ty}{ns:List C5}{ρ:C5->C5}(h:Ren S T ns ρ):∀(n:Nat) (k:Kd),inN ns k->Xr k->C4 T n (Vt ρ k)=C4 S n k
 |0,_,_,_=>rfl
 |n+1,k,hk,hb=>by
  rw[C4,C4,Tn,Pm];split
  ·rfl
  split
  ·rfl
  split
  ·rfl
  rename_i h1;split
  ·rfl
  rename_i h2;split
  ·rfl
  rename_i h3;have hb64:k.base=[64]:=by
   rcases hb with⟨hb,_⟩|⟨hb|hb|hb,_⟩
   ·exact hb
   ·exact absurd hb h1
   ·exact absurd hb h2
   exact absurd hb h3
  obtain⟨t,e1,e2,e3,e4⟩:=h.get _ (hk hb64);rw[Mx hb64,e1,e2];simp only;rw[show (Yc ρ t).sort=t.sort from rfl,show (Yc ρ t).fields=t.fields.map (S3 ρ t.sort)from rfl];split
  ·rfl
  cases hf:t.fields with
  |nil=>rfl
  |cons f fs=>
   simp only[av];rw[Qf6];split
   ·rfl
   rename_i h69;rw[Pg h69,h.stand n f.kind (e4 h69 f dz) ((e3.2.2.1.1 f dz).2.2.2.2 h69).1.2.1]
theorem Ren.of{S T:List Ty}{ns:List C5}{ρ:C5->C5}(h:Ren S T ns ρ){st:UInt8}{f:Fd}(h69:st≠69)(hf:Q5 st f)(hk:inN ns f.kind):Kn T (S3 ρ st f)=Kn S f:=by
 unfold Kn;rw[Qcd,Pg h69];unfold Ri;rw[h.stand 10 f.kind hk (hf.2.2.2.2 h69).1.2.1]
theorem Ren.ends{S T:List Ty}{ns:List C5}{ρ:C5->C5}(h:Ren S T ns ρ):∀(n:Nat) (t:Ty),(t.sort≠69->∀f∈t.fields,inN ns f.kind)->Bu T n (Yc ρ t)=Bu S n t
 |0,_,_=>rfl
 |n+1,t,ht=>by
  unfold Bu;by_cases h85:t.sort=85
  ·have h69:t.sort≠69:=dt;unfold Fk;rw[show (Yc ρ t).sort=t.sort from rfl,show (Yc ρ t).fields=t.fields.map (S3 ρ t.sort)from rfl,if_pos h85,if_pos h85];cases hf:t.fields with
   |nil=>rfl
   |cons f fs=>
    simp only[av];rw[Pg h69,Tn,Pm];by_cases hc:f.kind.signs=[]/\f.kind.base=[64]
    ·rw[if_pos hc,if_pos hc,Mx hc.2];obtain⟨u,e1,e2,e3,e4⟩:=h.get _ (ht h69 f dz hc.2);rw[e1,e2];exact h.ends n u e4
    rw[if_neg hc,if_neg hc]
  have e1:Fk T (Yc ρ t)=none:=if_neg h85;have e2:Fk S t=none:=if_neg h85;rw[e1,e2]
def LOk(v:Vl)(r:Vl × Bool):Prop:=(r.2=false->r.1=v)/\(r.2=true->(Au r.1).length<(Au v).length)
theorem LOk.le{v:Vl}{r:Vl × Bool}(h:LOk v r):(Au r.1).length<=(Au v).length:=by
 cases e:r.2 with
 |false=>rw[h.1 e];exact As _
 |true=>exact Nat.le_of_lt (h.2 e)
theorem LOk.same(v:Vl):LOk v (v,false):=⟨fun _=>rfl,fun h=>Bool.noConfusion h⟩
def Cq(ps:List (List UInt8)):Nat:=(ps.map fun p=>p.length+1).sum
theorem De(p:List UInt8)(ps:List (List UInt8)):Cq (p::ps)=p.length+1+Cq ps:=cJ
theorem B1(c:UInt8):∀ps:List (List UInt8),(An c ps).length=Cq ps - 1
 |[]=>rfl
 |[p]=>by simp[An,Cq]
 |p::q::ps=>by
  rw[Cf c p aI,ag,List.length_cons,B1 c (q::ps),De p,De q];omega
theorem Rw(w:UInt8)(tx:List UInt8)(tg:Nat)(ks:List Vl):Au (.mk w tx tg ks)=Ez w tx tg (ks.map Au):=by rw[Au,Qm]
theorem Kt(p:Fd × Vl):(Au (Cw p)).length=(Az p.1.tag).length+1+(Au p.2).length:=by simp[Cw,Au,Cs,Ez,An];omega
theorem P9{fs:List Fd}{n:Nat}{f:Fd}(h:Bp fs n=some f):f∈fs/\f.tag=n:=⟨(Bz h).2,(Bz h).1⟩
end Go.Proofs.YtkigmebejmmikaaGreatDoor
