/- Texts joined. Conditions: as each theorem names them. -/
import Derived.Test.YtkigmebejmmikaaGreatDoorV02
set_option maxRecDepth 100000
set_option maxHeartbeats 32000000
set_option linter.unusedVariables false
set_option linter.unusedSimpArgs false
namespace Go.Proofs.YtkigmebejmmikaaGreatDoor
open Go.RowKit Go.Proofs.Tryz
inductive Vl where
 |mk (what:UInt8) (text:List UInt8) (tag:Nat) (kids:List Vl)
def Vl.what:Vl->UInt8|.mk w _ _ _=>w
def Vl.text:Vl->List UInt8|.mk _ t _ _=>t
def Vl.tag:Vl->Nat|.mk _ _ g _=>g
def Vl.kids:Vl->List Vl|.mk _ _ _ k=>k
def Fa(w:UInt8)(tx:List UInt8)(tg:Nat)(ps:List (List UInt8)):List UInt8:=
 if w=116 then 39::(tx++[39])
 else if w=91 then 91::(Am 44 ps++[93])
 else if w=63 then(match ps with|[]=>[45]|_=>43::Am 44 ps)
 else if w=61 then Bb tg++61::Am 44 ps
 else if w=82 then 123::(Am 44 ps++[125])
 else if w=85 then 60::(Bb tg++61::(Am 44 ps++[62]))
 else if w=69 then 35::Bb tg
 else tx
mutual
def Ay:Vl->List UInt8
 |.mk w tx tg ks=>Fa w tx tg (Di ks)
def Di:List Vl->List (List UInt8)
 |[]=>[]
 |x::xs=>Ay x::Di xs
end
theorem S5:∀ks:List Vl,Di ks=ks.map Ay
 |[]=>rfl
 |x::xs=>by rw[Di,S5 xs];rfl
mutual
def Md:Vl->Nat
 |.mk w _ _ ks=>if w=61 then Jl ks else Jl ks+1
def Jl:List Vl->Nat
 |[]=>0
 |x::xs=>max (Md x) (Jl xs)
end
theorem Xx:∀(ks:List Vl) (d:Nat),Jl ks<=d↔∀x∈ks,Md x<=d
 |[],d=>by simp[Jl]
 |x::xs,d=>by rw[Jl,Nat.max_le,Xx xs d];simp
def Eh:List UInt8:=[121,101,115]
def Mb:List UInt8:=[110,111]
def C5(p:Fd × Vl):Vl:=.mk 61 [] p.1.tag [p.2]
inductive Gb(S:List Ty):Nat->Kd->Vl->Prop
 |n {d:Nat} {k:Kd} {m:Nat} (hs:k.signs=[]) (hb:k.base=[110]) (h:m<=999999):Gb S (d+1) k (.mk 110 (Bb m) 0 [])
 |t {d:Nat} {k:Kd} {s:List UInt8} (hs:k.signs=[]) (hb:k.base=[116]) (h:Du s=true):Gb S (d+1) k (.mk 116 s 0 [])
 |f {d:Nat} {k:Kd} {b:Bool} (hs:k.signs=[]) (hb:k.base=[102]):Gb S (d+1) k (.mk 102 (if b then Eh else Mb) 0 [])
 |lst {d:Nat} {k:Kd} {r:List UInt8} {ks:List Vl} (hs:k.signs=91::r) (hl:ks.length<=20) (h:∀x∈ks,Gb S d k.part x):Gb S (d+1) k (.mk 91 [] 0 ks)
 |non {d:Nat} {k:Kd} {r:List UInt8} (hs:k.signs=63::r):Gb S (d+1) k (.mk 63 [] 0 [])
 |som {d:Nat} {k:Kd} {r:List UInt8} {x:Vl} (hs:k.signs=63::r) (h:Gb S d k.part x):Gb S (d+1) k (.mk 63 [] 0 [x])
 |enm {d:Nat} {k:Kd} {t:Ty} {f:Fd} (hs:k.signs=[]) (hb:k.base=[64]) (ht:B6 S k.name=some t) (h9:t.sort=69) (hf:Bj t.fields f.tag=some f):Gb S (d+1) k (.mk 69 [] f.tag [])
 |uni {d:Nat} {k:Kd} {t:Ty} {f:Fd} {x:Vl} (hs:k.signs=[]) (hb:k.base=[64]) (ht:B6 S k.name=some t) (h5:t.sort=85) (hf:Bj t.fields f.tag=some f) (h:Gb S d f.kind x):Gb S (d+1) k (.mk 85 [] f.tag [x])
 |rcd {d:Nat} {k:Kd} {t:Ty} {fs:List (Fd × Vl)} (hs:k.signs=[]) (hb:k.base=[64]) (ht:B6 S k.name=some t) (h2:t.sort=82) (hf:∀p∈fs,Bj t.fields p.1.tag=some p.1) (h:∀p∈fs,Gb S d p.1.kind p.2)
   (hn:∀p∈fs,Ay p.2≠Mh S p.1) (hp:fs.Pairwise fun p q=>p.1.tag<q.1.tag):Gb S (d+1) k (.mk 82 [] 0 (fs.map C5))
theorem Qjt(p:Fd × Vl):Md (C5 p)=Md p.2:=by simp[C5,Md,Jl]
theorem Fb(S:List Ty):∀(n:Nat) (k:Kd) (v:Vl),Gb S n k v->∀d,Gb S d k v↔Md v<=d:=by
 intro n;induction n with
 |zero=>intro k v h;cases h
 |succ n ih=>
  intro k v h d;cases d with
  |zero=>
   constructor
   ·intro h;cases h
   intro hd;cases h<;>simp[Md]at hd
  |succ d=>
   cases h with
   |n hs hb h=>exact⟨fun _=>by simp[Md,Jl],fun _=>.n hs hb h⟩
   |t hs hb h=>exact⟨fun _=>by simp[Md,Jl],fun _=>.t hs hb h⟩
   |f hs hb=>exact⟨fun _=>by simp[Md,Jl],fun _=>.f hs hb⟩
   |non hs=>exact⟨fun _=>by simp[Md,Jl],fun _=>.non hs⟩
   |enm hs hb ht h9 hf=>exact⟨fun _=>by simp[Md,Jl],fun _=>.enm hs hb ht h9 hf⟩
   |@lst _ _ r ks hs hl h=>
    have e:Md (.mk 91 [] 0 ks)<=d+1↔∀x∈ks,Md x<=d:=by rw[<-Xx];simp[Md]
    rw[e];constructor
    ·intro hv x hx;cases hv with
     |lst _ _ h2=>exact(ih _ _ (h x hx) d).1 (h2 x hx)
    intro hv;exact .lst hs hl fun x hx=>(ih _ _ (h x hx) d).2 (hv x hx)
   |@som _ _ r x hs h=>
    have e:Md (.mk 63 [] 0 [x])<=d+1↔Md x<=d:=fm;rw[e];constructor
    ·intro hv;cases hv with
     |som _ h2=>exact(ih _ _ h d).1 h2
    intro hv;exact .som hs ((ih _ _ h d).2 hv)
   |@uni _ _ t f x hs hb ht h5 hf h=>
    have e:Md (.mk 85 [] f.tag [x])<=d+1↔Md x<=d:=fm;rw[e];constructor
    ·intro hv;generalize hg:f.tag=g at hv;cases hv with
     |uni hs2 hb2 ht2 h52 hf2 h2=>
      rw[ht]at ht2;injection ht2 with ht2;subst ht2;rw[<-hg,hf]at hf2;injection hf2 with hf2;subst hf2;exact(ih _ _ h d).1 h2
    intro hv;exact .uni hs hb ht h5 hf ((ih _ _ h d).2 hv)
   |@rcd _ _ t fs hs hb ht h2 hf h hn hp=>
    have e:Md (.mk 82 [] 0 (fs.map C5))<=d+1↔∀p∈fs,Md p.2<=d:=by
     have:Md (.mk 82 [] 0 (fs.map C5))=Jl (fs.map C5)+1:=by simp[Md]
     rw[this,Nat.succ_le_succ_iff,Xx];constructor
     ·intro h p hp;have:=h _ (ao hp);rwa [Qjt]at this
     intro h x hx;obtain⟨p,hp,rfl⟩:=aw.1 hx;rw[Qjt];exact h p hp
    rw[e];constructor
    ·intro hv p hp;generalize hg:fs.map C5=ks at hv;cases hv with
     |@rcd _ _ t2 fs2 hs2 hb2 ht2 h22 hf2 h2 hn2 hp2=>
      rw[ht]at ht2;injection ht2 with ht2;subst ht2;have hm:C5 p∈fs2.map C5:=hg ▸ ao hp;obtain⟨q,hq,eq⟩:=aw.1 hm;have e1:q.1.tag=p.1.tag:=by injection eq
      have e2:q.2=p.2:=by injection eq with _ _ _ e4;injection e4
      have e3:q.1=p.1:=by have:=hf2 q hq;rw[e1,hf p hp]at this;injection this with this;exact this.symm
      have:=h2 q hq;rw[e2,e3]at this;exact(ih _ _ (h p hp) d).1 this
    intro hv;exact .rcd hs hb ht h2 hf (fun p hp=>(ih _ _ (h p hp) d).2 (hv p hp)) hn hp
def Sg(s:List UInt8):Option (Nat × List UInt8):=match Cz (s.takeWhile Bm)with
 |some n=>some (n,s.dropWhile Bm)
 |none=>none
def Ha(fs:List Fd)(s:List UInt8):Option (Fd × List UInt8):=match Sg s with
 |some (n,r)=>if n<=200 then(match Bj fs n with|some f=>some (f,r)|none=>none)else none
 |none=>none
def Aj(c:UInt8):List UInt8->Option (List UInt8)
 |x::r=>if x=c then some r else none
 |[]=>none
def N0(s:List UInt8):Option (List UInt8 × List UInt8):=match Aj 39 s with
 |none=>none
 |some r=>match Aj 39 (r.dropWhile Co)with
  |none=>none
  |some q=>if (r.takeWhile Co).length<=12 then some (r.takeWhile Co,q)else none
def Ea:List UInt8->List UInt8->Option (List UInt8)
 |[],s=>some s
 |c::p,s=>match Aj c s with|none=>none|some r=>Ea p r
def Qg(s:List UInt8):Option (Bool × List UInt8):=match Ea Eh s with
 |some r=>some (true,r)
 |none=>match Ea Mb s with|some r=>some (false,r)|none=>none
def Cd(K:List UInt8->Option (Vl × List UInt8)):Nat->List UInt8->Option (List Vl × List UInt8)
 |0,_=>none
 |m+1,s=>match K s with
  |none=>none
  |some (v,r)=>match Aj 44 r with
   |some q=>(match Cd K m q with|some (vs,z)=>some (v::vs,z)|none=>none)
   |none=>match Aj 93 r with|some q=>some ([v],q)|none=>none
def N3(K:List UInt8->Option (Vl × List UInt8))(m:Nat)(s:List UInt8):Option (Vl × List UInt8):=match Aj 91 s with
 |none=>none
 |some r=>match Aj 93 r with
  |some q=>some (.mk 91 [] 0 [],q)
  |none=>match Cd K m r with|some (vs,q)=>if vs.length<=20 then some (.mk 91 [] 0 vs,q)else none|none=>none
def Qeb(K:List UInt8->Option (Vl × List UInt8))(s:List UInt8):Option (Vl × List UInt8):=match Aj 45 s with
 |some q=>some (.mk 63 [] 0 [],q)
 |none=>match Aj 43 s with
  |none=>none
  |some r=>match K r with|some (v,q)=>some (.mk 63 [] 0 [v],q)|none=>none
def Dm(K:Kd->List UInt8->Option (Vl × List UInt8))(fs:List Fd)(s:List UInt8):Option ((Fd × Vl) × List UInt8):=match Ha fs s with
 |none=>none
 |some (f,r)=>match Aj 61 r with
  |none=>none
  |some q=>match K f.kind q with|some (v,z)=>some ((f,v),z)|none=>none
def Er(S:List Ty)(K:Kd->List UInt8->Option (Vl × List UInt8))(fs:List Fd):Nat->Nat->List UInt8->Option (List (Fd × Vl) × List UInt8)
 |0,_,_=>none
 |m+1,last,s=>match Dm K fs s with
  |none=>none
  |some (p,r)=>if p.1.tag<=last\/Ay p.2=Mh S p.1 then none else match Aj 44 r with
   |some q=>(match Er S K fs m p.1.tag q with|some (ps,z)=>some (p::ps,z)|none=>none)
   |none=>match Aj 125 r with|some q=>some ([p],q)|none=>none
def Mc(S:List Ty)(K:Kd->List UInt8->Option (Vl × List UInt8))(t:Ty)(s:List UInt8):Option (Vl × List UInt8):=
 if t.sort=69 then(match Aj 35 s with
  |none=>none
  |some r=>match Ha t.fields r with|some (f,q)=>some (.mk 69 [] f.tag [],q)|none=>none)
 else if t.sort=85 then(match Aj 60 s with
  |none=>none
  |some r=>match Dm K t.fields r with
   |none=>none
   |some (p,q)=>match Aj 62 q with|some z=>some (.mk 85 [] p.1.tag [p.2],z)|none=>none)
 else match Aj 123 s with
  |none=>none
  |some r=>match Aj 125 r with
   |some q=>some (.mk 82 [] 0 [],q)
   |none=>match Er S K t.fields 201 0 r with|some (ps,q)=>some (.mk 82 [] 0 (ps.map C5),q)|none=>none
def Ap(S:List Ty)(m:Nat):Nat->Kd->List UInt8->Option (Vl × List UInt8)
 |0,_,_=>none
 |d+1,k,s=>match k.signs with
  |c::_=>if c=91 then N3 (Ap S m d k.part) m s else Qeb (Ap S m d k.part) s
  |[]=>
   if k.base=[110]then(match Sg s with|some (n,r)=>some (.mk 110 (Bb n) 0 [],r)|none=>none)
   else if k.base=[116]then(match N0 s with|some (x,r)=>some (.mk 116 x 0 [],r)|none=>none)
   else if k.base=[102]then(match Qg s with|some (b,r)=>some (.mk 102 (if b then Eh else Mb) 0 [],r)|none=>none)
   else match B6 S k.name with
    |none=>none
    |some t=>Mc S (Ap S m d) t s
theorem Bl{c:UInt8}{s r:List UInt8}:Aj c s=some r↔s=c::r:=by
 cases s with
 |nil=>simp[Aj]
 |cons x t=>
  by_cases h:x=c
  ·subst h;simp[Aj]
  simp[Aj,h]
theorem Az(c:UInt8)(r:List UInt8):Aj c (c::r)=some r:=if_pos rfl
theorem C9{c x:UInt8}(h:x≠c)(r:List UInt8):Aj c (x::r)=none:=if_neg h
theorem E9{p s r:List UInt8}:Ea p s=some r↔s=p++r:=by
 induction p generalizing s with
 |nil=>simp[Ea]
 |cons c p ih=>
  unfold Ea;cases h:Aj c s with
  |none=>
   simp only[false_iff,reduceCtorEq];intro e;subst e;rw[au,Az]at h;cases h
  |some q=>rw[Bl]at h;subst h;simp[ih]
def Ni(r:List UInt8):Prop:=∀c t,r=c::t->Bm c=false
theorem Mt:Ni []:=by intro c t h;cases h
theorem E5{c:UInt8}(r:List UInt8)(h:Bm c=false):Ni (c::r):=by intro x t e;injection e with e;subst e;exact h
theorem Qis{a r:List UInt8}(ha:a.all Bm=true)(hr:Ni r):(a++r).takeWhile Bm=a/\(a++r).dropWhile Bm=r:=by
 cases r with
 |nil=>
  rw[List.append_nil];induction a with
  |nil=>exact⟨rfl,rfl⟩
  |cons c a ih=>
   rw[List.all_cons,av]at ha;obtain⟨i1,i2⟩:=ih ha.2;rw[List.takeWhile_cons_of_pos ha.1,List.dropWhile_cons_of_pos ha.1,i1,i2];exact kH
 |cons c t=>exact Ft ha ⟨c,t,rfl,hr c t rfl⟩
theorem Qa1{s r:List UInt8}{n:Nat}(h:Sg s=some (n,r)):n<=999999/\s=Bb n++r/\Ni r:=by
 unfold Sg at h;cases hd:Cz (s.takeWhile Bm)with
 |none=>rw[hd]at h;cases h
 |some m=>
  rw[hd]at h;simp only[aj,aD]at h;obtain⟨rfl,rfl⟩:=h;obtain⟨h1,h2⟩:=Cm.1 hd;refine⟨h1,by rw[<-h2,List.takeWhile_append_dropWhile],fun c t e=>?_⟩;have:=List.head?_dropWhile_not Bm s;rw[e]at this;simpa using this
theorem Qd0{n:Nat}{r:List UInt8}(h:n<=999999)(hr:Ni r):Sg (Bb n++r)=some (n,r):=by
 obtain⟨e1,e2⟩:=Qis (J5 n) hr;unfold Sg;rw[e1,e2,Cm.2 ⟨h,rfl⟩]
theorem Bi{fs:List Fd}{n:Nat}{f:Fd}(h:Bj fs n=some f):f.tag=n/\f∈fs:=by
 unfold Bj at h;have:=List.find?_some h;exact⟨by simpa using this,List.mem_of_find?_eq_some h⟩
theorem Kn{fs:List Fd}{s r:List UInt8}{f:Fd}(h:Ha fs s=some (f,r)):f.tag<=200/\Bj fs f.tag=some f/\s=Bb f.tag++r/\Ni r:=by
 unfold Ha at h;cases hn:Sg s with
 |none=>rw[hn]at h;cases h
 |some q=>
  obtain⟨n,z⟩:=q;rw[hn]at h;simp only at h;split at h
  ·rename_i h2;cases hf:Bj fs n with
   |none=>rw[hf]at h;cases h
   |some g=>
    rw[hf]at h;simp only[aj,aD]at h;obtain⟨rfl,rfl⟩:=h;have e:=(Bi hf).1;obtain⟨_,e2,e3⟩:=Qa1 hn;rw[e];exact⟨h2,hf,e2,e3⟩
  cases h
theorem Qda{fs:List Fd}{f:Fd}{r:List UInt8}(h:f.tag<=200)(hf:Bj fs f.tag=some f)(hr:Ni r):Ha fs (Bb f.tag++r)=some (f,r):=by
 unfold Ha;rw[Qd0 aG hr];simp[h,hf]
theorem Qdz:Co 39=false:=aJ
theorem Qbc{s b r:List UInt8}:N0 s=some (b,r)↔Du b=true/\s=39::(b++39::r):=by
 unfold N0;cases h:Aj 39 s with
 |none=>
  simp only[reduceCtorEq,false_iff,not_and];rintro _ rfl;rw[Az]at h;cases h
 |some q=>
  rw[Bl]at h;subst h;simp only[List.cons.injEq,true_and];cases h:Aj 39 (q.dropWhile Co)with
  |none=>
   simp only[reduceCtorEq,false_iff,not_and];rintro hb rfl;have hb2:b.all Co=true:=by unfold Du at hb;simp only[av]at hb;exact hb.2
   rw[(Ft hb2 ⟨39,r,rfl,Qdz⟩).2,Az]at h;cases h
  |some z=>
   rw[Bl]at h;have eq:q=q.takeWhile Co++39::z:=by rw[<-h,List.takeWhile_append_dropWhile]
   simp only;constructor
   ·intro h2;split at h2
    ·rename_i hl;simp only[aj,aD]at h2;obtain⟨rfl,rfl⟩:=h2;exact⟨by unfold Du;simp only[av];exact⟨by simpa using hl,Kt q⟩,eq⟩
    cases h2
   rintro⟨hb,rfl⟩;unfold Du at hb;simp only[av,decide_eq_true_eq]at hb;obtain⟨e1,e2⟩:=Ft hb.2 ⟨39,r,rfl,Qdz⟩;rw[e2]at h;injection h with _ h;subst h;rw[e1,if_pos hb.1]
theorem Yq{s r:List UInt8}{b:Bool}:Qg s=some (b,r)↔s=(if b then Eh else Mb)++r:=by
 unfold Qg;cases h:Ea Eh s with
 |some q=>
  rw[E9]at h;subst h;cases b<;>simp[Eh,Mb]
 |none=>
  simp only;cases h2:Ea Mb s with
  |some q=>
   rw[E9]at h2;subst h2;cases b<;>simp[Eh,Mb]
  |none=>
   simp only[reduceCtorEq,false_iff];rintro rfl;cases b
   ·rw[show Ea Mb ((if false=true then Eh else Mb)++r)=some r from E9.2 rfl]at h2;cases h2
   rw[show Ea Eh ((if true=true then Eh else Mb)++r)=some r from E9.2 rfl]at h;cases h
theorem Qea{K:List UInt8->Option (Vl × List UInt8)}{P:Vl->Prop}(hK:∀s v r,K s=some (v,r)->P v/\s=Ay v++r):∀(m:Nat) (s:List UInt8) (vs:List Vl) (r:List UInt8),
  Cd K m s=some (vs,r)->vs≠[]/\vs.length<=m/\(∀x∈vs,P x)/\s=Am 44 (vs.map Ay)++93::r:=by
 intro m;induction m with
 |zero=>intro s vs r h;cases h
 |succ m ih=>
  intro s vs r h;unfold Cd at h;cases hk:K s with
  |none=>rw[hk]at h;cases h
  |some q=>
   obtain⟨v,z⟩:=q;rw[hk]at h;simp only at h;obtain⟨hp,rfl⟩:=hK _ _ _ hk;cases hb:Aj 44 z with
   |some q=>
    rw[hb]at h;simp only at h;cases hi:Cd K m q with
    |none=>rw[hi]at h;cases h
    |some y=>
     obtain⟨us,y⟩:=y;rw[hi]at h;simp only[aj,aD]at h;obtain⟨rfl,rfl⟩:=h;obtain⟨h1,h2,h3,h4⟩:=ih _ _ _ hi;rw[Bl]at hb;subst hb;refine⟨by simp,by simp;omega,by simpa using⟨hp,h3⟩,?_⟩;rw[ax,B0 44 _ dM,h4];simp
   |none=>
    rw[hb]at h;simp only at h;cases hb:Aj 93 z with
    |none=>rw[hb]at h;cases h
    |some q=>
     rw[hb]at h;simp only[aj,aD]at h;obtain⟨rfl,rfl⟩:=h;rw[Bl]at hb;subst hb;exact⟨by simp,by simp,by simpa using hp,by simp[Am]⟩
theorem Xd{K:List UInt8->Option (Vl × List UInt8)}:∀(m:Nat) (vs:List Vl) (r:List UInt8),(∀x∈vs,∀r,Ni r->K (Ay x++r)=some (x,r))->vs≠[]->vs.length<=m ->
  Cd K m (Am 44 (vs.map Ay)++93::r)=some (vs,r)
 |0,vs,r,_,h,hl=>fL
 |m+1,[],r,_,h,_=>absurd rfl h
 |m+1,[x],r,hK,_,_=>by
  have e:=hK x aL (93::r) (E5 _ aJ);simp only[ax,List.map_nil,Am];unfold Cd;rw[e];simp only[C9 (show (93:UInt8)≠44 by decide),Az]
 |m+1,x::y::vs,r,hK,_,hl=>by
  have ih:=Xd m (y::vs) r (fun z hz=>hK z cZ) aL dU;have e:=hK x aL (44::(Am 44 ((y::vs).map Ay)++93::r)) (E5 _ aJ);rw[ax,B0 44 _ aL,List.append_assoc,au];unfold Cd;rw[e];simp only[Az,ih]
theorem Sf{K:Kd->List UInt8->Option (Vl × List UInt8)}{P:Fd->Vl->Prop}{fs:List Fd}(hK:∀f∈fs,∀s v r,K f.kind s=some (v,r)->P f v/\s=Ay v++r){s r:List UInt8}{p:Fd × Vl}
  (h:Dm K fs s=some (p,r)):p.1.tag<=200/\Bj fs p.1.tag=some p.1/\P p.1 p.2/\s=Ay (C5 p)++r:=by
 unfold Dm at h;cases ht:Ha fs s with
 |none=>rw[ht]at h;cases h
 |some q=>
  obtain⟨f,z⟩:=q;rw[ht]at h;simp only at h;obtain⟨h1,h2,rfl,_⟩:=Kn ht;cases hb:Aj 61 z with
  |none=>rw[hb]at h;cases h
  |some q=>
   rw[hb]at h;simp only at h;rw[Bl]at hb;subst hb;cases hk:K f.kind q with
   |none=>rw[hk]at h;cases h
   |some y=>
    obtain⟨v,y⟩:=y;rw[hk]at h;simp only[aj,aD]at h;obtain⟨rfl,rfl⟩:=h;obtain⟨h3,rfl⟩:=hK f (Bi h2).2 _ _ _ hk;exact⟨h1,h2,h3,by simp[C5,Ay,Di,Fa,Am]⟩
theorem Ss{K:Kd->List UInt8->Option (Vl × List UInt8)}{fs:List Fd}{p:Fd × Vl}{r:List UInt8}(h1:p.1.tag<=200)(h2:Bj fs p.1.tag=some p.1)(hK:K p.1.kind (Ay p.2++r)=some (p.2,r)):
  Dm K fs (Ay (C5 p)++r)=some (p,r):=by
 have e:Ay (C5 p)++r=Bb p.1.tag++(61::(Ay p.2++r)):=by simp[C5,Ay,Di,Fa,Am]
 rw[e];unfold Dm;rw[Qda h1 h2 (E5 _ aJ)];simp only[Az,hK]
theorem Qfp{S:List Ty}{K:Kd->List UInt8->Option (Vl × List UInt8)}{P:Fd->Vl->Prop}{fs:List Fd}(hK:∀f∈fs,∀s v r,K f.kind s=some (v,r)->P f v/\s=Ay v++r):∀(m last:Nat) (s:List UInt8) (ps:List (Fd × Vl)) (r:List UInt8),
  Er S K fs m last s=some (ps,r)->ps≠[]/\(∀p∈ps,last<p.1.tag/\Bj fs p.1.tag=some p.1/\P p.1 p.2/\Ay p.2≠Mh S p.1)/\(ps.Pairwise fun p q=>p.1.tag<q.1.tag)/\s=Am 44 (ps.map fun p=>Ay (C5 p))++125::r:=by
 intro m;induction m with
 |zero=>intro last s ps r h;cases h
 |succ m ih=>
  intro last s ps r h;unfold Er at h;cases hk:Dm K fs s with
  |none=>rw[hk]at h;cases h
  |some q=>
   obtain⟨p,z⟩:=q;rw[hk]at h;simp only at h;obtain⟨h1,h2,h3,rfl⟩:=Sf hK hk;split at h
   ·cases h
   rename_i hno;have hno1:last<p.1.tag:=aG;have hno2:Ay p.2≠Mh S p.1:=fun e=>hno (.inr e);cases hb:Aj 44 z with
   |some q=>
    rw[hb]at h;simp only at h;cases hi:Er S K fs m p.1.tag q with
    |none=>rw[hi]at h;cases h
    |some y=>
     obtain⟨us,y⟩:=y;rw[hi]at h;simp only[aj,aD]at h;obtain⟨rfl,rfl⟩:=h;obtain⟨i1,i2,i3,i4⟩:=ih _ _ _ _ hi;rw[Bl]at hb;subst hb;refine⟨by simp,?_,?_,?_⟩
     ·intro x hx;rcases az.1 hx with rfl|hx
      ·exact⟨hno1,h2,h3,hno2⟩
      obtain⟨j1,j2⟩:=i2 x hx;exact⟨by omega,j2⟩
     ·exact List.pairwise_cons.2 ⟨fun x hx=>(i2 x hx).1,i3⟩
     rw[ax,B0 44 _ (by simpa using i1),i4];simp
   |none=>
    rw[hb]at h;simp only at h;cases hb:Aj 125 z with
    |none=>rw[hb]at h;cases h
    |some q=>
     rw[hb]at h;simp only[aj,aD]at h;obtain⟨rfl,rfl⟩:=h;rw[Bl]at hb;subst hb;refine⟨by simp,?_,by simp,by simp[Am]⟩;intro x hx;rw[ap]at hx;subst hx;exact⟨hno1,h2,h3,hno2⟩
theorem Zu{S:List Ty}{K:Kd->List UInt8->Option (Vl × List UInt8)}{fs:List Fd}:∀(m last:Nat) (ps:List (Fd × Vl)) (r:List UInt8),
  (∀p∈ps,∀r,Ni r->K p.1.kind (Ay p.2++r)=some (p.2,r))->ps≠[]->(∀p∈ps,last<p.1.tag/\p.1.tag<=200/\Bj fs p.1.tag=some p.1/\Ay p.2≠Mh S p.1)->(ps.Pairwise fun p q=>p.1.tag<q.1.tag)->201<=m+last ->
  Er S K fs m last (Am 44 (ps.map fun p=>Ay (C5 p))++125::r)=some (ps,r)
 |0,last,[],r,_,h,_,_,_=>absurd rfl h
 |0,last,p::ps,r,_,_,hp,_,hl=>by have:=hp p aL;omega
 |m+1,last,[],r,_,h,_,_,_=>absurd rfl h
 |m+1,last,[p],r,hK,_,hp,_,hl=>by
  obtain⟨h1,h2,h3,h4⟩:=hp p aL;have e:=Ss h2 h3 (hK p aL (125::r) (E5 _ aJ));simp only[ax,List.map_nil,Am];unfold Er;rw[e];simp only;rw[if_neg cR];simp only[C9 (show (125:UInt8)≠44 by decide),Az]
 |m+1,last,p::q::ps,r,hK,_,hp,hw,hl=>by
  obtain⟨h1,h2,h3,h4⟩:=hp p aL;obtain⟨w1,w2⟩:=List.pairwise_cons.1 hw;have ih:=Zu m p.1.tag (q::ps) r (fun z hz=>hK z cZ) aL (fun z hz=>⟨w1 z hz,(hp z cZ).2⟩) w2 aG;have e:=Ss (K:=K) h2 h3 (hK p aL (44::(Am 44 ((q::ps).map fun p=>Ay (C5 p))++125::r)) (E5 _ aJ));rw[ax,B0 44 _ aL,List.append_assoc,au];unfold Er;rw[e];simp only;rw[if_neg cR];simp only[Az,ih]
theorem M7{k:Kd}(h:Ch k){c:UInt8}{t:List UInt8}(hs:k.signs=c::t):c=91\/c=63:=by
 have:=h.1;rw[hs]at this;simp only[List.all_cons,av,Bo,Bool.or_eq_true,beq_iff_eq]at this;exact this.1
theorem Py{S:List Ty}(hS:∀t∈S,Do t){n:List UInt8}{t:Ty}(ht:B6 S n=some t)(h9:t.sort≠69){f:Fd}(hf:f∈t.fields):Ch f.kind/\f.tag<=200:=by
 have h:=(hS t (Be ht).1).2.2.1.1 f hf;exact⟨(h.2.2.2.2 h9).1,h.2.1⟩
theorem No(fs:List (Fd × Vl)):Ay (.mk 82 [] 0 (fs.map C5))=123::(Am 44 (fs.map fun p=>Ay (C5 p))++[125]):=by
 simp[Ay,S5,Fa];rfl
theorem Gr(ks:List Vl):Ay (.mk 91 [] 0 ks)=91::(Am 44 (ks.map Ay)++[93]):=by simp[Ay,S5,Fa]
theorem Ri(f:Fd)(x:Vl):Ay (.mk 85 [] f.tag [x])=60::(Ay (C5 (f,x))++[62]):=by simp[Ay,Di,Fa,C5,Am]
theorem Gn{S:List Ty}(hS:∀t∈S,Do t)(m:Nat):∀(d:Nat) (k:Kd) (s:List UInt8) (v:Vl) (r:List UInt8),Ch k->Ap S m d k s=some (v,r)->Gb S d k v/\s=Ay v++r:=by
 intro d;induction d with
 |zero=>intro k s v r _ h;cases h
 |succ d ih=>
  intro k s v r hk h;unfold Ap at h;cases hs:k.signs with
  |cons c t=>
   rw[hs]at h;simp only at h;have hp:=(Kb hk).1;by_cases h91:c=91
   ·subst h91;rw[if_pos rfl]at h;unfold N3 at h;cases hb:Aj 91 s with
    |none=>rw[hb]at h;cases h
    |some q=>
     rw[hb]at h;simp only at h;rw[Bl]at hb;subst hb;cases hb:Aj 93 q with
     |some z=>
      rw[hb]at h;simp only[aj,aD]at h;obtain⟨rfl,rfl⟩:=h;rw[Bl]at hb;subst hb;exact⟨.lst hs aL aL,by rw[Gr];rfl⟩
     |none=>
      rw[hb]at h;simp only at h;cases hi:Cd (Ap S m d k.part) m q with
      |none=>rw[hi]at h;cases h
      |some y=>
       obtain⟨us,y⟩:=y;rw[hi]at h;simp only at h;split at h
       ·rename_i hl;simp only[aj,aD]at h;obtain⟨rfl,rfl⟩:=h;obtain⟨_,_,i3,i4⟩:=Qea (P:=Gb S d k.part) (fun s v r h=>ih _ _ _ _ hp h) _ _ _ _ hi;exact⟨.lst hs hl i3,by rw[Gr,i4];simp⟩
       cases h
   have h63:=(M7 hk hs).resolve_left h91;subst h63;rw[if_neg h91]at h;unfold Qeb at h;cases hb:Aj 45 s with
   |some q=>
    rw[hb]at h;simp only[aj,aD]at h;obtain⟨rfl,rfl⟩:=h;rw[Bl]at hb;subst hb;exact⟨.non hs,rfl⟩
   |none=>
    rw[hb]at h;simp only at h;cases hb:Aj 43 s with
    |none=>rw[hb]at h;cases h
    |some q=>
     rw[hb]at h;simp only at h;rw[Bl]at hb;subst hb;cases hi:Ap S m d k.part q with
     |none=>rw[hi]at h;cases h
     |some y=>
      obtain⟨x,y⟩:=y;rw[hi]at h;simp only[aj,aD]at h;obtain⟨rfl,rfl⟩:=h;obtain⟨i1,rfl⟩:=ih _ _ _ _ hp hi;exact⟨.som hs i1,by simp[Ay,Di,Fa,Am]⟩
  |nil=>
   rw[hs]at h;simp only at h;split at h
   ·rename_i hb;cases hn:Sg s with
    |none=>rw[hn]at h;cases h
    |some q=>
     obtain⟨n,q⟩:=q;rw[hn]at h;simp only[aj,aD]at h;obtain⟨rfl,rfl⟩:=h;obtain⟨h1,h2,_⟩:=Qa1 hn;exact⟨.n hs hb h1,by rw[h2];simp[Ay,Di,Fa]⟩
   split at h
   ·rename_i hb;cases hn:N0 s with
    |none=>rw[hn]at h;cases h
    |some q=>
     obtain⟨x,q⟩:=q;rw[hn]at h;simp only[aj,aD]at h;obtain⟨rfl,rfl⟩:=h;obtain⟨h1,rfl⟩:=Qbc.1 hn;exact⟨.t hs hb h1,by simp[Ay,Di,Fa]⟩
   split at h
   ·rename_i hb;cases hn:Qg s with
    |none=>rw[hn]at h;cases h
    |some q=>
     obtain⟨x,q⟩:=q;rw[hn]at h;simp only[aj,aD]at h;obtain⟨rfl,rfl⟩:=h;have:=Yq.1 hn;exact⟨.f hs hb,by rw[this];simp[Ay,Di,Fa]⟩
   rename_i b1 b2 b3;have hb:k.base=[64]:=by
    rcases hk.2.1 with h|⟨h|h|h,_⟩
    ·exact h.1
    ·exact absurd h b1
    ·exact absurd h b2
    exact absurd h b3
   cases ht:B6 S k.name with
   |none=>rw[ht]at h;cases h
   |some t=>
    rw[ht]at h;simp only at h;unfold Mc at h;by_cases h9:t.sort=69
    ·rw[if_pos h9]at h;cases hb3:Aj 35 s with
     |none=>rw[hb3]at h;cases h
     |some q=>
      rw[hb3]at h;simp only at h;rw[Bl]at hb3;subst hb3;cases hg:Ha t.fields q with
      |none=>rw[hg]at h;cases h
      |some y=>
       obtain⟨f,y⟩:=y;rw[hg]at h;simp only[aj,aD]at h;obtain⟨rfl,rfl⟩:=h;obtain⟨_,h2,h3,_⟩:=Kn hg;exact⟨.enm hs hb ht h9 h2,by rw[h3];simp[Ay,Di,Fa]⟩
    rw[if_neg h9]at h;have hK:∀f∈t.fields,∀s v r,Ap S m d f.kind s=some (v,r)->Gb S d f.kind v/\s=Ay v++r:=fun f hf s v r hr=>ih _ _ _ _ (Py hS ht h9 hf).1 hr;by_cases h5:t.sort=85
    ·rw[if_pos h5]at h;cases hb3:Aj 60 s with
     |none=>rw[hb3]at h;cases h
     |some q=>
      rw[hb3]at h;simp only at h;rw[Bl]at hb3;subst hb3;cases hg:Dm (Ap S m d) t.fields q with
      |none=>rw[hg]at h;cases h
      |some y=>
       obtain⟨p,y⟩:=y;rw[hg]at h;simp only at h;cases hb4:Aj 62 y with
       |none=>rw[hb4]at h;cases h
       |some z=>
        rw[hb4]at h;simp only[aj,aD]at h;obtain⟨rfl,rfl⟩:=h;rw[Bl]at hb4;subst hb4;obtain⟨_,h2,h3,rfl⟩:=Sf (P:=fun f v=>Gb S d f.kind v) hK hg;exact⟨.uni hs hb ht h5 h2 h3,by rw[Ri];simp⟩
    rw[if_neg h5]at h;have h2:t.sort=82:=by
     rcases(hS t (Be ht).1).1 with h|h|h
     ·exact h
     ·exact absurd h h5
     exact absurd h h9
    cases hb3:Aj 123 s with
    |none=>rw[hb3]at h;cases h
    |some q=>
     rw[hb3]at h;simp only at h;rw[Bl]at hb3;subst hb3;cases hb4:Aj 125 q with
     |some z=>
      rw[hb4]at h;simp only[aj,aD]at h;obtain⟨rfl,rfl⟩:=h;rw[Bl]at hb4;subst hb4;exact⟨.rcd (fs:=[]) hs hb ht h2 aL aL aL aL,rfl⟩
     |none=>
      rw[hb4]at h;simp only at h;cases hg:Er S (Ap S m d) t.fields 201 0 q with
      |none=>rw[hg]at h;cases h
      |some y=>
       obtain⟨ps,y⟩:=y;rw[hg]at h;simp only[aj,aD]at h;obtain⟨rfl,rfl⟩:=h;obtain⟨_,i2,i3,i4⟩:=Qfp (P:=fun f v=>Gb S d f.kind v) hK _ _ _ _ _ hg;exact⟨.rcd hs hb ht h2 (fun p hp=>(i2 p hp).2.1) (fun p hp=>(i2 p hp).2.2.1) (fun p hp=>(i2 p hp).2.2.2) i3,by rw[No,i4];simp⟩
theorem Y8{S:List Ty}{d:Nat}{k:Kd}{v:Vl}(h:Gb S d k v):∃c t,Ay v=c::t/\c≠93/\c≠125/\c≠44:=by
 cases h with
 |@n _ _ m hs hb h=>
  have e:Ay (.mk 110 (Bb m) 0 [])=Bb m:=by simp[Ay,Di,Fa]
  rw[e];cases hd:Bb m with
  |nil=>exact absurd hd (Rb m)
  |cons c t=>
   have:=J5 m;rw[hd,List.all_cons,av,Dh]at this;refine⟨c,t,rfl,?_,?_,?_⟩<;>(rintro rfl;revert this;simp)
 |t=>exact⟨39,_,rfl,by decide,by decide,by decide⟩
 |@f _ _ b=>cases b<;>exact⟨_,_,rfl,by decide,by decide,by decide⟩
 |lst=>exact⟨91,_,rfl,by decide,by decide,by decide⟩
 |non=>exact⟨45,_,rfl,by decide,by decide,by decide⟩
 |som=>exact⟨43,_,rfl,by decide,by decide,by decide⟩
 |enm=>exact⟨35,_,rfl,by decide,by decide,by decide⟩
 |uni=>exact⟨60,_,rfl,by decide,by decide,by decide⟩
 |rcd=>exact⟨123,_,rfl,by decide,by decide,by decide⟩
theorem Ko{S:List Ty}(hS:∀t∈S,Do t){m:Nat}(hm:20<=m):∀(d:Nat) (k:Kd) (v:Vl) (r:List UInt8),Gb S d k v->Ni r->Ap S m d k (Ay v++r)=some (v,r):=by
 intro d;induction d with
 |zero=>intro k v r h;cases h
 |succ d ih=>
  intro k v r h hr;unfold Ap;cases h with
  |@n _ _ n hs hb h=>
   rw[hs];simp only;rw[if_pos hb];have e:Ay (.mk 110 (Bb n) 0 [])=Bb n:=by simp[Ay,Di,Fa]
   rw[e,Qd0 h hr]
  |@t _ _ s hs hb h=>
   rw[hs];simp only;rw[if_neg bE,if_pos hb];rw[show N0 (Ay (.mk 116 s 0 [])++r)=some (s,r)from Qbc.2 ⟨h,by simp[Ay,Di,Fa]⟩]
  |@f _ _ b hs hb=>
   rw[hs];simp only;rw[if_neg bE,if_neg bE,if_pos hb];rw[show Qg (Ay (.mk 102 (if b then Eh else Mb) 0 [])++r)=some (b,r)from Yq.2 (by cases b<;>simp[Ay,Di,Fa])]
  |@lst _ _ t ks hs hl h=>
   rw[hs];simp only;rw[if_pos Ac];unfold N3;rw[Gr,au,Az];simp only;cases ks with
   |nil=>rfl
   |cons x ks=>
    obtain⟨c,q,e1,e2,_⟩:=Y8 (h x aL);have e3:Aj 93 (Am 44 ((x::ks).map Ay)++[93]++r)=none:=by
     cases ks with
     |nil=>simp only[ax,List.map_nil,Am,e1,au,C9 e2]
     |cons y ks=>rw[ax,B0 44 _ aL,e1];simp only[au,C9 e2]
    rw[e3];simp only;rw[List.append_assoc,List.singleton_append,Xd m (x::ks) r (fun y hy r hr=>ih _ _ _ (h y hy) hr) aL aG];simp only;rw[if_pos hl]
  |@non _ _ t hs=>rw[hs];rfl
  |@som _ _ t x hs h=>
   rw[hs];simp only;rw[if_neg aJ];have e:Ay (.mk 63 [] 0 [x])=43::Ay x:=by simp[Ay,Di,Fa,Am]
   unfold Qeb;rw[e,au,C9 aJ,Az];simp only;rw[ih _ _ _ h hr]
  |@enm _ _ t f hs hb ht h9 hf=>
   rw[hs];simp only;rw[if_neg bE,if_neg bE,if_neg bE,ht];simp only;unfold Mc;have h200:f.tag<=200:=((hS t (Be ht).1).2.2.1.1 f (Bi hf).2).2.1;have e:Ay (.mk 69 [] f.tag [])=35::Bb f.tag:=by simp[Ay,Di,Fa]
   rw[if_pos h9,e,au,Az];simp only;rw[Qda h200 hf hr]
  |@uni _ _ t f x hs hb ht h5 hf h=>
   rw[hs];simp only;rw[if_neg bE,if_neg bE,if_neg bE,ht];simp only;unfold Mc;have h9:t.sort≠69:=cY;rw[if_neg h9,if_pos h5,Ri,au,Az];simp only;rw[List.append_assoc,List.singleton_append,Ss (p:=(f,x)) (Py hS ht h9 (Bi hf).2).2 hf (ih _ _ (62::r) h (E5 (c:=62) _ aJ))];simp only[Az]
  |@rcd _ _ t fs hs hb ht h2 hf h hn hp=>
   rw[hs];simp only;rw[if_neg bE,if_neg bE,if_neg bE,ht];simp only;unfold Mc;have h9:t.sort≠69:=cj;rw[if_neg h9,if_neg cj,No,au,Az];simp only;cases fs with
   |nil=>rfl
   |cons p fs=>
    have e3:Aj 125 (Am 44 ((p::fs).map fun p=>Ay (C5 p))++[125]++r)=none:=by
     have e1:Ay (C5 p)=Bb p.1.tag++61::Ay p.2:=by simp[C5,Ay,Di,Fa,Am]
     cases hd:Bb p.1.tag with
     |nil=>exact absurd hd (Rb _)
     |cons c q=>
      have hc:=J5 p.1.tag;rw[hd,List.all_cons,av,Dh]at hc;have e2:c≠125:=by rintro rfl;revert hc;simp
      rw[hd]at e1;cases fs with
      |nil=>simp only[ax,List.map_nil,Am,e1,au,C9 e2]
      |cons y fs=>rw[ax,B0 44 _ aL,e1];simp only[au,C9 e2]
    rw[e3];simp only
    rw[List.append_assoc,List.singleton_append,Zu 201 0 (p::fs) r (fun q hq r hr=>ih _ _ _ (h q hq) hr) aL
     (fun q hq=>?_) hp aG]
    have hm:=(Bi (hf q hq)).2;have h1:=((hS t (Be ht).1).2.2.1.1 q.1 hm).1;exact⟨h1,(Py hS ht h9 hm).2,hf q hq,hn q hq⟩
theorem Qnf{S:List Ty}(hS:∀t∈S,Do t){d:Nat}{k:Kd}{v u:Vl}(hv:Gb S d k v)(hu:Gb S d k u)(h:Ay v=Ay u):v=u:=by
 have h1:=Ko hS (Ar 20) d k v [] hv Mt;have h2:=Ko hS (Ar 20) d k u [] hu Mt;rw[h,h2]at h1;injection h1 with h1;injection h1 with h1;exact h1.symm
def Kz(S:List Ty)(k:Kd)(s:List UInt8):Option Vl:=
 if 400<s.length then none else match Ap S 20 12 k s with
  |some (v,[])=>some v
  |_=>none
theorem Kr{S:List Ty}(hS:∀t∈S,Do t){k:Kd}(hk:Ch k){s:List UInt8}{v:Vl}:Kz S k s=some v↔Gb S 12 k v/\Ay v=s/\s.length<=400:=by
 unfold Kz;constructor
 ·intro h;split at h
  ·cases h
  rename_i hl;cases hr:Ap S 20 12 k s with
  |none=>rw[hr]at h;cases h
  |some q=>
   obtain⟨x,r⟩:=q;rw[hr]at h;cases r with
   |cons c t=>cases h
   |nil=>
    simp only[aj]at h;subst h;obtain⟨h1,h2⟩:=Gn hS 20 12 k s x [] hk hr;exact⟨h1,by rw[h2,List.append_nil],by omega⟩
 rintro⟨h1,rfl,hl⟩;rw[if_neg aG];have:=Ko hS (Ar 20) 12 k v [] h1 Mt;rw[List.append_nil]at this;rw[this]
theorem Qid{S:List Ty}(hS:∀t∈S,Do t){k:Kd}(hk:Ch k){s:List UInt8}(hl:s.length<=400)(m n:Nat)(hm:20<=m)(hn:12<=n):
  Kz S k s=match Ap S m n k s with|some (v,[])=>if Md v<=12 then some v else none|_=>none:=by
 cases hr:Ap S m n k s with
 |none=>
  cases hv:Kz S k s with
  |none=>rfl
  |some v=>
   obtain⟨h1,h2,_⟩:=(Kr hS hk).1 hv;have h3:Gb S n k v:=(Fb S _ _ _ h1 n).2 (ad ((Fb S _ _ _ h1 12).1 h1) hn);have:=Ko hS hm n k v [] h3 Mt;rw[List.append_nil,h2,hr]at this;cases this
 |some q=>
  obtain⟨x,r⟩:=q;obtain⟨h1,h2⟩:=Gn hS m n k s x r hk hr;cases r with
  |nil=>
   simp only;rw[List.append_nil]at h2;by_cases hd:Md x<=12
   ·rw[if_pos hd,Kr hS hk];exact⟨(Fb S _ _ _ h1 12).2 hd,h2.symm,hl⟩
   rw[if_neg hd];cases hv:Kz S k s with
   |none=>rfl
   |some v=>
    obtain⟨i1,i2,_⟩:=(Kr hS hk).1 hv;have h3:Gb S n k v:=(Fb S _ _ _ i1 n).2 (ad ((Fb S _ _ _ i1 12).1 i1) hn);have e:=Qnf hS h3 h1 (by rw[i2,h2]);subst e;exact absurd ((Fb S _ _ _ i1 12).1 i1) hd
  |cons c t=>
   simp only;cases hv:Kz S k s with
   |none=>rfl
   |some v=>
    obtain⟨i1,i2,_⟩:=(Kr hS hk).1 hv;have h3:Gb S n k v:=(Fb S _ _ _ i1 n).2 (ad ((Fb S _ _ _ i1 12).1 i1) hn);have:=Ko hS hm n k v [] h3 Mt;rw[List.append_nil,i2,hr]at this;injection this with this;injection this with _ this;cases this
abbrev Df:=List UInt8
def Vh(S:List Ty):Nat->Kd->List Df->List Df
 |0,_,out=>out
 |n+1,k,out=>
  if k.base=[64]/\k.name∉out then
   (match B6 S k.name with
    |none=>out++[k.name]
    |some t=>if t.sort=69 then out++[k.name]else t.fields.foldl (fun o f=>Vh S n f.kind o) (out++[k.name]))
  else out
def Ng(S:List Ty):List Df:=S.map (·.name)
def Qnb(S:List Ty)(out:List Df):Prop:=out.Nodup/\∀x∈out,x∈Ng S
theorem Qnb.nil(S:List Ty):Qnb S []:=⟨List.nodup_nil,by simp⟩
theorem Qg9:∀(l m:List Df),l.Nodup->(∀x∈l,x∈m)->l.length<=m.length
 |[],m,_,_=>ag _
 |x::l,m,hn,hs=>by
  obtain⟨h1,h2⟩:=List.nodup_cons.1 hn;have hx:=hs x aL
  have ih:=Qg9 l (m.erase x) h2 (fun y hy=>by
   have hne:y≠x:=by rintro rfl;exact h1 hy
   exact(List.mem_erase_of_ne hne).2 (hs y gc))
  have hl:=List.length_erase_of_mem hx;have hp:0<m.length:=List.length_pos_iff.2 (by rintro rfl;cases hx);simp;omega
theorem Qnb.len{S:List Ty}{out:List Df}(h:Qnb S out):out.length<=S.length:=by
 have:=Qg9 out (Ng S) h.1 h.2;simpa [Ng]using this
abbrev Qgs:=Df × Df
def Ql8(S T:List Ty)(m:List Qgs):Prop:=m.Nodup/\∀p∈m,p.1∈Ng S/\p.2∈Ng T
theorem Ql8.nil(S T:List Ty):Ql8 S T []:=⟨List.nodup_nil,by simp⟩
theorem Qej:∀(l m:List Qgs),l.Nodup->(∀x∈l,x∈m)->l.length<=m.length
 |[],m,_,_=>aL
 |x::l,m,hn,hs=>by
  have hx:=hs x aL;have:=Qej l (m.erase x) (List.nodup_cons.1 hn).2 (fun y hy=>(List.mem_erase_of_ne dT).2 (hs y gc));exact kI
def Qc4(a b:List Df):List Qgs:=a.flatMap fun x=>b.map fun y=>(x,y)
theorem Qbk(b:List Df):∀a,(Qc4 a b).length=a.length*b.length
 |[]=>by simp[Qc4]
 |x::a=>by
  have:=Qbk b a;unfold Qc4 at this ⊢;rw[List.flatMap_cons,ah,List.length_map,this,List.length_cons,Nat.add_mul];omega
theorem Ql8.len{S T:List Ty}{m:List Qgs}(h:Ql8 S T m):m.length<=S.length*T.length:=by
 have:=Qej m (Qc4 (Ng S) (Ng T)) h.1 (fun x hx=>by
  obtain⟨a,b⟩:=x;have:=h.2 _ hx;unfold Qc4;rw[List.mem_flatMap];exact⟨a,this.1,aw.2 ⟨b,this.2,rfl⟩⟩)
 rw[Qbk]at this;simpa [Ng]using this
def Qnc(R:Df->Df->Prop)(a b:Kd):Prop:=a.signs=b.signs/\a.base=b.base/\(a.base=[64]->R a.name b.name)
def Qks(S T:List Ty)(R:Df->Df->Prop)(t:Ty)(st:UInt8)(g:Fd):Prop:=
 match Bj t.fields g.tag with
 |none=>st=82
 |some f=>st=69\/(Qnc R f.kind g.kind/\(st=82->Mh S f=Mh T g))
def Qb5(S T:List Ty)(R:Df->Df->Prop)(a b:Df):Prop:=∃t u,B6 S a=some t/\B6 T b=some u/\t.sort=u.sort/\∀g∈u.fields,Qks S T R t u.sort g
abbrev inM(m:List Qgs)(a b:Df):Prop:=(a,b)∈m
theorem Qnc.mono{R Q:Df->Df->Prop}(h:∀a b,R a b->Q a b){a b:Kd}(hk:Qnc R a b):Qnc Q a b:=⟨hk.1,hk.2.1,fun e=>h _ _ (hk.2.2 e)⟩
theorem Qks.mono{S T:List Ty}{R Q:Df->Df->Prop}(h:∀a b,R a b->Q a b){t:Ty}{st:UInt8}{g:Fd}(hk:Qks S T R t st g):Qks S T Q t st g:=by
 unfold Qks at hk ⊢;cases hf:Bj t.fields g.tag with
 |none=>rw[hf]at hk;exact hk
 |some f=>
  rw[hf]at hk;rcases hk with hk|⟨x,y⟩
  ·exact .inl hk
  exact .inr ⟨x.mono h,y⟩
theorem Qb5.mono{S T:List Ty}{R Q:Df->Df->Prop}(h:∀a b,R a b->Q a b){a b:Df}(hk:Qb5 S T R a b):Qb5 S T Q a b:=by
 obtain⟨t,u,e1,e2,e3,e4⟩:=hk;exact⟨t,u,e1,e2,e3,fun g hg=>(e4 g hg).mono h⟩
def Qg4(S T:List Ty)(m m':List Qgs):Prop:=∀a b,(a,b)∈m'->(a,b)∉m->Qb5 S T (inM m') a b
theorem Qg4.trans{S T:List Ty}{m1 m2 m3:List Qgs}(h1:Qg4 S T m1 m2)(h2:Qg4 S T m2 m3)(hs:∀p∈m2,p∈m3):Qg4 S T m1 m3:=by
 intro a b h3 hn;by_cases h:(a,b)∈m2
 ·exact(h1 a b h hn).mono fun x y hxy=>hs _ hxy
 exact h2 a b h3 h
def Qai(ρ:Df->Df)(k:Kd):Kd:=if k.base=[64]then {k with name:=ρ k.name} else k
def Xo(ρ:Df->Df)(st:UInt8)(f:Fd):Fd:=if st=69 then f else {f with kind:=Qai ρ f.kind}
def Qcg(ρ:Df->Df)(t:Ty):Ty:={t with name:=ρ t.name,fields:=t.fields.map (Xo ρ t.sort)}
theorem Yr(ρ:Df->Df)(k:Kd):(Qai ρ k).signs=k.signs:=by unfold Qai;split<;>rfl
theorem Rh(ρ:Df->Df)(k:Kd):(Qai ρ k).base=k.base:=by unfold Qai;split<;>rfl
theorem N7{ρ:Df->Df}{k:Kd}(h:k.base=[64]):(Qai ρ k).name=ρ k.name:=by unfold Qai;rw[if_pos h]
theorem Qkv(ρ:Df->Df)(st:UInt8)(f:Fd):(Xo ρ st f).tag=f.tag:=by unfold Xo;split<;>rfl
theorem Qf9(ρ:Df->Df)(st:UInt8)(f:Fd):(Xo ρ st f).given=f.given:=by unfold Xo;split<;>rfl
theorem Ra{ρ:Df->Df}{st:UInt8}(h:st≠69)(f:Fd):(Xo ρ st f).kind=Qai ρ f.kind:=by unfold Xo;rw[if_neg h]
def inN(ns:List Df)(k:Kd):Prop:=k.base=[64]->k.name∈ns
structure Ren(S T:List Ty)(ns:List Df)(ρ:Df->Df):Prop where
 get:∀n∈ns,∃t,B6 S n=some t/\B6 T (ρ n)=some (Qcg ρ t)/\Do t/\(t.sort≠69->∀f∈t.fields,inN ns f.kind)
 inj:∀a∈ns,∀b∈ns,ρ a=ρ b->a=b
theorem Ren.met{S T:List Ty}{ns:List Df}{ρ:Df->Df}(h:Ren S T ns ρ):∀(n:Nat) (k:Kd) (out:List Df),inN ns k->(∀x∈out,x∈ns) ->
  Vh T n (Qai ρ k) (out.map ρ)=(Vh S n k out).map ρ/\∀x∈Vh S n k out,x∈ns
 |0,k,out,_,ho=>⟨rfl,ho⟩
 |n+1,k,out,hk,ho=>by
  by_cases hb:k.base=[64]
  ·have hkn:=hk hb;have hmem:ρ k.name∈out.map ρ↔k.name∈out:=by
    rw[aw];exact⟨fun⟨y,hy,e⟩=>by rw[<-h.inj y (ho y hy) k.name hkn e];exact hy,fun hy=>⟨_,hy,rfl⟩⟩
   by_cases hin:k.name∈out
   ·rw[Vh,Vh,if_neg (by rw[N7 hb];exact fun hh=>hh.2 (hmem.2 hin)),if_neg (fun hh=>hh.2 hin)];exact⟨rfl,ho⟩
   obtain⟨t,e1,e2,e3,e4⟩:=h.get _ hkn;have ho2:∀x∈out++[k.name],x∈ns:=fun x hx=>by
    rcases af.1 hx with hx|hx
    ·exact ho x hx
    simp at hx;subst hx;exact hkn
   rw[Vh,Vh,if_pos ⟨by rw[Rh];exact hb,by rw[N7 hb];exact fun hh=>hin (hmem.1 hh)⟩,if_pos ⟨hb,hin⟩,N7 hb,e1,e2];simp only;rw[show (Qcg ρ t).sort=t.sort from rfl,show (Qcg ρ t).fields=t.fields.map (Xo ρ t.sort)from rfl];have em:out.map ρ++[ρ k.name]=(out++[k.name]).map ρ:=aL;by_cases h69:t.sort=69
   ·rw[if_pos h69,if_pos h69];exact⟨em,ho2⟩
   rw[if_neg h69,if_neg h69,em];have key:∀(fs:List Fd),(∀f∈fs,inN ns f.kind)->∀(o:List Df),(∀x∈o,x∈ns) ->
     (fs.map (Xo ρ t.sort)).foldl (fun o f=>Vh T n f.kind o) (o.map ρ)=(fs.foldl (fun o f=>Vh S n f.kind o) o).map ρ/\∀x∈fs.foldl (fun o f=>Vh S n f.kind o) o,x∈ns:=by
    intro fs;induction fs with
    |nil=>intro _ o ho;exact⟨rfl,ho⟩
    |cons f fs ih=>
     intro hfs o ho;obtain⟨m1,m2⟩:=h.met n f.kind o (hfs f aL) ho;simp only[ax,List.foldl_cons];rw[Ra h69,m1];exact ih (fun g hg=>hfs g (by simp[hg])) _ m2
   exact key t.fields (e4 h69) _ ho2
  rw[Vh,Vh,if_neg (fun hh=>hb (by rw[Rh]at hh;exact hh.1)),if_neg (fun hh=>hb hh.1)];exact⟨rfl,ho⟩
theorem Ren.stand{S T:List Ty}{ns:List Df}{ρ:Df->Df}(h:Ren S T ns ρ):∀(n:Nat) (k:Kd),inN ns k->Qcu k->Dv T n (Qai ρ k)=Dv S n k
 |0,_,_,_=>rfl
 |n+1,k,hk,hb=>by
  rw[Dv,Dv,Yr,Rh];split
  ·rfl
  split
  ·rfl
  split
  ·rfl
  rename_i h1;split
  ·rfl
  rename_i h2;split
  ·rfl
  rename_i h3;have hb64:k.base=[64]:=by
   rcases hb with⟨hb,_⟩|⟨hb|hb|hb,_⟩
   ·exact hb
   ·exact absurd hb h1
   ·exact absurd hb h2
   exact absurd hb h3
  obtain⟨t,e1,e2,e3,e4⟩:=h.get _ (hk hb64);rw[N7 hb64,e1,e2];simp only;rw[show (Qcg ρ t).sort=t.sort from rfl,show (Qcg ρ t).fields=t.fields.map (Xo ρ t.sort)from rfl];split
  ·rfl
  cases hf:t.fields with
  |nil=>rfl
  |cons f fs=>
   simp only[ax];rw[Qkv];split
   ·rfl
   rename_i h69;rw[Ra h69,h.stand n f.kind (e4 h69 f eL) ((e3.2.2.1.1 f eL).2.2.2.2 h69).1.2.1]
theorem Ren.of{S T:List Ty}{ns:List Df}{ρ:Df->Df}(h:Ren S T ns ρ){st:UInt8}{f:Fd}(h69:st≠69)(hf:Xp st f)(hk:inN ns f.kind):Mh T (Xo ρ st f)=Mh S f:=by
 unfold Mh;rw[Qf9,Ra h69];unfold T2;rw[h.stand 10 f.kind hk (hf.2.2.2.2 h69).1.2.1]
theorem Qj{t:Ty}(hd:t.fields.Pairwise fun g f=>g.name≠f.name/\g.tag<f.tag){g:Fd}(hgm:g∈t.fields):Bj t.fields g.tag=some g:=by
 cases h:Bj t.fields g.tag with
 |none=>
  have:=List.find?_eq_none.1 h g hgm;simp at this
 |some f=>
  have hm:=List.mem_of_find?_eq_some h;have ht:=List.find?_some h;simp only[decide_eq_true_eq]at ht;obtain⟨i,hi,rfl⟩:=List.mem_iff_getElem.1 hm;obtain⟨j,hj,rfl⟩:=List.mem_iff_getElem.1 hgm;rw[List.pairwise_iff_getElem]at hd;rcases Nat.lt_trichotomy i j with hij|hij|hij
  ·have:=(hd i j hi hj hij).2;omega
  ·subst hij;rfl
  have:=(hd j i hj hi hij).2;omega
theorem Ren.ends{S T:List Ty}{ns:List Df}{ρ:Df->Df}(h:Ren S T ns ρ):∀(n:Nat) (t:Ty),(t.sort≠69->∀f∈t.fields,inN ns f.kind)->Cb T n (Qcg ρ t)=Cb S n t
 |0,_,_=>rfl
 |n+1,t,ht=>by
  unfold Cb;by_cases h85:t.sort=85
  ·have h69:t.sort≠69:=eD;unfold Gl;rw[show (Qcg ρ t).sort=t.sort from rfl,show (Qcg ρ t).fields=t.fields.map (Xo ρ t.sort)from rfl,if_pos h85,if_pos h85];cases hf:t.fields with
   |nil=>rfl
   |cons f fs=>
    simp only[ax];rw[Ra h69,Yr,Rh];by_cases hc:f.kind.signs=[]/\f.kind.base=[64]
    ·rw[if_pos hc,if_pos hc,N7 hc.2];obtain⟨u,e1,e2,e3,e4⟩:=h.get _ (ht h69 f eL hc.2);rw[e1,e2];exact h.ends n u e4
    rw[if_neg hc,if_neg hc]
  have e1:Gl T (Qcg ρ t)=none:=if_neg h85;have e2:Gl S t=none:=if_neg h85;rw[e1,e2]
def Mw(v:Vl):Vl:=v.kids.headD v
def LOk(v:Vl)(r:Vl × Bool):Prop:=(r.2=false->r.1=v)/\(r.2=true->(Ay r.1).length<(Ay v).length)
theorem LOk.le{v:Vl}{r:Vl × Bool}(h:LOk v r):(Ay r.1).length<=(Ay v).length:=by
 cases e:r.2 with
 |false=>rw[h.1 e];exact Ar _
 |true=>exact Nat.le_of_lt (h.2 e)
theorem LOk.same(v:Vl):LOk v (v,false):=⟨fun _=>rfl,fun h=>Bool.noConfusion h⟩
def Cq(ps:List (List UInt8)):Nat:=(ps.map fun p=>p.length+1).sum
theorem Cu(p:List UInt8)(ps:List (List UInt8)):Cq (p::ps)=p.length+1+Cq ps:=d7
theorem Bg(c:UInt8):∀ps:List (List UInt8),(Am c ps).length=Cq ps - 1
 |[]=>rfl
 |[p]=>by simp[Am,Cq]
 |p::q::ps=>by
  rw[B0 c p aL,ah,List.length_cons,Bg c (q::ps),Cu p,Cu q];omega
theorem E4(w:UInt8)(tx:List UInt8)(tg:Nat)(ks:List Vl):Ay (.mk w tx tg ks)=Fa w tx tg (ks.map Ay):=by rw[Ay,S5]
theorem J8(p:Fd × Vl):(Ay (C5 p)).length=(Bb p.1.tag).length+1+(Ay p.2).length:=by simp[C5,Ay,Di,Fa,Am];omega
theorem Sm{fs:List Fd}{n:Nat}{f:Fd}(h:Bj fs n=some f):f∈fs/\f.tag=n:=⟨(Bi h).2,(Bi h).1⟩
end Go.Proofs.YtkigmebejmmikaaGreatDoor
