/- Texts joined. Conditions: as each theorem names them. -/
import Derived.Test.YtpjijpcemejlnaaGreatDoorM02
set_option maxRecDepth 100000
set_option maxHeartbeats 32000000
set_option linter.unusedVariables false
set_option linter.unusedSimpArgs false
namespace Go.Proofs.YtpjijpcemejlnaaGreatDoor
open Go.RowKit Go.Proofs.Tryz
inductive Vl where
 |mk (what:UInt8) (text:List UInt8) (tag:Nat) (kids:List Vl)
def Vl.what:Vl->UInt8|.mk w _ _ _=>w
def Vl.text:Vl->List UInt8|.mk _ t _ _=>t
def Vl.tag:Vl->Nat|.mk _ _ g _=>g
def Vl.kids:Vl->List Vl|.mk _ _ _ k=>k
def H6(w:UInt8)(tx:List UInt8)(tg:Nat)(ps:List (List UInt8)):List UInt8:=
 if w=116 then 39::(tx++[39])
 else if w=91 then 91::(Ar 44 ps++[93])
 else if w=63 then(match ps with|[]=>[45]|_=>43::Ar 44 ps)
 else if w=61 then Aw tg++61::Ar 44 ps
 else if w=82 then 123::(Ar 44 ps++[125])
 else if w=85 then 60::(Aw tg++61::(Ar 44 ps++[62]))
 else if w=69 then 35::Aw tg
 else tx
mutual
def Bh:Vl->List UInt8
 |.mk w tx tg ks=>H6 w tx tg (Dz ks)
def Dz:List Vl->List (List UInt8)
 |[]=>[]
 |x::xs=>Bh x::Dz xs
end
theorem Ra:∀ks:List Vl,Dz ks=ks.map Bh
 |[]=>rfl
 |x::xs=>by rw[Dz,Ra xs];rfl
mutual
def Kt:Vl->Nat
 |.mk w _ _ ks=>if w=61 then Gz ks else Gz ks+1
def Gz:List Vl->Nat
 |[]=>0
 |x::xs=>max (Kt x) (Gz xs)
end
theorem Tj:∀(ks:List Vl) (d:Nat),Gz ks<=d↔∀x∈ks,Kt x<=d
 |[],d=>by simp[Gz]
 |x::xs,d=>by rw[Gz,Nat.max_le,Tj xs d];simp
def Ea:List UInt8:=[121,101,115]
def Ks:List UInt8:=[110,111]
def Dk(p:Fd × Vl):Vl:=.mk 61 [] p.1.tag [p.2]
inductive Gy(S:List Ty):Nat->Kd->Vl->Prop
 |n {d:Nat} {k:Kd} {m:Nat} (hs:k.signs=[]) (hb:k.base=[110]) (h:m<=999999):Gy S (d+1) k (.mk 110 (Aw m) 0 [])
 |t {d:Nat} {k:Kd} {s:List UInt8} (hs:k.signs=[]) (hb:k.base=[116]) (h:Db s=true):Gy S (d+1) k (.mk 116 s 0 [])
 |f {d:Nat} {k:Kd} {b:Bool} (hs:k.signs=[]) (hb:k.base=[102]):Gy S (d+1) k (.mk 102 (if b then Ea else Ks) 0 [])
 |lst {d:Nat} {k:Kd} {r:List UInt8} {ks:List Vl} (hs:k.signs=91::r) (hl:ks.length<=20) (h:∀x∈ks,Gy S d k.part x):Gy S (d+1) k (.mk 91 [] 0 ks)
 |non {d:Nat} {k:Kd} {r:List UInt8} (hs:k.signs=63::r):Gy S (d+1) k (.mk 63 [] 0 [])
 |som {d:Nat} {k:Kd} {r:List UInt8} {x:Vl} (hs:k.signs=63::r) (h:Gy S d k.part x):Gy S (d+1) k (.mk 63 [] 0 [x])
 |enm {d:Nat} {k:Kd} {t:Ty} {f:Fd} (hs:k.signs=[]) (hb:k.base=[64]) (ht:Bw S k.name=some t) (h9:t.sort=69) (hf:Bf t.fields f.tag=some f):Gy S (d+1) k (.mk 69 [] f.tag [])
 |uni {d:Nat} {k:Kd} {t:Ty} {f:Fd} {x:Vl} (hs:k.signs=[]) (hb:k.base=[64]) (ht:Bw S k.name=some t) (h5:t.sort=85) (hf:Bf t.fields f.tag=some f) (h:Gy S d f.kind x):Gy S (d+1) k (.mk 85 [] f.tag [x])
 |rcd {d:Nat} {k:Kd} {t:Ty} {fs:List (Fd × Vl)} (hs:k.signs=[]) (hb:k.base=[64]) (ht:Bw S k.name=some t) (h2:t.sort=82) (hf:∀p∈fs,Bf t.fields p.1.tag=some p.1) (h:∀p∈fs,Gy S d p.1.kind p.2)
   (hn:∀p∈fs,Bh p.2≠Nq S p.1) (hp:fs.Pairwise fun p q=>p.1.tag<q.1.tag):Gy S (d+1) k (.mk 82 [] 0 (fs.map Dk))
theorem Qgj(p:Fd × Vl):Kt (Dk p)=Kt p.2:=by simp[Dk,Kt,Gz]
theorem Fl(S:List Ty):∀(n:Nat) (k:Kd) (v:Vl),Gy S n k v->∀d,Gy S d k v↔Kt v<=d:=by
 intro n;induction n with
 |zero=>intro k v h;cases h
 |succ n ih=>
  intro k v h d;cases d with
  |zero=>
   constructor
   ·intro h;cases h
   intro hd;cases h<;>simp[Kt]at hd
  |succ d=>
   cases h with
   |n hs hb h=>exact⟨fun _=>by simp[Kt,Gz],fun _=>.n hs hb h⟩
   |t hs hb h=>exact⟨fun _=>by simp[Kt,Gz],fun _=>.t hs hb h⟩
   |f hs hb=>exact⟨fun _=>by simp[Kt,Gz],fun _=>.f hs hb⟩
   |non hs=>exact⟨fun _=>by simp[Kt,Gz],fun _=>.non hs⟩
   |enm hs hb ht h9 hf=>exact⟨fun _=>by simp[Kt,Gz],fun _=>.enm hs hb ht h9 hf⟩
   |@lst _ _ r ks hs hl h=>
    have e:Kt (.mk 91 [] 0 ks)<=d+1↔∀x∈ks,Kt x<=d:=by rw[<-Tj];simp[Kt]
    rw[e];constructor
    ·intro hv x hx;cases hv with
     |lst _ _ h2=>exact(ih _ _ (h x hx) d).1 (h2 x hx)
    intro hv;exact .lst hs hl fun x hx=>(ih _ _ (h x hx) d).2 (hv x hx)
   |@som _ _ r x hs h=>
    have e:Kt (.mk 63 [] 0 [x])<=d+1↔Kt x<=d:=by simp[Kt,Gz]
    rw[e];constructor
    ·intro hv;cases hv with
     |som _ h2=>exact(ih _ _ h d).1 h2
    intro hv;exact .som hs ((ih _ _ h d).2 hv)
   |@uni _ _ t f x hs hb ht h5 hf h=>
    have e:Kt (.mk 85 [] f.tag [x])<=d+1↔Kt x<=d:=by simp[Kt,Gz]
    rw[e];constructor
    ·intro hv;generalize hg:f.tag=g at hv;cases hv with
     |uni hs2 hb2 ht2 h52 hf2 h2=>
      rw[ht]at ht2;injection ht2 with ht2;subst ht2;rw[<-hg,hf]at hf2;injection hf2 with hf2;subst hf2;exact(ih _ _ h d).1 h2
    intro hv;exact .uni hs hb ht h5 hf ((ih _ _ h d).2 hv)
   |@rcd _ _ t fs hs hb ht h2 hf h hn hp=>
    have e:Kt (.mk 82 [] 0 (fs.map Dk))<=d+1↔∀p∈fs,Kt p.2<=d:=by
     have:Kt (.mk 82 [] 0 (fs.map Dk))=Gz (fs.map Dk)+1:=by simp[Kt]
     rw[this,Nat.succ_le_succ_iff,Tj];constructor
     ·intro h p hp;have:=h _ (ap hp);rwa [Qgj]at this
     intro h x hx;obtain⟨p,hp,rfl⟩:=ax.1 hx;rw[Qgj];exact h p hp
    rw[e];constructor
    ·intro hv p hp;generalize hg:fs.map Dk=ks at hv;cases hv with
     |@rcd _ _ t2 fs2 hs2 hb2 ht2 h22 hf2 h2 hn2 hp2=>
      rw[ht]at ht2;injection ht2 with ht2;subst ht2;have hm:Dk p∈fs2.map Dk:=hg ▸ ap hp;obtain⟨q,hq,eq⟩:=ax.1 hm;have e1:q.1.tag=p.1.tag:=by injection eq
      have e2:q.2=p.2:=by injection eq with _ _ _ e4;injection e4
      have e3:q.1=p.1:=by have:=hf2 q hq;rw[e1,hf p hp]at this;injection this with this;exact this.symm
      have:=h2 q hq;rw[e2,e3]at this;exact(ih _ _ (h p hp) d).1 this
    intro hv;exact .rcd hs hb ht h2 hf (fun p hp=>(ih _ _ (h p hp) d).2 (hv p hp)) hn hp
def Ql(s:List UInt8):Option (Nat × List UInt8):=match Ci (s.takeWhile Ba)with
 |some n=>some (n,s.dropWhile Ba)
 |none=>none
def Fj(fs:List Fd)(s:List UInt8):Option (Fd × List UInt8):=match Ql s with
 |some (n,r)=>if n<=200 then(match Bf fs n with|some f=>some (f,r)|none=>none)else none
 |none=>none
def Ap(c:UInt8):List UInt8->Option (List UInt8)
 |x::r=>if x=c then some r else none
 |[]=>none
def Mx(s:List UInt8):Option (List UInt8 × List UInt8):=match Ap 39 s with
 |none=>none
 |some r=>match Ap 39 (r.dropWhile Cb)with
  |none=>none
  |some q=>if (r.takeWhile Cb).length<=12 then some (r.takeWhile Cb,q)else none
def Fe:List UInt8->List UInt8->Option (List UInt8)
 |[],s=>some s
 |c::p,s=>match Ap c s with|none=>none|some r=>Fe p r
def N0(s:List UInt8):Option (Bool × List UInt8):=match Fe Ea s with
 |some r=>some (true,r)
 |none=>match Fe Ks s with|some r=>some (false,r)|none=>none
def Cr(K:List UInt8->Option (Vl × List UInt8)):Nat->List UInt8->Option (List Vl × List UInt8)
 |0,_=>none
 |m+1,s=>match K s with
  |none=>none
  |some (v,r)=>match Ap 44 r with
   |some q=>(match Cr K m q with|some (vs,z)=>some (v::vs,z)|none=>none)
   |none=>match Ap 93 r with|some q=>some ([v],q)|none=>none
def S7(K:List UInt8->Option (Vl × List UInt8))(m:Nat)(s:List UInt8):Option (Vl × List UInt8):=match Ap 91 s with
 |none=>none
 |some r=>match Ap 93 r with
  |some q=>some (.mk 91 [] 0 [],q)
  |none=>match Cr K m r with|some (vs,q)=>if vs.length<=20 then some (.mk 91 [] 0 vs,q)else none|none=>none
def Qal(K:List UInt8->Option (Vl × List UInt8))(s:List UInt8):Option (Vl × List UInt8):=match Ap 45 s with
 |some q=>some (.mk 63 [] 0 [],q)
 |none=>match Ap 43 s with
  |none=>none
  |some r=>match K r with|some (v,q)=>some (.mk 63 [] 0 [v],q)|none=>none
def Cw(K:Kd->List UInt8->Option (Vl × List UInt8))(fs:List Fd)(s:List UInt8):Option ((Fd × Vl) × List UInt8):=match Fj fs s with
 |none=>none
 |some (f,r)=>match Ap 61 r with
  |none=>none
  |some q=>match K f.kind q with|some (v,z)=>some ((f,v),z)|none=>none
def Du(S:List Ty)(K:Kd->List UInt8->Option (Vl × List UInt8))(fs:List Fd):Nat->Nat->List UInt8->Option (List (Fd × Vl) × List UInt8)
 |0,_,_=>none
 |m+1,last,s=>match Cw K fs s with
  |none=>none
  |some (p,r)=>if p.1.tag<=last\/Bh p.2=Nq S p.1 then none else match Ap 44 r with
   |some q=>(match Du S K fs m p.1.tag q with|some (ps,z)=>some (p::ps,z)|none=>none)
   |none=>match Ap 125 r with|some q=>some ([p],q)|none=>none
def Jy(S:List Ty)(K:Kd->List UInt8->Option (Vl × List UInt8))(t:Ty)(s:List UInt8):Option (Vl × List UInt8):=
 if t.sort=69 then(match Ap 35 s with
  |none=>none
  |some r=>match Fj t.fields r with|some (f,q)=>some (.mk 69 [] f.tag [],q)|none=>none)
 else if t.sort=85 then(match Ap 60 s with
  |none=>none
  |some r=>match Cw K t.fields r with
   |none=>none
   |some (p,q)=>match Ap 62 q with|some z=>some (.mk 85 [] p.1.tag [p.2],z)|none=>none)
 else match Ap 123 s with
  |none=>none
  |some r=>match Ap 125 r with
   |some q=>some (.mk 82 [] 0 [],q)
   |none=>match Du S K t.fields 201 0 r with|some (ps,q)=>some (.mk 82 [] 0 (ps.map Dk),q)|none=>none
def Al(S:List Ty)(m:Nat):Nat->Kd->List UInt8->Option (Vl × List UInt8)
 |0,_,_=>none
 |d+1,k,s=>match k.signs with
  |c::_=>if c=91 then S7 (Al S m d k.part) m s else Qal (Al S m d k.part) s
  |[]=>
   if k.base=[110]then(match Ql s with|some (n,r)=>some (.mk 110 (Aw n) 0 [],r)|none=>none)
   else if k.base=[116]then(match Mx s with|some (x,r)=>some (.mk 116 x 0 [],r)|none=>none)
   else if k.base=[102]then(match N0 s with|some (b,r)=>some (.mk 102 (if b then Ea else Ks) 0 [],r)|none=>none)
   else match Bw S k.name with
    |none=>none
    |some t=>Jy S (Al S m d) t s
theorem Ce{c:UInt8}{s r:List UInt8}:Ap c s=some r↔s=c::r:=by
 cases s with
 |nil=>simp[Ap]
 |cons x t=>
  by_cases h:x=c
  ·subst h;simp[Ap]
  simp[Ap,h]
theorem Bo(c:UInt8)(r:List UInt8):Ap c (c::r)=some r:=if_pos rfl
theorem Di{c x:UInt8}(h:x≠c)(r:List UInt8):Ap c (x::r)=none:=if_neg h
theorem Fh{p s r:List UInt8}:Fe p s=some r↔s=p++r:=by
 induction p generalizing s with
 |nil=>simp[Fe]
 |cons c p ih=>
  unfold Fe;cases h:Ap c s with
  |none=>
   simp only[false_iff,reduceCtorEq];intro e;subst e;rw[av,Bo]at h;cases h
  |some q=>rw[Ce]at h;subst h;simp[ih]
def P2(r:List UInt8):Prop:=∀c t,r=c::t->Ba c=false
theorem Mt:P2 []:=by intro c t h;cases h
theorem Jf{c:UInt8}(r:List UInt8)(h:Ba c=false):P2 (c::r):=by intro x t e;injection e with e;subst e;exact h
theorem Qej{a r:List UInt8}(ha:a.all Ba=true)(hr:P2 r):(a++r).takeWhile Ba=a/\(a++r).dropWhile Ba=r:=by
 cases r with
 |nil=>
  rw[List.append_nil];induction a with
  |nil=>exact⟨rfl,rfl⟩
  |cons c a ih=>
   rw[List.all_cons,aw]at ha;obtain⟨i1,i2⟩:=ih ha.2;rw[List.takeWhile_cons_of_pos ha.1,List.dropWhile_cons_of_pos ha.1,i1,i2];exact iJ
 |cons c t=>exact Fa ha ⟨c,t,rfl,hr c t rfl⟩
theorem Yp{s r:List UInt8}{n:Nat}(h:Ql s=some (n,r)):n<=999999/\s=Aw n++r/\P2 r:=by
 unfold Ql at h;cases hd:Ci (s.takeWhile Ba)with
 |none=>rw[hd]at h;cases h
 |some m=>
  rw[hd]at h;simp only[ak,aE]at h;obtain⟨rfl,rfl⟩:=h;obtain⟨h1,h2⟩:=B0.1 hd;refine⟨h1,by rw[<-h2,List.takeWhile_append_dropWhile],fun c t e=>?_⟩;have:=List.head?_dropWhile_not Ba s;rw[e]at this;simpa using this
theorem Qbe{n:Nat}{r:List UInt8}(h:n<=999999)(hr:P2 r):Ql (Aw n++r)=some (n,r):=by
 obtain⟨e1,e2⟩:=Qej (Km n) hr;unfold Ql;rw[e1,e2,B0.2 ⟨h,rfl⟩]
theorem Cd{fs:List Fd}{n:Nat}{f:Fd}(h:Bf fs n=some f):f.tag=n/\f∈fs:=by
 unfold Bf at h;have:=List.find?_some h;exact⟨by simpa using this,List.mem_of_find?_eq_some h⟩
theorem Jh{fs:List Fd}{s r:List UInt8}{f:Fd}(h:Fj fs s=some (f,r)):f.tag<=200/\Bf fs f.tag=some f/\s=Aw f.tag++r/\P2 r:=by
 unfold Fj at h;cases hn:Ql s with
 |none=>rw[hn]at h;cases h
 |some q=>
  obtain⟨n,z⟩:=q;rw[hn]at h;simp only at h;split at h
  ·rename_i h2;cases hf:Bf fs n with
   |none=>rw[hf]at h;cases h
   |some g=>
    rw[hf]at h;simp only[ak,aE]at h;obtain⟨rfl,rfl⟩:=h;have e:=(Cd hf).1;obtain⟨_,e2,e3⟩:=Yp hn;rw[e];exact⟨h2,hf,e2,e3⟩
  cases h
theorem Qbv{fs:List Fd}{f:Fd}{r:List UInt8}(h:f.tag<=200)(hf:Bf fs f.tag=some f)(hr:P2 r):Fj fs (Aw f.tag++r)=some (f,r):=by
 unfold Fj;rw[Qbe aH hr];simp[h,hf]
theorem Qbk:Cb 39=false:=aL
theorem Yj{s b r:List UInt8}:Mx s=some (b,r)↔Db b=true/\s=39::(b++39::r):=by
 unfold Mx;cases h:Ap 39 s with
 |none=>
  simp only[reduceCtorEq,false_iff,not_and];rintro _ rfl;rw[Bo]at h;cases h
 |some q=>
  rw[Ce]at h;subst h;simp only[List.cons.injEq,true_and];cases h:Ap 39 (q.dropWhile Cb)with
  |none=>
   simp only[reduceCtorEq,false_iff,not_and];rintro hb rfl;have hb2:b.all Cb=true:=by unfold Db at hb;simp only[aw]at hb;exact hb.2
   rw[(Fa hb2 ⟨39,r,rfl,Qbk⟩).2,Bo]at h;cases h
  |some z=>
   rw[Ce]at h;have eq:q=q.takeWhile Cb++39::z:=by rw[<-h,List.takeWhile_append_dropWhile]
   simp only;constructor
   ·intro h2;split at h2
    ·rename_i hl;simp only[ak,aE]at h2;obtain⟨rfl,rfl⟩:=h2;exact⟨by unfold Db;simp only[aw];exact⟨by simpa using hl,Jo q⟩,eq⟩
    cases h2
   rintro⟨hb,rfl⟩;unfold Db at hb;simp only[aw,decide_eq_true_eq]at hb;obtain⟨e1,e2⟩:=Fa hb.2 ⟨39,r,rfl,Qbk⟩;rw[e2]at h;injection h with _ h;subst h;rw[e1,if_pos hb.1]
theorem T2{s r:List UInt8}{b:Bool}:N0 s=some (b,r)↔s=(if b then Ea else Ks)++r:=by
 unfold N0;cases h:Fe Ea s with
 |some q=>
  rw[Fh]at h;subst h;cases b<;>simp[Ea,Ks]
 |none=>
  simp only;cases h2:Fe Ks s with
  |some q=>
   rw[Fh]at h2;subst h2;cases b<;>simp[Ea,Ks]
  |none=>
   simp only[reduceCtorEq,false_iff];rintro rfl;cases b
   ·rw[show Fe Ks ((if false=true then Ea else Ks)++r)=some r from Fh.2 rfl]at h2;cases h2
   rw[show Fe Ea ((if true=true then Ea else Ks)++r)=some r from Fh.2 rfl]at h;cases h
theorem Qbp{K:List UInt8->Option (Vl × List UInt8)}{P:Vl->Prop}(hK:∀s v r,K s=some (v,r)->P v/\s=Bh v++r):∀(m:Nat) (s:List UInt8) (vs:List Vl) (r:List UInt8),
  Cr K m s=some (vs,r)->vs≠[]/\vs.length<=m/\(∀x∈vs,P x)/\s=Ar 44 (vs.map Bh)++93::r:=by
 intro m;induction m with
 |zero=>intro s vs r h;cases h
 |succ m ih=>
  intro s vs r h;unfold Cr at h;cases hk:K s with
  |none=>rw[hk]at h;cases h
  |some q=>
   obtain⟨v,z⟩:=q;rw[hk]at h;simp only at h;obtain⟨hp,rfl⟩:=hK _ _ _ hk;cases hb:Ap 44 z with
   |some q=>
    rw[hb]at h;simp only at h;cases hi:Cr K m q with
    |none=>rw[hi]at h;cases h
    |some y=>
     obtain⟨us,y⟩:=y;rw[hi]at h;simp only[ak,aE]at h;obtain⟨rfl,rfl⟩:=h;obtain⟨h1,h2,h3,h4⟩:=ih _ _ _ hi;rw[Ce]at hb;subst hb;refine⟨by simp,by simp;omega,by simpa using⟨hp,h3⟩,?_⟩;rw[ay,Cl 44 _ dS,h4];simp
   |none=>
    rw[hb]at h;simp only at h;cases hb:Ap 93 z with
    |none=>rw[hb]at h;cases h
    |some q=>
     rw[hb]at h;simp only[ak,aE]at h;obtain⟨rfl,rfl⟩:=h;rw[Ce]at hb;subst hb;exact⟨by simp,by simp,by simpa using hp,by simp[Ar]⟩
theorem Sv{K:List UInt8->Option (Vl × List UInt8)}:∀(m:Nat) (vs:List Vl) (r:List UInt8),(∀x∈vs,∀r,P2 r->K (Bh x++r)=some (x,r))->vs≠[]->vs.length<=m ->
  Cr K m (Ar 44 (vs.map Bh)++93::r)=some (vs,r)
 |0,vs,r,_,h,hl=>by cases vs with|nil=>exact absurd rfl h|cons=>simp at hl
 |m+1,[],r,_,h,_=>absurd rfl h
 |m+1,[x],r,hK,_,_=>by
  have e:=hK x aM (93::r) (Jf _ aL);simp only[ay,List.map_nil,Ar];unfold Cr;rw[e];simp only[Di (show (93:UInt8)≠44 by decide),Bo]
 |m+1,x::y::vs,r,hK,_,hl=>by
  have ih:=Sv m (y::vs) r (fun z hz=>hK z ef) aM eT;have e:=hK x aM (44::(Ar 44 ((y::vs).map Bh)++93::r)) (Jf _ aL);rw[ay,Cl 44 _ aM,List.append_assoc,av];unfold Cr;rw[e];simp only[Bo,ih]
theorem P9{K:Kd->List UInt8->Option (Vl × List UInt8)}{P:Fd->Vl->Prop}{fs:List Fd}(hK:∀f∈fs,∀s v r,K f.kind s=some (v,r)->P f v/\s=Bh v++r){s r:List UInt8}{p:Fd × Vl}
  (h:Cw K fs s=some (p,r)):p.1.tag<=200/\Bf fs p.1.tag=some p.1/\P p.1 p.2/\s=Bh (Dk p)++r:=by
 unfold Cw at h;cases ht:Fj fs s with
 |none=>rw[ht]at h;cases h
 |some q=>
  obtain⟨f,z⟩:=q;rw[ht]at h;simp only at h;obtain⟨h1,h2,rfl,_⟩:=Jh ht;cases hb:Ap 61 z with
  |none=>rw[hb]at h;cases h
  |some q=>
   rw[hb]at h;simp only at h;rw[Ce]at hb;subst hb;cases hk:K f.kind q with
   |none=>rw[hk]at h;cases h
   |some y=>
    obtain⟨v,y⟩:=y;rw[hk]at h;simp only[ak,aE]at h;obtain⟨rfl,rfl⟩:=h;obtain⟨h3,rfl⟩:=hK f (Cd h2).2 _ _ _ hk;exact⟨h1,h2,h3,by simp[Dk,Bh,Dz,H6,Ar]⟩
theorem Qd{K:Kd->List UInt8->Option (Vl × List UInt8)}{fs:List Fd}{p:Fd × Vl}{r:List UInt8}(h1:p.1.tag<=200)(h2:Bf fs p.1.tag=some p.1)(hK:K p.1.kind (Bh p.2++r)=some (p.2,r)):
  Cw K fs (Bh (Dk p)++r)=some (p,r):=by
 have e:Bh (Dk p)++r=Aw p.1.tag++(61::(Bh p.2++r)):=by simp[Dk,Bh,Dz,H6,Ar]
 rw[e];unfold Cw;rw[Qbv h1 h2 (Jf _ aL)];simp only[Bo,hK]
theorem Qda{S:List Ty}{K:Kd->List UInt8->Option (Vl × List UInt8)}{P:Fd->Vl->Prop}{fs:List Fd}(hK:∀f∈fs,∀s v r,K f.kind s=some (v,r)->P f v/\s=Bh v++r):∀(m last:Nat) (s:List UInt8) (ps:List (Fd × Vl)) (r:List UInt8),
  Du S K fs m last s=some (ps,r)->ps≠[]/\(∀p∈ps,last<p.1.tag/\Bf fs p.1.tag=some p.1/\P p.1 p.2/\Bh p.2≠Nq S p.1)/\(ps.Pairwise fun p q=>p.1.tag<q.1.tag)/\s=Ar 44 (ps.map fun p=>Bh (Dk p))++125::r:=by
 intro m;induction m with
 |zero=>intro last s ps r h;cases h
 |succ m ih=>
  intro last s ps r h;unfold Du at h;cases hk:Cw K fs s with
  |none=>rw[hk]at h;cases h
  |some q=>
   obtain⟨p,z⟩:=q;rw[hk]at h;simp only at h;obtain⟨h1,h2,h3,rfl⟩:=P9 hK hk;split at h
   ·cases h
   rename_i hno;have hno1:last<p.1.tag:=aH;have hno2:Bh p.2≠Nq S p.1:=fun e=>hno (.inr e);cases hb:Ap 44 z with
   |some q=>
    rw[hb]at h;simp only at h;cases hi:Du S K fs m p.1.tag q with
    |none=>rw[hi]at h;cases h
    |some y=>
     obtain⟨us,y⟩:=y;rw[hi]at h;simp only[ak,aE]at h;obtain⟨rfl,rfl⟩:=h;obtain⟨i1,i2,i3,i4⟩:=ih _ _ _ _ hi;rw[Ce]at hb;subst hb;refine⟨by simp,?_,?_,?_⟩
     ·intro x hx;rcases aA.1 hx with rfl|hx
      ·exact⟨hno1,h2,h3,hno2⟩
      obtain⟨j1,j2⟩:=i2 x hx;exact⟨by omega,j2⟩
     ·exact List.pairwise_cons.2 ⟨fun x hx=>(i2 x hx).1,i3⟩
     rw[ay,Cl 44 _ (by simpa using i1),i4];simp
   |none=>
    rw[hb]at h;simp only at h;cases hb:Ap 125 z with
    |none=>rw[hb]at h;cases h
    |some q=>
     rw[hb]at h;simp only[ak,aE]at h;obtain⟨rfl,rfl⟩:=h;rw[Ce]at hb;subst hb;refine⟨by simp,?_,by simp,by simp[Ar]⟩;intro x hx;rw[aq]at hx;subst hx;exact⟨hno1,h2,h3,hno2⟩
theorem T9{S:List Ty}{K:Kd->List UInt8->Option (Vl × List UInt8)}{fs:List Fd}:∀(m last:Nat) (ps:List (Fd × Vl)) (r:List UInt8),
  (∀p∈ps,∀r,P2 r->K p.1.kind (Bh p.2++r)=some (p.2,r))->ps≠[]->(∀p∈ps,last<p.1.tag/\p.1.tag<=200/\Bf fs p.1.tag=some p.1/\Bh p.2≠Nq S p.1)->(ps.Pairwise fun p q=>p.1.tag<q.1.tag)->201<=m+last ->
  Du S K fs m last (Ar 44 (ps.map fun p=>Bh (Dk p))++125::r)=some (ps,r)
 |0,last,[],r,_,h,_,_,_=>absurd rfl h
 |0,last,p::ps,r,_,_,hp,_,hl=>by have:=hp p aM;omega
 |m+1,last,[],r,_,h,_,_,_=>absurd rfl h
 |m+1,last,[p],r,hK,_,hp,_,hl=>by
  obtain⟨h1,h2,h3,h4⟩:=hp p aM;have e:=Qd h2 h3 (hK p aM (125::r) (Jf _ aL));simp only[ay,List.map_nil,Ar];unfold Du;rw[e];simp only;rw[if_neg cD];simp only[Di (show (125:UInt8)≠44 by decide),Bo]
 |m+1,last,p::q::ps,r,hK,_,hp,hw,hl=>by
  obtain⟨h1,h2,h3,h4⟩:=hp p aM;obtain⟨w1,w2⟩:=List.pairwise_cons.1 hw;have ih:=T9 m p.1.tag (q::ps) r (fun z hz=>hK z ef) aM (fun z hz=>⟨w1 z hz,(hp z ef).2⟩) w2 aH;have e:=Qd (K:=K) h2 h3 (hK p aM (44::(Ar 44 ((q::ps).map fun p=>Bh (Dk p))++125::r)) (Jf _ aL));rw[ay,Cl 44 _ aM,List.append_assoc,av];unfold Du;rw[e];simp only;rw[if_neg cD];simp only[Bo,ih]
theorem Nw{k:Kd}(h:Cu k){c:UInt8}{t:List UInt8}(hs:k.signs=c::t):c=91\/c=63:=by
 have:=h.1;rw[hs]at this;simp only[List.all_cons,aw,Bc,Bool.or_eq_true,beq_iff_eq]at this;exact this.1
theorem Ya{S:List Ty}(hS:∀t∈S,Ek t){n:List UInt8}{t:Ty}(ht:Bw S n=some t)(h9:t.sort≠69){f:Fd}(hf:f∈t.fields):Cu f.kind/\f.tag<=200:=by
 have h:=(hS t (Bv ht).1).2.2.1.1 f hf;exact⟨(h.2.2.2.2 h9).1,h.2.1⟩
theorem Qt(fs:List (Fd × Vl)):Bh (.mk 82 [] 0 (fs.map Dk))=123::(Ar 44 (fs.map fun p=>Bh (Dk p))++[125]):=by
 simp[Bh,Ra,H6];rfl
theorem Jn(ks:List Vl):Bh (.mk 91 [] 0 ks)=91::(Ar 44 (ks.map Bh)++[93]):=by simp[Bh,Ra,H6]
theorem Re(f:Fd)(x:Vl):Bh (.mk 85 [] f.tag [x])=60::(Bh (Dk (f,x))++[62]):=by simp[Bh,Dz,H6,Dk,Ar]
theorem Fo{S:List Ty}(hS:∀t∈S,Ek t)(m:Nat):∀(d:Nat) (k:Kd) (s:List UInt8) (v:Vl) (r:List UInt8),Cu k->Al S m d k s=some (v,r)->Gy S d k v/\s=Bh v++r:=by
 intro d;induction d with
 |zero=>intro k s v r _ h;cases h
 |succ d ih=>
  intro k s v r hk h;unfold Al at h;cases hs:k.signs with
  |cons c t=>
   rw[hs]at h;simp only at h;have hp:=(Pm hk).1;by_cases h91:c=91
   ·subst h91;rw[if_pos rfl]at h;unfold S7 at h;cases hb:Ap 91 s with
    |none=>rw[hb]at h;cases h
    |some q=>
     rw[hb]at h;simp only at h;rw[Ce]at hb;subst hb;cases hb:Ap 93 q with
     |some z=>
      rw[hb]at h;simp only[ak,aE]at h;obtain⟨rfl,rfl⟩:=h;rw[Ce]at hb;subst hb;exact⟨.lst hs aM aM,by rw[Jn];rfl⟩
     |none=>
      rw[hb]at h;simp only at h;cases hi:Cr (Al S m d k.part) m q with
      |none=>rw[hi]at h;cases h
      |some y=>
       obtain⟨us,y⟩:=y;rw[hi]at h;simp only at h;split at h
       ·rename_i hl;simp only[ak,aE]at h;obtain⟨rfl,rfl⟩:=h;obtain⟨_,_,i3,i4⟩:=Qbp (P:=Gy S d k.part) (fun s v r h=>ih _ _ _ _ hp h) _ _ _ _ hi;exact⟨.lst hs hl i3,by rw[Jn,i4];simp⟩
       cases h
   have h63:=(Nw hk hs).resolve_left h91;subst h63;rw[if_neg h91]at h;unfold Qal at h;cases hb:Ap 45 s with
   |some q=>
    rw[hb]at h;simp only[ak,aE]at h;obtain⟨rfl,rfl⟩:=h;rw[Ce]at hb;subst hb;exact⟨.non hs,rfl⟩
   |none=>
    rw[hb]at h;simp only at h;cases hb:Ap 43 s with
    |none=>rw[hb]at h;cases h
    |some q=>
     rw[hb]at h;simp only at h;rw[Ce]at hb;subst hb;cases hi:Al S m d k.part q with
     |none=>rw[hi]at h;cases h
     |some y=>
      obtain⟨x,y⟩:=y;rw[hi]at h;simp only[ak,aE]at h;obtain⟨rfl,rfl⟩:=h;obtain⟨i1,rfl⟩:=ih _ _ _ _ hp hi;exact⟨.som hs i1,by simp[Bh,Dz,H6,Ar]⟩
  |nil=>
   rw[hs]at h;simp only at h;split at h
   ·rename_i hb;cases hn:Ql s with
    |none=>rw[hn]at h;cases h
    |some q=>
     obtain⟨n,q⟩:=q;rw[hn]at h;simp only[ak,aE]at h;obtain⟨rfl,rfl⟩:=h;obtain⟨h1,h2,_⟩:=Yp hn;exact⟨.n hs hb h1,by rw[h2];simp[Bh,Dz,H6]⟩
   split at h
   ·rename_i hb;cases hn:Mx s with
    |none=>rw[hn]at h;cases h
    |some q=>
     obtain⟨x,q⟩:=q;rw[hn]at h;simp only[ak,aE]at h;obtain⟨rfl,rfl⟩:=h;obtain⟨h1,rfl⟩:=Yj.1 hn;exact⟨.t hs hb h1,by simp[Bh,Dz,H6]⟩
   split at h
   ·rename_i hb;cases hn:N0 s with
    |none=>rw[hn]at h;cases h
    |some q=>
     obtain⟨x,q⟩:=q;rw[hn]at h;simp only[ak,aE]at h;obtain⟨rfl,rfl⟩:=h;have:=T2.1 hn;exact⟨.f hs hb,by rw[this];simp[Bh,Dz,H6]⟩
   rename_i b1 b2 b3;have hb:k.base=[64]:=by
    rcases hk.2.1 with h|⟨h|h|h,_⟩
    ·exact h.1
    ·exact absurd h b1
    ·exact absurd h b2
    exact absurd h b3
   cases ht:Bw S k.name with
   |none=>rw[ht]at h;cases h
   |some t=>
    rw[ht]at h;simp only at h;unfold Jy at h;by_cases h9:t.sort=69
    ·rw[if_pos h9]at h;cases hb3:Ap 35 s with
     |none=>rw[hb3]at h;cases h
     |some q=>
      rw[hb3]at h;simp only at h;rw[Ce]at hb3;subst hb3;cases hg:Fj t.fields q with
      |none=>rw[hg]at h;cases h
      |some y=>
       obtain⟨f,y⟩:=y;rw[hg]at h;simp only[ak,aE]at h;obtain⟨rfl,rfl⟩:=h;obtain⟨_,h2,h3,_⟩:=Jh hg;exact⟨.enm hs hb ht h9 h2,by rw[h3];simp[Bh,Dz,H6]⟩
    rw[if_neg h9]at h;have hK:∀f∈t.fields,∀s v r,Al S m d f.kind s=some (v,r)->Gy S d f.kind v/\s=Bh v++r:=fun f hf s v r hr=>ih _ _ _ _ (Ya hS ht h9 hf).1 hr;by_cases h5:t.sort=85
    ·rw[if_pos h5]at h;cases hb3:Ap 60 s with
     |none=>rw[hb3]at h;cases h
     |some q=>
      rw[hb3]at h;simp only at h;rw[Ce]at hb3;subst hb3;cases hg:Cw (Al S m d) t.fields q with
      |none=>rw[hg]at h;cases h
      |some y=>
       obtain⟨p,y⟩:=y;rw[hg]at h;simp only at h;cases hb4:Ap 62 y with
       |none=>rw[hb4]at h;cases h
       |some z=>
        rw[hb4]at h;simp only[ak,aE]at h;obtain⟨rfl,rfl⟩:=h;rw[Ce]at hb4;subst hb4;obtain⟨_,h2,h3,rfl⟩:=P9 (P:=fun f v=>Gy S d f.kind v) hK hg;exact⟨.uni hs hb ht h5 h2 h3,by rw[Re];simp⟩
    rw[if_neg h5]at h;have h2:t.sort=82:=by
     rcases(hS t (Bv ht).1).1 with h|h|h
     ·exact h
     ·exact absurd h h5
     exact absurd h h9
    cases hb3:Ap 123 s with
    |none=>rw[hb3]at h;cases h
    |some q=>
     rw[hb3]at h;simp only at h;rw[Ce]at hb3;subst hb3;cases hb4:Ap 125 q with
     |some z=>
      rw[hb4]at h;simp only[ak,aE]at h;obtain⟨rfl,rfl⟩:=h;rw[Ce]at hb4;subst hb4;exact⟨.rcd (fs:=[]) hs hb ht h2 aM aM aM aM,rfl⟩
     |none=>
      rw[hb4]at h;simp only at h;cases hg:Du S (Al S m d) t.fields 201 0 q with
      |none=>rw[hg]at h;cases h
      |some y=>
       obtain⟨ps,y⟩:=y;rw[hg]at h;simp only[ak,aE]at h;obtain⟨rfl,rfl⟩:=h;obtain⟨_,i2,i3,i4⟩:=Qda (P:=fun f v=>Gy S d f.kind v) hK _ _ _ _ _ hg;exact⟨.rcd hs hb ht h2 (fun p hp=>(i2 p hp).2.1) (fun p hp=>(i2 p hp).2.2.1) (fun p hp=>(i2 p hp).2.2.2) i3,by rw[Qt,i4];simp⟩
theorem Qa8{S:List Ty}{d:Nat}{k:Kd}{v:Vl}(h:Gy S d k v):∃c t,Bh v=c::t/\c≠93/\c≠125/\c≠44:=by
 cases h with
 |@n _ _ m hs hb h=>
  have e:Bh (.mk 110 (Aw m) 0 [])=Aw m:=by simp[Bh,Dz,H6]
  rw[e];cases hd:Aw m with
  |nil=>exact absurd hd (Qp m)
  |cons c t=>
   have:=Km m;rw[hd,List.all_cons,aw,Dc]at this;refine⟨c,t,rfl,?_,?_,?_⟩<;>(rintro rfl;revert this;simp)
 |t=>exact⟨39,_,rfl,by decide,by decide,by decide⟩
 |@f _ _ b=>cases b<;>exact⟨_,_,rfl,by decide,by decide,by decide⟩
 |lst=>exact⟨91,_,rfl,by decide,by decide,by decide⟩
 |non=>exact⟨45,_,rfl,by decide,by decide,by decide⟩
 |som=>exact⟨43,_,rfl,by decide,by decide,by decide⟩
 |enm=>exact⟨35,_,rfl,by decide,by decide,by decide⟩
 |uni=>exact⟨60,_,rfl,by decide,by decide,by decide⟩
 |rcd=>exact⟨123,_,rfl,by decide,by decide,by decide⟩
theorem Ki{S:List Ty}(hS:∀t∈S,Ek t){m:Nat}(hm:20<=m):∀(d:Nat) (k:Kd) (v:Vl) (r:List UInt8),Gy S d k v->P2 r->Al S m d k (Bh v++r)=some (v,r):=by
 intro d;induction d with
 |zero=>intro k v r h;cases h
 |succ d ih=>
  intro k v r h hr;unfold Al;cases h with
  |@n _ _ n hs hb h=>
   rw[hs];simp only;rw[if_pos hb];have e:Bh (.mk 110 (Aw n) 0 [])=Aw n:=by simp[Bh,Dz,H6]
   rw[e,Qbe h hr]
  |@t _ _ s hs hb h=>
   rw[hs];simp only;rw[if_neg bJ,if_pos hb];rw[show Mx (Bh (.mk 116 s 0 [])++r)=some (s,r)from Yj.2 ⟨h,by simp[Bh,Dz,H6]⟩]
  |@f _ _ b hs hb=>
   rw[hs];simp only;rw[if_neg bJ,if_neg bJ,if_pos hb];rw[show N0 (Bh (.mk 102 (if b then Ea else Ks) 0 [])++r)=some (b,r)from T2.2 (by cases b<;>simp[Bh,Dz,H6])]
  |@lst _ _ t ks hs hl h=>
   rw[hs];simp only;rw[if_pos Ab];unfold S7;rw[Jn,av,Bo];simp only;cases ks with
   |nil=>rfl
   |cons x ks=>
    obtain⟨c,q,e1,e2,_⟩:=Qa8 (h x aM);have e3:Ap 93 (Ar 44 ((x::ks).map Bh)++[93]++r)=none:=by
     cases ks with
     |nil=>simp only[ay,List.map_nil,Ar,e1,av,Di e2]
     |cons y ks=>rw[ay,Cl 44 _ aM,e1];simp only[av,Di e2]
    rw[e3];simp only;rw[List.append_assoc,List.singleton_append,Sv m (x::ks) r (fun y hy r hr=>ih _ _ _ (h y hy) hr) aM aH];simp only;rw[if_pos hl]
  |@non _ _ t hs=>rw[hs];rfl
  |@som _ _ t x hs h=>
   rw[hs];simp only;rw[if_neg aL];have e:Bh (.mk 63 [] 0 [x])=43::Bh x:=by simp[Bh,Dz,H6,Ar]
   unfold Qal;rw[e,av,Di aL,Bo];simp only;rw[ih _ _ _ h hr]
  |@enm _ _ t f hs hb ht h9 hf=>
   rw[hs];simp only;rw[if_neg bJ,if_neg bJ,if_neg bJ,ht];simp only;unfold Jy;have h200:f.tag<=200:=((hS t (Bv ht).1).2.2.1.1 f (Cd hf).2).2.1;have e:Bh (.mk 69 [] f.tag [])=35::Aw f.tag:=by simp[Bh,Dz,H6]
   rw[if_pos h9,e,av,Bo];simp only;rw[Qbv h200 hf hr]
  |@uni _ _ t f x hs hb ht h5 hf h=>
   rw[hs];simp only;rw[if_neg bJ,if_neg bJ,if_neg bJ,ht];simp only;unfold Jy;have h9:t.sort≠69:=ee;rw[if_neg h9,if_pos h5,Re,av,Bo];simp only;rw[List.append_assoc,List.singleton_append,Qd (p:=(f,x)) (Ya hS ht h9 (Cd hf).2).2 hf (ih _ _ (62::r) h (Jf (c:=62) _ aL))];simp only[Bo]
  |@rcd _ _ t fs hs hb ht h2 hf h hn hp=>
   rw[hs];simp only;rw[if_neg bJ,if_neg bJ,if_neg bJ,ht];simp only;unfold Jy;have h9:t.sort≠69:=dj;rw[if_neg h9,if_neg dj,Qt,av,Bo];simp only;cases fs with
   |nil=>rfl
   |cons p fs=>
    have e3:Ap 125 (Ar 44 ((p::fs).map fun p=>Bh (Dk p))++[125]++r)=none:=by
     have e1:Bh (Dk p)=Aw p.1.tag++61::Bh p.2:=by simp[Dk,Bh,Dz,H6,Ar]
     cases hd:Aw p.1.tag with
     |nil=>exact absurd hd (Qp _)
     |cons c q=>
      have hc:=Km p.1.tag;rw[hd,List.all_cons,aw,Dc]at hc;have e2:c≠125:=by rintro rfl;revert hc;simp
      rw[hd]at e1;cases fs with
      |nil=>simp only[ay,List.map_nil,Ar,e1,av,Di e2]
      |cons y fs=>rw[ay,Cl 44 _ aM,e1];simp only[av,Di e2]
    rw[e3];simp only
    rw[List.append_assoc,List.singleton_append,T9 201 0 (p::fs) r (fun q hq r hr=>ih _ _ _ (h q hq) hr) aM
     (fun q hq=>?_) hp aH]
    have hm:=(Cd (hf q hq)).2;have h1:=((hS t (Bv ht).1).2.2.1.1 q.1 hm).1;exact⟨h1,(Ya hS ht h9 hm).2,hf q hq,hn q hq⟩
theorem Qik{S:List Ty}(hS:∀t∈S,Ek t){d:Nat}{k:Kd}{v u:Vl}(hv:Gy S d k v)(hu:Gy S d k u)(h:Bh v=Bh u):v=u:=by
 have h1:=Ki hS (Ao 20) d k v [] hv Mt;have h2:=Ki hS (Ao 20) d k u [] hu Mt;rw[h,h2]at h1;injection h1 with h1;injection h1 with h1;exact h1.symm
def J1(S:List Ty)(k:Kd)(s:List UInt8):Option Vl:=
 if 400<s.length then none else match Al S 20 12 k s with
  |some (v,[])=>some v
  |_=>none
theorem Mz{S:List Ty}(hS:∀t∈S,Ek t){k:Kd}(hk:Cu k){s:List UInt8}{v:Vl}:J1 S k s=some v↔Gy S 12 k v/\Bh v=s/\s.length<=400:=by
 unfold J1;constructor
 ·intro h;split at h
  ·cases h
  rename_i hl;cases hr:Al S 20 12 k s with
  |none=>rw[hr]at h;cases h
  |some q=>
   obtain⟨x,r⟩:=q;rw[hr]at h;cases r with
   |cons c t=>cases h
   |nil=>
    simp only[ak]at h;subst h;obtain⟨h1,h2⟩:=Fo hS 20 12 k s x [] hk hr;exact⟨h1,by rw[h2,List.append_nil],by omega⟩
 rintro⟨h1,rfl,hl⟩;rw[if_neg aH];have:=Ki hS (Ao 20) 12 k v [] h1 Mt;rw[List.append_nil]at this;rw[this]
theorem Qe1{S:List Ty}(hS:∀t∈S,Ek t){k:Kd}(hk:Cu k){s:List UInt8}(hl:s.length<=400)(m n:Nat)(hm:20<=m)(hn:12<=n):
  J1 S k s=match Al S m n k s with|some (v,[])=>if Kt v<=12 then some v else none|_=>none:=by
 cases hr:Al S m n k s with
 |none=>
  cases hv:J1 S k s with
  |none=>rfl
  |some v=>
   obtain⟨h1,h2,_⟩:=(Mz hS hk).1 hv;have h3:Gy S n k v:=(Fl S _ _ _ h1 n).2 (ae ((Fl S _ _ _ h1 12).1 h1) hn);have:=Ki hS hm n k v [] h3 Mt;rw[List.append_nil,h2,hr]at this;cases this
 |some q=>
  obtain⟨x,r⟩:=q;obtain⟨h1,h2⟩:=Fo hS m n k s x r hk hr;cases r with
  |nil=>
   simp only;rw[List.append_nil]at h2;by_cases hd:Kt x<=12
   ·rw[if_pos hd,Mz hS hk];exact⟨(Fl S _ _ _ h1 12).2 hd,h2.symm,hl⟩
   rw[if_neg hd];cases hv:J1 S k s with
   |none=>rfl
   |some v=>
    obtain⟨i1,i2,_⟩:=(Mz hS hk).1 hv;have h3:Gy S n k v:=(Fl S _ _ _ i1 n).2 (ae ((Fl S _ _ _ i1 12).1 i1) hn);have e:=Qik hS h3 h1 (by rw[i2,h2]);subst e;exact absurd ((Fl S _ _ _ i1 12).1 i1) hd
  |cons c t=>
   simp only;cases hv:J1 S k s with
   |none=>rfl
   |some v=>
    obtain⟨i1,i2,_⟩:=(Mz hS hk).1 hv;have h3:Gy S n k v:=(Fl S _ _ _ i1 n).2 (ae ((Fl S _ _ _ i1 12).1 i1) hn);have:=Ki hS hm n k v [] h3 Mt;rw[List.append_nil,i2,hr]at this;injection this with this;injection this with _ this;cases this
abbrev Cq:=List UInt8
def Rz(S:List Ty):Nat->Kd->List Cq->List Cq
 |0,_,out=>out
 |n+1,k,out=>
  if k.base=[64]/\k.name∉out then
   (match Bw S k.name with
    |none=>out++[k.name]
    |some t=>if t.sort=69 then out++[k.name]else t.fields.foldl (fun o f=>Rz S n f.kind o) (out++[k.name]))
  else out
def Kx(S:List Ty):List Cq:=S.map (·.name)
def Qiu(S:List Ty)(out:List Cq):Prop:=out.Nodup/\∀x∈out,x∈Kx S
theorem Qiu.nil(S:List Ty):Qiu S []:=⟨List.nodup_nil,by simp⟩
theorem Qdx:∀(l m:List Cq),l.Nodup->(∀x∈l,x∈m)->l.length<=m.length
 |[],m,_,_=>ah _
 |x::l,m,hn,hs=>by
  obtain⟨h1,h2⟩:=List.nodup_cons.1 hn;have hx:=hs x aM
  have ih:=Qdx l (m.erase x) h2 (fun y hy=>by
   have hne:y≠x:=by rintro rfl;exact h1 hy
   exact(List.mem_erase_of_ne hne).2 (hs y (by simp[hy])))
  have hl:=List.length_erase_of_mem hx;have hp:0<m.length:=List.length_pos_iff.2 (by rintro rfl;cases hx);simp;omega
theorem Qiu.len{S:List Ty}{out:List Cq}(h:Qiu S out):out.length<=S.length:=by
 have:=Qdx out (Kx S) h.1 h.2;simpa [Kx]using this
abbrev Q6:=Cq × Cq
def Qh7(S T:List Ty)(m:List Q6):Prop:=m.Nodup/\∀p∈m,p.1∈Kx S/\p.2∈Kx T
theorem Qh7.nil(S T:List Ty):Qh7 S T []:=⟨List.nodup_nil,by simp⟩
theorem Qay:∀(l m:List Q6),l.Nodup->(∀x∈l,x∈m)->l.length<=m.length
 |[],m,_,_=>aM
 |x::l,m,hn,hs=>by
  have hx:=hs x aM;have:=Qay l (m.erase x) (List.nodup_cons.1 hn).2 (fun y hy=>(List.mem_erase_of_ne (by rintro rfl;exact(List.nodup_cons.1 hn).1 hy)).2 (hs y (by simp[hy])));rw[List.length_erase_of_mem hx]at this;have:=List.length_pos_of_mem hx;simp only[List.length_cons];omega
def Qbz(a b:List Cq):List Q6:=a.flatMap fun x=>b.map fun y=>(x,y)
theorem X8(b:List Cq):∀a,(Qbz a b).length=a.length*b.length
 |[]=>by simp[Qbz]
 |x::a=>by
  have:=X8 b a;unfold Qbz at this ⊢;rw[List.flatMap_cons,ai,List.length_map,this,List.length_cons,Nat.add_mul];omega
theorem Qh7.len{S T:List Ty}{m:List Q6}(h:Qh7 S T m):m.length<=S.length*T.length:=by
 have:=Qay m (Qbz (Kx S) (Kx T)) h.1 (fun x hx=>by
  obtain⟨a,b⟩:=x;have:=h.2 _ hx;unfold Qbz;rw[List.mem_flatMap];exact⟨a,this.1,ax.2 ⟨b,this.2,rfl⟩⟩)
 rw[X8]at this;simpa [Kx]using this
def Qio(R:Cq->Cq->Prop)(a b:Kd):Prop:=a.signs=b.signs/\a.base=b.base/\(a.base=[64]->R a.name b.name)
def Qht(S T:List Ty)(R:Cq->Cq->Prop)(t:Ty)(st:UInt8)(g:Fd):Prop:=
 match Bf t.fields g.tag with
 |none=>st=82
 |some f=>st=69\/(Qio R f.kind g.kind/\(st=82->Nq S f=Nq T g))
def Zp(S T:List Ty)(R:Cq->Cq->Prop)(a b:Cq):Prop:=∃t u,Bw S a=some t/\Bw T b=some u/\t.sort=u.sort/\∀g∈u.fields,Qht S T R t u.sort g
abbrev inM(m:List Q6)(a b:Cq):Prop:=(a,b)∈m
theorem Qio.mono{R Q:Cq->Cq->Prop}(h:∀a b,R a b->Q a b){a b:Kd}(hk:Qio R a b):Qio Q a b:=⟨hk.1,hk.2.1,fun e=>h _ _ (hk.2.2 e)⟩
theorem Qht.mono{S T:List Ty}{R Q:Cq->Cq->Prop}(h:∀a b,R a b->Q a b){t:Ty}{st:UInt8}{g:Fd}(hk:Qht S T R t st g):Qht S T Q t st g:=by
 unfold Qht at hk ⊢;cases hf:Bf t.fields g.tag with
 |none=>rw[hf]at hk;exact hk
 |some f=>
  rw[hf]at hk;rcases hk with hk|⟨x,y⟩
  ·exact .inl hk
  exact .inr ⟨x.mono h,y⟩
theorem Zp.mono{S T:List Ty}{R Q:Cq->Cq->Prop}(h:∀a b,R a b->Q a b){a b:Cq}(hk:Zp S T R a b):Zp S T Q a b:=by
 obtain⟨t,u,e1,e2,e3,e4⟩:=hk;exact⟨t,u,e1,e2,e3,fun g hg=>(e4 g hg).mono h⟩
def Qds(S T:List Ty)(m m':List Q6):Prop:=∀a b,(a,b)∈m'->(a,b)∉m->Zp S T (inM m') a b
theorem Qds.trans{S T:List Ty}{m1 m2 m3:List Q6}(h1:Qds S T m1 m2)(h2:Qds S T m2 m3)(hs:∀p∈m2,p∈m3):Qds S T m1 m3:=by
 intro a b h3 hn;by_cases h:(a,b)∈m2
 ·exact(h1 a b h hn).mono fun x y hxy=>hs _ hxy
 exact h2 a b h3 h
def Xq(ρ:Cq->Cq)(k:Kd):Kd:=if k.base=[64]then {k with name:=ρ k.name} else k
def S8(ρ:Cq->Cq)(st:UInt8)(f:Fd):Fd:=if st=69 then f else {f with kind:=Xq ρ f.kind}
def Z4(ρ:Cq->Cq)(t:Ty):Ty:={t with name:=ρ t.name,fields:=t.fields.map (S8 ρ t.sort)}
theorem V7(ρ:Cq->Cq)(k:Kd):(Xq ρ k).signs=k.signs:=by unfold Xq;split<;>rfl
theorem Pl(ρ:Cq->Cq)(k:Kd):(Xq ρ k).base=k.base:=by unfold Xq;split<;>rfl
theorem Ms{ρ:Cq->Cq}{k:Kd}(h:k.base=[64]):(Xq ρ k).name=ρ k.name:=by unfold Xq;rw[if_pos h]
theorem Qg8(ρ:Cq->Cq)(st:UInt8)(f:Fd):(S8 ρ st f).tag=f.tag:=by unfold S8;split<;>rfl
theorem Qci(ρ:Cq->Cq)(st:UInt8)(f:Fd):(S8 ρ st f).given=f.given:=by unfold S8;split<;>rfl
theorem Pk{ρ:Cq->Cq}{st:UInt8}(h:st≠69)(f:Fd):(S8 ρ st f).kind=Xq ρ f.kind:=by unfold S8;rw[if_neg h]
def inN(ns:List Cq)(k:Kd):Prop:=k.base=[64]->k.name∈ns
structure Ren(S T:List Ty)(ns:List Cq)(ρ:Cq->Cq):Prop where
 get:∀n∈ns,∃t,Bw S n=some t/\Bw T (ρ n)=some (Z4 ρ t)/\Ek t/\(t.sort≠69->∀f∈t.fields,inN ns f.kind)
 inj:∀a∈ns,∀b∈ns,ρ a=ρ b->a=b
theorem Ren.met{S T:List Ty}{ns:List Cq}{ρ:Cq->Cq}(h:Ren S T ns ρ):∀(n:Nat) (k:Kd) (out:List Cq),inN ns k->(∀x∈out,x∈ns) ->
  Rz T n (Xq ρ k) (out.map ρ)=(Rz S n k out).map ρ/\∀x∈Rz S n k out,x∈ns
 |0,k,out,_,ho=>⟨rfl,ho⟩
 |n+1,k,out,hk,ho=>by
  by_cases hb:k.base=[64]
  ·have hkn:=hk hb;have hmem:ρ k.name∈out.map ρ↔k.name∈out:=by
    rw[ax];exact⟨fun⟨y,hy,e⟩=>by rw[<-h.inj y (ho y hy) k.name hkn e];exact hy,fun hy=>⟨_,hy,rfl⟩⟩
   by_cases hin:k.name∈out
   ·rw[Rz,Rz,if_neg (by rw[Ms hb];exact fun hh=>hh.2 (hmem.2 hin)),if_neg (fun hh=>hh.2 hin)];exact⟨rfl,ho⟩
   obtain⟨t,e1,e2,e3,e4⟩:=h.get _ hkn;have ho2:∀x∈out++[k.name],x∈ns:=fun x hx=>by
    rcases ag.1 hx with hx|hx
    ·exact ho x hx
    simp at hx;subst hx;exact hkn
   rw[Rz,Rz,if_pos ⟨by rw[Pl];exact hb,by rw[Ms hb];exact fun hh=>hin (hmem.1 hh)⟩,if_pos ⟨hb,hin⟩,Ms hb,e1,e2];simp only;rw[show (Z4 ρ t).sort=t.sort from rfl,show (Z4 ρ t).fields=t.fields.map (S8 ρ t.sort)from rfl];have em:out.map ρ++[ρ k.name]=(out++[k.name]).map ρ:=aM;by_cases h69:t.sort=69
   ·rw[if_pos h69,if_pos h69];exact⟨em,ho2⟩
   rw[if_neg h69,if_neg h69,em];have key:∀(fs:List Fd),(∀f∈fs,inN ns f.kind)->∀(o:List Cq),(∀x∈o,x∈ns) ->
     (fs.map (S8 ρ t.sort)).foldl (fun o f=>Rz T n f.kind o) (o.map ρ)=(fs.foldl (fun o f=>Rz S n f.kind o) o).map ρ/\∀x∈fs.foldl (fun o f=>Rz S n f.kind o) o,x∈ns:=by
    intro fs;induction fs with
    |nil=>intro _ o ho;exact⟨rfl,ho⟩
    |cons f fs ih=>
     intro hfs o ho;obtain⟨m1,m2⟩:=h.met n f.kind o (hfs f aM) ho;simp only[ay,List.foldl_cons];rw[Pk h69,m1];exact ih (fun g hg=>hfs g (by simp[hg])) _ m2
   exact key t.fields (e4 h69) _ ho2
  rw[Rz,Rz,if_neg (fun hh=>hb (by rw[Pl]at hh;exact hh.1)),if_neg (fun hh=>hb hh.1)];exact⟨rfl,ho⟩
theorem Ren.stand{S T:List Ty}{ns:List Cq}{ρ:Cq->Cq}(h:Ren S T ns ρ):∀(n:Nat) (k:Kd),inN ns k->Zu k->C5 T n (Xq ρ k)=C5 S n k
 |0,_,_,_=>rfl
 |n+1,k,hk,hb=>by
  rw[C5,C5,V7,Pl];split
  ·rfl
  split
  ·rfl
  split
  ·rfl
  rename_i h1;split
  ·rfl
  rename_i h2;split
  ·rfl
  rename_i h3;have hb64:k.base=[64]:=by
   rcases hb with⟨hb,_⟩|⟨hb|hb|hb,_⟩
   ·exact hb
   ·exact absurd hb h1
   ·exact absurd hb h2
   exact absurd hb h3
  obtain⟨t,e1,e2,e3,e4⟩:=h.get _ (hk hb64);rw[Ms hb64,e1,e2];simp only;rw[show (Z4 ρ t).sort=t.sort from rfl,show (Z4 ρ t).fields=t.fields.map (S8 ρ t.sort)from rfl];split
  ·rfl
  cases hf:t.fields with
  |nil=>rfl
  |cons f fs=>
   simp only[ay];rw[Qg8];split
   ·rfl
   rename_i h69;rw[Pk h69,h.stand n f.kind (e4 h69 f dB) ((e3.2.2.1.1 f dB).2.2.2.2 h69).1.2.1]
theorem Ren.of{S T:List Ty}{ns:List Cq}{ρ:Cq->Cq}(h:Ren S T ns ρ){st:UInt8}{f:Fd}(h69:st≠69)(hf:Te st f)(hk:inN ns f.kind):Nq T (S8 ρ st f)=Nq S f:=by
 unfold Nq;rw[Qci,Pk h69];unfold Sd;rw[h.stand 10 f.kind hk (hf.2.2.2.2 h69).1.2.1]
theorem Ns{t:Ty}(hd:t.fields.Pairwise fun g f=>g.name≠f.name/\g.tag<f.tag){g:Fd}(hgm:g∈t.fields):Bf t.fields g.tag=some g:=by
 cases h:Bf t.fields g.tag with
 |none=>
  have:=List.find?_eq_none.1 h g hgm;simp at this
 |some f=>
  have hm:=List.mem_of_find?_eq_some h;have ht:=List.find?_some h;simp only[decide_eq_true_eq]at ht;obtain⟨i,hi,rfl⟩:=List.mem_iff_getElem.1 hm;obtain⟨j,hj,rfl⟩:=List.mem_iff_getElem.1 hgm;rw[List.pairwise_iff_getElem]at hd;rcases Nat.lt_trichotomy i j with hij|hij|hij
  ·have:=(hd i j hi hj hij).2;omega
  ·subst hij;rfl
  have:=(hd j i hj hi hij).2;omega
theorem Ren.ends{S T:List Ty}{ns:List Cq}{ρ:Cq->Cq}(h:Ren S T ns ρ):∀(n:Nat) (t:Ty),(t.sort≠69->∀f∈t.fields,inN ns f.kind)->Bs T n (Z4 ρ t)=Bs S n t
 |0,_,_=>rfl
 |n+1,t,ht=>by
  unfold Bs;by_cases h85:t.sort=85
  ·have h69:t.sort≠69:=dy;unfold E8;rw[show (Z4 ρ t).sort=t.sort from rfl,show (Z4 ρ t).fields=t.fields.map (S8 ρ t.sort)from rfl,if_pos h85,if_pos h85];cases hf:t.fields with
   |nil=>rfl
   |cons f fs=>
    simp only[ay];rw[Pk h69,V7,Pl];by_cases hc:f.kind.signs=[]/\f.kind.base=[64]
    ·rw[if_pos hc,if_pos hc,Ms hc.2];obtain⟨u,e1,e2,e3,e4⟩:=h.get _ (ht h69 f dB hc.2);rw[e1,e2];exact h.ends n u e4
    rw[if_neg hc,if_neg hc]
  have e1:E8 T (Z4 ρ t)=none:=if_neg h85;have e2:E8 S t=none:=if_neg h85;rw[e1,e2]
def LOk(v:Vl)(r:Vl × Bool):Prop:=(r.2=false->r.1=v)/\(r.2=true->(Bh r.1).length<(Bh v).length)
theorem LOk.le{v:Vl}{r:Vl × Bool}(h:LOk v r):(Bh r.1).length<=(Bh v).length:=by
 cases e:r.2 with
 |false=>rw[h.1 e];exact Ao _
 |true=>exact Nat.le_of_lt (h.2 e)
theorem LOk.same(v:Vl):LOk v (v,false):=⟨fun _=>rfl,fun h=>Bool.noConfusion h⟩
def Dx(ps:List (List UInt8)):Nat:=(ps.map fun p=>p.length+1).sum
theorem Fs(p:List UInt8)(ps:List (List UInt8)):Dx (p::ps)=p.length+1+Dx ps:=f8
theorem Ca(c:UInt8):∀ps:List (List UInt8),(Ar c ps).length=Dx ps - 1
 |[]=>rfl
 |[p]=>by simp[Ar,Dx]
 |p::q::ps=>by
  rw[Cl c p aM,ai,List.length_cons,Ca c (q::ps),Fs p,Fs q];omega
theorem Rk(w:UInt8)(tx:List UInt8)(tg:Nat)(ks:List Vl):Bh (.mk w tx tg ks)=H6 w tx tg (ks.map Bh):=by rw[Bh,Ra]
theorem M7(p:Fd × Vl):(Bh (Dk p)).length=(Aw p.1.tag).length+1+(Bh p.2).length:=by simp[Dk,Bh,Dz,H6,Ar];omega
theorem Qi{fs:List Fd}{n:Nat}{f:Fd}(h:Bf fs n=some f):f∈fs/\f.tag=n:=⟨(Cd h).2,(Cd h).1⟩
end Go.Proofs.YtpjijpcemejlnaaGreatDoor
