/- Texts joined. Conditions: as each theorem names them. -/
import Derived.Test.YtkigmebejmmikaaGreatDoorU02
set_option maxRecDepth 100000
set_option maxHeartbeats 32000000
set_option linter.unusedVariables false
set_option linter.unusedSimpArgs false
namespace Go.Proofs.YtkigmebejmmikaaGreatDoor
open Go.RowKit Go.Proofs.Tryz
inductive Vl where
 |mk (what:UInt8) (text:List UInt8) (tag:Nat) (kids:List Vl)
def Vl.what:Vl->UInt8|.mk w _ _ _=>w
def Vl.text:Vl->List UInt8|.mk _ t _ _=>t
def Vl.tag:Vl->Nat|.mk _ _ g _=>g
def Vl.kids:Vl->List Vl|.mk _ _ _ k=>k
def Fl(w:UInt8)(tx:List UInt8)(tg:Nat)(ps:List (List UInt8)):List UInt8:=
 if w=116 then 39::(tx++[39])
 else if w=91 then 91::(Am 44 ps++[93])
 else if w=63 then(match ps with|[]=>[45]|_=>43::Am 44 ps)
 else if w=61 then Bc tg++61::Am 44 ps
 else if w=82 then 123::(Am 44 ps++[125])
 else if w=85 then 60::(Bc tg++61::(Am 44 ps++[62]))
 else if w=69 then 35::Bc tg
 else tx
mutual
def Ay:Vl->List UInt8
 |.mk w tx tg ks=>Fl w tx tg (Dr ks)
def Dr:List Vl->List (List UInt8)
 |[]=>[]
 |x::xs=>Ay x::Dr xs
end
theorem Tf:∀ks:List Vl,Dr ks=ks.map Ay
 |[]=>rfl
 |x::xs=>by rw[Dr,Tf xs];rfl
mutual
def Ky:Vl->Nat
 |.mk w _ _ ks=>if w=61 then Jj ks else Jj ks+1
def Jj:List Vl->Nat
 |[]=>0
 |x::xs=>max (Ky x) (Jj xs)
end
theorem Xt:∀(ks:List Vl) (d:Nat),Jj ks<=d↔∀x∈ks,Ky x<=d
 |[],d=>by simp[Jj]
 |x::xs,d=>by rw[Jj,Nat.max_le,Xt xs d];simp
def Er:List UInt8:=[121,101,115]
def Mg:List UInt8:=[110,111]
def Cz(p:Fd × Vl):Vl:=.mk 61 [] p.1.tag [p.2]
inductive Gg(S:List Ty):Nat->Kd->Vl->Prop
 |n {d:Nat} {k:Kd} {m:Nat} (hs:k.signs=[]) (hb:k.base=[110]) (h:m<=999999):Gg S (d+1) k (.mk 110 (Bc m) 0 [])
 |t {d:Nat} {k:Kd} {s:List UInt8} (hs:k.signs=[]) (hb:k.base=[116]) (h:Dv s=true):Gg S (d+1) k (.mk 116 s 0 [])
 |f {d:Nat} {k:Kd} {b:Bool} (hs:k.signs=[]) (hb:k.base=[102]):Gg S (d+1) k (.mk 102 (if b then Er else Mg) 0 [])
 |lst {d:Nat} {k:Kd} {r:List UInt8} {ks:List Vl} (hs:k.signs=91::r) (hl:ks.length<=20) (h:∀x∈ks,Gg S d k.part x):Gg S (d+1) k (.mk 91 [] 0 ks)
 |non {d:Nat} {k:Kd} {r:List UInt8} (hs:k.signs=63::r):Gg S (d+1) k (.mk 63 [] 0 [])
 |som {d:Nat} {k:Kd} {r:List UInt8} {x:Vl} (hs:k.signs=63::r) (h:Gg S d k.part x):Gg S (d+1) k (.mk 63 [] 0 [x])
 |enm {d:Nat} {k:Kd} {t:Ty} {f:Fd} (hs:k.signs=[]) (hb:k.base=[64]) (ht:B0 S k.name=some t) (h9:t.sort=69) (hf:Bh t.fields f.tag=some f):Gg S (d+1) k (.mk 69 [] f.tag [])
 |uni {d:Nat} {k:Kd} {t:Ty} {f:Fd} {x:Vl} (hs:k.signs=[]) (hb:k.base=[64]) (ht:B0 S k.name=some t) (h5:t.sort=85) (hf:Bh t.fields f.tag=some f) (h:Gg S d f.kind x):Gg S (d+1) k (.mk 85 [] f.tag [x])
 |rcd {d:Nat} {k:Kd} {t:Ty} {fs:List (Fd × Vl)} (hs:k.signs=[]) (hb:k.base=[64]) (ht:B0 S k.name=some t) (h2:t.sort=82) (hf:∀p∈fs,Bh t.fields p.1.tag=some p.1) (h:∀p∈fs,Gg S d p.1.kind p.2)
   (hn:∀p∈fs,Ay p.2≠Mb S p.1) (hp:fs.Pairwise fun p q=>p.1.tag<q.1.tag):Gg S (d+1) k (.mk 82 [] 0 (fs.map Cz))
theorem Qjz(p:Fd × Vl):Ky (Cz p)=Ky p.2:=by simp[Cz,Ky,Jj]
theorem Fb(S:List Ty):∀(n:Nat) (k:Kd) (v:Vl),Gg S n k v->∀d,Gg S d k v↔Ky v<=d:=by
 intro n;induction n with
 |zero=>intro k v h;cases h
 |succ n ih=>
  intro k v h d;cases d with
  |zero=>
   constructor
   ·intro h;cases h
   intro hd;cases h<;>simp[Ky]at hd
  |succ d=>
   cases h with
   |n hs hb h=>exact⟨fun _=>by simp[Ky,Jj],fun _=>.n hs hb h⟩
   |t hs hb h=>exact⟨fun _=>by simp[Ky,Jj],fun _=>.t hs hb h⟩
   |f hs hb=>exact⟨fun _=>by simp[Ky,Jj],fun _=>.f hs hb⟩
   |non hs=>exact⟨fun _=>by simp[Ky,Jj],fun _=>.non hs⟩
   |enm hs hb ht h9 hf=>exact⟨fun _=>by simp[Ky,Jj],fun _=>.enm hs hb ht h9 hf⟩
   |@lst _ _ r ks hs hl h=>
    have e:Ky (.mk 91 [] 0 ks)<=d+1↔∀x∈ks,Ky x<=d:=by rw[<-Xt];simp[Ky]
    rw[e];constructor
    ·intro hv x hx;cases hv with
     |lst _ _ h2=>exact(ih _ _ (h x hx) d).1 (h2 x hx)
    intro hv;exact .lst hs hl fun x hx=>(ih _ _ (h x hx) d).2 (hv x hx)
   |@som _ _ r x hs h=>
    have e:Ky (.mk 63 [] 0 [x])<=d+1↔Ky x<=d:=fl;rw[e];constructor
    ·intro hv;cases hv with
     |som _ h2=>exact(ih _ _ h d).1 h2
    intro hv;exact .som hs ((ih _ _ h d).2 hv)
   |@uni _ _ t f x hs hb ht h5 hf h=>
    have e:Ky (.mk 85 [] f.tag [x])<=d+1↔Ky x<=d:=fl;rw[e];constructor
    ·intro hv;generalize hg:f.tag=g at hv;cases hv with
     |uni hs2 hb2 ht2 h52 hf2 h2=>
      rw[ht]at ht2;injection ht2 with ht2;subst ht2;rw[<-hg,hf]at hf2;injection hf2 with hf2;subst hf2;exact(ih _ _ h d).1 h2
    intro hv;exact .uni hs hb ht h5 hf ((ih _ _ h d).2 hv)
   |@rcd _ _ t fs hs hb ht h2 hf h hn hp=>
    have e:Ky (.mk 82 [] 0 (fs.map Cz))<=d+1↔∀p∈fs,Ky p.2<=d:=by
     have:Ky (.mk 82 [] 0 (fs.map Cz))=Jj (fs.map Cz)+1:=by simp[Ky]
     rw[this,Nat.succ_le_succ_iff,Xt];constructor
     ·intro h p hp;have:=h _ (ao hp);rwa [Qjz]at this
     intro h x hx;obtain⟨p,hp,rfl⟩:=aw.1 hx;rw[Qjz];exact h p hp
    rw[e];constructor
    ·intro hv p hp;generalize hg:fs.map Cz=ks at hv;cases hv with
     |@rcd _ _ t2 fs2 hs2 hb2 ht2 h22 hf2 h2 hn2 hp2=>
      rw[ht]at ht2;injection ht2 with ht2;subst ht2;have hm:Cz p∈fs2.map Cz:=hg ▸ ao hp;obtain⟨q,hq,eq⟩:=aw.1 hm;have e1:q.1.tag=p.1.tag:=by injection eq
      have e2:q.2=p.2:=by injection eq with _ _ _ e4;injection e4
      have e3:q.1=p.1:=by have:=hf2 q hq;rw[e1,hf p hp]at this;injection this with this;exact this.symm
      have:=h2 q hq;rw[e2,e3]at this;exact(ih _ _ (h p hp) d).1 this
    intro hv;exact .rcd hs hb ht h2 hf (fun p hp=>(ih _ _ (h p hp) d).2 (hv p hp)) hn hp
def Si(s:List UInt8):Option (Nat × List UInt8):=match Cx (s.takeWhile Bl)with
 |some n=>some (n,s.dropWhile Bl)
 |none=>none
def Ha(fs:List Fd)(s:List UInt8):Option (Fd × List UInt8):=match Si s with
 |some (n,r)=>if n<=200 then(match Bh fs n with|some f=>some (f,r)|none=>none)else none
 |none=>none
def Aj(c:UInt8):List UInt8->Option (List UInt8)
 |x::r=>if x=c then some r else none
 |[]=>none
def N4(s:List UInt8):Option (List UInt8 × List UInt8):=match Aj 39 s with
 |none=>none
 |some r=>match Aj 39 (r.dropWhile Co)with
  |none=>none
  |some q=>if (r.takeWhile Co).length<=12 then some (r.takeWhile Co,q)else none
def Ef:List UInt8->List UInt8->Option (List UInt8)
 |[],s=>some s
 |c::p,s=>match Aj c s with|none=>none|some r=>Ef p r
def Qh(s:List UInt8):Option (Bool × List UInt8):=match Ef Er s with
 |some r=>some (true,r)
 |none=>match Ef Mg s with|some r=>some (false,r)|none=>none
def Cc(K:List UInt8->Option (Vl × List UInt8)):Nat->List UInt8->Option (List Vl × List UInt8)
 |0,_=>none
 |m+1,s=>match K s with
  |none=>none
  |some (v,r)=>match Aj 44 r with
   |some q=>(match Cc K m q with|some (vs,z)=>some (v::vs,z)|none=>none)
   |none=>match Aj 93 r with|some q=>some ([v],q)|none=>none
def N5(K:List UInt8->Option (Vl × List UInt8))(m:Nat)(s:List UInt8):Option (Vl × List UInt8):=match Aj 91 s with
 |none=>none
 |some r=>match Aj 93 r with
  |some q=>some (.mk 91 [] 0 [],q)
  |none=>match Cc K m r with|some (vs,q)=>if vs.length<=20 then some (.mk 91 [] 0 vs,q)else none|none=>none
def Qc2(K:List UInt8->Option (Vl × List UInt8))(s:List UInt8):Option (Vl × List UInt8):=match Aj 45 s with
 |some q=>some (.mk 63 [] 0 [],q)
 |none=>match Aj 43 s with
  |none=>none
  |some r=>match K r with|some (v,q)=>some (.mk 63 [] 0 [v],q)|none=>none
def Dj(K:Kd->List UInt8->Option (Vl × List UInt8))(fs:List Fd)(s:List UInt8):Option ((Fd × Vl) × List UInt8):=match Ha fs s with
 |none=>none
 |some (f,r)=>match Aj 61 r with
  |none=>none
  |some q=>match K f.kind q with|some (v,z)=>some ((f,v),z)|none=>none
def Ep(S:List Ty)(K:Kd->List UInt8->Option (Vl × List UInt8))(fs:List Fd):Nat->Nat->List UInt8->Option (List (Fd × Vl) × List UInt8)
 |0,_,_=>none
 |m+1,last,s=>match Dj K fs s with
  |none=>none
  |some (p,r)=>if p.1.tag<=last\/Ay p.2=Mb S p.1 then none else match Aj 44 r with
   |some q=>(match Ep S K fs m p.1.tag q with|some (ps,z)=>some (p::ps,z)|none=>none)
   |none=>match Aj 125 r with|some q=>some ([p],q)|none=>none
def K0(S:List Ty)(K:Kd->List UInt8->Option (Vl × List UInt8))(t:Ty)(s:List UInt8):Option (Vl × List UInt8):=
 if t.sort=69 then(match Aj 35 s with
  |none=>none
  |some r=>match Ha t.fields r with|some (f,q)=>some (.mk 69 [] f.tag [],q)|none=>none)
 else if t.sort=85 then(match Aj 60 s with
  |none=>none
  |some r=>match Dj K t.fields r with
   |none=>none
   |some (p,q)=>match Aj 62 q with|some z=>some (.mk 85 [] p.1.tag [p.2],z)|none=>none)
 else match Aj 123 s with
  |none=>none
  |some r=>match Aj 125 r with
   |some q=>some (.mk 82 [] 0 [],q)
   |none=>match Ep S K t.fields 201 0 r with|some (ps,q)=>some (.mk 82 [] 0 (ps.map Cz),q)|none=>none
def Ap(S:List Ty)(m:Nat):Nat->Kd->List UInt8->Option (Vl × List UInt8)
 |0,_,_=>none
 |d+1,k,s=>match k.signs with
  |c::_=>if c=91 then N5 (Ap S m d k.part) m s else Qc2 (Ap S m d k.part) s
  |[]=>
   if k.base=[110]then(match Si s with|some (n,r)=>some (.mk 110 (Bc n) 0 [],r)|none=>none)
   else if k.base=[116]then(match N4 s with|some (x,r)=>some (.mk 116 x 0 [],r)|none=>none)
   else if k.base=[102]then(match Qh s with|some (b,r)=>some (.mk 102 (if b then Er else Mg) 0 [],r)|none=>none)
   else match B0 S k.name with
    |none=>none
    |some t=>K0 S (Ap S m d) t s
theorem Bk{c:UInt8}{s r:List UInt8}:Aj c s=some r↔s=c::r:=by
 cases s with
 |nil=>simp[Aj]
 |cons x t=>
  by_cases h:x=c
  ·subst h;simp[Aj]
  simp[Aj,h]
theorem Az(c:UInt8)(r:List UInt8):Aj c (c::r)=some r:=if_pos rfl
theorem De{c x:UInt8}(h:x≠c)(r:List UInt8):Aj c (x::r)=none:=if_neg h
theorem Fa{p s r:List UInt8}:Ef p s=some r↔s=p++r:=by
 induction p generalizing s with
 |nil=>simp[Ef]
 |cons c p ih=>
  unfold Ef;cases h:Aj c s with
  |none=>
   simp only[false_iff,reduceCtorEq];intro e;subst e;rw[au,Az]at h;cases h
  |some q=>rw[Bk]at h;subst h;simp[ih]
def Nl(r:List UInt8):Prop:=∀c t,r=c::t->Bl c=false
theorem Mp:Nl []:=by intro c t h;cases h
theorem Fe{c:UInt8}(r:List UInt8)(h:Bl c=false):Nl (c::r):=by intro x t e;injection e with e;subst e;exact h
theorem Qiz{a r:List UInt8}(ha:a.all Bl=true)(hr:Nl r):(a++r).takeWhile Bl=a/\(a++r).dropWhile Bl=r:=by
 cases r with
 |nil=>
  rw[List.append_nil];induction a with
  |nil=>exact⟨rfl,rfl⟩
  |cons c a ih=>
   rw[List.all_cons,av]at ha;obtain⟨i1,i2⟩:=ih ha.2;rw[List.takeWhile_cons_of_pos ha.1,List.dropWhile_cons_of_pos ha.1,i1,i2];exact kJ
 |cons c t=>exact Fr ha ⟨c,t,rfl,hr c t rfl⟩
theorem Qax{s r:List UInt8}{n:Nat}(h:Si s=some (n,r)):n<=999999/\s=Bc n++r/\Nl r:=by
 unfold Si at h;cases hd:Cx (s.takeWhile Bl)with
 |none=>rw[hd]at h;cases h
 |some m=>
  rw[hd]at h;simp only[aj,aD]at h;obtain⟨rfl,rfl⟩:=h;obtain⟨h1,h2⟩:=Cl.1 hd;refine⟨h1,by rw[<-h2,List.takeWhile_append_dropWhile],fun c t e=>?_⟩;have:=List.head?_dropWhile_not Bl s;rw[e]at this;simpa using this
theorem Qd5{n:Nat}{r:List UInt8}(h:n<=999999)(hr:Nl r):Si (Bc n++r)=some (n,r):=by
 obtain⟨e1,e2⟩:=Qiz (Mt n) hr;unfold Si;rw[e1,e2,Cl.2 ⟨h,rfl⟩]
theorem Br{fs:List Fd}{n:Nat}{f:Fd}(h:Bh fs n=some f):f.tag=n/\f∈fs:=by
 unfold Bh at h;have:=List.find?_some h;exact⟨by simpa using this,List.mem_of_find?_eq_some h⟩
theorem Ke{fs:List Fd}{s r:List UInt8}{f:Fd}(h:Ha fs s=some (f,r)):f.tag<=200/\Bh fs f.tag=some f/\s=Bc f.tag++r/\Nl r:=by
 unfold Ha at h;cases hn:Si s with
 |none=>rw[hn]at h;cases h
 |some q=>
  obtain⟨n,z⟩:=q;rw[hn]at h;simp only at h;split at h
  ·rename_i h2;cases hf:Bh fs n with
   |none=>rw[hf]at h;cases h
   |some g=>
    rw[hf]at h;simp only[aj,aD]at h;obtain⟨rfl,rfl⟩:=h;have e:=(Br hf).1;obtain⟨_,e2,e3⟩:=Qax hn;rw[e];exact⟨h2,hf,e2,e3⟩
  cases h
theorem Qdt{fs:List Fd}{f:Fd}{r:List UInt8}(h:f.tag<=200)(hf:Bh fs f.tag=some f)(hr:Nl r):Ha fs (Bc f.tag++r)=some (f,r):=by
 unfold Ha;rw[Qd5 aG hr];simp[h,hf]
theorem Qc0:Co 39=false:=aJ
theorem Qap{s b r:List UInt8}:N4 s=some (b,r)↔Dv b=true/\s=39::(b++39::r):=by
 unfold N4;cases h:Aj 39 s with
 |none=>
  simp only[reduceCtorEq,false_iff,not_and];rintro _ rfl;rw[Az]at h;cases h
 |some q=>
  rw[Bk]at h;subst h;simp only[List.cons.injEq,true_and];cases h:Aj 39 (q.dropWhile Co)with
  |none=>
   simp only[reduceCtorEq,false_iff,not_and];rintro hb rfl;have hb2:b.all Co=true:=by unfold Dv at hb;simp only[av]at hb;exact hb.2
   rw[(Fr hb2 ⟨39,r,rfl,Qc0⟩).2,Az]at h;cases h
  |some z=>
   rw[Bk]at h;have eq:q=q.takeWhile Co++39::z:=by rw[<-h,List.takeWhile_append_dropWhile]
   simp only;constructor
   ·intro h2;split at h2
    ·rename_i hl;simp only[aj,aD]at h2;obtain⟨rfl,rfl⟩:=h2;exact⟨by unfold Dv;simp only[av];exact⟨by simpa using hl,Kq q⟩,eq⟩
    cases h2
   rintro⟨hb,rfl⟩;unfold Dv at hb;simp only[av,decide_eq_true_eq]at hb;obtain⟨e1,e2⟩:=Fr hb.2 ⟨39,r,rfl,Qc0⟩;rw[e2]at h;injection h with _ h;subst h;rw[e1,if_pos hb.1]
theorem Yn{s r:List UInt8}{b:Bool}:Qh s=some (b,r)↔s=(if b then Er else Mg)++r:=by
 unfold Qh;cases h:Ef Er s with
 |some q=>
  rw[Fa]at h;subst h;cases b<;>simp[Er,Mg]
 |none=>
  simp only;cases h2:Ef Mg s with
  |some q=>
   rw[Fa]at h2;subst h2;cases b<;>simp[Er,Mg]
  |none=>
   simp only[reduceCtorEq,false_iff];rintro rfl;cases b
   ·rw[show Ef Mg ((if false=true then Er else Mg)++r)=some r from Fa.2 rfl]at h2;cases h2
   rw[show Ef Er ((if true=true then Er else Mg)++r)=some r from Fa.2 rfl]at h;cases h
theorem Qd1{K:List UInt8->Option (Vl × List UInt8)}{P:Vl->Prop}(hK:∀s v r,K s=some (v,r)->P v/\s=Ay v++r):∀(m:Nat) (s:List UInt8) (vs:List Vl) (r:List UInt8),
  Cc K m s=some (vs,r)->vs≠[]/\vs.length<=m/\(∀x∈vs,P x)/\s=Am 44 (vs.map Ay)++93::r:=by
 intro m;induction m with
 |zero=>intro s vs r h;cases h
 |succ m ih=>
  intro s vs r h;unfold Cc at h;cases hk:K s with
  |none=>rw[hk]at h;cases h
  |some q=>
   obtain⟨v,z⟩:=q;rw[hk]at h;simp only at h;obtain⟨hp,rfl⟩:=hK _ _ _ hk;cases hb:Aj 44 z with
   |some q=>
    rw[hb]at h;simp only at h;cases hi:Cc K m q with
    |none=>rw[hi]at h;cases h
    |some y=>
     obtain⟨us,y⟩:=y;rw[hi]at h;simp only[aj,aD]at h;obtain⟨rfl,rfl⟩:=h;obtain⟨h1,h2,h3,h4⟩:=ih _ _ _ hi;rw[Bk]at hb;subst hb;refine⟨by simp,by simp;omega,by simpa using⟨hp,h3⟩,?_⟩;rw[ax,Cj 44 _ dM,h4];simp
   |none=>
    rw[hb]at h;simp only at h;cases hb:Aj 93 z with
    |none=>rw[hb]at h;cases h
    |some q=>
     rw[hb]at h;simp only[aj,aD]at h;obtain⟨rfl,rfl⟩:=h;rw[Bk]at hb;subst hb;exact⟨by simp,by simp,by simpa using hp,by simp[Am]⟩
theorem V7{K:List UInt8->Option (Vl × List UInt8)}:∀(m:Nat) (vs:List Vl) (r:List UInt8),(∀x∈vs,∀r,Nl r->K (Ay x++r)=some (x,r))->vs≠[]->vs.length<=m ->
  Cc K m (Am 44 (vs.map Ay)++93::r)=some (vs,r)
 |0,vs,r,_,h,hl=>fK
 |m+1,[],r,_,h,_=>absurd rfl h
 |m+1,[x],r,hK,_,_=>by
  have e:=hK x aK (93::r) (Fe _ aJ);simp only[ax,List.map_nil,Am];unfold Cc;rw[e];simp only[De (show (93:UInt8)≠44 by decide),Az]
 |m+1,x::y::vs,r,hK,_,hl=>by
  have ih:=V7 m (y::vs) r (fun z hz=>hK z cZ) aK dU;have e:=hK x aK (44::(Am 44 ((y::vs).map Ay)++93::r)) (Fe _ aJ);rw[ax,Cj 44 _ aK,List.append_assoc,au];unfold Cc;rw[e];simp only[Az,ih]
theorem Sb{K:Kd->List UInt8->Option (Vl × List UInt8)}{P:Fd->Vl->Prop}{fs:List Fd}(hK:∀f∈fs,∀s v r,K f.kind s=some (v,r)->P f v/\s=Ay v++r){s r:List UInt8}{p:Fd × Vl}
  (h:Dj K fs s=some (p,r)):p.1.tag<=200/\Bh fs p.1.tag=some p.1/\P p.1 p.2/\s=Ay (Cz p)++r:=by
 unfold Dj at h;cases ht:Ha fs s with
 |none=>rw[ht]at h;cases h
 |some q=>
  obtain⟨f,z⟩:=q;rw[ht]at h;simp only at h;obtain⟨h1,h2,rfl,_⟩:=Ke ht;cases hb:Aj 61 z with
  |none=>rw[hb]at h;cases h
  |some q=>
   rw[hb]at h;simp only at h;rw[Bk]at hb;subst hb;cases hk:K f.kind q with
   |none=>rw[hk]at h;cases h
   |some y=>
    obtain⟨v,y⟩:=y;rw[hk]at h;simp only[aj,aD]at h;obtain⟨rfl,rfl⟩:=h;obtain⟨h3,rfl⟩:=hK f (Br h2).2 _ _ _ hk;exact⟨h1,h2,h3,by simp[Cz,Ay,Dr,Fl,Am]⟩
theorem Se{K:Kd->List UInt8->Option (Vl × List UInt8)}{fs:List Fd}{p:Fd × Vl}{r:List UInt8}(h1:p.1.tag<=200)(h2:Bh fs p.1.tag=some p.1)(hK:K p.1.kind (Ay p.2++r)=some (p.2,r)):
  Dj K fs (Ay (Cz p)++r)=some (p,r):=by
 have e:Ay (Cz p)++r=Bc p.1.tag++(61::(Ay p.2++r)):=by simp[Cz,Ay,Dr,Fl,Am]
 rw[e];unfold Dj;rw[Qdt h1 h2 (Fe _ aJ)];simp only[Az,hK]
theorem Qgf{S:List Ty}{K:Kd->List UInt8->Option (Vl × List UInt8)}{P:Fd->Vl->Prop}{fs:List Fd}(hK:∀f∈fs,∀s v r,K f.kind s=some (v,r)->P f v/\s=Ay v++r):∀(m last:Nat) (s:List UInt8) (ps:List (Fd × Vl)) (r:List UInt8),
  Ep S K fs m last s=some (ps,r)->ps≠[]/\(∀p∈ps,last<p.1.tag/\Bh fs p.1.tag=some p.1/\P p.1 p.2/\Ay p.2≠Mb S p.1)/\(ps.Pairwise fun p q=>p.1.tag<q.1.tag)/\s=Am 44 (ps.map fun p=>Ay (Cz p))++125::r:=by
 intro m;induction m with
 |zero=>intro last s ps r h;cases h
 |succ m ih=>
  intro last s ps r h;unfold Ep at h;cases hk:Dj K fs s with
  |none=>rw[hk]at h;cases h
  |some q=>
   obtain⟨p,z⟩:=q;rw[hk]at h;simp only at h;obtain⟨h1,h2,h3,rfl⟩:=Sb hK hk;split at h
   ·cases h
   rename_i hno;have hno1:last<p.1.tag:=aG;have hno2:Ay p.2≠Mb S p.1:=fun e=>hno (.inr e);cases hb:Aj 44 z with
   |some q=>
    rw[hb]at h;simp only at h;cases hi:Ep S K fs m p.1.tag q with
    |none=>rw[hi]at h;cases h
    |some y=>
     obtain⟨us,y⟩:=y;rw[hi]at h;simp only[aj,aD]at h;obtain⟨rfl,rfl⟩:=h;obtain⟨i1,i2,i3,i4⟩:=ih _ _ _ _ hi;rw[Bk]at hb;subst hb;refine⟨by simp,?_,?_,?_⟩
     ·intro x hx;rcases az.1 hx with rfl|hx
      ·exact⟨hno1,h2,h3,hno2⟩
      obtain⟨j1,j2⟩:=i2 x hx;exact⟨by omega,j2⟩
     ·exact List.pairwise_cons.2 ⟨fun x hx=>(i2 x hx).1,i3⟩
     rw[ax,Cj 44 _ (by simpa using i1),i4];simp
   |none=>
    rw[hb]at h;simp only at h;cases hb:Aj 125 z with
    |none=>rw[hb]at h;cases h
    |some q=>
     rw[hb]at h;simp only[aj,aD]at h;obtain⟨rfl,rfl⟩:=h;rw[Bk]at hb;subst hb;refine⟨by simp,?_,by simp,by simp[Am]⟩;intro x hx;rw[ap]at hx;subst hx;exact⟨hno1,h2,h3,hno2⟩
theorem Yk{S:List Ty}{K:Kd->List UInt8->Option (Vl × List UInt8)}{fs:List Fd}:∀(m last:Nat) (ps:List (Fd × Vl)) (r:List UInt8),
  (∀p∈ps,∀r,Nl r->K p.1.kind (Ay p.2++r)=some (p.2,r))->ps≠[]->(∀p∈ps,last<p.1.tag/\p.1.tag<=200/\Bh fs p.1.tag=some p.1/\Ay p.2≠Mb S p.1)->(ps.Pairwise fun p q=>p.1.tag<q.1.tag)->201<=m+last ->
  Ep S K fs m last (Am 44 (ps.map fun p=>Ay (Cz p))++125::r)=some (ps,r)
 |0,last,[],r,_,h,_,_,_=>absurd rfl h
 |0,last,p::ps,r,_,_,hp,_,hl=>by have:=hp p aK;omega
 |m+1,last,[],r,_,h,_,_,_=>absurd rfl h
 |m+1,last,[p],r,hK,_,hp,_,hl=>by
  obtain⟨h1,h2,h3,h4⟩:=hp p aK;have e:=Se h2 h3 (hK p aK (125::r) (Fe _ aJ));simp only[ax,List.map_nil,Am];unfold Ep;rw[e];simp only;rw[if_neg cR];simp only[De (show (125:UInt8)≠44 by decide),Az]
 |m+1,last,p::q::ps,r,hK,_,hp,hw,hl=>by
  obtain⟨h1,h2,h3,h4⟩:=hp p aK;obtain⟨w1,w2⟩:=List.pairwise_cons.1 hw;have ih:=Yk m p.1.tag (q::ps) r (fun z hz=>hK z cZ) aK (fun z hz=>⟨w1 z hz,(hp z cZ).2⟩) w2 aG;have e:=Se (K:=K) h2 h3 (hK p aK (44::(Am 44 ((q::ps).map fun p=>Ay (Cz p))++125::r)) (Fe _ aJ));rw[ax,Cj 44 _ aK,List.append_assoc,au];unfold Ep;rw[e];simp only;rw[if_neg cR];simp only[Az,ih]
theorem Mz{k:Kd}(h:Cg k){c:UInt8}{t:List UInt8}(hs:k.signs=c::t):c=91\/c=63:=by
 have:=h.1;rw[hs]at this;simp only[List.all_cons,av,Bm,Bool.or_eq_true,beq_iff_eq]at this;exact this.1
theorem Py{S:List Ty}(hS:∀t∈S,Du t){n:List UInt8}{t:Ty}(ht:B0 S n=some t)(h9:t.sort≠69){f:Fd}(hf:f∈t.fields):Cg f.kind/\f.tag<=200:=by
 have h:=(hS t (Bj ht).1).2.2.1.1 f hf;exact⟨(h.2.2.2.2 h9).1,h.2.1⟩
theorem Ng(fs:List (Fd × Vl)):Ay (.mk 82 [] 0 (fs.map Cz))=123::(Am 44 (fs.map fun p=>Ay (Cz p))++[125]):=by
 simp[Ay,Tf,Fl];rfl
theorem Gj(ks:List Vl):Ay (.mk 91 [] 0 ks)=91::(Am 44 (ks.map Ay)++[93]):=by simp[Ay,Tf,Fl]
theorem Q4(f:Fd)(x:Vl):Ay (.mk 85 [] f.tag [x])=60::(Ay (Cz (f,x))++[62]):=by simp[Ay,Dr,Fl,Cz,Am]
theorem Gm{S:List Ty}(hS:∀t∈S,Du t)(m:Nat):∀(d:Nat) (k:Kd) (s:List UInt8) (v:Vl) (r:List UInt8),Cg k->Ap S m d k s=some (v,r)->Gg S d k v/\s=Ay v++r:=by
 intro d;induction d with
 |zero=>intro k s v r _ h;cases h
 |succ d ih=>
  intro k s v r hk h;unfold Ap at h;cases hs:k.signs with
  |cons c t=>
   rw[hs]at h;simp only at h;have hp:=(J4 hk).1;by_cases h91:c=91
   ·subst h91;rw[if_pos rfl]at h;unfold N5 at h;cases hb:Aj 91 s with
    |none=>rw[hb]at h;cases h
    |some q=>
     rw[hb]at h;simp only at h;rw[Bk]at hb;subst hb;cases hb:Aj 93 q with
     |some z=>
      rw[hb]at h;simp only[aj,aD]at h;obtain⟨rfl,rfl⟩:=h;rw[Bk]at hb;subst hb;exact⟨.lst hs aK aK,by rw[Gj];rfl⟩
     |none=>
      rw[hb]at h;simp only at h;cases hi:Cc (Ap S m d k.part) m q with
      |none=>rw[hi]at h;cases h
      |some y=>
       obtain⟨us,y⟩:=y;rw[hi]at h;simp only at h;split at h
       ·rename_i hl;simp only[aj,aD]at h;obtain⟨rfl,rfl⟩:=h;obtain⟨_,_,i3,i4⟩:=Qd1 (P:=Gg S d k.part) (fun s v r h=>ih _ _ _ _ hp h) _ _ _ _ hi;exact⟨.lst hs hl i3,by rw[Gj,i4];simp⟩
       cases h
   have h63:=(Mz hk hs).resolve_left h91;subst h63;rw[if_neg h91]at h;unfold Qc2 at h;cases hb:Aj 45 s with
   |some q=>
    rw[hb]at h;simp only[aj,aD]at h;obtain⟨rfl,rfl⟩:=h;rw[Bk]at hb;subst hb;exact⟨.non hs,rfl⟩
   |none=>
    rw[hb]at h;simp only at h;cases hb:Aj 43 s with
    |none=>rw[hb]at h;cases h
    |some q=>
     rw[hb]at h;simp only at h;rw[Bk]at hb;subst hb;cases hi:Ap S m d k.part q with
     |none=>rw[hi]at h;cases h
     |some y=>
      obtain⟨x,y⟩:=y;rw[hi]at h;simp only[aj,aD]at h;obtain⟨rfl,rfl⟩:=h;obtain⟨i1,rfl⟩:=ih _ _ _ _ hp hi;exact⟨.som hs i1,by simp[Ay,Dr,Fl,Am]⟩
  |nil=>
   rw[hs]at h;simp only at h;split at h
   ·rename_i hb;cases hn:Si s with
    |none=>rw[hn]at h;cases h
    |some q=>
     obtain⟨n,q⟩:=q;rw[hn]at h;simp only[aj,aD]at h;obtain⟨rfl,rfl⟩:=h;obtain⟨h1,h2,_⟩:=Qax hn;exact⟨.n hs hb h1,by rw[h2];simp[Ay,Dr,Fl]⟩
   split at h
   ·rename_i hb;cases hn:N4 s with
    |none=>rw[hn]at h;cases h
    |some q=>
     obtain⟨x,q⟩:=q;rw[hn]at h;simp only[aj,aD]at h;obtain⟨rfl,rfl⟩:=h;obtain⟨h1,rfl⟩:=Qap.1 hn;exact⟨.t hs hb h1,by simp[Ay,Dr,Fl]⟩
   split at h
   ·rename_i hb;cases hn:Qh s with
    |none=>rw[hn]at h;cases h
    |some q=>
     obtain⟨x,q⟩:=q;rw[hn]at h;simp only[aj,aD]at h;obtain⟨rfl,rfl⟩:=h;have:=Yn.1 hn;exact⟨.f hs hb,by rw[this];simp[Ay,Dr,Fl]⟩
   rename_i b1 b2 b3;have hb:k.base=[64]:=by
    rcases hk.2.1 with h|⟨h|h|h,_⟩
    ·exact h.1
    ·exact absurd h b1
    ·exact absurd h b2
    exact absurd h b3
   cases ht:B0 S k.name with
   |none=>rw[ht]at h;cases h
   |some t=>
    rw[ht]at h;simp only at h;unfold K0 at h;by_cases h9:t.sort=69
    ·rw[if_pos h9]at h;cases hb3:Aj 35 s with
     |none=>rw[hb3]at h;cases h
     |some q=>
      rw[hb3]at h;simp only at h;rw[Bk]at hb3;subst hb3;cases hg:Ha t.fields q with
      |none=>rw[hg]at h;cases h
      |some y=>
       obtain⟨f,y⟩:=y;rw[hg]at h;simp only[aj,aD]at h;obtain⟨rfl,rfl⟩:=h;obtain⟨_,h2,h3,_⟩:=Ke hg;exact⟨.enm hs hb ht h9 h2,by rw[h3];simp[Ay,Dr,Fl]⟩
    rw[if_neg h9]at h;have hK:∀f∈t.fields,∀s v r,Ap S m d f.kind s=some (v,r)->Gg S d f.kind v/\s=Ay v++r:=fun f hf s v r hr=>ih _ _ _ _ (Py hS ht h9 hf).1 hr;by_cases h5:t.sort=85
    ·rw[if_pos h5]at h;cases hb3:Aj 60 s with
     |none=>rw[hb3]at h;cases h
     |some q=>
      rw[hb3]at h;simp only at h;rw[Bk]at hb3;subst hb3;cases hg:Dj (Ap S m d) t.fields q with
      |none=>rw[hg]at h;cases h
      |some y=>
       obtain⟨p,y⟩:=y;rw[hg]at h;simp only at h;cases hb4:Aj 62 y with
       |none=>rw[hb4]at h;cases h
       |some z=>
        rw[hb4]at h;simp only[aj,aD]at h;obtain⟨rfl,rfl⟩:=h;rw[Bk]at hb4;subst hb4;obtain⟨_,h2,h3,rfl⟩:=Sb (P:=fun f v=>Gg S d f.kind v) hK hg;exact⟨.uni hs hb ht h5 h2 h3,by rw[Q4];simp⟩
    rw[if_neg h5]at h;have h2:t.sort=82:=by
     rcases(hS t (Bj ht).1).1 with h|h|h
     ·exact h
     ·exact absurd h h5
     exact absurd h h9
    cases hb3:Aj 123 s with
    |none=>rw[hb3]at h;cases h
    |some q=>
     rw[hb3]at h;simp only at h;rw[Bk]at hb3;subst hb3;cases hb4:Aj 125 q with
     |some z=>
      rw[hb4]at h;simp only[aj,aD]at h;obtain⟨rfl,rfl⟩:=h;rw[Bk]at hb4;subst hb4;exact⟨.rcd (fs:=[]) hs hb ht h2 aK aK aK aK,rfl⟩
     |none=>
      rw[hb4]at h;simp only at h;cases hg:Ep S (Ap S m d) t.fields 201 0 q with
      |none=>rw[hg]at h;cases h
      |some y=>
       obtain⟨ps,y⟩:=y;rw[hg]at h;simp only[aj,aD]at h;obtain⟨rfl,rfl⟩:=h;obtain⟨_,i2,i3,i4⟩:=Qgf (P:=fun f v=>Gg S d f.kind v) hK _ _ _ _ _ hg;exact⟨.rcd hs hb ht h2 (fun p hp=>(i2 p hp).2.1) (fun p hp=>(i2 p hp).2.2.1) (fun p hp=>(i2 p hp).2.2.2) i3,by rw[Ng,i4];simp⟩
theorem Zk{S:List Ty}{d:Nat}{k:Kd}{v:Vl}(h:Gg S d k v):∃c t,Ay v=c::t/\c≠93/\c≠125/\c≠44:=by
 cases h with
 |@n _ _ m hs hb h=>
  have e:Ay (.mk 110 (Bc m) 0 [])=Bc m:=by simp[Ay,Dr,Fl]
  rw[e];cases hd:Bc m with
  |nil=>exact absurd hd (Rg m)
  |cons c t=>
   have:=Mt m;rw[hd,List.all_cons,av,Do]at this;refine⟨c,t,rfl,?_,?_,?_⟩<;>(rintro rfl;revert this;simp)
 |t=>exact⟨39,_,rfl,by decide,by decide,by decide⟩
 |@f _ _ b=>cases b<;>exact⟨_,_,rfl,by decide,by decide,by decide⟩
 |lst=>exact⟨91,_,rfl,by decide,by decide,by decide⟩
 |non=>exact⟨45,_,rfl,by decide,by decide,by decide⟩
 |som=>exact⟨43,_,rfl,by decide,by decide,by decide⟩
 |enm=>exact⟨35,_,rfl,by decide,by decide,by decide⟩
 |uni=>exact⟨60,_,rfl,by decide,by decide,by decide⟩
 |rcd=>exact⟨123,_,rfl,by decide,by decide,by decide⟩
theorem Kk{S:List Ty}(hS:∀t∈S,Du t){m:Nat}(hm:20<=m):∀(d:Nat) (k:Kd) (v:Vl) (r:List UInt8),Gg S d k v->Nl r->Ap S m d k (Ay v++r)=some (v,r):=by
 intro d;induction d with
 |zero=>intro k v r h;cases h
 |succ d ih=>
  intro k v r h hr;unfold Ap;cases h with
  |@n _ _ n hs hb h=>
   rw[hs];simp only;rw[if_pos hb];have e:Ay (.mk 110 (Bc n) 0 [])=Bc n:=by simp[Ay,Dr,Fl]
   rw[e,Qd5 h hr]
  |@t _ _ s hs hb h=>
   rw[hs];simp only;rw[if_neg bF,if_pos hb];rw[show N4 (Ay (.mk 116 s 0 [])++r)=some (s,r)from Qap.2 ⟨h,by simp[Ay,Dr,Fl]⟩]
  |@f _ _ b hs hb=>
   rw[hs];simp only;rw[if_neg bF,if_neg bF,if_pos hb];rw[show Qh (Ay (.mk 102 (if b then Er else Mg) 0 [])++r)=some (b,r)from Yn.2 (by cases b<;>simp[Ay,Dr,Fl])]
  |@lst _ _ t ks hs hl h=>
   rw[hs];simp only;rw[if_pos Ac];unfold N5;rw[Gj,au,Az];simp only;cases ks with
   |nil=>rfl
   |cons x ks=>
    obtain⟨c,q,e1,e2,_⟩:=Zk (h x aK);have e3:Aj 93 (Am 44 ((x::ks).map Ay)++[93]++r)=none:=by
     cases ks with
     |nil=>simp only[ax,List.map_nil,Am,e1,au,De e2]
     |cons y ks=>rw[ax,Cj 44 _ aK,e1];simp only[au,De e2]
    rw[e3];simp only;rw[List.append_assoc,List.singleton_append,V7 m (x::ks) r (fun y hy r hr=>ih _ _ _ (h y hy) hr) aK aG];simp only;rw[if_pos hl]
  |@non _ _ t hs=>rw[hs];rfl
  |@som _ _ t x hs h=>
   rw[hs];simp only;rw[if_neg aJ];have e:Ay (.mk 63 [] 0 [x])=43::Ay x:=by simp[Ay,Dr,Fl,Am]
   unfold Qc2;rw[e,au,De aJ,Az];simp only;rw[ih _ _ _ h hr]
  |@enm _ _ t f hs hb ht h9 hf=>
   rw[hs];simp only;rw[if_neg bF,if_neg bF,if_neg bF,ht];simp only;unfold K0;have h200:f.tag<=200:=((hS t (Bj ht).1).2.2.1.1 f (Br hf).2).2.1;have e:Ay (.mk 69 [] f.tag [])=35::Bc f.tag:=by simp[Ay,Dr,Fl]
   rw[if_pos h9,e,au,Az];simp only;rw[Qdt h200 hf hr]
  |@uni _ _ t f x hs hb ht h5 hf h=>
   rw[hs];simp only;rw[if_neg bF,if_neg bF,if_neg bF,ht];simp only;unfold K0;have h9:t.sort≠69:=cY;rw[if_neg h9,if_pos h5,Q4,au,Az];simp only;rw[List.append_assoc,List.singleton_append,Se (p:=(f,x)) (Py hS ht h9 (Br hf).2).2 hf (ih _ _ (62::r) h (Fe (c:=62) _ aJ))];simp only[Az]
  |@rcd _ _ t fs hs hb ht h2 hf h hn hp=>
   rw[hs];simp only;rw[if_neg bF,if_neg bF,if_neg bF,ht];simp only;unfold K0;have h9:t.sort≠69:=cj;rw[if_neg h9,if_neg cj,Ng,au,Az];simp only;cases fs with
   |nil=>rfl
   |cons p fs=>
    have e3:Aj 125 (Am 44 ((p::fs).map fun p=>Ay (Cz p))++[125]++r)=none:=by
     have e1:Ay (Cz p)=Bc p.1.tag++61::Ay p.2:=by simp[Cz,Ay,Dr,Fl,Am]
     cases hd:Bc p.1.tag with
     |nil=>exact absurd hd (Rg _)
     |cons c q=>
      have hc:=Mt p.1.tag;rw[hd,List.all_cons,av,Do]at hc;have e2:c≠125:=by rintro rfl;revert hc;simp
      rw[hd]at e1;cases fs with
      |nil=>simp only[ax,List.map_nil,Am,e1,au,De e2]
      |cons y fs=>rw[ax,Cj 44 _ aK,e1];simp only[au,De e2]
    rw[e3];simp only
    rw[List.append_assoc,List.singleton_append,Yk 201 0 (p::fs) r (fun q hq r hr=>ih _ _ _ (h q hq) hr) aK
     (fun q hq=>?_) hp aG]
    have hm:=(Br (hf q hq)).2;have h1:=((hS t (Bj ht).1).2.2.1.1 q.1 hm).1;exact⟨h1,(Py hS ht h9 hm).2,hf q hq,hn q hq⟩
theorem Ql5{S:List Ty}(hS:∀t∈S,Du t){d:Nat}{k:Kd}{v u:Vl}(hv:Gg S d k v)(hu:Gg S d k u)(h:Ay v=Ay u):v=u:=by
 have h1:=Kk hS (Aq 20) d k v [] hv Mp;have h2:=Kk hS (Aq 20) d k u [] hu Mp;rw[h,h2]at h1;injection h1 with h1;injection h1 with h1;exact h1.symm
def Kz(S:List Ty)(k:Kd)(s:List UInt8):Option Vl:=
 if 400<s.length then none else match Ap S 20 12 k s with
  |some (v,[])=>some v
  |_=>none
theorem Ml{S:List Ty}(hS:∀t∈S,Du t){k:Kd}(hk:Cg k){s:List UInt8}{v:Vl}:Kz S k s=some v↔Gg S 12 k v/\Ay v=s/\s.length<=400:=by
 unfold Kz;constructor
 ·intro h;split at h
  ·cases h
  rename_i hl;cases hr:Ap S 20 12 k s with
  |none=>rw[hr]at h;cases h
  |some q=>
   obtain⟨x,r⟩:=q;rw[hr]at h;cases r with
   |cons c t=>cases h
   |nil=>
    simp only[aj]at h;subst h;obtain⟨h1,h2⟩:=Gm hS 20 12 k s x [] hk hr;exact⟨h1,by rw[h2,List.append_nil],by omega⟩
 rintro⟨h1,rfl,hl⟩;rw[if_neg aG];have:=Kk hS (Aq 20) 12 k v [] h1 Mp;rw[List.append_nil]at this;rw[this]
theorem Qho{S:List Ty}(hS:∀t∈S,Du t){k:Kd}(hk:Cg k){s:List UInt8}(hl:s.length<=400)(m n:Nat)(hm:20<=m)(hn:12<=n):
  Kz S k s=match Ap S m n k s with|some (v,[])=>if Ky v<=12 then some v else none|_=>none:=by
 cases hr:Ap S m n k s with
 |none=>
  cases hv:Kz S k s with
  |none=>rfl
  |some v=>
   obtain⟨h1,h2,_⟩:=(Ml hS hk).1 hv;have h3:Gg S n k v:=(Fb S _ _ _ h1 n).2 (ad ((Fb S _ _ _ h1 12).1 h1) hn);have:=Kk hS hm n k v [] h3 Mp;rw[List.append_nil,h2,hr]at this;cases this
 |some q=>
  obtain⟨x,r⟩:=q;obtain⟨h1,h2⟩:=Gm hS m n k s x r hk hr;cases r with
  |nil=>
   simp only;rw[List.append_nil]at h2;by_cases hd:Ky x<=12
   ·rw[if_pos hd,Ml hS hk];exact⟨(Fb S _ _ _ h1 12).2 hd,h2.symm,hl⟩
   rw[if_neg hd];cases hv:Kz S k s with
   |none=>rfl
   |some v=>
    obtain⟨i1,i2,_⟩:=(Ml hS hk).1 hv;have h3:Gg S n k v:=(Fb S _ _ _ i1 n).2 (ad ((Fb S _ _ _ i1 12).1 i1) hn);have e:=Ql5 hS h3 h1 (by rw[i2,h2]);subst e;exact absurd ((Fb S _ _ _ i1 12).1 i1) hd
  |cons c t=>
   simp only;cases hv:Kz S k s with
   |none=>rfl
   |some v=>
    obtain⟨i1,i2,_⟩:=(Ml hS hk).1 hv;have h3:Gg S n k v:=(Fb S _ _ _ i1 n).2 (ad ((Fb S _ _ _ i1 12).1 i1) hn);have:=Kk hS hm n k v [] h3 Mp;rw[List.append_nil,i2,hr]at this;injection this with this;injection this with _ this;cases this
abbrev Da:=List UInt8
def Tw(S:List Ty):Nat->Kd->List Da->List Da
 |0,_,out=>out
 |n+1,k,out=>
  if k.base=[64]/\k.name∉out then
   (match B0 S k.name with
    |none=>out++[k.name]
    |some t=>if t.sort=69 then out++[k.name]else t.fields.foldl (fun o f=>Tw S n f.kind o) (out++[k.name]))
  else out
def Nh(S:List Ty):List Da:=S.map (·.name)
def Ql6(S:List Ty)(out:List Da):Prop:=out.Nodup/\∀x∈out,x∈Nh S
theorem Ql6.nil(S:List Ty):Ql6 S []:=⟨List.nodup_nil,by simp⟩
theorem Qg0:∀(l m:List Da),l.Nodup->(∀x∈l,x∈m)->l.length<=m.length
 |[],m,_,_=>ag _
 |x::l,m,hn,hs=>by
  obtain⟨h1,h2⟩:=List.nodup_cons.1 hn;have hx:=hs x aK
  have ih:=Qg0 l (m.erase x) h2 (fun y hy=>by
   have hne:y≠x:=by rintro rfl;exact h1 hy
   exact(List.mem_erase_of_ne hne).2 (hs y fZ))
  have hl:=List.length_erase_of_mem hx;have hp:0<m.length:=List.length_pos_iff.2 (by rintro rfl;cases hx);simp;omega
theorem Ql6.len{S:List Ty}{out:List Da}(h:Ql6 S out):out.length<=S.length:=by
 have:=Qg0 out (Nh S) h.1 h.2;simpa [Nh]using this
abbrev Qgh:=Da × Da
def Qm4(S T:List Ty)(m:List Qgh):Prop:=m.Nodup/\∀p∈m,p.1∈Nh S/\p.2∈Nh T
theorem Qm4.nil(S T:List Ty):Qm4 S T []:=⟨List.nodup_nil,by simp⟩
theorem Qdb:∀(l m:List Qgh),l.Nodup->(∀x∈l,x∈m)->l.length<=m.length
 |[],m,_,_=>aK
 |x::l,m,hn,hs=>by
  have hx:=hs x aK;have:=Qdb l (m.erase x) (List.nodup_cons.1 hn).2 (fun y hy=>(List.mem_erase_of_ne dT).2 (hs y fZ));exact kK
def Qed(a b:List Da):List Qgh:=a.flatMap fun x=>b.map fun y=>(x,y)
theorem Qan(b:List Da):∀a,(Qed a b).length=a.length*b.length
 |[]=>by simp[Qed]
 |x::a=>by
  have:=Qan b a;unfold Qed at this ⊢;rw[List.flatMap_cons,ah,List.length_map,this,List.length_cons,Nat.add_mul];omega
theorem Qm4.len{S T:List Ty}{m:List Qgh}(h:Qm4 S T m):m.length<=S.length*T.length:=by
 have:=Qdb m (Qed (Nh S) (Nh T)) h.1 (fun x hx=>by
  obtain⟨a,b⟩:=x;have:=h.2 _ hx;unfold Qed;rw[List.mem_flatMap];exact⟨a,this.1,aw.2 ⟨b,this.2,rfl⟩⟩)
 rw[Qan]at this;simpa [Nh]using this
def Ql1(R:Da->Da->Prop)(a b:Kd):Prop:=a.signs=b.signs/\a.base=b.base/\(a.base=[64]->R a.name b.name)
def Qj3(S T:List Ty)(R:Da->Da->Prop)(t:Ty)(st:UInt8)(g:Fd):Prop:=
 match Bh t.fields g.tag with
 |none=>st=82
 |some f=>st=69\/(Ql1 R f.kind g.kind/\(st=82->Mb S f=Mb T g))
def Qcs(S T:List Ty)(R:Da->Da->Prop)(a b:Da):Prop:=∃t u,B0 S a=some t/\B0 T b=some u/\t.sort=u.sort/\∀g∈u.fields,Qj3 S T R t u.sort g
abbrev inM(m:List Qgh)(a b:Da):Prop:=(a,b)∈m
theorem Ql1.mono{R Q:Da->Da->Prop}(h:∀a b,R a b->Q a b){a b:Kd}(hk:Ql1 R a b):Ql1 Q a b:=⟨hk.1,hk.2.1,fun e=>h _ _ (hk.2.2 e)⟩
theorem Qj3.mono{S T:List Ty}{R Q:Da->Da->Prop}(h:∀a b,R a b->Q a b){t:Ty}{st:UInt8}{g:Fd}(hk:Qj3 S T R t st g):Qj3 S T Q t st g:=by
 unfold Qj3 at hk ⊢;cases hf:Bh t.fields g.tag with
 |none=>rw[hf]at hk;exact hk
 |some f=>
  rw[hf]at hk;rcases hk with hk|⟨x,y⟩
  ·exact .inl hk
  exact .inr ⟨x.mono h,y⟩
theorem Qcs.mono{S T:List Ty}{R Q:Da->Da->Prop}(h:∀a b,R a b->Q a b){a b:Da}(hk:Qcs S T R a b):Qcs S T Q a b:=by
 obtain⟨t,u,e1,e2,e3,e4⟩:=hk;exact⟨t,u,e1,e2,e3,fun g hg=>(e4 g hg).mono h⟩
def Qg3(S T:List Ty)(m m':List Qgh):Prop:=∀a b,(a,b)∈m'->(a,b)∉m->Qcs S T (inM m') a b
theorem Qg3.trans{S T:List Ty}{m1 m2 m3:List Qgh}(h1:Qg3 S T m1 m2)(h2:Qg3 S T m2 m3)(hs:∀p∈m2,p∈m3):Qg3 S T m1 m3:=by
 intro a b h3 hn;by_cases h:(a,b)∈m2
 ·exact(h1 a b h hn).mono fun x y hxy=>hs _ hxy
 exact h2 a b h3 h
def Z8(ρ:Da->Da)(k:Kd):Kd:=if k.base=[64]then {k with name:=ρ k.name} else k
def Xi(ρ:Da->Da)(st:UInt8)(f:Fd):Fd:=if st=69 then f else {f with kind:=Z8 ρ f.kind}
def Qcu(ρ:Da->Da)(t:Ty):Ty:={t with name:=ρ t.name,fields:=t.fields.map (Xi ρ t.sort)}
theorem Zu(ρ:Da->Da)(k:Kd):(Z8 ρ k).signs=k.signs:=by unfold Z8;split<;>rfl
theorem Rh(ρ:Da->Da)(k:Kd):(Z8 ρ k).base=k.base:=by unfold Z8;split<;>rfl
theorem Pd{ρ:Da->Da}{k:Kd}(h:k.base=[64]):(Z8 ρ k).name=ρ k.name:=by unfold Z8;rw[if_pos h]
theorem Qke(ρ:Da->Da)(st:UInt8)(f:Fd):(Xi ρ st f).tag=f.tag:=by unfold Xi;split<;>rfl
theorem Qf7(ρ:Da->Da)(st:UInt8)(f:Fd):(Xi ρ st f).given=f.given:=by unfold Xi;split<;>rfl
theorem Rb{ρ:Da->Da}{st:UInt8}(h:st≠69)(f:Fd):(Xi ρ st f).kind=Z8 ρ f.kind:=by unfold Xi;rw[if_neg h]
def inN(ns:List Da)(k:Kd):Prop:=k.base=[64]->k.name∈ns
structure Ren(S T:List Ty)(ns:List Da)(ρ:Da->Da):Prop where
 get:∀n∈ns,∃t,B0 S n=some t/\B0 T (ρ n)=some (Qcu ρ t)/\Du t/\(t.sort≠69->∀f∈t.fields,inN ns f.kind)
 inj:∀a∈ns,∀b∈ns,ρ a=ρ b->a=b
theorem Ren.met{S T:List Ty}{ns:List Da}{ρ:Da->Da}(h:Ren S T ns ρ):∀(n:Nat) (k:Kd) (out:List Da),inN ns k->(∀x∈out,x∈ns) ->
  Tw T n (Z8 ρ k) (out.map ρ)=(Tw S n k out).map ρ/\∀x∈Tw S n k out,x∈ns
 |0,k,out,_,ho=>⟨rfl,ho⟩
 |n+1,k,out,hk,ho=>by
  by_cases hb:k.base=[64]
  ·have hkn:=hk hb;have hmem:ρ k.name∈out.map ρ↔k.name∈out:=by
    rw[aw];exact⟨fun⟨y,hy,e⟩=>by rw[<-h.inj y (ho y hy) k.name hkn e];exact hy,fun hy=>⟨_,hy,rfl⟩⟩
   by_cases hin:k.name∈out
   ·rw[Tw,Tw,if_neg (by rw[Pd hb];exact fun hh=>hh.2 (hmem.2 hin)),if_neg (fun hh=>hh.2 hin)];exact⟨rfl,ho⟩
   obtain⟨t,e1,e2,e3,e4⟩:=h.get _ hkn;have ho2:∀x∈out++[k.name],x∈ns:=fun x hx=>by
    rcases af.1 hx with hx|hx
    ·exact ho x hx
    simp at hx;subst hx;exact hkn
   rw[Tw,Tw,if_pos ⟨by rw[Rh];exact hb,by rw[Pd hb];exact fun hh=>hin (hmem.1 hh)⟩,if_pos ⟨hb,hin⟩,Pd hb,e1,e2];simp only;rw[show (Qcu ρ t).sort=t.sort from rfl,show (Qcu ρ t).fields=t.fields.map (Xi ρ t.sort)from rfl];have em:out.map ρ++[ρ k.name]=(out++[k.name]).map ρ:=aK;by_cases h69:t.sort=69
   ·rw[if_pos h69,if_pos h69];exact⟨em,ho2⟩
   rw[if_neg h69,if_neg h69,em];have key:∀(fs:List Fd),(∀f∈fs,inN ns f.kind)->∀(o:List Da),(∀x∈o,x∈ns) ->
     (fs.map (Xi ρ t.sort)).foldl (fun o f=>Tw T n f.kind o) (o.map ρ)=(fs.foldl (fun o f=>Tw S n f.kind o) o).map ρ/\∀x∈fs.foldl (fun o f=>Tw S n f.kind o) o,x∈ns:=by
    intro fs;induction fs with
    |nil=>intro _ o ho;exact⟨rfl,ho⟩
    |cons f fs ih=>
     intro hfs o ho;obtain⟨m1,m2⟩:=h.met n f.kind o (hfs f aK) ho;simp only[ax,List.foldl_cons];rw[Rb h69,m1];exact ih (fun g hg=>hfs g (by simp[hg])) _ m2
   exact key t.fields (e4 h69) _ ho2
  rw[Tw,Tw,if_neg (fun hh=>hb (by rw[Rh]at hh;exact hh.1)),if_neg (fun hh=>hb hh.1)];exact⟨rfl,ho⟩
theorem Ren.stand{S T:List Ty}{ns:List Da}{ρ:Da->Da}(h:Ren S T ns ρ):∀(n:Nat) (k:Kd),inN ns k->Qb5 k->Dq T n (Z8 ρ k)=Dq S n k
 |0,_,_,_=>rfl
 |n+1,k,hk,hb=>by
  rw[Dq,Dq,Zu,Rh];split
  ·rfl
  split
  ·rfl
  split
  ·rfl
  rename_i h1;split
  ·rfl
  rename_i h2;split
  ·rfl
  rename_i h3;have hb64:k.base=[64]:=by
   rcases hb with⟨hb,_⟩|⟨hb|hb|hb,_⟩
   ·exact hb
   ·exact absurd hb h1
   ·exact absurd hb h2
   exact absurd hb h3
  obtain⟨t,e1,e2,e3,e4⟩:=h.get _ (hk hb64);rw[Pd hb64,e1,e2];simp only;rw[show (Qcu ρ t).sort=t.sort from rfl,show (Qcu ρ t).fields=t.fields.map (Xi ρ t.sort)from rfl];split
  ·rfl
  cases hf:t.fields with
  |nil=>rfl
  |cons f fs=>
   simp only[ax];rw[Qke];split
   ·rfl
   rename_i h69;rw[Rb h69,h.stand n f.kind (e4 h69 f eK) ((e3.2.2.1.1 f eK).2.2.2.2 h69).1.2.1]
theorem Ren.of{S T:List Ty}{ns:List Da}{ρ:Da->Da}(h:Ren S T ns ρ){st:UInt8}{f:Fd}(h69:st≠69)(hf:Xj st f)(hk:inN ns f.kind):Mb T (Xi ρ st f)=Mb S f:=by
 unfold Mb;rw[Qf7,Rb h69];unfold Tx;rw[h.stand 10 f.kind hk (hf.2.2.2.2 h69).1.2.1]
theorem Qe{t:Ty}(hd:t.fields.Pairwise fun g f=>g.name≠f.name/\g.tag<f.tag){g:Fd}(hgm:g∈t.fields):Bh t.fields g.tag=some g:=by
 cases h:Bh t.fields g.tag with
 |none=>
  have:=List.find?_eq_none.1 h g hgm;simp at this
 |some f=>
  have hm:=List.mem_of_find?_eq_some h;have ht:=List.find?_some h;simp only[decide_eq_true_eq]at ht;obtain⟨i,hi,rfl⟩:=List.mem_iff_getElem.1 hm;obtain⟨j,hj,rfl⟩:=List.mem_iff_getElem.1 hgm;rw[List.pairwise_iff_getElem]at hd;rcases Nat.lt_trichotomy i j with hij|hij|hij
  ·have:=(hd i j hi hj hij).2;omega
  ·subst hij;rfl
  have:=(hd j i hj hi hij).2;omega
theorem Ren.ends{S T:List Ty}{ns:List Da}{ρ:Da->Da}(h:Ren S T ns ρ):∀(n:Nat) (t:Ty),(t.sort≠69->∀f∈t.fields,inN ns f.kind)->Ca T n (Qcu ρ t)=Ca S n t
 |0,_,_=>rfl
 |n+1,t,ht=>by
  unfold Ca;by_cases h85:t.sort=85
  ·have h69:t.sort≠69:=eC;unfold Gp;rw[show (Qcu ρ t).sort=t.sort from rfl,show (Qcu ρ t).fields=t.fields.map (Xi ρ t.sort)from rfl,if_pos h85,if_pos h85];cases hf:t.fields with
   |nil=>rfl
   |cons f fs=>
    simp only[ax];rw[Rb h69,Zu,Rh];by_cases hc:f.kind.signs=[]/\f.kind.base=[64]
    ·rw[if_pos hc,if_pos hc,Pd hc.2];obtain⟨u,e1,e2,e3,e4⟩:=h.get _ (ht h69 f eK hc.2);rw[e1,e2];exact h.ends n u e4
    rw[if_neg hc,if_neg hc]
  have e1:Gp T (Qcu ρ t)=none:=if_neg h85;have e2:Gp S t=none:=if_neg h85;rw[e1,e2]
def Nc(v:Vl):Vl:=v.kids.headD v
def LOk(v:Vl)(r:Vl × Bool):Prop:=(r.2=false->r.1=v)/\(r.2=true->(Ay r.1).length<(Ay v).length)
theorem LOk.le{v:Vl}{r:Vl × Bool}(h:LOk v r):(Ay r.1).length<=(Ay v).length:=by
 cases e:r.2 with
 |false=>rw[h.1 e];exact Aq _
 |true=>exact Nat.le_of_lt (h.2 e)
theorem LOk.same(v:Vl):LOk v (v,false):=⟨fun _=>rfl,fun h=>Bool.noConfusion h⟩
def Cp(ps:List (List UInt8)):Nat:=(ps.map fun p=>p.length+1).sum
theorem Cu(p:List UInt8)(ps:List (List UInt8)):Cp (p::ps)=p.length+1+Cp ps:=d7
theorem Bf(c:UInt8):∀ps:List (List UInt8),(Am c ps).length=Cp ps - 1
 |[]=>rfl
 |[p]=>by simp[Am,Cp]
 |p::q::ps=>by
  rw[Cj c p aK,ah,List.length_cons,Bf c (q::ps),Cu p,Cu q];omega
theorem E3(w:UInt8)(tx:List UInt8)(tg:Nat)(ks:List Vl):Ay (.mk w tx tg ks)=Fl w tx tg (ks.map Ay):=by rw[Ay,Tf]
theorem J6(p:Fd × Vl):(Ay (Cz p)).length=(Bc p.1.tag).length+1+(Ay p.2).length:=by simp[Cz,Ay,Dr,Fl,Am];omega
theorem So{fs:List Fd}{n:Nat}{f:Fd}(h:Bh fs n=some f):f∈fs/\f.tag=n:=⟨(Br h).2,(Br h).1⟩
end Go.Proofs.YtkigmebejmmikaaGreatDoor
