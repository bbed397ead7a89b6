/- Texts joined. Conditions: as each theorem names them. -/
import Derived.Laws.Append
import Derived.Shelf.Strings.SlTrimAscii
import Derived.Shelf.Strings.Prefix
import Derived.Shelf.Strings.Search3
import Derived.Shelf.Strings.Count
import Derived.Shelf.Strings.OnBuilder
import Derived.Shelf.SlicesE.Clone
import Derived.Test.YtmmhmlmfhpfgbaaGreatDoorProg
import Derived.Lib.IndexLaws
import Derived.Maps.OwnSet
import Derived.Maps.OwnOps
import Derived.StringKeys
import Derived.Deep.RegionWith
import Derived.Deep.MidRow
import Derived.Deep.AppendLies
import Derived.BigQuiet
import Derived.Deep.QuietTactic
import Derived.Test.YtmmhmlmfhpfgbaaGreatDoorB02
set_option maxRecDepth 100000
set_option maxHeartbeats 32000000
set_option linter.unusedVariables false
set_option linter.unusedSimpArgs false
namespace Go.Proofs.YtmmhmlmfhpfgbaaGreatDoor
open Go.RowKit Go.Proofs.Tryz
inductive Vl where
 |mk (what:UInt8) (text:List UInt8) (tag:Nat) (kids:List Vl)
def Vl.what:Vl->UInt8|.mk w _ _ _=>w
def Vl.text:Vl->List UInt8|.mk _ t _ _=>t
def Vl.tag:Vl->Nat|.mk _ _ g _=>g
def Vl.kids:Vl->List Vl|.mk _ _ _ k=>k
def Gl(w:UInt8)(tx:List UInt8)(tg:Nat)(ps:List (List UInt8)):List UInt8:=
 if w=116 then 39::(tx++[39])
 else if w=91 then 91::(Ax 44 ps++[93])
 else if w=63 then(match ps with|[]=>[45]|_=>43::Ax 44 ps)
 else if w=61 then Az tg++61::Ax 44 ps
 else if w=82 then 123::(Ax 44 ps++[125])
 else if w=85 then 60::(Az tg++61::(Ax 44 ps++[62]))
 else if w=69 then 35::Az tg
 else tx
mutual
def Aw:Vl->List UInt8
 |.mk w tx tg ks=>Gl w tx tg (Di ks)
def Di:List Vl->List (List UInt8)
 |[]=>[]
 |x::xs=>Aw x::Di xs
end
theorem Sy:∀ks:List Vl,Di ks=ks.map Aw
 |[]=>rfl
 |x::xs=>by rw[Di,Sy xs];rfl
mutual
def J4:Vl->Nat
 |.mk w _ _ ks=>if w=61 then Jj ks else Jj ks+1
def Jj:List Vl->Nat
 |[]=>0
 |x::xs=>max (J4 x) (Jj xs)
end
theorem Yf:∀(ks:List Vl) (d:Nat),Jj ks<=d↔∀x∈ks,J4 x<=d
 |[],d=>by simp[Jj]
 |x::xs,d=>by rw[Jj,Nat.max_le,Yf xs d];simp
def Dk:List UInt8:=[121,101,115]
def H7:List UInt8:=[110,111]
def Ea(p:Fd × Vl):Vl:=.mk 61 [] p.1.tag [p.2]
inductive Ge(S:List Ty):Nat->Kd->Vl->Prop
 |n {d:Nat} {k:Kd} {m:Nat} (hs:k.signs=[]) (hb:k.base=[110]) (h:m<=999999):Ge S (d+1) k (.mk 110 (Az m) 0 [])
 |t {d:Nat} {k:Kd} {s:List UInt8} (hs:k.signs=[]) (hb:k.base=[116]) (h:Da s=true):Ge S (d+1) k (.mk 116 s 0 [])
 |f {d:Nat} {k:Kd} {b:Bool} (hs:k.signs=[]) (hb:k.base=[102]):Ge S (d+1) k (.mk 102 (if b then Dk else H7) 0 [])
 |lst {d:Nat} {k:Kd} {r:List UInt8} {ks:List Vl} (hs:k.signs=91::r) (hl:ks.length<=20) (h:∀x∈ks,Ge S d k.part x):Ge S (d+1) k (.mk 91 [] 0 ks)
 |non {d:Nat} {k:Kd} {r:List UInt8} (hs:k.signs=63::r):Ge S (d+1) k (.mk 63 [] 0 [])
 |som {d:Nat} {k:Kd} {r:List UInt8} {x:Vl} (hs:k.signs=63::r) (h:Ge S d k.part x):Ge S (d+1) k (.mk 63 [] 0 [x])
 |enm {d:Nat} {k:Kd} {t:Ty} {f:Fd} (hs:k.signs=[]) (hb:k.base=[64]) (ht:B9 S k.name=some t) (h9:t.sort=69) (hf:Ap t.fields f.tag=some f):Ge S (d+1) k (.mk 69 [] f.tag [])
 |uni {d:Nat} {k:Kd} {t:Ty} {f:Fd} {x:Vl} (hs:k.signs=[]) (hb:k.base=[64]) (ht:B9 S k.name=some t) (h5:t.sort=85) (hf:Ap t.fields f.tag=some f) (h:Ge S d f.kind x):Ge S (d+1) k (.mk 85 [] f.tag [x])
 |rcd {d:Nat} {k:Kd} {t:Ty} {fs:List (Fd × Vl)} (hs:k.signs=[]) (hb:k.base=[64]) (ht:B9 S k.name=some t) (h2:t.sort=82) (hf:∀p∈fs,Ap t.fields p.1.tag=some p.1) (h:∀p∈fs,Ge S d p.1.kind p.2)
   (hn:∀p∈fs,Aw p.2≠Kr S p.1) (hp:fs.Pairwise fun p q=>p.1.tag<q.1.tag):Ge S (d+1) k (.mk 82 [] 0 (fs.map Ea))
theorem Qma(p:Fd × Vl):J4 (Ea p)=J4 p.2:=by simp[Ea,J4,Jj]
theorem E7(S:List Ty):∀(n:Nat) (k:Kd) (v:Vl),Ge S n k v->∀d,Ge S d k v↔J4 v<=d:=by
 intro n;induction n with
 |zero=>intro k v h;cases h
 |succ n ih=>
  intro k v h d;cases d with
  |zero=>
   constructor
   ·intro h;cases h
   intro hd;cases h<;>simp[J4]at hd
  |succ d=>
   cases h with
   |n hs hb h=>exact⟨fun _=>by simp[J4,Jj],fun _=>.n hs hb h⟩
   |t hs hb h=>exact⟨fun _=>by simp[J4,Jj],fun _=>.t hs hb h⟩
   |f hs hb=>exact⟨fun _=>by simp[J4,Jj],fun _=>.f hs hb⟩
   |non hs=>exact⟨fun _=>by simp[J4,Jj],fun _=>.non hs⟩
   |enm hs hb ht h9 hf=>exact⟨fun _=>by simp[J4,Jj],fun _=>.enm hs hb ht h9 hf⟩
   |@lst _ _ r ks hs hl h=>
    have e:J4 (.mk 91 [] 0 ks)<=d+1↔∀x∈ks,J4 x<=d:=by rw[<-Yf];simp[J4]
    rw[e];constructor
    ·intro hv x hx;cases hv with
     |lst _ _ h2=>exact(ih _ _ (h x hx) d).1 (h2 x hx)
    intro hv;exact .lst hs hl fun x hx=>(ih _ _ (h x hx) d).2 (hv x hx)
   |@som _ _ r x hs h=>
    have e:J4 (.mk 63 [] 0 [x])<=d+1↔J4 x<=d:=by simp[J4,Jj]
    rw[e];constructor
    ·intro hv;cases hv with
     |som _ h2=>exact(ih _ _ h d).1 h2
    intro hv;exact .som hs ((ih _ _ h d).2 hv)
   |@uni _ _ t f x hs hb ht h5 hf h=>
    have e:J4 (.mk 85 [] f.tag [x])<=d+1↔J4 x<=d:=by simp[J4,Jj]
    rw[e];constructor
    ·intro hv;generalize hg:f.tag=g at hv;cases hv with
     |uni hs2 hb2 ht2 h52 hf2 h2=>
      rw[ht]at ht2;injection ht2 with ht2;subst ht2;rw[<-hg,hf]at hf2;injection hf2 with hf2;subst hf2;exact(ih _ _ h d).1 h2
    intro hv;exact .uni hs hb ht h5 hf ((ih _ _ h d).2 hv)
   |@rcd _ _ t fs hs hb ht h2 hf h hn hp=>
    have e:J4 (.mk 82 [] 0 (fs.map Ea))<=d+1↔∀p∈fs,J4 p.2<=d:=by
     have:J4 (.mk 82 [] 0 (fs.map Ea))=Jj (fs.map Ea)+1:=by simp[J4]
     rw[this,Nat.succ_le_succ_iff,Yf];constructor
     ·intro h p hp;have:=h _ (aq hp);rwa [Qma]at this
     intro h x hx;obtain⟨p,hp,rfl⟩:=ay.1 hx;rw[Qma];exact h p hp
    rw[e];constructor
    ·intro hv p hp;generalize hg:fs.map Ea=ks at hv;cases hv with
     |@rcd _ _ t2 fs2 hs2 hb2 ht2 h22 hf2 h2 hn2 hp2=>
      rw[ht]at ht2;injection ht2 with ht2;subst ht2;have hm:Ea p∈fs2.map Ea:=hg ▸ aq hp;obtain⟨q,hq,eq⟩:=ay.1 hm;have e1:q.1.tag=p.1.tag:=by injection eq
      have e2:q.2=p.2:=by injection eq with _ _ _ e4;injection e4
      have e3:q.1=p.1:=by have:=hf2 q hq;rw[e1,hf p hp]at this;injection this with this;exact this.symm
      have:=h2 q hq;rw[e2,e3]at this;exact(ih _ _ (h p hp) d).1 this
    intro hv;exact .rcd hs hb ht h2 hf (fun p hp=>(ih _ _ (h p hp) d).2 (hv p hp)) hn hp
def Sl(s:List UInt8):Option (Nat × List UInt8):=match Cx (s.takeWhile Bh)with
 |some n=>some (n,s.dropWhile Bh)
 |none=>none
def Gs(fs:List Fd)(s:List UInt8):Option (Fd × List UInt8):=match Sl s with
 |some (n,r)=>if n<=200 then(match Ap fs n with|some f=>some (f,r)|none=>none)else none
 |none=>none
def As(c:UInt8):List UInt8->Option (List UInt8)
 |x::r=>if x=c then some r else none
 |[]=>none
def Nq(s:List UInt8):Option (List UInt8 × List UInt8):=match As 39 s with
 |none=>none
 |some r=>match As 39 (r.dropWhile Cn)with
  |none=>none
  |some q=>if (r.takeWhile Cn).length<=12 then some (r.takeWhile Cn,q)else none
def Gk:List UInt8->List UInt8->Option (List UInt8)
 |[],s=>some s
 |c::p,s=>match As c s with|none=>none|some r=>Gk p r
def P7(s:List UInt8):Option (Bool × List UInt8):=match Gk Dk s with
 |some r=>some (true,r)
 |none=>match Gk H7 s with|some r=>some (false,r)|none=>none
def De(K:List UInt8->Option (Vl × List UInt8)):Nat->List UInt8->Option (List Vl × List UInt8)
 |0,_=>none
 |m+1,s=>match K s with
  |none=>none
  |some (v,r)=>match As 44 r with
   |some q=>(match De K m q with|some (vs,z)=>some (v::vs,z)|none=>none)
   |none=>match As 93 r with|some q=>some ([v],q)|none=>none
def Xx(K:List UInt8->Option (Vl × List UInt8))(m:Nat)(s:List UInt8):Option (Vl × List UInt8):=match As 91 s with
 |none=>none
 |some r=>match As 93 r with
  |some q=>some (.mk 91 [] 0 [],q)
  |none=>match De K m r with|some (vs,q)=>if vs.length<=20 then some (.mk 91 [] 0 vs,q)else none|none=>none
def Qfg(K:List UInt8->Option (Vl × List UInt8))(s:List UInt8):Option (Vl × List UInt8):=match As 45 s with
 |some q=>some (.mk 63 [] 0 [],q)
 |none=>match As 43 s with
  |none=>none
  |some r=>match K r with|some (v,q)=>some (.mk 63 [] 0 [v],q)|none=>none
def Dh(K:Kd->List UInt8->Option (Vl × List UInt8))(fs:List Fd)(s:List UInt8):Option ((Fd × Vl) × List UInt8):=match Gs fs s with
 |none=>none
 |some (f,r)=>match As 61 r with
  |none=>none
  |some q=>match K f.kind q with|some (v,z)=>some ((f,v),z)|none=>none
def Eo(S:List Ty)(K:Kd->List UInt8->Option (Vl × List UInt8))(fs:List Fd):Nat->Nat->List UInt8->Option (List (Fd × Vl) × List UInt8)
 |0,_,_=>none
 |m+1,last,s=>match Dh K fs s with
  |none=>none
  |some (p,r)=>if p.1.tag<=last\/Aw p.2=Kr S p.1 then none else match As 44 r with
   |some q=>(match Eo S K fs m p.1.tag q with|some (ps,z)=>some (p::ps,z)|none=>none)
   |none=>match As 125 r with|some q=>some ([p],q)|none=>none
def Kp(S:List Ty)(K:Kd->List UInt8->Option (Vl × List UInt8))(t:Ty)(s:List UInt8):Option (Vl × List UInt8):=
 if t.sort=69 then(match As 35 s with
  |none=>none
  |some r=>match Gs t.fields r with|some (f,q)=>some (.mk 69 [] f.tag [],q)|none=>none)
 else if t.sort=85 then(match As 60 s with
  |none=>none
  |some r=>match Dh K t.fields r with
   |none=>none
   |some (p,q)=>match As 62 q with|some z=>some (.mk 85 [] p.1.tag [p.2],z)|none=>none)
 else match As 123 s with
  |none=>none
  |some r=>match As 125 r with
   |some q=>some (.mk 82 [] 0 [],q)
   |none=>match Eo S K t.fields 201 0 r with|some (ps,q)=>some (.mk 82 [] 0 (ps.map Ea),q)|none=>none
def Am(S:List Ty)(m:Nat):Nat->Kd->List UInt8->Option (Vl × List UInt8)
 |0,_,_=>none
 |d+1,k,s=>match k.signs with
  |c::_=>if c=91 then Xx (Am S m d k.part) m s else Qfg (Am S m d k.part) s
  |[]=>
   if k.base=[110]then(match Sl s with|some (n,r)=>some (.mk 110 (Az n) 0 [],r)|none=>none)
   else if k.base=[116]then(match Nq s with|some (x,r)=>some (.mk 116 x 0 [],r)|none=>none)
   else if k.base=[102]then(match P7 s with|some (b,r)=>some (.mk 102 (if b then Dk else H7) 0 [],r)|none=>none)
   else match B9 S k.name with
    |none=>none
    |some t=>Kp S (Am S m d) t s
theorem Cs{c:UInt8}{s r:List UInt8}:As c s=some r↔s=c::r:=by
 cases s with
 |nil=>simp[As]
 |cons x t=>
  by_cases h:x=c
  ·subst h;simp[As]
  simp[As,h]
theorem Bp(c:UInt8)(r:List UInt8):As c (c::r)=some r:=if_pos rfl
theorem Dp{c x:UInt8}(h:x≠c)(r:List UInt8):As c (x::r)=none:=if_neg h
theorem Gu{p s r:List UInt8}:Gk p s=some r↔s=p++r:=by
 induction p generalizing s with
 |nil=>simp[Gk]
 |cons c p ih=>
  unfold Gk;cases h:As c s with
  |none=>
   simp only[false_iff,reduceCtorEq];intro e;subst e;rw[aw,Bp]at h;cases h
  |some q=>rw[Cs]at h;subst h;simp[ih]
def Ri(r:List UInt8):Prop:=∀c t,r=c::t->Bh c=false
theorem Ns:Ri []:=by intro c t h;cases h
theorem J9{c:UInt8}(r:List UInt8)(h:Bh c=false):Ri (c::r):=by intro x t e;injection e with e;subst e;exact h
theorem Qi6{a r:List UInt8}(ha:a.all Bh=true)(hr:Ri r):(a++r).takeWhile Bh=a/\(a++r).dropWhile Bh=r:=by
 cases r with
 |nil=>
  rw[List.append_nil];induction a with
  |nil=>exact⟨rfl,rfl⟩
  |cons c a ih=>
   rw[List.all_cons,ax]at ha;obtain⟨i1,i2⟩:=ih ha.2;rw[List.takeWhile_cons_of_pos ha.1,List.dropWhile_cons_of_pos ha.1,i1,i2];exact io
 |cons c t=>exact Gh ha ⟨c,t,rfl,hr c t rfl⟩
theorem Qbz{s r:List UInt8}{n:Nat}(h:Sl s=some (n,r)):n<=999999/\s=Az n++r/\Ri r:=by
 unfold Sl at h;cases hd:Cx (s.takeWhile Bh)with
 |none=>rw[hd]at h;cases h
 |some m=>
  rw[hd]at h;simp only[aj,aF]at h;obtain⟨rfl,rfl⟩:=h;obtain⟨h1,h2⟩:=Bw.1 hd;refine⟨h1,by rw[<-h2,List.takeWhile_append_dropWhile],fun c t e=>?_⟩;have:=List.head?_dropWhile_not Bh s;rw[e]at this;simpa using this
theorem Qds{n:Nat}{r:List UInt8}(h:n<=999999)(hr:Ri r):Sl (Az n++r)=some (n,r):=by
 obtain⟨e1,e2⟩:=Qi6 (Np n) hr;unfold Sl;rw[e1,e2,Bw.2 ⟨h,rfl⟩]
theorem Ay{fs:List Fd}{n:Nat}{f:Fd}(h:Ap fs n=some f):f.tag=n/\f∈fs:=by
 unfold Ap at h;have:=List.find?_some h;exact⟨by simpa using this,List.mem_of_find?_eq_some h⟩
theorem Kc{fs:List Fd}{s r:List UInt8}{f:Fd}(h:Gs fs s=some (f,r)):f.tag<=200/\Ap fs f.tag=some f/\s=Az f.tag++r/\Ri r:=by
 unfold Gs at h;cases hn:Sl s with
 |none=>rw[hn]at h;cases h
 |some q=>
  obtain⟨n,z⟩:=q;rw[hn]at h;simp only at h;split at h
  ·rename_i h2;cases hf:Ap fs n with
   |none=>rw[hf]at h;cases h
   |some g=>
    rw[hf]at h;simp only[aj,aF]at h;obtain⟨rfl,rfl⟩:=h;have e:=(Ay hf).1;obtain⟨_,e2,e3⟩:=Qbz hn;rw[e];exact⟨h2,hf,e2,e3⟩
  cases h
theorem Qe6{fs:List Fd}{f:Fd}{r:List UInt8}(h:f.tag<=200)(hf:Ap fs f.tag=some f)(hr:Ri r):Gs fs (Az f.tag++r)=some (f,r):=by
 unfold Gs;rw[Qds aI hr];simp[h,hf]
theorem Qfr:Cn 39=false:=aL
theorem Qbq{s b r:List UInt8}:Nq s=some (b,r)↔Da b=true/\s=39::(b++39::r):=by
 unfold Nq;cases h:As 39 s with
 |none=>
  simp only[reduceCtorEq,false_iff,not_and];rintro _ rfl;rw[Bp]at h;cases h
 |some q=>
  rw[Cs]at h;subst h;simp only[List.cons.injEq,true_and];cases h:As 39 (q.dropWhile Cn)with
  |none=>
   simp only[reduceCtorEq,false_iff,not_and];rintro hb rfl;have hb2:b.all Cn=true:=by unfold Da at hb;simp only[ax]at hb;exact hb.2
   rw[(Gh hb2 ⟨39,r,rfl,Qfr⟩).2,Bp]at h;cases h
  |some z=>
   rw[Cs]at h;have eq:q=q.takeWhile Cn++39::z:=by rw[<-h,List.takeWhile_append_dropWhile]
   simp only;constructor
   ·intro h2;split at h2
    ·rename_i hl;simp only[aj,aF]at h2;obtain⟨rfl,rfl⟩:=h2;exact⟨by unfold Da;simp only[ax];exact⟨by simpa using hl,Kh q⟩,eq⟩
    cases h2
   rintro⟨hb,rfl⟩;unfold Da at hb;simp only[ax,decide_eq_true_eq]at hb;obtain⟨e1,e2⟩:=Gh hb.2 ⟨39,r,rfl,Qfr⟩;rw[e2]at h;injection h with _ h;subst h;rw[e1,if_pos hb.1]
theorem Zr{s r:List UInt8}{b:Bool}:P7 s=some (b,r)↔s=(if b then Dk else H7)++r:=by
 unfold P7;cases h:Gk Dk s with
 |some q=>
  rw[Gu]at h;subst h;cases b<;>simp[Dk,H7]
 |none=>
  simp only;cases h2:Gk H7 s with
  |some q=>
   rw[Gu]at h2;subst h2;cases b<;>simp[Dk,H7]
  |none=>
   simp only[reduceCtorEq,false_iff];rintro rfl;cases b
   ·rw[show Gk H7 ((if false=true then Dk else H7)++r)=some r from Gu.2 rfl]at h2;cases h2
   rw[show Gk Dk ((if true=true then Dk else H7)++r)=some r from Gu.2 rfl]at h;cases h
theorem Qec{K:List UInt8->Option (Vl × List UInt8)}{P:Vl->Prop}(hK:∀s v r,K s=some (v,r)->P v/\s=Aw v++r):∀(m:Nat) (s:List UInt8) (vs:List Vl) (r:List UInt8),
  De K m s=some (vs,r)->vs≠[]/\vs.length<=m/\(∀x∈vs,P x)/\s=Ax 44 (vs.map Aw)++93::r:=by
 intro m;induction m with
 |zero=>intro s vs r h;cases h
 |succ m ih=>
  intro s vs r h;unfold De at h;cases hk:K s with
  |none=>rw[hk]at h;cases h
  |some q=>
   obtain⟨v,z⟩:=q;rw[hk]at h;simp only at h;obtain⟨hp,rfl⟩:=hK _ _ _ hk;cases hb:As 44 z with
   |some q=>
    rw[hb]at h;simp only at h;cases hi:De K m q with
    |none=>rw[hi]at h;cases h
    |some y=>
     obtain⟨us,y⟩:=y;rw[hi]at h;simp only[aj,aF]at h;obtain⟨rfl,rfl⟩:=h;obtain⟨h1,h2,h3,h4⟩:=ih _ _ _ hi;rw[Cs]at hb;subst hb;refine⟨by simp,by simp;omega,by simpa using⟨hp,h3⟩,?_⟩;rw[az,Dl 44 _ dU,h4];simp
   |none=>
    rw[hb]at h;simp only at h;cases hb:As 93 z with
    |none=>rw[hb]at h;cases h
    |some q=>
     rw[hb]at h;simp only[aj,aF]at h;obtain⟨rfl,rfl⟩:=h;rw[Cs]at hb;subst hb;exact⟨by simp,by simp,by simpa using hp,by simp[Ax]⟩
theorem V9{K:List UInt8->Option (Vl × List UInt8)}:∀(m:Nat) (vs:List Vl) (r:List UInt8),(∀x∈vs,∀r,Ri r->K (Aw x++r)=some (x,r))->vs≠[]->vs.length<=m ->
  De K m (Ax 44 (vs.map Aw)++93::r)=some (vs,r)
 |0,vs,r,_,h,hl=>by cases vs with|nil=>exact absurd rfl h|cons=>simp at hl
 |m+1,[],r,_,h,_=>absurd rfl h
 |m+1,[x],r,hK,_,_=>by
  have e:=hK x aK (93::r) (J9 _ aL);simp only[az,List.map_nil,Ax];unfold De;rw[e];simp only[Dp (show (93:UInt8)≠44 by decide),Bp]
 |m+1,x::y::vs,r,hK,_,hl=>by
  have ih:=V9 m (y::vs) r (fun z hz=>hK z ee) aK eW;have e:=hK x aK (44::(Ax 44 ((y::vs).map Aw)++93::r)) (J9 _ aL);rw[az,Dl 44 _ aK,List.append_assoc,aw];unfold De;rw[e];simp only[Bp,ih]
theorem Sf{K:Kd->List UInt8->Option (Vl × List UInt8)}{P:Fd->Vl->Prop}{fs:List Fd}(hK:∀f∈fs,∀s v r,K f.kind s=some (v,r)->P f v/\s=Aw v++r){s r:List UInt8}{p:Fd × Vl}
  (h:Dh K fs s=some (p,r)):p.1.tag<=200/\Ap fs p.1.tag=some p.1/\P p.1 p.2/\s=Aw (Ea p)++r:=by
 unfold Dh at h;cases ht:Gs fs s with
 |none=>rw[ht]at h;cases h
 |some q=>
  obtain⟨f,z⟩:=q;rw[ht]at h;simp only at h;obtain⟨h1,h2,rfl,_⟩:=Kc ht;cases hb:As 61 z with
  |none=>rw[hb]at h;cases h
  |some q=>
   rw[hb]at h;simp only at h;rw[Cs]at hb;subst hb;cases hk:K f.kind q with
   |none=>rw[hk]at h;cases h
   |some y=>
    obtain⟨v,y⟩:=y;rw[hk]at h;simp only[aj,aF]at h;obtain⟨rfl,rfl⟩:=h;obtain⟨h3,rfl⟩:=hK f (Ay h2).2 _ _ _ hk;exact⟨h1,h2,h3,by simp[Ea,Aw,Di,Gl,Ax]⟩
theorem Rw{K:Kd->List UInt8->Option (Vl × List UInt8)}{fs:List Fd}{p:Fd × Vl}{r:List UInt8}(h1:p.1.tag<=200)(h2:Ap fs p.1.tag=some p.1)(hK:K p.1.kind (Aw p.2++r)=some (p.2,r)):
  Dh K fs (Aw (Ea p)++r)=some (p,r):=by
 have e:Aw (Ea p)++r=Az p.1.tag++(61::(Aw p.2++r)):=by simp[Ea,Aw,Di,Gl,Ax]
 rw[e];unfold Dh;rw[Qe6 h1 h2 (J9 _ aL)];simp only[Bp,hK]
theorem Qgz{S:List Ty}{K:Kd->List UInt8->Option (Vl × List UInt8)}{P:Fd->Vl->Prop}{fs:List Fd}(hK:∀f∈fs,∀s v r,K f.kind s=some (v,r)->P f v/\s=Aw v++r):∀(m last:Nat) (s:List UInt8) (ps:List (Fd × Vl)) (r:List UInt8),
  Eo S K fs m last s=some (ps,r)->ps≠[]/\(∀p∈ps,last<p.1.tag/\Ap fs p.1.tag=some p.1/\P p.1 p.2/\Aw p.2≠Kr S p.1)/\(ps.Pairwise fun p q=>p.1.tag<q.1.tag)/\s=Ax 44 (ps.map fun p=>Aw (Ea p))++125::r:=by
 intro m;induction m with
 |zero=>intro last s ps r h;cases h
 |succ m ih=>
  intro last s ps r h;unfold Eo at h;cases hk:Dh K fs s with
  |none=>rw[hk]at h;cases h
  |some q=>
   obtain⟨p,z⟩:=q;rw[hk]at h;simp only at h;obtain⟨h1,h2,h3,rfl⟩:=Sf hK hk;split at h
   ·cases h
   rename_i hno;have hno1:last<p.1.tag:=aI;have hno2:Aw p.2≠Kr S p.1:=fun e=>hno (.inr e);cases hb:As 44 z with
   |some q=>
    rw[hb]at h;simp only at h;cases hi:Eo S K fs m p.1.tag q with
    |none=>rw[hi]at h;cases h
    |some y=>
     obtain⟨us,y⟩:=y;rw[hi]at h;simp only[aj,aF]at h;obtain⟨rfl,rfl⟩:=h;obtain⟨i1,i2,i3,i4⟩:=ih _ _ _ _ hi;rw[Cs]at hb;subst hb;refine⟨by simp,?_,?_,?_⟩
     ·intro x hx;rcases aB.1 hx with rfl|hx
      ·exact⟨hno1,h2,h3,hno2⟩
      obtain⟨j1,j2⟩:=i2 x hx;exact⟨by omega,j2⟩
     ·exact List.pairwise_cons.2 ⟨fun x hx=>(i2 x hx).1,i3⟩
     rw[az,Dl 44 _ (by simpa using i1),i4];simp
   |none=>
    rw[hb]at h;simp only at h;cases hb:As 125 z with
    |none=>rw[hb]at h;cases h
    |some q=>
     rw[hb]at h;simp only[aj,aF]at h;obtain⟨rfl,rfl⟩:=h;rw[Cs]at hb;subst hb;refine⟨by simp,?_,by simp,by simp[Ax]⟩;intro x hx;rw[ar]at hx;subst hx;exact⟨hno1,h2,h3,hno2⟩
theorem Yq{S:List Ty}{K:Kd->List UInt8->Option (Vl × List UInt8)}{fs:List Fd}:∀(m last:Nat) (ps:List (Fd × Vl)) (r:List UInt8),
  (∀p∈ps,∀r,Ri r->K p.1.kind (Aw p.2++r)=some (p.2,r))->ps≠[]->(∀p∈ps,last<p.1.tag/\p.1.tag<=200/\Ap fs p.1.tag=some p.1/\Aw p.2≠Kr S p.1)->(ps.Pairwise fun p q=>p.1.tag<q.1.tag)->201<=m+last ->
  Eo S K fs m last (Ax 44 (ps.map fun p=>Aw (Ea p))++125::r)=some (ps,r)
 |0,last,[],r,_,h,_,_,_=>absurd rfl h
 |0,last,p::ps,r,_,_,hp,_,hl=>by have:=hp p aK;omega
 |m+1,last,[],r,_,h,_,_,_=>absurd rfl h
 |m+1,last,[p],r,hK,_,hp,_,hl=>by
  obtain⟨h1,h2,h3,h4⟩:=hp p aK;have e:=Rw h2 h3 (hK p aK (125::r) (J9 _ aL));simp only[az,List.map_nil,Ax];unfold Eo;rw[e];simp only;rw[if_neg cE];simp only[Dp (show (125:UInt8)≠44 by decide),Bp]
 |m+1,last,p::q::ps,r,hK,_,hp,hw,hl=>by
  obtain⟨h1,h2,h3,h4⟩:=hp p aK;obtain⟨w1,w2⟩:=List.pairwise_cons.1 hw;have ih:=Yq m p.1.tag (q::ps) r (fun z hz=>hK z ee) aK (fun z hz=>⟨w1 z hz,(hp z ee).2⟩) w2 aI;have e:=Rw (K:=K) h2 h3 (hK p aK (44::(Ax 44 ((q::ps).map fun p=>Aw (Ea p))++125::r)) (J9 _ aL));rw[az,Dl 44 _ aK,List.append_assoc,aw];unfold Eo;rw[e];simp only;rw[if_neg cE];simp only[Bp,ih]
theorem Kl{k:Kd}(h:Cw k){c:UInt8}{t:List UInt8}(hs:k.signs=c::t):c=91\/c=63:=by
 have:=h.1;rw[hs]at this;simp only[List.all_cons,ax,Bi,Bool.or_eq_true,beq_iff_eq]at this;exact this.1
theorem Na{S:List Ty}(hS:∀t∈S,Ek t){n:List UInt8}{t:Ty}(ht:B9 S n=some t)(h9:t.sort≠69){f:Fd}(hf:f∈t.fields):Cw f.kind/\f.tag<=200:=by
 have h:=(hS t (Bj ht).1).2.2.1.1 f hf;exact⟨(h.2.2.2.2 h9).1,h.2.1⟩
theorem Nb(fs:List (Fd × Vl)):Aw (.mk 82 [] 0 (fs.map Ea))=123::(Ax 44 (fs.map fun p=>Aw (Ea p))++[125]):=by
 simp[Aw,Sy,Gl];rfl
theorem G6(ks:List Vl):Aw (.mk 91 [] 0 ks)=91::(Ax 44 (ks.map Aw)++[93]):=by simp[Aw,Sy,Gl]
theorem Qo(f:Fd)(x:Vl):Aw (.mk 85 [] f.tag [x])=60::(Aw (Ea (f,x))++[62]):=by simp[Aw,Di,Gl,Ea,Ax]
theorem Gq{S:List Ty}(hS:∀t∈S,Ek t)(m:Nat):∀(d:Nat) (k:Kd) (s:List UInt8) (v:Vl) (r:List UInt8),Cw k->Am S m d k s=some (v,r)->Ge S d k v/\s=Aw v++r:=by
 intro d;induction d with
 |zero=>intro k s v r _ h;cases h
 |succ d ih=>
  intro k s v r hk h;unfold Am at h;cases hs:k.signs with
  |cons c t=>
   rw[hs]at h;simp only at h;have hp:=(Jk hk).1;by_cases h91:c=91
   ·subst h91;rw[if_pos rfl]at h;unfold Xx at h;cases hb:As 91 s with
    |none=>rw[hb]at h;cases h
    |some q=>
     rw[hb]at h;simp only at h;rw[Cs]at hb;subst hb;cases hb:As 93 q with
     |some z=>
      rw[hb]at h;simp only[aj,aF]at h;obtain⟨rfl,rfl⟩:=h;rw[Cs]at hb;subst hb;exact⟨.lst hs aK aK,by rw[G6];rfl⟩
     |none=>
      rw[hb]at h;simp only at h;cases hi:De (Am S m d k.part) m q with
      |none=>rw[hi]at h;cases h
      |some y=>
       obtain⟨us,y⟩:=y;rw[hi]at h;simp only at h;split at h
       ·rename_i hl;simp only[aj,aF]at h;obtain⟨rfl,rfl⟩:=h;obtain⟨_,_,i3,i4⟩:=Qec (P:=Ge S d k.part) (fun s v r h=>ih _ _ _ _ hp h) _ _ _ _ hi;exact⟨.lst hs hl i3,by rw[G6,i4];simp⟩
       cases h
   have h63:=(Kl hk hs).resolve_left h91;subst h63;rw[if_neg h91]at h;unfold Qfg at h;cases hb:As 45 s with
   |some q=>
    rw[hb]at h;simp only[aj,aF]at h;obtain⟨rfl,rfl⟩:=h;rw[Cs]at hb;subst hb;exact⟨.non hs,rfl⟩
   |none=>
    rw[hb]at h;simp only at h;cases hb:As 43 s with
    |none=>rw[hb]at h;cases h
    |some q=>
     rw[hb]at h;simp only at h;rw[Cs]at hb;subst hb;cases hi:Am S m d k.part q with
     |none=>rw[hi]at h;cases h
     |some y=>
      obtain⟨x,y⟩:=y;rw[hi]at h;simp only[aj,aF]at h;obtain⟨rfl,rfl⟩:=h;obtain⟨i1,rfl⟩:=ih _ _ _ _ hp hi;exact⟨.som hs i1,by simp[Aw,Di,Gl,Ax]⟩
  |nil=>
   rw[hs]at h;simp only at h;split at h
   ·rename_i hb;cases hn:Sl s with
    |none=>rw[hn]at h;cases h
    |some q=>
     obtain⟨n,q⟩:=q;rw[hn]at h;simp only[aj,aF]at h;obtain⟨rfl,rfl⟩:=h;obtain⟨h1,h2,_⟩:=Qbz hn;exact⟨.n hs hb h1,by rw[h2];simp[Aw,Di,Gl]⟩
   split at h
   ·rename_i hb;cases hn:Nq s with
    |none=>rw[hn]at h;cases h
    |some q=>
     obtain⟨x,q⟩:=q;rw[hn]at h;simp only[aj,aF]at h;obtain⟨rfl,rfl⟩:=h;obtain⟨h1,rfl⟩:=Qbq.1 hn;exact⟨.t hs hb h1,by simp[Aw,Di,Gl]⟩
   split at h
   ·rename_i hb;cases hn:P7 s with
    |none=>rw[hn]at h;cases h
    |some q=>
     obtain⟨x,q⟩:=q;rw[hn]at h;simp only[aj,aF]at h;obtain⟨rfl,rfl⟩:=h;have:=Zr.1 hn;exact⟨.f hs hb,by rw[this];simp[Aw,Di,Gl]⟩
   rename_i b1 b2 b3;have hb:k.base=[64]:=by
    rcases hk.2.1 with h|⟨h|h|h,_⟩
    ·exact h.1
    ·exact absurd h b1
    ·exact absurd h b2
    exact absurd h b3
   cases ht:B9 S k.name with
   |none=>rw[ht]at h;cases h
   |some t=>
    rw[ht]at h;simp only at h;unfold Kp at h;by_cases h9:t.sort=69
    ·rw[if_pos h9]at h;cases hb3:As 35 s with
     |none=>rw[hb3]at h;cases h
     |some q=>
      rw[hb3]at h;simp only at h;rw[Cs]at hb3;subst hb3;cases hg:Gs t.fields q with
      |none=>rw[hg]at h;cases h
      |some y=>
       obtain⟨f,y⟩:=y;rw[hg]at h;simp only[aj,aF]at h;obtain⟨rfl,rfl⟩:=h;obtain⟨_,h2,h3,_⟩:=Kc hg;exact⟨.enm hs hb ht h9 h2,by rw[h3];simp[Aw,Di,Gl]⟩
    rw[if_neg h9]at h;have hK:∀f∈t.fields,∀s v r,Am S m d f.kind s=some (v,r)->Ge S d f.kind v/\s=Aw v++r:=fun f hf s v r hr=>ih _ _ _ _ (Na hS ht h9 hf).1 hr;by_cases h5:t.sort=85
    ·rw[if_pos h5]at h;cases hb3:As 60 s with
     |none=>rw[hb3]at h;cases h
     |some q=>
      rw[hb3]at h;simp only at h;rw[Cs]at hb3;subst hb3;cases hg:Dh (Am S m d) t.fields q with
      |none=>rw[hg]at h;cases h
      |some y=>
       obtain⟨p,y⟩:=y;rw[hg]at h;simp only at h;cases hb4:As 62 y with
       |none=>rw[hb4]at h;cases h
       |some z=>
        rw[hb4]at h;simp only[aj,aF]at h;obtain⟨rfl,rfl⟩:=h;rw[Cs]at hb4;subst hb4;obtain⟨_,h2,h3,rfl⟩:=Sf (P:=fun f v=>Ge S d f.kind v) hK hg;exact⟨.uni hs hb ht h5 h2 h3,by rw[Qo];simp⟩
    rw[if_neg h5]at h;have h2:t.sort=82:=by
     rcases(hS t (Bj ht).1).1 with h|h|h
     ·exact h
     ·exact absurd h h5
     exact absurd h h9
    cases hb3:As 123 s with
    |none=>rw[hb3]at h;cases h
    |some q=>
     rw[hb3]at h;simp only at h;rw[Cs]at hb3;subst hb3;cases hb4:As 125 q with
     |some z=>
      rw[hb4]at h;simp only[aj,aF]at h;obtain⟨rfl,rfl⟩:=h;rw[Cs]at hb4;subst hb4;exact⟨.rcd (fs:=[]) hs hb ht h2 aK aK aK aK,rfl⟩
     |none=>
      rw[hb4]at h;simp only at h;cases hg:Eo S (Am S m d) t.fields 201 0 q with
      |none=>rw[hg]at h;cases h
      |some y=>
       obtain⟨ps,y⟩:=y;rw[hg]at h;simp only[aj,aF]at h;obtain⟨rfl,rfl⟩:=h;obtain⟨_,i2,i3,i4⟩:=Qgz (P:=fun f v=>Ge S d f.kind v) hK _ _ _ _ _ hg;exact⟨.rcd hs hb ht h2 (fun p hp=>(i2 p hp).2.1) (fun p hp=>(i2 p hp).2.2.1) (fun p hp=>(i2 p hp).2.2.2) i3,by rw[Nb,i4];simp⟩
theorem Qfd{S:List Ty}{d:Nat}{k:Kd}{v:Vl}(h:Ge S d k v):∃c t,Aw v=c::t/\c≠93/\c≠125/\c≠44:=by
 cases h with
 |@n _ _ m hs hb h=>
  have e:Aw (.mk 110 (Az m) 0 [])=Az m:=by simp[Aw,Di,Gl]
  rw[e];cases hd:Az m with
  |nil=>exact absurd hd (Q9 m)
  |cons c t=>
   have:=Np m;rw[hd,List.all_cons,ax,Dy]at this;refine⟨c,t,rfl,?_,?_,?_⟩<;>(rintro rfl;revert this;simp)
 |t=>exact⟨39,_,rfl,by decide,by decide,by decide⟩
 |@f _ _ b=>cases b<;>exact⟨_,_,rfl,by decide,by decide,by decide⟩
 |lst=>exact⟨91,_,rfl,by decide,by decide,by decide⟩
 |non=>exact⟨45,_,rfl,by decide,by decide,by decide⟩
 |som=>exact⟨43,_,rfl,by decide,by decide,by decide⟩
 |enm=>exact⟨35,_,rfl,by decide,by decide,by decide⟩
 |uni=>exact⟨60,_,rfl,by decide,by decide,by decide⟩
 |rcd=>exact⟨123,_,rfl,by decide,by decide,by decide⟩
theorem Mf{S:List Ty}(hS:∀t∈S,Ek t){m:Nat}(hm:20<=m):∀(d:Nat) (k:Kd) (v:Vl) (r:List UInt8),Ge S d k v->Ri r->Am S m d k (Aw v++r)=some (v,r):=by
 intro d;induction d with
 |zero=>intro k v r h;cases h
 |succ d ih=>
  intro k v r h hr;unfold Am;cases h with
  |@n _ _ n hs hb h=>
   rw[hs];simp only;rw[if_pos hb];have e:Aw (.mk 110 (Az n) 0 [])=Az n:=by simp[Aw,Di,Gl]
   rw[e,Qds h hr]
  |@t _ _ s hs hb h=>
   rw[hs];simp only;rw[if_neg bI,if_pos hb];rw[show Nq (Aw (.mk 116 s 0 [])++r)=some (s,r)from Qbq.2 ⟨h,by simp[Aw,Di,Gl]⟩]
  |@f _ _ b hs hb=>
   rw[hs];simp only;rw[if_neg bI,if_neg bI,if_pos hb];rw[show P7 (Aw (.mk 102 (if b then Dk else H7) 0 [])++r)=some (b,r)from Zr.2 (by cases b<;>simp[Aw,Di,Gl])]
  |@lst _ _ t ks hs hl h=>
   rw[hs];simp only;rw[if_pos Ae];unfold Xx;rw[G6,aw,Bp];simp only;cases ks with
   |nil=>rfl
   |cons x ks=>
    obtain⟨c,q,e1,e2,_⟩:=Qfd (h x aK);have e3:As 93 (Ax 44 ((x::ks).map Aw)++[93]++r)=none:=by
     cases ks with
     |nil=>simp only[az,List.map_nil,Ax,e1,aw,Dp e2]
     |cons y ks=>rw[az,Dl 44 _ aK,e1];simp only[aw,Dp e2]
    rw[e3];simp only;rw[List.append_assoc,List.singleton_append,V9 m (x::ks) r (fun y hy r hr=>ih _ _ _ (h y hy) hr) aK aI];simp only;rw[if_pos hl]
  |@non _ _ t hs=>rw[hs];rfl
  |@som _ _ t x hs h=>
   rw[hs];simp only;rw[if_neg aL];have e:Aw (.mk 63 [] 0 [x])=43::Aw x:=by simp[Aw,Di,Gl,Ax]
   unfold Qfg;rw[e,aw,Dp aL,Bp];simp only;rw[ih _ _ _ h hr]
  |@enm _ _ t f hs hb ht h9 hf=>
   rw[hs];simp only;rw[if_neg bI,if_neg bI,if_neg bI,ht];simp only;unfold Kp;have h200:f.tag<=200:=((hS t (Bj ht).1).2.2.1.1 f (Ay hf).2).2.1;have e:Aw (.mk 69 [] f.tag [])=35::Az f.tag:=by simp[Aw,Di,Gl]
   rw[if_pos h9,e,aw,Bp];simp only;rw[Qe6 h200 hf hr]
  |@uni _ _ t f x hs hb ht h5 hf h=>
   rw[hs];simp only;rw[if_neg bI,if_neg bI,if_neg bI,ht];simp only;unfold Kp;have h9:t.sort≠69:=dk;rw[if_neg h9,if_pos h5,Qo,aw,Bp];simp only;rw[List.append_assoc,List.singleton_append,Rw (p:=(f,x)) (Na hS ht h9 (Ay hf).2).2 hf (ih _ _ (62::r) h (J9 (c:=62) _ aL))];simp only[Bp]
  |@rcd _ _ t fs hs hb ht h2 hf h hn hp=>
   rw[hs];simp only;rw[if_neg bI,if_neg bI,if_neg bI,ht];simp only;unfold Kp;have h9:t.sort≠69:=cJ;rw[if_neg h9,if_neg cJ,Nb,aw,Bp];simp only;cases fs with
   |nil=>rfl
   |cons p fs=>
    have e3:As 125 (Ax 44 ((p::fs).map fun p=>Aw (Ea p))++[125]++r)=none:=by
     have e1:Aw (Ea p)=Az p.1.tag++61::Aw p.2:=by simp[Ea,Aw,Di,Gl,Ax]
     cases hd:Az p.1.tag with
     |nil=>exact absurd hd (Q9 _)
     |cons c q=>
      have hc:=Np p.1.tag;rw[hd,List.all_cons,ax,Dy]at hc;have e2:c≠125:=by rintro rfl;revert hc;simp
      rw[hd]at e1;cases fs with
      |nil=>simp only[az,List.map_nil,Ax,e1,aw,Dp e2]
      |cons y fs=>rw[az,Dl 44 _ aK,e1];simp only[aw,Dp e2]
    rw[e3];simp only
    rw[List.append_assoc,List.singleton_append,Yq 201 0 (p::fs) r (fun q hq r hr=>ih _ _ _ (h q hq) hr) aK
     (fun q hq=>?_) hp aI]
    have hm:=(Ay (hf q hq)).2;have h1:=((hS t (Bj ht).1).2.2.1.1 q.1 hm).1;exact⟨h1,(Na hS ht h9 hm).2,hf q hq,hn q hq⟩
theorem Qm4{S:List Ty}(hS:∀t∈S,Ek t){d:Nat}{k:Kd}{v u:Vl}(hv:Ge S d k v)(hu:Ge S d k u)(h:Aw v=Aw u):v=u:=by
 have h1:=Mf hS (Al 20) d k v [] hv Ns;have h2:=Mf hS (Al 20) d k u [] hu Ns;rw[h,h2]at h1;injection h1 with h1;injection h1 with h1;exact h1.symm
def Jv(S:List Ty)(k:Kd)(s:List UInt8):Option Vl:=
 if 400<s.length then none else match Am S 20 12 k s with
  |some (v,[])=>some v
  |_=>none
theorem Jg{S:List Ty}(hS:∀t∈S,Ek t){k:Kd}(hk:Cw k){s:List UInt8}{v:Vl}:Jv S k s=some v↔Ge S 12 k v/\Aw v=s/\s.length<=400:=by
 unfold Jv;constructor
 ·intro h;split at h
  ·cases h
  rename_i hl;cases hr:Am S 20 12 k s with
  |none=>rw[hr]at h;cases h
  |some q=>
   obtain⟨x,r⟩:=q;rw[hr]at h;cases r with
   |cons c t=>cases h
   |nil=>
    simp only[aj]at h;subst h;obtain⟨h1,h2⟩:=Gq hS 20 12 k s x [] hk hr;exact⟨h1,by rw[h2,List.append_nil],by omega⟩
 rintro⟨h1,rfl,hl⟩;rw[if_neg aI];have:=Mf hS (Al 20) 12 k v [] h1 Ns;rw[List.append_nil]at this;rw[this]
theorem Qik{S:List Ty}(hS:∀t∈S,Ek t){k:Kd}(hk:Cw k){s:List UInt8}(hl:s.length<=400)(m n:Nat)(hm:20<=m)(hn:12<=n):
  Jv S k s=match Am S m n k s with|some (v,[])=>if J4 v<=12 then some v else none|_=>none:=by
 cases hr:Am S m n k s with
 |none=>
  cases hv:Jv S k s with
  |none=>rfl
  |some v=>
   obtain⟨h1,h2,_⟩:=(Jg hS hk).1 hv;have h3:Ge S n k v:=(E7 S _ _ _ h1 n).2 (ad ((E7 S _ _ _ h1 12).1 h1) hn);have:=Mf hS hm n k v [] h3 Ns;rw[List.append_nil,h2,hr]at this;cases this
 |some q=>
  obtain⟨x,r⟩:=q;obtain⟨h1,h2⟩:=Gq hS m n k s x r hk hr;cases r with
  |nil=>
   simp only;rw[List.append_nil]at h2;by_cases hd:J4 x<=12
   ·rw[if_pos hd,Jg hS hk];exact⟨(E7 S _ _ _ h1 12).2 hd,h2.symm,hl⟩
   rw[if_neg hd];cases hv:Jv S k s with
   |none=>rfl
   |some v=>
    obtain⟨i1,i2,_⟩:=(Jg hS hk).1 hv;have h3:Ge S n k v:=(E7 S _ _ _ i1 n).2 (ad ((E7 S _ _ _ i1 12).1 i1) hn);have e:=Qm4 hS h3 h1 (by rw[i2,h2]);subst e;exact absurd ((E7 S _ _ _ i1 12).1 i1) hd
  |cons c t=>
   simp only;cases hv:Jv S k s with
   |none=>rfl
   |some v=>
    obtain⟨i1,i2,_⟩:=(Jg hS hk).1 hv;have h3:Ge S n k v:=(E7 S _ _ _ i1 n).2 (ad ((E7 S _ _ _ i1 12).1 i1) hn);have:=Mf hS hm n k v [] h3 Ns;rw[List.append_nil,i2,hr]at this;injection this with this;injection this with _ this;cases this
section
variable {P:Program}
theorem Nl(w:World)(base:Nat)(t ty e:TypeId)(i:TypeInfo)(z:Value)(size bytes:Nat)(ht:P.underlying t=some (.slice e))(hi:P.info? e=some i)(hz:i.zero=some z)
  (hsize:i.size=size) (hby:i.bytes=bytes) (hzs:z.cells.size=size) (hsz:0<size)
  (v:Value) (n:Nat) (xs:List Value) (hown:w.ownsRow base e size v n xs)
  (a:Addr) (m c:Nat) (news:List Value) (hl:news.length=m*size) (hnews:∀j u,news[j]?=some u->w.cell? (a.add j)=some u) (h1:∀u∈news,u.oneCell'=true)
  (hm:0<m) (h63:n+m<=maxLen) (hbytes:(n+m)*bytes<=140737488355328) (hbase:base<=w.heap.size):
  ∃v' w',(Builtin.append_ #[t,t] ty #[v,.slice (some a) m c]).run P w=.ok v' w'/\w'.ownsRow base e size v' (n+m) (xs++news)/\w.grownBy w' v.ownBlock /\
   (v'.ownBlock=v.ownBlock\/∃k,v'.ownBlock=some k/\w.heap.size<=k):=by
 obtain⟨v',w',hr,h2,h3,_⟩:=run_append_own (P:=P) w base t ty e i z size bytes ht hi hz hsize hby hzs hsz v n xs hown a m c news hl hnews h1 h63 hbytes hbase;refine⟨v',w',hr,h2,h3,?_⟩;subst hsize;subst hby;have h63':n+m<=9223372036854775807:=by simp only[maxLen]at h63;omega
 rcases hown.2 with⟨rfl,rfl⟩|⟨g,cap,cur,rfl,hbg,hg,hnc,hcm,hcs,htake⟩
 ·have hq:=run_append_nil (P:=P) w t ty e i z ht hi hz a m c news hl hnews hm aI (by have hb:=hbytes;simp only[am]at hb;omega);exact ip
 by_cases hroom:n+m<=cap
 ·have hfit:n*i.size+news.length<=cur.size:=by rw[hl,hcs,<-Nat.add_mul];exact Nat.mul_le_mul_right _ hroom
  have hq:=run_append_room (P:=P) w t ty e i ht hi g n cap cur hg a m c news hl hnews h1 hroom hfit;rw[hq]at hr;injection hr with e1 _;subst e1;exact .inl rfl
 have holds:∀j u,xs[j]?=some u->w.cell? ((⟨g,0,none⟩:Addr).add j)=some u:=hown.cells (g:=g) rfl;have hq:=run_append_grow (P:=P) w t ty e i z ht hi hz ⟨g,0,none⟩ n cap xs hown.1 holds a m c news hl hnews aI aI (growslice_fits aI hbytes);exact ip
theorem Fg(w:World){ops:Array Oper}{rest:List Oper}{o:Oper}{a:Act}{Q:Exit->Act->World->Prop}(hgd:o.guard=none)(s x:Operand)(t:TypeId)
  (ho:o.op=.call {callee:=.builtin .append,args:=#[s,x],argTypes:=#[t,t]})
  (base:Nat) (e:TypeId) (z:Value) (bytes:Nat) (ht:P.underlying t=some (.slice e)) (hinfo:(P.info? e).map (fun i=>(i.zero,i.size,i.bytes))=some (some z,1,bytes))
  (hzs:z.cells.size=1) (W:World) (u:Value) (hw:w=W.alloc (.cells #[u] e)) (hu:u.oneCell'=true) (v:Value) (n:Nat) (xs:List Value) (hs:a.eval s=v) (hx:a.eval x=.slice (W,0) 1 1)
  (hown:W.ownsRow base e 1 v n xs)
  (h63:n+1<=maxLen) (hbytes:(n+1)*bytes<=140737488355328) (hbase:base<=W.heap.size)
  (h:∀v' w',w'.ownsRow base e 1 v' (n+1) (xs++[u])->W.grownBy w' v.ownBlock->(v'.ownBlock=v.ownBlock\/∃k,v'.ownBlock=some k/\W.heap.size<=k)->wpList P ops Q rest (a.put o.dst v') w'):wpList P ops Q (o::rest) a w:=by
 subst hw;obtain⟨i0,hi,hz0,hz1,hz2⟩:=info_parts hinfo
 obtain⟨v',w',hrun,r1,r2,r3⟩:=Nl (P:=P) (W.alloc (.cells #[u] e)) base t o.type e i0 z 1 bytes ht hi hz0 hz1 hz2 hzs aL v n xs (hown.alloc _) ⟨W.heap.size,0,none⟩ 1 1 [u] rfl (by
  intro j y hj;match j,hj with
  |0,hj=>simp at hj;subst hj;simp[Addr.add,World.cell?_alloc_new]) (by intro y hy;simp at hy;subst hy;exact hu) aL h63 hbytes aO
 refine wpList_plain hgd fun K' hK'=>?_;unfold Oper.wp;simp[execOp,ho,resolve,invoke,builtin,hs,hx,hrun,Result.andThen];refine hK' _ _ (h v' w' r1 ?_ ?_)
 ·exact gO
 rcases r3 with r3|⟨k,r3,r4⟩
 ·exact .inl r3
 exact .inr ⟨k,r3,by simp at r4;omega⟩
end
theorem Ca.ownK{w:World}{base k:Nat}{e:TypeId}{v:Value}{n:Nat}{xs:List Value}(h:w.ownsRow base e k v n xs)(hle:n*k<=maxLen):∃A c,v=.slice A n c/\Ca w A (n*k) xs:=by
 have h1:=h.1;rcases h.2 with⟨rfl,rfl⟩|⟨g,cap,cur,rfl,hb,hh,hnc,hcm,hcs,htk⟩
 ·exact⟨none,0,rfl,by omega,by omega,fun h=>absurd h aI⟩
 refine⟨some ⟨g,0,none⟩,cap,rfl,by omega,hle,fun hn=>⟨g,0,rfl,(h.lt g rfl).2,fun j u hu=>?_⟩⟩;have:=h.cells (g:=g) rfl j u hu;have e1:(⟨g,0,none⟩:Addr).add j=⟨g,0+j,none⟩:=bq;rwa [e1]at this
section
variable {P:Program}
theorem Qfn(w:World){ops:Array Oper}{rest:List Oper}{o:Oper}{a:Act}{Q:Exit->Act->World->Prop}(hgd:o.guard=none)(s x:Operand)(t:TypeId)
  (ho:o.op=.call {callee:=.builtin .append,args:=#[s,x],argTypes:=#[t,t]})
  (base:Nat) (e:TypeId) (z:Value) (k bytes:Nat) (ht:P.underlying t=some (.slice e)) (hinfo:(P.info? e).map (fun i=>(i.zero,i.size,i.bytes))=some (some z,k,bytes))
  (hzs:z.cells.size=k) (hk:0<k) (W:World) (us:List Value) (hul:us.length=k) (hw:w=W.alloc (.cells us.toArray e)) (hu:∀u∈us,u.oneCell'=true) (v:Value) (n:Nat) (xs:List Value) (hs:a.eval s=v) (hx:a.eval x=.slice (W,0) 1 1)
  (hown:W.ownsRow base e k v n xs)
  (h63:n+1<=maxLen) (hbytes:(n+1)*bytes<=140737488355328) (hbase:base<=W.heap.size)
  (h:∀v' w',w'.ownsRow base e k v' (n+1) (xs++us)->Below base W w'->wpList P ops Q rest (a.put o.dst v') w'):wpList P ops Q (o::rest) a w:=by
 subst hw;obtain⟨i0,hi,hz0,hz1,hz2⟩:=info_parts hinfo;refine wpList_append_own _ hgd s x t ho base e i0 z k bytes ht hi hz0 hz1 hz2 hzs hk v n xs hs (hown.alloc _) ⟨W.heap.size,0,none⟩ 1 1 us hx aI ?_ hu h63 hbytes ?_ ?_
 ·exact gE
 ·exact hY
 intro v' w' h1 h2 _;exact h v' w' h1 (((Aq base W).alloc hbase _).grown h2 aO (fun k hk=>(hown.lt k hk).1))
end
theorem Qo6:(prog.info? 157).map (fun i=>(i.zero,i.size,i.bytes))=some (some sf0,4,56):=aN
theorem Tryz.infoSt:(prog.info? 143).map (fun i=>(i.zero,i.size,i.bytes))=some (some (.agg #[.int .u8 0,a6,.slice none 0 0]),3,48):=aN
end Go.Proofs.YtmmhmlmfhpfgbaaGreatDoor
namespace Go.Proofs
open Go.Shelf
def Tryz.lays160_ren:Go.Shelf.Ren:=⟨fun|160=>196|232=>224|231=>190|227=>191|234=>225|233=>192|236=>226|235=>193|228=>221|271=>250|151=>223|197=>222|120=>262|152=>249|260=>248|137=>260|119=>261|224=>243|225=>242|217=>241|266=>256|n=>n,fun|9=>9|4=>4|3=>3|5=>5|117=>230|116=>229|0=>0|124=>233|21=>21|105=>253|46=>244|119=>283|139=>286|138=>285|n=>n,fun|3=>1|4=>2|n=>n⟩
theorem Tryz.lays160:Go.Proofs.Lays.n160 Tryz.prog Tryz.lays160_ren:={
 mixed:=by kernel_rfl
 f119:=Tryz.func261.trans (congrArg some (by kernel_rfl))
 f120:=Tryz.func262.trans (congrArg some (by kernel_rfl))
 f137:=Tryz.func260.trans (congrArg some (by kernel_rfl))
 f151:=Tryz.func223.trans (congrArg some (by kernel_rfl))
 f152:=Tryz.func249.trans (congrArg some (by kernel_rfl))
 f160:=Tryz.func196.trans (congrArg some (by kernel_rfl))
 f197:=Tryz.func222.trans (congrArg some (by kernel_rfl))
 f217:=Tryz.func241.trans (congrArg some (by kernel_rfl))
 f224:=Tryz.func243.trans (congrArg some (by kernel_rfl))
 f225:=Tryz.func242.trans (congrArg some (by kernel_rfl))
 f227:=Tryz.func191.trans (congrArg some (by kernel_rfl))
 f228:=Tryz.func221.trans (congrArg some (by kernel_rfl))
 f231:=Tryz.func190.trans (congrArg some (by kernel_rfl))
 f232:=Tryz.func224.trans (congrArg some (by kernel_rfl))
 f233:=Tryz.func192.trans (congrArg some (by kernel_rfl))
 f234:=Tryz.func225.trans (congrArg some (by kernel_rfl))
 f235:=Tryz.func193.trans (congrArg some (by kernel_rfl))
 f236:=Tryz.func226.trans (congrArg some (by kernel_rfl))
 f260:=Tryz.func248.trans (congrArg some (by kernel_rfl))
 f266:=Tryz.func256.trans (congrArg some (by kernel_rfl))
 f271:=Tryz.func250.trans (congrArg some (by kernel_rfl))
 t0:=Tryz.underlying0
 a0:=Tryz.isAgg0
 z0:=Tryz.sizeOf0
 v0:=Tryz.zeroValue0
 t3:=Tryz.underlying3
 a3:=Tryz.isAgg3
 z3:=Tryz.sizeOf3
 v3:=Tryz.zeroValue3
 t4:=Tryz.underlying4
 a4:=Tryz.isAgg4
 z4:=Tryz.sizeOf4
 v4:=Tryz.zeroValue4
 t5:=Tryz.underlying5
 a5:=Tryz.isAgg5
 z5:=Tryz.sizeOf5
 v5:=Tryz.zeroValue5
 t9:=Tryz.underlying9
 a9:=Tryz.isAgg9
 z9:=Tryz.sizeOf9
 v9:=Tryz.zeroValue9
 t21:=Tryz.underlying21
 a21:=Tryz.isAgg21
 z21:=Tryz.sizeOf21
 v21:=Tryz.zeroValue21
 t46:=Tryz.underlying244
 a46:=Tryz.isAgg244
 z46:=Tryz.sizeOf244
 v46:=Tryz.zeroValue244
 t105:=Tryz.underlying253
 a105:=Tryz.isAgg253
 z105:=Tryz.sizeOf253
 v105:=Tryz.zeroValue253
 t116:=Tryz.underlying229
 a116:=Tryz.isAgg229
 z116:=Tryz.sizeOf229
 t117:=Tryz.underlying230
 a117:=Tryz.isAgg230
 z117:=Tryz.sizeOf230
 v117:=Tryz.zeroValue230
 t119:=Tryz.underlying283
 a119:=Tryz.isAgg283
 z119:=Tryz.sizeOf283
 t124:=Tryz.underlying233
 a124:=Tryz.isAgg233
 z124:=Tryz.sizeOf233
 v124:=Tryz.zeroValue233
 t138:=Tryz.underlying285
 a138:=Tryz.isAgg285
 z138:=Tryz.sizeOf285
 v138:=Tryz.zeroValue285
 t139:=Tryz.underlying286
 a139:=Tryz.isAgg286
 z139:=Tryz.sizeOf286
 v139:=Tryz.zeroValue286
 g3:=by kernel_rfl
 g4:=by kernel_rfl}
def Tryz.lays161_ren:Go.Shelf.Ren:=⟨fun|161=>135|231=>190|227=>191|233=>192|235=>193|228=>221|197=>222|151=>223|260=>248|152=>249|137=>260|119=>261|224=>243|225=>242|217=>241|266=>256|n=>n,fun|9=>9|4=>4|3=>3|5=>5|117=>230|116=>229|0=>0|124=>233|105=>253|21=>21|119=>283|46=>244|139=>286|138=>285|n=>n,fun|3=>1|4=>2|n=>n⟩
theorem Tryz.lays161:Go.Proofs.Lays.n161 Tryz.prog Tryz.lays161_ren:={
 mixed:=by kernel_rfl
 f119:=Tryz.func261.trans (congrArg some (by kernel_rfl))
 f137:=Tryz.func260.trans (congrArg some (by kernel_rfl))
 f151:=Tryz.func223.trans (congrArg some (by kernel_rfl))
 f152:=Tryz.func249.trans (congrArg some (by kernel_rfl))
 f161:=Tryz.func135.trans (congrArg some (by kernel_rfl))
 f197:=Tryz.func222.trans (congrArg some (by kernel_rfl))
 f217:=Tryz.func241.trans (congrArg some (by kernel_rfl))
 f224:=Tryz.func243.trans (congrArg some (by kernel_rfl))
 f225:=Tryz.func242.trans (congrArg some (by kernel_rfl))
 f227:=Tryz.func191.trans (congrArg some (by kernel_rfl))
 f228:=Tryz.func221.trans (congrArg some (by kernel_rfl))
 f231:=Tryz.func190.trans (congrArg some (by kernel_rfl))
 f233:=Tryz.func192.trans (congrArg some (by kernel_rfl))
 f235:=Tryz.func193.trans (congrArg some (by kernel_rfl))
 f260:=Tryz.func248.trans (congrArg some (by kernel_rfl))
 f266:=Tryz.func256.trans (congrArg some (by kernel_rfl))
 t0:=Tryz.underlying0
 a0:=Tryz.isAgg0
 z0:=Tryz.sizeOf0
 v0:=Tryz.zeroValue0
 t3:=Tryz.underlying3
 a3:=Tryz.isAgg3
 z3:=Tryz.sizeOf3
 v3:=Tryz.zeroValue3
 t4:=Tryz.underlying4
 a4:=Tryz.isAgg4
 z4:=Tryz.sizeOf4
 v4:=Tryz.zeroValue4
 t5:=Tryz.underlying5
 a5:=Tryz.isAgg5
 z5:=Tryz.sizeOf5
 v5:=Tryz.zeroValue5
 t9:=Tryz.underlying9
 a9:=Tryz.isAgg9
 z9:=Tryz.sizeOf9
 v9:=Tryz.zeroValue9
 t21:=Tryz.underlying21
 a21:=Tryz.isAgg21
 z21:=Tryz.sizeOf21
 v21:=Tryz.zeroValue21
 t46:=Tryz.underlying244
 a46:=Tryz.isAgg244
 z46:=Tryz.sizeOf244
 v46:=Tryz.zeroValue244
 t105:=Tryz.underlying253
 a105:=Tryz.isAgg253
 z105:=Tryz.sizeOf253
 v105:=Tryz.zeroValue253
 t116:=Tryz.underlying229
 a116:=Tryz.isAgg229
 z116:=Tryz.sizeOf229
 t117:=Tryz.underlying230
 a117:=Tryz.isAgg230
 z117:=Tryz.sizeOf230
 v117:=Tryz.zeroValue230
 t119:=Tryz.underlying283
 a119:=Tryz.isAgg283
 z119:=Tryz.sizeOf283
 t124:=Tryz.underlying233
 a124:=Tryz.isAgg233
 z124:=Tryz.sizeOf233
 v124:=Tryz.zeroValue233
 t138:=Tryz.underlying285
 a138:=Tryz.isAgg285
 z138:=Tryz.sizeOf285
 v138:=Tryz.zeroValue285
 t139:=Tryz.underlying286
 a139:=Tryz.isAgg286
 z139:=Tryz.sizeOf286
 v139:=Tryz.zeroValue286
 g3:=by kernel_rfl
 g4:=by kernel_rfl}
def Tryz.lays99_ren:Go.Shelf.Ren:=⟨fun|99=>136|206=>194|n=>n,fun|9=>9|4=>4|3=>3|n=>n,fun|n=>n⟩
theorem Tryz.lays99:Go.Proofs.Lays.n99 Tryz.prog Tryz.lays99_ren:={
 mixed:=by kernel_rfl
 f99:=Tryz.func136.trans (congrArg some (by kernel_rfl))
 f206:=Tryz.func194.trans (congrArg some (by kernel_rfl))
 t3:=Tryz.underlying3
 a3:=Tryz.isAgg3
 z3:=Tryz.sizeOf3
 v3:=Tryz.zeroValue3
 t4:=Tryz.underlying4
 a4:=Tryz.isAgg4
 z4:=Tryz.sizeOf4
 v4:=Tryz.zeroValue4
 t9:=Tryz.underlying9
 a9:=Tryz.isAgg9
 z9:=Tryz.sizeOf9
 v9:=Tryz.zeroValue9}
def Tryz.lays100_ren:Go.Shelf.Ren:=⟨fun|100=>137|207=>195|n=>n,fun|9=>9|4=>4|3=>3|n=>n,fun|n=>n⟩
theorem Tryz.lays100:Go.Proofs.Lays.n100 Tryz.prog Tryz.lays100_ren:={
 mixed:=by kernel_rfl
 f100:=Tryz.func137.trans (congrArg some (by kernel_rfl))
 f207:=Tryz.func195.trans (congrArg some (by kernel_rfl))
 t3:=Tryz.underlying3
 a3:=Tryz.isAgg3
 z3:=Tryz.sizeOf3
 v3:=Tryz.zeroValue3
 t4:=Tryz.underlying4
 a4:=Tryz.isAgg4
 z4:=Tryz.sizeOf4
 v4:=Tryz.zeroValue4
 t9:=Tryz.underlying9
 a9:=Tryz.isAgg9
 z9:=Tryz.sizeOf9
 v9:=Tryz.zeroValue9}
def Tryz.lays143_ren:Go.Shelf.Ren:=⟨fun|143=>214|219=>213|217=>241|225=>242|224=>243|267=>244|266=>256|314=>257|n=>n,fun|9=>9|3=>3|4=>4|5=>5|46=>244|146=>281|51=>267|n=>n,fun|1=>0|n=>n⟩
theorem Tryz.lays143:Go.Proofs.Lays.n143 Tryz.prog Tryz.lays143_ren:={
 mixed:=by kernel_rfl
 f143:=Tryz.func214.trans (congrArg some (by kernel_rfl))
 f217:=Tryz.func241.trans (congrArg some (by kernel_rfl))
 f219:=Tryz.func213.trans (congrArg some (by kernel_rfl))
 f224:=Tryz.func243.trans (congrArg some (by kernel_rfl))
 f225:=Tryz.func242.trans (congrArg some (by kernel_rfl))
 f266:=Tryz.func256.trans (congrArg some (by kernel_rfl))
 f267:=Tryz.func244.trans (congrArg some (by kernel_rfl))
 f314:=Tryz.func257.trans (congrArg some (by kernel_rfl))
 t3:=Tryz.underlying3
 a3:=Tryz.isAgg3
 z3:=Tryz.sizeOf3
 v3:=Tryz.zeroValue3
 t4:=Tryz.underlying4
 a4:=Tryz.isAgg4
 z4:=Tryz.sizeOf4
 v4:=Tryz.zeroValue4
 t5:=Tryz.underlying5
 a5:=Tryz.isAgg5
 z5:=Tryz.sizeOf5
 v5:=Tryz.zeroValue5
 t9:=Tryz.underlying9
 a9:=Tryz.isAgg9
 z9:=Tryz.sizeOf9
 v9:=Tryz.zeroValue9
 t46:=Tryz.underlying244
 a46:=Tryz.isAgg244
 z46:=Tryz.sizeOf244
 v46:=Tryz.zeroValue244
 t51:=Tryz.underlying267
 a51:=Tryz.isAgg267
 z51:=Tryz.sizeOf267
 v51:=Tryz.zeroValue267
 t146:=Tryz.underlying281
 a146:=Tryz.isAgg281
 z146:=Tryz.sizeOf281
 v146:=Tryz.zeroValue281
 g1:=by kernel_rfl}
def Tryz.lays144_ren:Go.Shelf.Ren:=⟨fun|144=>173|143=>214|219=>213|217=>241|225=>242|224=>243|267=>244|266=>256|314=>257|n=>n,fun|9=>9|4=>4|3=>3|5=>5|46=>244|146=>281|51=>267|n=>n,fun|1=>0|n=>n⟩
theorem Tryz.lays144:Go.Proofs.Lays.n144 Tryz.prog Tryz.lays144_ren:={
 mixed:=by kernel_rfl
 f143:=Tryz.func214.trans (congrArg some (by kernel_rfl))
 f144:=Tryz.func173.trans (congrArg some (by kernel_rfl))
 f217:=Tryz.func241.trans (congrArg some (by kernel_rfl))
 f219:=Tryz.func213.trans (congrArg some (by kernel_rfl))
 f224:=Tryz.func243.trans (congrArg some (by kernel_rfl))
 f225:=Tryz.func242.trans (congrArg some (by kernel_rfl))
 f266:=Tryz.func256.trans (congrArg some (by kernel_rfl))
 f267:=Tryz.func244.trans (congrArg some (by kernel_rfl))
 f314:=Tryz.func257.trans (congrArg some (by kernel_rfl))
 t3:=Tryz.underlying3
 a3:=Tryz.isAgg3
 z3:=Tryz.sizeOf3
 v3:=Tryz.zeroValue3
 t4:=Tryz.underlying4
 a4:=Tryz.isAgg4
 z4:=Tryz.sizeOf4
 v4:=Tryz.zeroValue4
 t5:=Tryz.underlying5
 a5:=Tryz.isAgg5
 z5:=Tryz.sizeOf5
 v5:=Tryz.zeroValue5
 t9:=Tryz.underlying9
 a9:=Tryz.isAgg9
 z9:=Tryz.sizeOf9
 v9:=Tryz.zeroValue9
 t46:=Tryz.underlying244
 a46:=Tryz.isAgg244
 z46:=Tryz.sizeOf244
 v46:=Tryz.zeroValue244
 t51:=Tryz.underlying267
 a51:=Tryz.isAgg267
 z51:=Tryz.sizeOf267
 v51:=Tryz.zeroValue267
 t146:=Tryz.underlying281
 a146:=Tryz.isAgg281
 z146:=Tryz.sizeOf281
 v146:=Tryz.zeroValue281
 g1:=by kernel_rfl}
def Tryz.lays138_ren:Go.Shelf.Ren:=⟨fun|138=>246|195=>258|218=>259|143=>214|219=>213|217=>241|225=>242|224=>243|267=>244|266=>256|314=>257|n=>n,fun|9=>9|3=>3|4=>4|5=>5|0=>0|46=>244|146=>281|51=>267|n=>n,fun|1=>0|n=>n⟩
theorem Tryz.lays138:Go.Proofs.Lays.n138 Tryz.prog Tryz.lays138_ren:={
 mixed:=by kernel_rfl
 f138:=Tryz.func246.trans (congrArg some (by kernel_rfl))
 f143:=Tryz.func214.trans (congrArg some (by kernel_rfl))
 f195:=Tryz.func258.trans (congrArg some (by kernel_rfl))
 f217:=Tryz.func241.trans (congrArg some (by kernel_rfl))
 f218:=Tryz.func259.trans (congrArg some (by kernel_rfl))
 f219:=Tryz.func213.trans (congrArg some (by kernel_rfl))
 f224:=Tryz.func243.trans (congrArg some (by kernel_rfl))
 f225:=Tryz.func242.trans (congrArg some (by kernel_rfl))
 f266:=Tryz.func256.trans (congrArg some (by kernel_rfl))
 f267:=Tryz.func244.trans (congrArg some (by kernel_rfl))
 f314:=Tryz.func257.trans (congrArg some (by kernel_rfl))
 t0:=Tryz.underlying0
 a0:=Tryz.isAgg0
 z0:=Tryz.sizeOf0
 v0:=Tryz.zeroValue0
 t3:=Tryz.underlying3
 a3:=Tryz.isAgg3
 z3:=Tryz.sizeOf3
 v3:=Tryz.zeroValue3
 t4:=Tryz.underlying4
 a4:=Tryz.isAgg4
 z4:=Tryz.sizeOf4
 v4:=Tryz.zeroValue4
 t5:=Tryz.underlying5
 a5:=Tryz.isAgg5
 z5:=Tryz.sizeOf5
 v5:=Tryz.zeroValue5
 t9:=Tryz.underlying9
 a9:=Tryz.isAgg9
 z9:=Tryz.sizeOf9
 v9:=Tryz.zeroValue9
 t46:=Tryz.underlying244
 a46:=Tryz.isAgg244
 z46:=Tryz.sizeOf244
 v46:=Tryz.zeroValue244
 t51:=Tryz.underlying267
 a51:=Tryz.isAgg267
 z51:=Tryz.sizeOf267
 v51:=Tryz.zeroValue267
 t146:=Tryz.underlying281
 a146:=Tryz.isAgg281
 z146:=Tryz.sizeOf281
 v146:=Tryz.zeroValue281
 g1:=by kernel_rfl}
def Tryz.lays219_ren:Go.Shelf.Ren:=⟨fun|219=>213|217=>241|225=>242|224=>243|267=>244|266=>256|314=>257|n=>n,fun|9=>9|3=>3|4=>4|5=>5|46=>244|146=>281|51=>267|n=>n,fun|1=>0|n=>n⟩
theorem Tryz.lays219:Go.Proofs.Lays.n219 Tryz.prog Tryz.lays219_ren:={
 mixed:=by kernel_rfl
 f217:=Tryz.func241.trans (congrArg some (by kernel_rfl))
 f219:=Tryz.func213.trans (congrArg some (by kernel_rfl))
 f224:=Tryz.func243.trans (congrArg some (by kernel_rfl))
 f225:=Tryz.func242.trans (congrArg some (by kernel_rfl))
 f266:=Tryz.func256.trans (congrArg some (by kernel_rfl))
 f267:=Tryz.func244.trans (congrArg some (by kernel_rfl))
 f314:=Tryz.func257.trans (congrArg some (by kernel_rfl))
 t3:=Tryz.underlying3
 a3:=Tryz.isAgg3
 z3:=Tryz.sizeOf3
 v3:=Tryz.zeroValue3
 t4:=Tryz.underlying4
 a4:=Tryz.isAgg4
 z4:=Tryz.sizeOf4
 v4:=Tryz.zeroValue4
 t5:=Tryz.underlying5
 a5:=Tryz.isAgg5
 z5:=Tryz.sizeOf5
 v5:=Tryz.zeroValue5
 t9:=Tryz.underlying9
 a9:=Tryz.isAgg9
 z9:=Tryz.sizeOf9
 v9:=Tryz.zeroValue9
 t46:=Tryz.underlying244
 a46:=Tryz.isAgg244
 z46:=Tryz.sizeOf244
 v46:=Tryz.zeroValue244
 t51:=Tryz.underlying267
 a51:=Tryz.isAgg267
 z51:=Tryz.sizeOf267
 v51:=Tryz.zeroValue267
 t146:=Tryz.underlying281
 a146:=Tryz.isAgg281
 z146:=Tryz.sizeOf281
 v146:=Tryz.zeroValue281
 g1:=by kernel_rfl}
def Tryz.lays156_ren:Go.Shelf.Ren:=⟨fun|156=>92|165=>146|166=>147|169=>148|240=>201|241=>202|276=>227|277=>228|n=>n,fun|31=>57|9=>9|3=>3|4=>4|0=>0|20=>20|72=>195|76=>199|70=>193|37=>22|75=>198|127=>237|164=>256|5=>5|80=>71|n=>n,fun|n=>n⟩
theorem Tryz.lays156:Go.Proofs.Lays.n156 Tryz.prog Tryz.lays156_ren:={
 mixed:=by kernel_rfl
 f156:=Tryz.func92.trans (congrArg some (by kernel_rfl))
 f165:=Tryz.func146.trans (congrArg some (by kernel_rfl))
 f166:=Tryz.func147.trans (congrArg some (by kernel_rfl))
 f169:=Tryz.func148.trans (congrArg some (by kernel_rfl))
 f240:=Tryz.func201.trans (congrArg some (by kernel_rfl))
 f241:=Tryz.func202.trans (congrArg some (by kernel_rfl))
 f276:=Tryz.func227.trans (congrArg some (by kernel_rfl))
 f277:=Tryz.func228.trans (congrArg some (by kernel_rfl))
 t0:=Tryz.underlying0
 a0:=Tryz.isAgg0
 z0:=Tryz.sizeOf0
 v0:=Tryz.zeroValue0
 t3:=Tryz.underlying3
 a3:=Tryz.isAgg3
 z3:=Tryz.sizeOf3
 v3:=Tryz.zeroValue3
 t4:=Tryz.underlying4
 a4:=Tryz.isAgg4
 z4:=Tryz.sizeOf4
 v4:=Tryz.zeroValue4
 t9:=Tryz.underlying9
 a9:=Tryz.isAgg9
 z9:=Tryz.sizeOf9
 v9:=Tryz.zeroValue9
 t20:=Tryz.underlying20
 a20:=Tryz.isAgg20
 z20:=Tryz.sizeOf20
 v20:=Tryz.zeroValue20
 t31:=Tryz.underlying57
 a31:=Tryz.isAgg57
 z31:=Tryz.sizeOf57
 v31:=Tryz.zeroValue57
 t37:=Tryz.underlying22
 a37:=Tryz.isAgg22
 z37:=Tryz.sizeOf22
 v37:=Tryz.zeroValue22
 t70:=Tryz.underlying193
 a70:=Tryz.isAgg193
 z70:=Tryz.sizeOf193
 v70:=Tryz.zeroValue193
 t72:=Tryz.underlying195
 a72:=Tryz.isAgg195
 z72:=Tryz.sizeOf195
 v72:=Tryz.zeroValue195
 t75:=Tryz.underlying198
 a75:=Tryz.isAgg198
 z75:=Tryz.sizeOf198
 v75:=Tryz.zeroValue198
 t76:=Tryz.underlying199
 a76:=Tryz.isAgg199
 z76:=Tryz.sizeOf199
 v76:=Tryz.zeroValue199
 t127:=Tryz.underlying237
 a127:=Tryz.isAgg237
 z127:=Tryz.sizeOf237
 v127:=Tryz.zeroValue237
 t164:=Tryz.underlying256
 a164:=Tryz.isAgg256
 z164:=Tryz.sizeOf256
 v164:=Tryz.zeroValue256}
end Go.Proofs
namespace Go.Proofs.YtmmhmlmfhpfgbaaGreatDoor
open Go.RowKit Go.Proofs.Tryz
section
attribute [local go_sem] Qra Qpu Qo3 Qmi ByteArray.mk_append_mk
theorem Pg(s cs:List UInt8)(w:World)(hcs:cs.length<4294967281)(ha:∀b∈cs,b.toNat<128):
  Calls prog 135 #[s,cs] w fun e w'=>e=.returned (.string ⟨(s.dropWhile (cs.contains ·)).toArray⟩)/\Below w w w':=
 Any.strings_TrimLeft_laid Tryz.lays161 aN ⟨s.toArray⟩ ⟨cs.toArray⟩ w hcs (fun j b h=>ha b (List.mem_of_getElem? h))
theorem M4{p:UInt8->Bool}:∀{l:List UInt8},l.dropWhile p=[]↔l.all p=true
 |[]=>aK
 |x::l=>by
  have ih:=M4 (p:=p) (l:=l);by_cases h:p x=true
  ·simp only[List.dropWhile_cons,h,if_true,List.all_cons,Bool.true_and];exact ih
  simp[h]
theorem Qjl{l cs:List UInt8}:Lib.trimS l cs=[]↔l.all (cs.contains ·)=true:=by
 unfold Lib.trimS Lib.trimLeftS Lib.trimRightS;rw[M4];have hsp:l.reverse.takeWhile (cs.contains ·)++l.reverse.dropWhile (cs.contains ·)=l.reverse:=List.takeWhile_append_dropWhile;have htk:=Kh (p:=fun x=>cs.contains x) l.reverse;constructor
 ·intro h;rw[List.all_eq_true]at h htk ⊢;intro x hx;have hx':x∈l.reverse:=List.mem_reverse.2 hx;rw[<-hsp]at hx';rcases af.1 hx' with hx'|hx'
  ·exact htk x hx'
  exact h x (List.mem_reverse.2 hx')
 intro h;rw[List.all_eq_true]at h ⊢;intro x hx;have hx':=List.mem_reverse.1 hx;exact h x (List.mem_reverse.1 (by rw[<-hsp];exact List.mem_append_right _ hx'))
theorem Qd1(s cs:List UInt8)(w:World)(hs:s.length<=9223372036854775807)(hcs:cs.length<4294967281)(ha:∀b∈cs,b.toNat<128):
  Calls prog 196 #[s,cs] w fun e w'=>(∃r:List UInt8,e=.returned r/\(r=[]↔s.all (cs.contains ·)=true))/\Below w w w':=
 (Any.strings_Trim_laid Tryz.lays160 aN ⟨s.toArray⟩ ⟨cs.toArray⟩ w hs hcs (fun j b h=>ha b (List.mem_of_getElem? h))).mono fun e w' ⟨h1,h2⟩=>⟨⟨_,h1,Qjl⟩,h2⟩
theorem Qcm(s p:List UInt8):Lib.hasPrefix s p=p.isPrefixOf s:=by
 unfold Lib.hasPrefix;first|rfl|simp
theorem Rl(s p:List UInt8)(w:World):
  Calls prog 136 #[s,p] w fun e w'=>e=.returned (.bool (p.isPrefixOf s))/\w=w':=
 (Any.strings_HasPrefix Tryz.lays99 ⟨s.toArray⟩ ⟨p.toArray⟩ w).mono fun e w' ⟨h1,h2⟩=>⟨by rw[h1,Qcm],h2.symm⟩
theorem Rh(s p:List UInt8)(w:World)(hs:s.length<=9223372036854775807):
  Calls prog 137 #[s,p] w fun e w'=>e=.returned (.bool (Lib.hasSuffix s p))/\w=w':=
 (Any.strings_HasSuffix Tryz.lays100 ⟨s.toArray⟩ ⟨p.toArray⟩ w hs).mono fun e w' ⟨h1,h2⟩=>⟨h1,h2.symm⟩
theorem Ko(s:List UInt8)(c:UInt8):(c∉s/\Lib.indexByte s c = -1)\/∃p t,s=p++c::t/\c∉p/\Lib.indexByte s c=(p.length:Int):=by
 induction s with
 |nil=>exact .inl ⟨by simp,rfl⟩
 |cons x s ih=>
  by_cases hx:x=c
  ·exact .inr ⟨[],s,by simp[hx],by simp,by simp[Lib.indexByte,hx]⟩
  have hb:(x == c)=false:=by simpa using hx
  rcases ih with⟨hn,e⟩|⟨p,t,es,hp,e⟩
  ·exact .inl ⟨by simp;exact⟨fun h=>hx h.symm,hn⟩,by simp[Lib.indexByte,hb,e]⟩
  refine .inr ⟨x::p,t,by simp[es],by simp;exact⟨fun h=>hx h.symm,hp⟩,?_⟩;have:¬(p.length:Int) = -1:=aI;simp[Lib.indexByte,hb,e,this]
theorem Qju(s:List UInt8)(c:UInt8)(w:World):
  Calls prog 214 #[s,.string ⟨#[c]⟩] w fun e w'=>e=.returned (.int .i64 (Lib.indexByte s c))/\w=w':=
 (Any.strings_Index_one Tryz.lays143 ⟨s.toArray⟩ c w).mono fun e w' ⟨h1,h2⟩=>⟨h1,h2.symm⟩
theorem Zv(s:List UInt8)(c:UInt8)(w:World):
  Calls prog 213 #[s,.string ⟨#[c]⟩] w fun e w'=>e=.returned (.int .i64 (Lib.indexByte s c))/\w=w':=
 (Any.stringslite_Index_one Tryz.lays219 ⟨s.toArray⟩ c w).mono fun e w' ⟨h1,h2⟩=>⟨h1,h2.symm⟩
theorem Qi8(s:List UInt8)(c:UInt8)(w:World):
  Calls prog 246 #[s,.string ⟨#[c]⟩] w fun e w'=>e=.returned (.int .i64 ((s.count c:Nat):Int))/\w=w':=
 (Any.strings_Count_one Tryz.lays138 ⟨s.toArray⟩ c w).mono fun e w' ⟨h1,h2⟩=>⟨h1,h2.symm⟩
theorem N4(s:List UInt8)(c:UInt8)(w:World):
  Calls prog 173 #[s,.string ⟨#[c]⟩] w fun e w'=>e=.returned (.bool (decide (c∈s)))/\w=w':=
 (Any.strings_Contains_one Tryz.lays144 ⟨s.toArray⟩ c w).mono fun e w' ⟨h1,h2⟩=>⟨by
  rw[h1];refine Er (Db ?_);show decide (0<=Lib.indexByte s c)=_;rw[decide_eq_decide];rcases Ko s c with⟨hn,e⟩|⟨p,t,es,hp,e⟩
  ·rw[e];exact⟨fun h=>by omega,fun h=>absurd h hn⟩
  rw[e];exact⟨fun _=>by rw[es];simp,fun _=>by omega⟩,h2.symm⟩
def Qfb(r:List UInt8 × List UInt8 × Bool):Value:=.tuple #[r.1,r.2.1,.bool r.2.2]
theorem Qlg(s:List UInt8)(c:UInt8)(w:World)(hs:s.length<=4294967280):
  Calls prog 172 #[s,.string ⟨#[c]⟩] w fun e w'=>e=.returned (Qfb (Dj c s))/\∃k,w'=w.drewN k:=by
 rcases Ko s c with⟨hn,e⟩|⟨p,t,es,hp,e⟩
 ·have Hc:=Aa (Qu hn);have Hi:=Aa (fun W=>Zv s c W);rw[e]at Hi;clear hn e;go_enter func172,ntmps172;go_wp2_with fail;refine(Hi.o _).mono ?_;rintro e w' ⟨rfl,rfl⟩;go_wp2_with fail;go_ret3
  exact⟨by rw[Hc.o];rfl,0,rfl⟩
 have Hc:=Aa (show Dj c s=(p,t,true)by rw[es];exact Ez hp);have Hi:=Aa (fun W=>Zv s c W);rw[e]at Hi;have hl:s.length=p.length+1+t.length:=by rw[es];simp;omega
 have h1:s.take p.length=p:=by rw[es];simp
 have h2:s.drop (p.length+1)=t:=by
  rw[es,show p++c::t=(p++[c])++t by simp];exact List.drop_left' aK
 have k1:IntKind.i64.wrap ((p.length:Int)+1)=(p.length:Int)+1:=IntWalk.i64_in _ aI;have k2:((p.length:Int)+1).toNat=p.length+1:=aI;have k3:(0:Int)<=(p.length:Int)+1:=aI;have k4:(p.length:Int)+1<=(s.length:Int):=aI;have k5:(p.length:Int)<=(s.length:Int):=aI;have k6:(0:Int)<=(p.length:Int):=aI;have H1:=Aa h1;have H2:=Aa h2;clear e es hl h1 h2 hp;go_enter func172,ntmps172;go_wp2_with fail;refine(Hi.o _).mono ?_;rintro e w' ⟨rfl,rfl⟩;go_wp2_with fail;go_quiet (fail)
 go_wp2
 go_ret3
 exact⟨by rw[Hc.o];exact Qow (Qkm H1.o) (Qkm H2.o) rfl,_,rfl⟩
theorem Sz(s:List UInt8)(c:UInt8)(w:World)(hs:s.length<=4294967280):
  Calls prog 119 #[s,.string ⟨#[c]⟩] w fun e w'=>e=.returned (Qfb (Dj c s))/\∃k,w'=w.drewN k:=by
 go_enter func119,ntmps119;go_wp2_with fail;refine(Qlg s c _ hs).mono ?_;rintro e w' ⟨rfl,k,rfl⟩;unfold Qfb;go_wp2_with fail;go_ret3
 exact⟨rfl,k,rfl⟩
theorem Tn(c:UInt8):∀s:List UInt8,(Aj c s).length=s.count c+1
 |[]=>rfl
 |x::s=>by
  have ih:=Tn c s;simp only[Aj];by_cases h:x=c
  ·rw[if_pos h,h];simp[ih]
  rw[if_neg h];have e:List.count c (x::s)=List.count c s:=List.count_cons_of_ne h;rw[e];cases hs:Aj c s with
  |nil=>rw[hs]at ih;simp at ih
  |cons p ps=>rw[hs]at ih;simp at ih ⊢;exact ih
theorem Qkc(A B:List Value)(k:Nat)(x y:Value)(h:A.length=k):(A++x::B).set k y=A++y::B:=by
 subst h;rw[List.set_append,if_neg aI];simp
theorem Qex{w:World}{base k n g cap:Nat}{ps:List (List UInt8)}{ys:List Value}(h:w.ownsRow base 9 1 (.slice (g,0) n cap) n (Bz ps++ys))(hk:ps.length=k)(hlt:k<n)(s:List UInt8):
  ∃zs,(w.setCell ⟨g,k,none⟩ s).ownsRow base 9 1 (.slice (g,0) n cap) n (Bz (ps++[s])++zs)/\w.grownBy (w.setCell ⟨g,k,none⟩ s) (some g)/\w.frozen? ⟨g,k,none⟩=false/\∃u,w.cell? ⟨g,k,none⟩=some u:=by
 have hl:(Bz ps).length=k:=by simp[Bz,hk]
 have h1:=h.1;rw[ah,hl]at h1;obtain⟨y,zs,rfl⟩:∃y zs,ys=y::zs:=by
  cases ys with
  |nil=>simp at h1;omega
  |cons y zs=>exact⟨y,zs,rfl⟩
 have hst:=h.stored k s;rw[Qkc _ _ _ _ _ hl]at hst;have hc:=h.cellAt k aI;rw[List.getElem?_append_right aI,hl]at hc;simp at hc;exact⟨zs,by rw[Qn,List.append_assoc];exact hst.1,hst.2,h.frozenAt k,y,hc⟩
theorem Qmp{w:World}{base k n g cap:Nat}{ps:List (List UInt8)}{ys:List Value}(h:w.ownsRow base 9 1 (.slice (g,0) n cap) n (Bz ps++ys))(hk:ps.length=k)(hle:k<=n):
  w.ownsRow base 9 1 (.slice (g,0) k cap) k (Bz ps):=by
 rcases h.2 with⟨e,_⟩|⟨g',cap',cur,e,hb,hh,hnc,hcm,hcs,htk⟩
 ·cases e
 injection e with e1 e2 e3;injection e1 with e1;injection e1 with e1;subst e1;subst e3;refine⟨by simp[Bz,hk],.inr ⟨g,cap,cur,rfl,hb,hh,by omega,hcm,hcs,?_⟩⟩;have hl:(Bz ps).length=k:=by simp[Bz,hk]
 have:(cur.toList.take (n*1)).take (k*1)=(Bz ps++ys).take (k*1):=by rw[htk]
 rw[List.take_take,Nat.min_eq_left aI]at this;rw[this,List.take_append_of_le_length aI,av aI]
theorem Qcw(s:List UInt8)(c:UInt8)(w:World)(hs:s.length<=4000000):
  Calls prog 215 #[s,.string ⟨#[c]⟩,.int .i64 0,.int .i64 (-1)] w fun e w'=>
   ∃v,e=.returned v/\w'.ownsRow w 9 1 v (Aj c s).length (Bz (Aj c s))/\Below w w w':=by
 obtain⟨i0,hi,hz0,hz1,hz2⟩:=info_parts Yh;have hcnt:s.count c<=s.length:=List.count_le_length;have Hn:=Aa (Tn c s);have H0:=@Aa (Aj c s=[]++Aj c s) rfl;go_enter func215,ntmps215;go_wp2_with fail;refine(Qi8 s c w).mono ?_;rintro e w' ⟨rfl,rfl⟩;obtain⟨n,hn⟩:∃n,n=s.count c:=⟨_,rfl⟩
 have HN:=Aa hn;rw[<-hn]at hcnt ⊢;clear hn;have hmin:min ((n:Int)+1) ((s.length:Int)+1)=(n:Int)+1:=aI;go_wp2_with (at_make;refine wpList_make_full _ rfl _ _ 57 rfl w 9 i0 a6 1 underlying57 hi hz0 hz1 .i64 .i64 _ _ (n+1) rfl rfl aI aI (by rw[hz2];omega) bc (Al _) ?_;intro w0 hown0 hgrow0)
 go_loopw [0,10] (fun x i wr=>∃(ps:List (List UInt8)) (r:List UInt8) (k:Nat),i=.int .i64 k/\k<=n/\x=r/\r.length<=s.length/\ps.length=k/\Hid (Aj c s=ps++Aj c r)/\Hid (r.count c+k=n) /\
   Hid (∃ys,wr.ownsRow w 9 1 (.slice (w,0) (n+1) (n+1)) (n+1) (Bz ps++ys))/\Hid (Below w w wr)) (fun _ i _=>n - (intOf i).toNat)
 case atStart=>exact⟨[],s,0,rfl,ag _,rfl,Al _,rfl,H0.o,by show _=_;have:=HN.o;omega,⟨_,hown0⟩,(Aq _ _).grown hgrow0 (Al _) aK⟩
 case round=>
  obtain⟨ps,r,k,rfl,hk,rfl,hr,hps,hsp,hct,hown,hb⟩:=hrel;have Hps:=Aa hps;clear hps;by_cases hlt:k<n
  ·have hmem:c∈r:=by
    have:=hct.o;exact List.count_pos_iff.1 aI
   have hix:∃p t,r=p++c::t/\c∉p/\Lib.indexByte r c=(p.length:Int):=by
    rcases Ko r c with⟨h,_⟩|h
    ·exact absurd hmem h
    exact h
   obtain⟨p,t,er,hp,e⟩:=hix;have Hi:=Aa (fun W=>Qju r c W);rw[e]at Hi;have hl:r.length=p.length+1+t.length:=by rw[er];simp;omega
   have H1:=Aa (show r.take p.length=p by rw[er];simp)
   have H2:=Aa (show r.drop (p.length+1)=t by
    rw[er,show p++c::t=(p++[c])++t by simp];exact List.drop_left' aK)
   have Hsp:=Aa (show Aj c s=(ps++[p])++Aj c t by rw[hsp.o,er,Mn c p t hp];simp)
   have Hct:=Aa (show t.count c+(k+1)=n by
    have h0:=hct.o;have h1:p.count c=0:=List.count_eq_zero.2 hp;rw[er,List.count_append,h1,List.count_cons_self]at h0;omega)
   obtain⟨ys,hown'⟩:=hown.o;obtain⟨zs,n1,n2,n3,u,n4⟩:=Qex hown' Hps.o (by omega:k<n+1) p;have N1:=Aa (show (wr.setCell ⟨w.heap.size,k,none⟩ (.string ⟨(r.take p.length).toArray⟩)).ownsRow w 9 1 (.slice (w,0) (n+1) (n+1)) (n+1) (Bz (ps++[p])++zs)by rw[H1.o];exact n1);have N2:=@Aa (Below w w (wr.setCell ⟨w.heap.size,k,none⟩ (.string ⟨(r.take p.length).toArray⟩))) (hb.o.setCell (p:=⟨w.heap.size,k,none⟩) (Al _) _);have k1:(0:Int)<=(p.length:Int):=aI;have k2:(p.length:Int)<=(r.length:Int):=aI;have k3:p.length+1<=r.length:=aI;clear e er hp hmem hown' n1 n2 hl;go_wp2_with fail;refine(Hi.o _).mono ?_;rintro e w' ⟨rfl,rfl⟩;go_wp2_with fail;go_roundw
   case rel=>exact⟨ps++[p],t,k+1,by go_num,by omega,Qkm H2.o,by have:=congrArg List.length H2.o;simp at this;omega,by rw[ah,Hps.o];rfl,Hsp.o,Hct.o,⟨zs,N1.o⟩,N2.o⟩
   case measure=>simp[intOf];omega
  ·obtain rfl:k=n:=aI;have hno:c∉r:=by
    have:=hct.o;exact List.count_eq_zero.1 aI
   have Hsp:=Aa (show Aj c s=ps++[r]by rw[hsp.o,Gx c r hno]);obtain⟨ys,hown'⟩:=hown.o;obtain⟨zs,n1,n2,n3,u,n4⟩:=Qex hown' Hps.o (by omega:k<k+1) r;have N1:=Aa (Qmp n1 (by rw[ah,Hps.o];rfl) (Al _));have N2:=@Aa (Below w w (wr.setCell ⟨w.heap.size,k,none⟩ r)) (hb.o.setCell (p:=⟨w.heap.size,k,none⟩) (Al _) _);clear hown' n1 n2 hno;go_wp2_with fail;go_ret;refine⟨_,rfl,?_,N2.o⟩;have e1:(Aj c s).length=k+1:=by rw[Hsp.o,ah,Hps.o];rfl
   rw[e1,Hsp.o];exact N1.o
theorem Vh(s:List UInt8)(c:UInt8)(w:World)(hs:s.length<=4000000):
  Calls prog 174 #[s,.string ⟨#[c]⟩] w fun e w'=>
   ∃v,e=.returned v/\w'.ownsRow w 9 1 v (Aj c s).length (Bz (Aj c s))/\Below w w w':=by
 go_enter func174,ntmps174;go_wp2_with fail;refine(Qcw s c _ hs).mono ?_;rintro e w' ⟨v,rfl,ho,hb⟩;have Ho:=Aa ho;have Hb:=Aa hb;clear ho hb;go_wp2_with fail;go_ret;exact⟨_,rfl,Ho.o,Hb.o⟩
theorem At{c d:UInt8}(h:c≠d):((c.toNat:Int) == (d.toNat:Int))=false:=by
 rw[beq_eq_false_iff_ne];intro e;exact h (UInt8.toNat_inj.1 aI)
theorem Bv{c d:UInt8}(h:c=d):((c.toNat:Int) == (d.toNat:Int))=true:=by rw[h];simp
theorem Qli(n a b:Int)(w:World):
  Calls prog 125 #[.int .i64 n,.int .i64 a,.int .i64 b] w fun e w'=>e=.returned (.bool (decide (a<=n) && decide (n<=b)))/\w=w':=by
 go_enter func125,ntmps125;by_cases h1:a<=n
 ·have t1:decide (a<=n)=true:=dU;rw[t1];go_wp2
  exact iq
 have t1:decide (a<=n)=false:=dU;rw[t1];go_wp2
 exact iq
theorem C0(s:List UInt8)(w:World)(hs:s.length<=9223372036854775807):
  Calls prog 152 #[s] w fun e w'=>e=.returned (.bool (Bf s))/\w=w':=by
 go_enter func152,ntmps152;go_wp2
 go_loop [3] (fun i=>∃k:Nat,k<=s.length/\i=.int .i64 k/\Hid (∀c∈s.take k,Jx c=true)) (fun i=>s.length - (intOf i).toNat)
 case atStart=>exact⟨0,ag _,rfl,by intro c hc;simp at hc⟩
 case round=>
  obtain⟨k,hk,rfl,hin⟩:=hrel;by_cases hlt:k<s.length
  ·have hc:(s[k]).toNat<256:=(s[k]).toNat_lt;have Hts:=Aa (Cv s k hlt);have Hm:=Aa (ae hlt);by_cases h1:Jx s[k]=true
   ·have h2:=No.1 h1;obtain⟨h3,h4⟩:=h2;have H1:=Aa h1;clear h1;go_wp2
    go_round
    case rel=>
     refine⟨k+1,by omega,by go_num,?_⟩;intro c hc;rw[Hts.o]at hc;rcases af.1 hc with hc|hc
     ·exact hin.o c hc
     ·simp at hc;subst hc;exact H1.o
    case measure=>simp[intOf];omega
   have hno:Bf s=false:=by
    cases hh:Bf s with
    |false=>rfl
    |true=>exact absurd ((Fc.1 hh).2.2 _ Hm.o) h1
   have Hno:=Aa hno;have h2:(s[k]).toNat<97\/122<(s[k]).toNat:=by
    rcases aH (s[k]).toNat 97 with h|h
    ·exact .inl h
    rcases aH 122 (s[k]).toNat with h'|h'
    ·exact .inr h'
    exact absurd (No.2 ⟨h,h'⟩) h1
   clear h1 hno;rcases h2 with h2|h2
   ·go_wp2
    go_ret;exact⟨Er (Db Hno.o.symm),rfl⟩
   have h3:97<=(s[k]).toNat:=aI;go_wp2
   go_ret;exact⟨Er (Db Hno.o.symm),rfl⟩
  ·have hfin:(decide ((1:Int)<=(s.length:Int)) && decide ((s.length:Int)<=3))=Bf s:=by
    have hall:s.all Jx=true:=List.all_eq_true.2 (fun c hc=>hin.o c (by rw[av aI];exact hc));unfold Bf;rw[hall,Bool.and_true];congr 1<;>· rw[decide_eq_decide];omega
   have Hfin:=Aa hfin;clear hfin;go_wp2_with fail;refine(Qli _ _ _ _).mono ?_;rintro e w' ⟨rfl,rfl⟩;go_wp2_with fail;go_ret;exact⟨Er (Db Hfin.o),rfl⟩
theorem Qal(c:UInt8)(t:List UInt8)(hc:Bi c=true):(C5 (c::t)).isSome=(decide (t.length<12) && (C5 t).isSome):=by
 unfold C5;simp only[List.dropWhile_cons,List.takeWhile_cons,hc,if_true];by_cases h:12<(c::t).length
 ·exact i9
 rw[if_neg h];simp at h;have h2:¬12<t.length:=aI;have:t.length<12:=aI;rw[if_neg h2];simp only[this,decide_true,Bool.true_and];by_cases h3:t.dropWhile Bi=[110]\/t.dropWhile Bi=[116]\/t.dropWhile Bi=[102]
 ·rw[if_pos h3,if_pos h3];rfl
 rw[if_neg h3,if_neg h3];by_cases h4:(t.dropWhile Bi).head?=some 64/\(t.dropWhile Bi).getLast?=some 59/\Bf ((t.dropWhile Bi).drop 1).dropLast=true
 ·rw[if_pos h4,if_pos h4];rfl
 rw[if_neg h4,if_neg h4]
theorem Qj1(t:List UInt8):(C5 (64::t)).isSome=(decide (t.length<12) && decide ((64::t).getLast?=some 59) && Bf t.dropLast):=by
 unfold C5;have h64:Bi 64=false:=aL;simp only[List.dropWhile_cons,List.takeWhile_cons,h64];by_cases h:12<(64::t).length
 ·exact i9
 rw[if_neg h];simp at h;have:t.length<12:=aI;simp[this];split
 ·rename_i hh;simp[hh]
 rename_i hh;simp only[Option.isSome_none];cases hn:Bf t.dropLast with
 |false=>simp
 |true=>simp[hn]at hh;simp[hh]
theorem Qeo(c:UInt8)(t:List UInt8)(h1:Bi c=false)(h2:c≠64):(C5 (c::t)).isSome=(decide (c::t=[110]) || decide (c::t=[116]) || decide (c::t=[102])):=by
 unfold C5;simp only[List.dropWhile_cons,List.takeWhile_cons,h1];by_cases h:12<(c::t).length
 ·rw[if_pos h];simp at h;have e:t≠[]:=by rintro rfl;simp at h
  simp[e]
 rw[if_neg h];by_cases h3:c::t=[110]\/c::t=[116]\/c::t=[102]
 ·simp only[an,if_false];rw[if_pos h3];rcases h3 with h3|h3|h3<;>simp[h3]
 simp only[an,if_false];rw[if_neg h3,if_neg (by simp[h2])];simp only[not_or]at h3;simp[h3]
theorem N0:∀(n:Nat) (s:List UInt8) (w:World),s.length<=n->s.length<=9223372036854775807 ->
  Calls prog 95 #[s] w fun e w'=>e=.returned (.bool (C5 s).isSome)/\w=w':=by
 intro n;induction n with
 |zero=>
  intro s w hn hs;obtain rfl:s=[]:=List.eq_nil_of_length_eq_zero aI;go_enter func95,ntmps95;go_wp2_with fail;exact iq
 |succ n ih=>
  intro s w hn hs;have Ih:=Aa ih;clear ih;by_cases h12:12<s.length
  ·have Hf:=Aa (show (C5 s).isSome=false by unfold C5;rw[if_pos h12];rfl);go_enter func95,ntmps95;go_wp2_with fail;exact ir
  cases s with
  |nil=>
   go_enter func95,ntmps95;go_wp2_with fail;exact iq
  |cons c t=>
   have hlt:t.length<12:=by simp at h12;omega
   have hn':t.length<=n:=by simp at hn;omega
   have hc:=c.toNat_lt;by_cases h91:c=91
   ·have Hf:=Aa (show (C5 (c::t)).isSome=(C5 t).isSome by rw[Qal c t (by rw[h91];decide)];simp[hlt]);have e1:c.toNat=91:=by rw[h91];rfl
    have t1:((c.toNat:Int) == 91)=true:=by simp[e1]
    clear h91 e1;go_enter func95,ntmps95;go_wp2_with fail;refine(Ih.o t _ hn' aI).mono ?_;rintro e w' ⟨rfl,rfl⟩;go_wp2_with fail;exact ir
   have t1:((c.toNat:Int) == 91)=false:=At h91;by_cases h63:c=63
   ·have Hf:=Aa (show (C5 (c::t)).isSome=(C5 t).isSome by rw[Qal c t (by rw[h63];decide)];simp[hlt]);have e1:c.toNat=63:=by rw[h63];rfl
    have t2:((c.toNat:Int) == 63)=true:=by simp[e1]
    clear h63 h91 e1;go_enter func95,ntmps95;go_wp2_with fail;refine(Ih.o t _ hn' aI).mono ?_;rintro e w' ⟨rfl,rfl⟩;go_wp2_with fail;exact ir
   have t2:((c.toNat:Int) == 63)=false:=At h63;by_cases h64:c=64
   ·have e1:c.toNat=64:=by rw[h64];rfl
    have t3:((c.toNat:Int) == 64)=true:=by simp[e1]
    rcases Fl t with rfl|⟨u,d,rfl⟩
    ·have Hf:=Aa (show (C5 [c]).isSome=false by rw[h64];decide);have t4:((c.toNat:Int) == 59)=false:=by simp[e1]
     clear h64 h63 h91 e1;go_enter func95,ntmps95;go_wp2_with fail;exact ir
    have hk:=Qj1 (u++[d]);have hl:(c::(u++[d])).getLast?=some d:=by
     exact iu
    rw[<-h64,hl,List.dropLast_concat]at hk;have hd:=d.toNat_lt;simp at hlt;have hgd:∀h,(c::(u++[d]))[u.length+1]'h=d:=by
     intro h;simp
    have hsl:(List.take u.length (u++[d]))=u:=aK;by_cases h59:d=59
    ·have e2:d.toNat=59:=by rw[h59];rfl
     have t4:((d.toNat:Int) == 59)=true:=by simp[e2]
     have Hf:=Aa (show (C5 (c::(u++[d]))).isSome=Bf u by rw[hk,h59];simp;omega);clear h64 h63 h91 e1 hk hl h59 e2;go_enter func95,ntmps95;go_wp2_with fail;refine(C0 u _ aI).mono ?_;rintro e w' ⟨rfl,rfl⟩;go_wp2_with fail;exact ir
    have t4:((d.toNat:Int) == 59)=false:=At h59;have Hf:=Aa (show (C5 (c::(u++[d]))).isSome=false by rw[hk];simp[h59]);clear h64 h63 h91 e1 hk hl h59;go_enter func95,ntmps95;go_wp2_with fail;exact ir
   have t3:((c.toNat:Int) == 64)=false:=At h64;have hk:=Qeo c t (by simp[Bi,h91,h63]) h64;have Hk:=Aa hk;clear hk h64 h63 h91;cases t with
   |cons x t=>
    have hl2:t.length+1+1<=12:=by simp at hlt;omega
    have Hf:=Aa (show (C5 (c::x::t)).isSome=false by rw[Hk.o];simp);clear Hk;go_enter func95,ntmps95;go_wp2_with fail;all_goals
     go_ret;exact⟨Er (Db (by rw[Hf.o])),rfl⟩
   |nil=>
    by_cases g1:c=110
    ·subst g1;go_enter func95,ntmps95;go_wp2_with fail;exact iq
    by_cases g2:c=116
    ·subst g2;go_enter func95,ntmps95;go_wp2_with fail;exact iq
    by_cases g3:c=102
    ·subst g3;go_enter func95,ntmps95;go_wp2_with fail;exact iq
    have Hf:=Aa (show (C5 [c]).isSome=false by rw[Hk.o];simp[g1,g2,g3]);go_enter func95,ntmps95;go_wp2_with fail;go_ret;exact⟨Er (Db (by rw[Hf.o];simp[g1,g2,g3])),rfl⟩
def Mo:Value->Nat
 |.string b=>b.size
 |_=>0
theorem Ky(l:List UInt8):Mo l=l.length:=rfl
theorem Qgj(k:Kd)(w:World)(hk:k.signs.all Bi=true)(hb:∃c t,Cj k=c::t/\Bi c=false)(hs:(Be k).length<=9223372036854775807):
  Calls prog 97 #[.string ⟨(Be k).toArray⟩] w fun e w'=>e=.returned (.string ⟨(Cj k).toArray⟩)/\w=w':=by
 obtain⟨d,u,hcu,hd⟩:=hb;have hlen:(Be k).length=k.signs.length+(u.length+1):=by unfold Be;rw[hcu];simp
 unfold Be;rw[hcu];generalize k.signs=g at hk hlen;clear hcu;have hd1:d≠91:=by rintro rfl;revert hd;decide
 have hd2:d≠63:=by rintro rfl;revert hd;decide
 have d1:((d.toNat:Int) == 91)=false:=At hd1;have d2:((d.toNat:Int) == 63)=false:=At hd2;have hdl:=d.toNat_lt;clear hd hd1 hd2;have hs2:g.length+u.length+1<=9223372036854775807:=aI;have Hk:=Aa (List.all_eq_true.1 hk);clear hs hlen hk;go_enter func97,ntmps97;go_wp2_with fail;go_loop [0] (fun x=>∃k:Nat,k<=g.length/\x=.string ⟨(g.drop k++d::u).toArray⟩) (fun x=>Mo x)
 case atStart=>exact⟨0,ag _,rfl⟩
 case round=>
  obtain⟨k,hk,rfl⟩:=hrel;by_cases hlt:k<g.length
  ·have hdr:g.drop k=g[k]::g.drop (k+1):=List.drop_eq_getElem_cons hlt;have hl3:(g.drop (k+1)).length<=g.length:=aK;have hsg:=Hk.o _ (ae hlt);have hc:=(g[k]).toNat_lt;rw[hdr];generalize g[k]=c at hsg hc;have hsg2:c=91\/c=63:=by simpa [Bi]using hsg
   have Hd:=Aa hdr;clear hsg hdr;rcases hsg2 with h91|h63
   ·have t1:((c.toNat:Int) == 91)=true:=Bv h91;clear h91;go_wp2_with fail;go_round
    case rel=>exact⟨k+1,by omega,Qkm (av aK)⟩
    case measure=>rw[Ky,Ky];simp
   have t1:((c.toNat:Int) == 91)=false:=At (d:=91) (by rw[h63];decide);have t2:((c.toNat:Int) == 63)=true:=Bv h63;clear h63;go_wp2_with fail;go_round
   case rel=>exact⟨k+1,by omega,Qkm (av aK)⟩
   case measure=>rw[Ky,Ky];simp
  ·rw[List.drop_of_length_le aI,List.nil_append];go_wp2_with fail;exact iq
theorem Qbd(nm:List UInt8)(w:World)(hn:nm.length<=1000):
  Calls prog 96 #[.string ⟨(64::(nm++[59])).toArray⟩] w fun e w'=>e=.returned (.tuple #[nm,.bool true])/\w=w':=by
 have h1:(nm++[59]).take nm.length=nm:=aK;go_enter func96,ntmps96;go_wp2_with fail;go_ret2;exact io
theorem Qdt(c:UInt8)(t:List UInt8)(w:World)(hc:c≠64)(hn:t.length<=1000):
  Calls prog 96 #[.string ⟨(c::t).toArray⟩] w fun e w'=>e=.returned (.tuple #[a6,.bool false])/\w=w':=by
 have t1:((c.toNat:Int) != 64)=true:=by
  have:=At hc;rw[bne_iff_ne];intro e;have h64:((64:UInt8).toNat:Int)=64:=rfl;rw[beq_eq_false_iff_ne,h64]at this;exact this e
 clear hc;go_enter func96,ntmps96;go_wp2_with fail;go_ret2;exact io
def Qm7:List UInt8:=[97,98,99,100,101,102,103,104,105,106,107,108,109,110,111,112,113,114,115,116,117,118,119,120,121,122]
def Qgw:List UInt8:=[97,98,99,100,101,102,103,104,105,106,107,108,109,110,111,112,113,114,115,116,117,118,119,120,121,122,48,49,50,51,52,53,54,55,56,57,32]
theorem Qx{p:UInt8->Bool}(h:∀n,n<256->p (UInt8.ofNat n)=true)(c:UInt8):p c=true:=by
 have:=h c.toNat c.toNat_lt;rwa [UInt8.ofNat_toNat]at this
theorem Qlb(c:UInt8):Qm7.contains c=Jx c:=by
 have:=Qx (p:=fun c=>Qm7.contains c == Jx c) eK c;simpa using this
theorem Qew(c:UInt8):Qgw.contains c=Cn c:=by
 have:=Qx (p:=fun c=>Qgw.contains c == Cn c) eK c;simpa using this
theorem Qny(s:List UInt8):s.all (Qm7.contains ·)=s.all Jx:=by congr 1;funext c;exact Qlb c
theorem Qnz(s:List UInt8):s.all (Qgw.contains ·)=s.all Cn:=by congr 1;funext c;exact Qew c
theorem Mr(s:List UInt8)(w:World)(hs:s.length<=9223372036854775807):
  Calls prog 138 #[s] w fun e w'=>e=.returned (.bool (Bf s))/\Below w w w':=by
 by_cases h1:1<=s.length
 ·by_cases h3:s.length<=3
  ·have hT:=fun W=>Qd1 s Qm7 W hs aL aL;simp only[Qny]at hT;have HT:=Aa hT;have hn:Bf s=s.all Jx:=by simp[Bf,h1,h3]
   have Hn:=Aa hn;clear hn hT;go_enter func138,ntmps138;go_wp2_with fail;refine(HT.o _).mono ?_;rintro e w' ⟨⟨r,rfl,hr⟩,hb⟩;cases r with
   |nil=>
    have Hr:=Aa (hr.1 rfl);clear hr;go_wp2_with fail;exact iv
   |cons x r=>
    have Hr:=Aa (show s.all Jx=false by
     cases h:s.all Jx with
     |false=>rfl
     |true=>exact absurd (hr.2 h) aK)
    clear hr;go_wp2_with fail;exact iv
  have Hn:=Aa (show Bf s=false by simp[Bf,h3]);go_enter func138,ntmps138;go_wp2_with fail;exact iw
 have Hn:=Aa (show Bf s=false by simp[Bf,h1]);go_enter func138,ntmps138;go_wp2_with fail;exact iw
theorem Qaa(s:List UInt8)(w:World)(hs:s.length<=9223372036854775807):
  Calls prog 183 #[s] w fun e w'=>e=.returned (.bool (Da s))/\Below w w w':=by
 by_cases h3:s.length<=12
 ·have hT:=fun W=>Qd1 s Qgw W hs aL aL;simp only[Qnz]at hT;have HT:=Aa hT;have hn:Da s=s.all Cn:=by simp[Da,h3]
  have Hn:=Aa hn;have t0:decide ((s.length:Int)<=12)=true:=aO;clear hn hT;go_enter func183,ntmps183;go_wp2_with fail;refine(HT.o _).mono ?_;rintro e w' ⟨⟨r,rfl,hr⟩,hb⟩;cases r with
  |nil=>
   have Hr:=Aa (hr.1 rfl);clear hr;go_wp2_with fail;exact iv
  |cons x r=>
   have Hr:=Aa (show s.all Cn=false by
    cases h:s.all Cn with
    |false=>rfl
    |true=>exact absurd (hr.2 h) aK)
   clear hr;go_wp2_with fail;exact iv
 have Hn:=Aa (show Da s=false by simp[Da,h3]);have t0:decide ((s.length:Int)<=12)=false:=aO;go_enter func183,ntmps183;go_wp2_with fail;exact iw
def pnV(s:List UInt8)(m:Nat):Value:=
 match Cx s with
 |none=>.tuple #[.int .i64 0,.bool false]
 |some n=>.tuple #[.int .i64 n,.bool (decide (n<=m))]
theorem Rp{s:List UInt8}{m:Nat}(h:Cx s=none):pnV s m=.tuple #[.int .i64 0,.bool false]:=by unfold pnV;rw[h]
theorem Tk{s:List UInt8}{m n:Nat}(h:Cx s=some n):pnV s m=.tuple #[.int .i64 n,.bool (decide (n<=m))]:=by unfold pnV;rw[h]
theorem Qcr(s:List UInt8)(k:Nat)(hk:k<=6)(h:(s.take k).all Bh=true):Gt (s.take k)<=999999:=by
 exact iy
theorem Gc(s:List UInt8)(m:Nat)(w:World)(hs:s.length<=9223372036854775807)(hm:m<=999999):
  Calls prog 186 #[s,.int .i64 m] w fun e w'=>e=.returned (pnV s m)/\w=w':=by
 rcases aH s.length 1 with h1|h1
 ·obtain rfl:s=[]:=List.eq_nil_of_length_eq_zero aI;have Hn:=Aa (Rp (m:=m) (show Cx []=none by rfl));go_enter func186,ntmps186;go_wp2_with fail;go_ret2;exact iz
 rcases aH 6 s.length with h6|h6
 ·have Hn:=Aa (Rp (m:=m) (show Cx s=none by unfold Cx;rw[if_neg];rintro⟨_,h,_⟩;omega));go_enter func186,ntmps186;go_wp2_with fail;go_ret2;exact iz
 have hc0:=(s[0]' aI).toNat_lt;have h3:(s[0]' aI=48/\1<s.length)\/((((s[0]' aI).toNat:Int) == 48)=true/\s.length<=1)\/((((s[0]' aI).toNat:Int) == 48)=false):=by
  by_cases h:s[0]' aI=48
  ·rcases aH 1 s.length with h'|h'
   ·exact .inl ⟨h,h'⟩
   exact .inr (.inl ⟨Bv h,h'⟩)
  exact .inr (.inr (At h))
 have hhd:(s.head?≠some 48\/s.length=1)\/(s[0]' aI=48/\1<s.length):=by
  rcases h3 with h|⟨_,h⟩|h
  ·exact .inr h
  ·exact .inl (.inr aI)
  refine .inl (.inl ?_);rw[List.head?_eq_getElem?,List.getElem?_eq_getElem aI];intro e;injection e with e;rw[e]at h;exact absurd h aL
 have Hhd:=Aa hhd;clear hhd;rcases h3 with⟨hz,hl⟩|⟨t0,hl⟩|t0
 ·have Hn:=Aa (Rp (m:=m) (show Cx s=none by
   unfold Cx;rw[if_neg];rintro⟨_,_,_,h|h⟩
   ·apply h;rw[List.head?_eq_getElem?,List.getElem?_eq_getElem aI,hz]
   omega))
  have t0:(((s[0]' aI).toNat:Int) == 48)=true:=Bv hz;have Hz:=Aa hz;go_enter func186,ntmps186;go_wp2_with fail;go_ret2;exact iz
 all_goals
  have Hall:Hid (s.head?≠some 48\/s.length=1):=by
   rcases Hhd.o with h|⟨e,h⟩
   ·exact h
   exfalso
   first
    |omega
    |(rw[e]at t0;exact absurd t0 aL)
  clear Hhd;go_enter func186,ntmps186;go_wp2_with fail;go_loop [6,28] (fun x i=>∃k:Nat,i=.int .i64 k/\k<=s.length/\Hid ((s.take k).all Bh=true)/\Gt (s.take k)<=999999/\x=.int .i64 ((Gt (s.take k):Nat):Int)) (fun _ i=>s.length - (intOf i).toNat)
  case atStart=>exact⟨0,rfl,ag _,by simp[Hid],by simp[Gt],by simp[Gt]⟩
  case round=>
   obtain⟨k,rfl,hk,hdig,hv,rfl⟩:=hrel;by_cases hlt:k<s.length
   ·have hc:=(s[k]).toNat_lt;have Hts:=Aa (Cv s k hlt);by_cases hd:Bh s[k]=true
    ·have hd2:=Dy.1 hd;obtain⟨d1,d2⟩:=hd2;have hdig2:(s.take (k+1)).all Bh=true:=by
      rw[Hts.o,List.all_append,hdig.o];simp[hd]
     have hv2:=Qcr s (k+1) aI hdig2;have Hdig2:=Aa hdig2;have Hv:=Aa (show Gt (s.take (k+1))=10*Gt (s.take k)+((s[k]).toNat - 48)by rw[Hts.o,Kw]);clear hd hdig2;go_wp2_with fail;go_round
     case rel=>exact⟨k+1,by go_num,by omega,Hdig2.o,hv2,Qb9 (by rw[Hv.o];omega)⟩
     case measure=>simp[intOf];omega
    have Hn:=Aa (Rp (m:=m) (show Cx s=none by
     unfold Cx;rw[if_neg];rintro⟨_,_,h,_⟩;exact hd (List.all_eq_true.1 h _ (ae hlt))))
    have h2:(s[k]).toNat<48\/(48<=(s[k]).toNat/\57<(s[k]).toNat):=by
     rcases aH (s[k]).toNat 48 with h|h
     ·exact .inl h
     rcases aH 57 (s[k]).toNat with h'|h'
     ·exact .inr ⟨h,h'⟩
     exact absurd (Dy.2 ⟨h,h'⟩) hd
    clear hd;rcases h2 with h2|⟨h2,h4⟩
    ·go_wp2_with fail;go_ret2;exact iz
    go_wp2_with fail;go_ret2;exact iz
   ·have e:s.take k=s:=av aI
    have Hn:=Aa (Tk (m:=m) (show Cx s=some (Gt (s.take k))by
     have hd:=hdig.o;rw[e]at hd ⊢;unfold Cx;rw[if_pos ⟨by omega,by omega,hd,Hall.o⟩]))
    clear e;generalize Gt (s.take k)=v at hv Hn;by_cases hvm:v<=m
    ·go_wp2_with fail;go_ret2;exact⟨by rw[Hn.o];exact Qmr rfl (Db (by simp[hvm])),rfl⟩
    go_wp2_with fail;go_ret2;exact⟨by rw[Hn.o];exact Qmr rfl (Db aO),rfl⟩
end
section
open Go.Maps (Keyed)
def Qb(v:Value):Option (DataW Value × List MemPlace):=some (.held v,[])
def D5(P:Program)(k:TypeId)(z:Value)(w:World)(b n:Nat)(F:Lit->Value):Prop:=
 ∃D:DataW Value,w.ownsMap P k Qb b n D/\Go.Maps.IsMap D/\∀l,WideAt.IsKeyLit l->D.atKey l (.held z)=.held (F l)
section
variable {P:Program} {k:TypeId} {z:Value} {w w':World} {b n:Nat} {F:Lit->Value}
theorem D5.made(w:World)(P:Program)(k:TypeId)(z:Value):D5 P k z (w.alloc (.map #[] 0)) w 0 (fun _=>z):=
 ⟨.map [],World.ownsMap_made w P k Qb,Go.Maps.isMap_empty,fun l _=>rfl⟩
theorem D5.lt(h:D5 P k z w b n F):b<w.heap.size:=by
 obtain⟨D,h1,_⟩:=h;exact h1.lt
theorem D5.kept{row:Option Nat}(h:D5 P k z w b n F)(hg:w.grownBy w' row)(hne:some b≠row):D5 P k z w' b n F:=by
 obtain⟨D,h1,h2⟩:=h;exact⟨D,h1.kept hg hne,h2⟩
theorem D5.below(h:D5 P k z w b n F)(hb:Below w w w'):D5 P k z w' b n F:=
 h.kept (row:=none) ⟨hb.os,hb.tape,hb.output,hb.size,fun k hk _=>hb.block k hk⟩ aK
theorem D5.belowAt{B:Nat}(h:D5 P k z w b n F)(hlt:b<B)(hb:Below B w w'):D5 P k z w' b n F:=by
 obtain⟨D,⟨es,clock,h1,h2,h3,h4⟩,h5⟩:=h;exact⟨D,⟨es,clock,(hb.block b hlt).trans h1,h2,h3,h4⟩,h5⟩
theorem D5.alloc(h:D5 P k z w b n F)(o:Obj):D5 P k z (w.alloc o) b n F:=h.below ((Aq _ _).alloc (Al _) o)
theorem D5.drew(h:D5 P k z w b n F):D5 P k z w.drew b n F:=h
theorem D5.mono(h:D5 P k z w b n F){n':Nat}(hn:n<=n'):D5 P k z w b n' F:=by
 obtain⟨D,h1,h2⟩:=h;exact⟨D,h1.mono hn,h2⟩
theorem D5.of_eq{G:Lit->Value}(h:D5 P k z w b n F)(e:∀l,WideAt.IsKeyLit l->F l=G l):D5 P k z w b n G:=by
 obtain⟨D,h1,h2,h3⟩:=h;exact⟨D,h1,h2,fun l hl=>by rw[h3 l hl,e l hl]⟩
theorem D5.lookup{t e:TypeId}(h:D5 P k z w b n F)(K:Keyed P k)(ht:P.underlying t=some (.map k e))(hz:(zeroValue e).run P w=.ok z w){key:Value}{kl:Lit}(hkey:keyOf P k key=some kl):
  (Instr.lookup t (.map (some b)) key false).run P w=.ok (F kl) w:=by
 obtain⟨D,h1,h2,h3⟩:=h;obtain⟨v,ps,hrun,hv⟩:=h1.lookup K ht hz (show Qb z=some (.held z,[])from rfl) hkey;rw[h3 kl (K.key hkey)]at hv;simp only[Qb,aj,aF,DataW.held.injEq]at hv;rw[hrun,hv.1]
theorem D5.store{t e:TypeId}(h:D5 P k z w b n F)(K:Keyed P k)(ht:P.underlying t=some (.map k e))(hn:n<maxLen){key:Value}(val:Value){kl:Lit}(hkey:keyOf P k key=some kl):
  ∃w',(Instr.mapUpdate t (.map (some b)) key val).run P w=.ok () w'/\D5 P k z w' b (n+1) (fun l=>if l.sameKey kl=true then val else F l)/\w.grownBy w' (some b):=by
 obtain⟨D,h1,h2,h3⟩:=h;obtain⟨w',hrun,r1,r2⟩:=h1.update K ht hn hkey (show Qb val=some (.held val,[])from rfl);refine⟨w',hrun,⟨_,r1,h2.put _ _,fun l hl=>?_⟩,r2⟩;by_cases e:l=kl
 ·subst e;rw[Go.Maps.atKey_put_same h2 hl];simp[WideAt.sameKey_self hl]
 rw[Go.Maps.atKey_put_other e,h3 l hl];simp[show l.sameKey kl=false from Go.Maps.sameKey_ne e]
end
abbrev Cy:=List UInt8
def Va(S:List Ty):Nat->Kd->List Cy->List Cy
 |0,_,out=>out
 |n+1,k,out=>
  if k.base=[64]/\k.name∉out then
   (match B9 S k.name with
    |none=>out++[k.name]
    |some t=>if t.sort=69 then out++[k.name]else t.fields.foldl (fun o f=>Va S n f.kind o) (out++[k.name]))
  else out
def Qgb(x:Cy)(y:Cy):Bool:=decide (y<x)
def Qph(x:Cy)(out:List Cy):List Cy:=out.takeWhile (Qgb x)++x::out.dropWhile (Qgb x)
def Qqn(x:Cy)(out:List Cy):Bool:=decide ((out.dropWhile (Qgb x)).head?=some x)
def S4(S:List Ty):Nat->Kd->List Cy->List Cy
 |0,_,out=>out
 |n+1,k,out=>
  if k.base=[64]/\Qqn k.name out=false then
   (match B9 S k.name with
    |none=>Qph k.name out
    |some t=>if t.sort=69 then Qph k.name out else t.fields.foldl (fun o f=>S4 S n f.kind o) (Qph k.name out))
  else out
def Nc(S:List Ty):List Cy:=S.map (·.name)
def Qn2(S:List Ty)(out:List Cy):Prop:=out.Nodup/\∀x∈out,x∈Nc S
theorem Qn2.nil(S:List Ty):Qn2 S []:=⟨List.nodup_nil,by simp⟩
theorem Qhv:∀(l m:List Cy),l.Nodup->(∀x∈l,x∈m)->l.length<=m.length
 |[],m,_,_=>ag _
 |x::l,m,hn,hs=>by
  obtain⟨h1,h2⟩:=List.nodup_cons.1 hn;have hx:=hs x aK
  have ih:=Qhv l (m.erase x) h2 (fun y hy=>by
   have hne:y≠x:=by rintro rfl;exact h1 hy
   exact(List.mem_erase_of_ne hne).2 (hs y (by simp[hy])))
  have hl:=List.length_erase_of_mem hx;have hp:0<m.length:=List.length_pos_iff.2 (by rintro rfl;cases hx);simp;omega
theorem Qn2.len{S:List Ty}{out:List Cy}(h:Qn2 S out):out.length<=S.length:=by
 have:=Qhv out (Nc S) h.1 h.2;simpa [Nc]using this
end
section
attribute [local go_sem] Qpu Qo3 Qmi
theorem Xy(s p:List UInt8):(s.take p.length == p)=p.isPrefixOf s:=by
 rw[Bool.eq_iff_iff,beq_iff_eq,List.isPrefixOf_iff_prefix,List.prefix_iff_eq_take];exact eq_comm
theorem Xv(s p:List UInt8)(h:¬p.length<=s.length):p.isPrefixOf s=false:=by
 rw[Bool.eq_false_iff,Ne,List.isPrefixOf_iff_prefix];intro hp;exact h hp.length_le
theorem Y6(s p:List UInt8)(w:World):
  Calls prog 194 #[s,p] w fun e w'=>e=.returned (.bool (p.isPrefixOf s))/\w=w':=by
 by_cases h:p.length<=s.length
 ·have HS:=Aa (Xy s p);go_enter func194,ntmps194;go_wp2
  go_ret;exact⟨by rw[<-HS.o];rfl,rfl⟩
 have HS:=Aa (Xv s p h);go_enter func194,ntmps194;go_wp2
 go_ret;exact⟨by rw[HS.o];rfl,rfl⟩
abbrev Gm:=Cy × Cy
def evF(S T:List Ty)(K:Kd->Kd->List Gm->Bool × List Gm)(t:Ty)(st:UInt8):List Fd->List Gm->Bool × List Gm
 |[],m=>(true,m)
 |g::gs,m=>match Ap t.fields g.tag with
  |none=>if st=82 then evF S T K t st gs m else(false,m)
  |some f=>if st=69 then evF S T K t st gs m else
    if (K f.kind g.kind m).1=false then(false,(K f.kind g.kind m).2)
    else if st=82/\Kr S f≠Kr T g then(false,(K f.kind g.kind m).2)
    else evF S T K t st gs (K f.kind g.kind m).2
def evT(S T:List Ty)(K:Kd->Kd->List Gm->Bool × List Gm)(t u:Ty)(m:List Gm):Bool × List Gm:=
 if t.sort≠u.sort then(false,m)else evF S T K t u.sort u.fields m
def evK(S T:List Ty):Nat->Kd->Kd->List Gm->Bool × List Gm
 |0,_,_,m=>(true,m)
 |n+1,a,b,m=>
  if a.signs≠b.signs\/a.base≠b.base then(false,m)
  else if a.base≠[64]then(true,m)
  else match B9 S a.name,B9 T b.name with
   |some t,some u=>if (a.name,b.name)∈m then(true,m)else evT S T (evK S T n) t u (m++[(a.name,b.name)])
   |_,_=>(false,m)
def Qmv(S T:List Ty)(m:List Gm):Prop:=m.Nodup/\∀p∈m,p.1∈Nc S/\p.2∈Nc T
theorem Qmv.nil(S T:List Ty):Qmv S T []:=⟨List.nodup_nil,by simp⟩
theorem Qfo:∀(l m:List Gm),l.Nodup->(∀x∈l,x∈m)->l.length<=m.length
 |[],m,_,_=>aK
 |x::l,m,hn,hs=>by
  have hx:=hs x aK;have:=Qfo l (m.erase x) (List.nodup_cons.1 hn).2 (fun y hy=>(List.mem_erase_of_ne (by rintro rfl;exact(List.nodup_cons.1 hn).1 hy)).2 (hs y (by simp[hy])));rw[List.length_erase_of_mem hx]at this;have:=List.length_pos_of_mem hx;simp only[List.length_cons];omega
def Qez(a b:List Cy):List Gm:=a.flatMap fun x=>b.map fun y=>(x,y)
theorem Qby(b:List Cy):∀a,(Qez a b).length=a.length*b.length
 |[]=>by simp[Qez]
 |x::a=>by
  have:=Qby b a;unfold Qez at this ⊢;rw[List.flatMap_cons,ah,List.length_map,this,List.length_cons,Nat.add_mul];omega
theorem Qmv.len{S T:List Ty}{m:List Gm}(h:Qmv S T m):m.length<=S.length*T.length:=by
 have:=Qfo m (Qez (Nc S) (Nc T)) h.1 (fun x hx=>by
  obtain⟨a,b⟩:=x;have:=h.2 _ hx;unfold Qez;rw[List.mem_flatMap];exact⟨a,this.1,ay.2 ⟨b,this.2,rfl⟩⟩)
 rw[Qby]at this;simpa [Nc]using this
def Qoo(S T:List Ty)(a b:Kd):Bool:=(evK S T 65 a b []).1
def Yg(x y:Option (List Ty × Kd)):Bool:=match x,y with
 |some (S,a),some (T,b)=>Qoo S T a b
 |_,_=>false
def Qnu(R:Cy->Cy->Prop)(a b:Kd):Prop:=a.signs=b.signs/\a.base=b.base/\(a.base=[64]->R a.name b.name)
def Qmd(S T:List Ty)(R:Cy->Cy->Prop)(t:Ty)(st:UInt8)(g:Fd):Prop:=
 match Ap t.fields g.tag with
 |none=>st=82
 |some f=>st=69\/(Qnu R f.kind g.kind/\(st=82->Kr S f=Kr T g))
def Qch(S T:List Ty)(R:Cy->Cy->Prop)(a b:Cy):Prop:=∃t u,B9 S a=some t/\B9 T b=some u/\t.sort=u.sort/\∀g∈u.fields,Qmd S T R t u.sort g
abbrev inM(m:List Gm)(a b:Cy):Prop:=(a,b)∈m
theorem Qnu.mono{R Q:Cy->Cy->Prop}(h:∀a b,R a b->Q a b){a b:Kd}(hk:Qnu R a b):Qnu Q a b:=⟨hk.1,hk.2.1,fun e=>h _ _ (hk.2.2 e)⟩
theorem Qmd.mono{S T:List Ty}{R Q:Cy->Cy->Prop}(h:∀a b,R a b->Q a b){t:Ty}{st:UInt8}{g:Fd}(hk:Qmd S T R t st g):Qmd S T Q t st g:=by
 unfold Qmd at hk ⊢;cases hf:Ap t.fields g.tag with
 |none=>rw[hf]at hk;exact hk
 |some f=>
  rw[hf]at hk;rcases hk with hk|⟨x,y⟩
  ·exact .inl hk
  exact .inr ⟨x.mono h,y⟩
theorem Qch.mono{S T:List Ty}{R Q:Cy->Cy->Prop}(h:∀a b,R a b->Q a b){a b:Cy}(hk:Qch S T R a b):Qch S T Q a b:=by
 obtain⟨t,u,e1,e2,e3,e4⟩:=hk;exact⟨t,u,e1,e2,e3,fun g hg=>(e4 g hg).mono h⟩
def Qhx(S T:List Ty)(m m':List Gm):Prop:=∀a b,(a,b)∈m'->(a,b)∉m->Qch S T (inM m') a b
theorem Qhx.trans{S T:List Ty}{m1 m2 m3:List Gm}(h1:Qhx S T m1 m2)(h2:Qhx S T m2 m3)(hs:∀p∈m2,p∈m3):Qhx S T m1 m3:=by
 intro a b h3 hn;by_cases h:(a,b)∈m2
 ·exact(h1 a b h hn).mono fun x y hxy=>hs _ hxy
 exact h2 a b h3 h
def Xw(ρ:Cy->Cy)(k:Kd):Kd:=if k.base=[64]then {k with name:=ρ k.name} else k
def Rc(ρ:Cy->Cy)(st:UInt8)(f:Fd):Fd:=if st=69 then f else {f with kind:=Xw ρ f.kind}
def Zq(ρ:Cy->Cy)(t:Ty):Ty:={t with name:=ρ t.name,fields:=t.fields.map (Rc ρ t.sort)}
theorem Zh(ρ:Cy->Cy)(k:Kd):(Xw ρ k).signs=k.signs:=eP
theorem Qy(ρ:Cy->Cy)(k:Kd):(Xw ρ k).base=k.base:=eP
theorem Nn{ρ:Cy->Cy}{k:Kd}(h:k.base=[64]):(Xw ρ k).name=ρ k.name:=by unfold Xw;rw[if_pos h]
theorem Qk0(ρ:Cy->Cy)(st:UInt8)(f:Fd):(Rc ρ st f).tag=f.tag:=by unfold Rc;split<;>rfl
theorem Qgr(ρ:Cy->Cy)(st:UInt8)(f:Fd):(Rc ρ st f).given=f.given:=by unfold Rc;split<;>rfl
theorem Q4{ρ:Cy->Cy}{st:UInt8}(h:st≠69)(f:Fd):(Rc ρ st f).kind=Xw ρ f.kind:=by unfold Rc;rw[if_neg h]
theorem Qnr(k:Kd):Xw id k=k:=eP
theorem Qmy(st:UInt8)(f:Fd):Rc id st f=f:=by unfold Rc;split;rfl;rw[Qnr]
theorem Qnl(t:Ty):Zq id t=t:=by
 unfold Zq;have:t.fields.map (Rc id t.sort)=t.fields:=by
  rw[show Rc id t.sort=id from funext fun f=>Qmy _ f];simp
 rw[this];rfl
def inN(ns:List Cy)(k:Kd):Prop:=k.base=[64]->k.name∈ns
structure Ren(S T:List Ty)(ns:List Cy)(ρ:Cy->Cy):Prop where
 get:∀n∈ns,∃t,B9 S n=some t/\B9 T (ρ n)=some (Zq ρ t)/\Ek t/\(t.sort≠69->∀f∈t.fields,inN ns f.kind)
 inj:∀a∈ns,∀b∈ns,ρ a=ρ b->a=b
theorem Ren.met{S T:List Ty}{ns:List Cy}{ρ:Cy->Cy}(h:Ren S T ns ρ):∀(n:Nat) (k:Kd) (out:List Cy),inN ns k->(∀x∈out,x∈ns) ->
  Va T n (Xw ρ k) (out.map ρ)=(Va S n k out).map ρ/\∀x∈Va S n k out,x∈ns
 |0,k,out,_,ho=>⟨rfl,ho⟩
 |n+1,k,out,hk,ho=>by
  by_cases hb:k.base=[64]
  ·have hkn:=hk hb;have hmem:ρ k.name∈out.map ρ↔k.name∈out:=by
    rw[ay];exact⟨fun⟨y,hy,e⟩=>by rw[<-h.inj y (ho y hy) k.name hkn e];exact hy,fun hy=>⟨_,hy,rfl⟩⟩
   by_cases hin:k.name∈out
   ·rw[Va,Va,if_neg (by rw[Nn hb];exact fun hh=>hh.2 (hmem.2 hin)),if_neg (fun hh=>hh.2 hin)];exact⟨rfl,ho⟩
   obtain⟨t,e1,e2,e3,e4⟩:=h.get _ hkn;have ho2:∀x∈out++[k.name],x∈ns:=fun x hx=>by
    rcases af.1 hx with hx|hx
    ·exact ho x hx
    simp at hx;subst hx;exact hkn
   rw[Va,Va,if_pos ⟨by rw[Qy];exact hb,by rw[Nn hb];exact fun hh=>hin (hmem.1 hh)⟩,if_pos ⟨hb,hin⟩,Nn hb,e1,e2];simp only;rw[show (Zq ρ t).sort=t.sort from rfl,show (Zq ρ t).fields=t.fields.map (Rc ρ t.sort)from rfl];have em:out.map ρ++[ρ k.name]=(out++[k.name]).map ρ:=aK;by_cases h69:t.sort=69
   ·rw[if_pos h69,if_pos h69];exact⟨em,ho2⟩
   rw[if_neg h69,if_neg h69,em];have key:∀(fs:List Fd),(∀f∈fs,inN ns f.kind)->∀(o:List Cy),(∀x∈o,x∈ns) ->
     (fs.map (Rc ρ t.sort)).foldl (fun o f=>Va T n f.kind o) (o.map ρ)=(fs.foldl (fun o f=>Va S n f.kind o) o).map ρ/\∀x∈fs.foldl (fun o f=>Va S n f.kind o) o,x∈ns:=by
    intro fs;induction fs with
    |nil=>intro _ o ho;exact⟨rfl,ho⟩
    |cons f fs ih=>
     intro hfs o ho;obtain⟨m1,m2⟩:=h.met n f.kind o (hfs f aK) ho;simp only[az,List.foldl_cons];rw[Q4 h69,m1];exact ih (fun g hg=>hfs g (by simp[hg])) _ m2
   exact key t.fields (e4 h69) _ ho2
  rw[Va,Va,if_neg (fun hh=>hb (by rw[Qy]at hh;exact hh.1)),if_neg (fun hh=>hb hh.1)];exact⟨rfl,ho⟩
theorem Ren.used{S T:List Ty}{ns:List Cy}(h:Ren S T ns id):∀(n:Nat) (k:Kd) (out:List Cy),inN ns k->S4 T n k out=S4 S n k out
 |0,k,out,_=>rfl
 |n+1,k,out,hk=>by
  by_cases hc:k.base=[64]/\Qqn k.name out=false
  ·obtain⟨t,e1,e2,e3,e4⟩:=h.get _ (hk hc.1);rw[Qnl]at e2;rw[S4,S4,if_pos hc,if_pos hc,e1,show B9 T k.name=some t from e2];simp only;split
   ·rfl
   rename_i h69;have key:∀(fs:List Fd),(∀f∈fs,inN ns f.kind)->∀(o:List Cy),fs.foldl (fun o f=>S4 T n f.kind o) o=fs.foldl (fun o f=>S4 S n f.kind o) o:=by
    intro fs;induction fs with
    |nil=>intro _ o;rfl
    |cons f fs ih=>
     intro hfs o;simp only[List.foldl_cons];rw[h.used n f.kind o (hfs f aK)];exact ih (fun g hg=>hfs g (by simp[hg])) _
   exact key _ (e4 h69) _
  rw[S4,S4,if_neg hc,if_neg hc]
theorem Ren.stand{S T:List Ty}{ns:List Cy}{ρ:Cy->Cy}(h:Ren S T ns ρ):∀(n:Nat) (k:Kd),inN ns k->Qcd k->Dq T n (Xw ρ k)=Dq S n k
 |0,_,_,_=>rfl
 |n+1,k,hk,hb=>by
  rw[Dq,Dq,Zh,Qy];split
  ·rfl
  split
  ·rfl
  split
  ·rfl
  rename_i h1;split
  ·rfl
  rename_i h2;split
  ·rfl
  rename_i h3;have hb64:k.base=[64]:=by
   rcases hb with⟨hb,_⟩|⟨hb|hb|hb,_⟩
   ·exact hb
   ·exact absurd hb h1
   ·exact absurd hb h2
   exact absurd hb h3
  obtain⟨t,e1,e2,e3,e4⟩:=h.get _ (hk hb64);rw[Nn hb64,e1,e2];simp only;rw[show (Zq ρ t).sort=t.sort from rfl,show (Zq ρ t).fields=t.fields.map (Rc ρ t.sort)from rfl];split
  ·rfl
  cases hf:t.fields with
  |nil=>rfl
  |cons f fs=>
   simp only[az];rw[Qk0];split
   ·rfl
   rename_i h69;rw[Q4 h69,h.stand n f.kind (e4 h69 f dF) ((e3.2.2.1.1 f dF).2.2.2.2 h69).1.2.1]
theorem Ren.of{S T:List Ty}{ns:List Cy}{ρ:Cy->Cy}(h:Ren S T ns ρ){st:UInt8}{f:Fd}(h69:st≠69)(hf:Su st f)(hk:inN ns f.kind):Kr T (Rc ρ st f)=Kr S f:=by
 unfold Kr;rw[Qgr,Q4 h69];unfold Vt;rw[h.stand 10 f.kind hk (hf.2.2.2.2 h69).1.2.1]
theorem P6{t:Ty}(hd:t.fields.Pairwise fun g f=>g.name≠f.name/\g.tag<f.tag){g:Fd}(hgm:g∈t.fields):Ap t.fields g.tag=some g:=by
 cases h:Ap t.fields g.tag with
 |none=>
  have:=List.find?_eq_none.1 h g hgm;simp at this
 |some f=>
  have hm:=List.mem_of_find?_eq_some h;have ht:=List.find?_some h;simp only[decide_eq_true_eq]at ht;obtain⟨i,hi,rfl⟩:=List.mem_iff_getElem.1 hm;obtain⟨j,hj,rfl⟩:=List.mem_iff_getElem.1 hgm;rw[List.pairwise_iff_getElem]at hd;rcases Nat.lt_trichotomy i j with hij|hij|hij
  ·have:=(hd i j hi hj hij).2;omega
  ·subst hij;rfl
  have:=(hd j i hj hi hij).2;omega
theorem Ren.ends{S T:List Ty}{ns:List Cy}{ρ:Cy->Cy}(h:Ren S T ns ρ):∀(n:Nat) (t:Ty),(t.sort≠69->∀f∈t.fields,inN ns f.kind)->By T n (Zq ρ t)=By S n t
 |0,_,_=>rfl
 |n+1,t,ht=>by
  unfold By;by_cases h85:t.sort=85
  ·have h69:t.sort≠69:=dA;unfold Gb;rw[show (Zq ρ t).sort=t.sort from rfl,show (Zq ρ t).fields=t.fields.map (Rc ρ t.sort)from rfl,if_pos h85,if_pos h85];cases hf:t.fields with
   |nil=>rfl
   |cons f fs=>
    simp only[az];rw[Q4 h69,Zh,Qy];by_cases hc:f.kind.signs=[]/\f.kind.base=[64]
    ·rw[if_pos hc,if_pos hc,Nn hc.2];obtain⟨u,e1,e2,e3,e4⟩:=h.get _ (ht h69 f dF hc.2);rw[e1,e2];exact h.ends n u e4
    rw[if_neg hc,if_neg hc]
  have e1:Gb T (Zq ρ t)=none:=if_neg h85;have e2:Gb S t=none:=if_neg h85;rw[e1,e2]
def LOk(v:Vl)(r:Vl × Bool):Prop:=(r.2=false->r.1=v)/\(r.2=true->(Aw r.1).length<(Aw v).length)
theorem LOk.le{v:Vl}{r:Vl × Bool}(h:LOk v r):(Aw r.1).length<=(Aw v).length:=by
 cases e:r.2 with
 |false=>rw[h.1 e];exact Al _
 |true=>exact Nat.le_of_lt (h.2 e)
theorem LOk.same(v:Vl):LOk v (v,false):=⟨fun _=>rfl,fun h=>Bool.noConfusion h⟩
def Du(ps:List (List UInt8)):Nat:=(ps.map fun p=>p.length+1).sum
theorem Ev(p:List UInt8)(ps:List (List UInt8)):Du (p::ps)=p.length+1+Du ps:=dl
theorem Bs(c:UInt8):∀ps:List (List UInt8),(Ax c ps).length=Du ps - 1
 |[]=>rfl
 |[p]=>by simp[Ax,Du]
 |p::q::ps=>by
  rw[Dl c p aK,ah,List.length_cons,Bs c (q::ps),Ev p,Ev q];omega
theorem T0(w:UInt8)(tx:List UInt8)(tg:Nat)(ks:List Vl):Aw (.mk w tx tg ks)=Gl w tx tg (ks.map Aw):=by rw[Aw,Sy]
theorem Jo(p:Fd × Vl):(Aw (Ea p)).length=(Az p.1.tag).length+1+(Aw p.2).length:=by simp[Ea,Aw,Di,Gl,Ax];omega
theorem Rr{fs:List Fd}{n:Nat}{f:Fd}(h:Ap fs n=some f):f∈fs/\f.tag=n:=⟨(Ay h).2,(Ay h).1⟩
end
section
attribute [local go_sem] Qra Qpu Qo3 Qmi ByteArray.mk_append_mk
theorem Qbi(n:Nat)(w:World)(hn:n<10):
  Calls prog 161 #[.int .i64 n] w fun e w'=>e=.returned (.string ⟨(Az n).toArray⟩)/\Below w w w':=by
 have Hfin:=Aa (Fa hn);have hcv:=fun W=>Jh W w 1 (Bx (48+n));rw[Bo aI]at hcv;go_enter func161,ntmps161;go_wp2_with fail;exact iC
theorem Qf6(n:Nat)(h10:¬n<10)(hn:n<=1000000000)(ih:∀W,Calls prog 161 #[.int .i64 ((n / 10:Nat):Int)] W fun e w'=>e=.returned (.string ⟨(Az (n / 10)).toArray⟩)/\Below W W w')(w:World):
  Calls prog 161 #[.int .i64 n] w fun e w'=>e=.returned (.string ⟨(Az n).toArray⟩)/\Below w w w':=by
 have Hfin:=Aa (Nx h10);have ih':=Aa ih;have hl:=C9 8 (n / 10) f7;clear ih;have hcv:=fun W g=>Jh W g 1 (Bx (48+n % 10));have h1:IntKind.u8.wrap (IntKind.i64.wrap (48+(n:Int).tmod 10))=((Bx (48+n % 10)).toNat:Int):=by
  exact iD
 have h2:IntKind.i64.wrap ((n:Int) / 10)=((n / 10:Nat):Int):=fO;go_enter func161,ntmps161;go_wp2_with fail;go_region_with (go_at_call 161;refine(ih'.out _).mono ?_;rintro e w' ⟨rfl,hb⟩;obtain⟨hc,hf,hz⟩:=Ci hb)
 all_goals
  go_wp2
  go_ret;refine⟨by rw[Hfin.o];rfl,?_⟩;have hsz:=hb.size;repeat (first|exact Aq _ _|refine Below.drew ?_|refine Below.alloc ?_ (by simp at hsz ⊢;first|omega|done) _|refine Below.trans ?_ (hb.mono aK))
theorem Gg:∀(k n:Nat) (w:World),n<=k->n<=1000000000 ->
  Calls prog 161 #[.int .i64 n] w fun e w'=>e=.returned (.string ⟨(Az n).toArray⟩)/\Below w w w':=by
 intro k;induction k with
 |zero=>intro n w hn h;exact Qbi n w aI
 |succ k ih=>
  intro n w hn h;by_cases h10:n<10
  ·exact Qbi n w h10
  exact Qf6 n h10 h (fun W=>ih (n / 10) W aI aI) w
theorem Qa6(s:List UInt8)(k:Nat)(hk:k<=6)(h:(s.take k).all Bh=true):Gt (s.take k)<=999999:=by
 exact iy
def Ef(s:List UInt8)(top:Nat):Bool:=match Cx s with|some m=>decide (m<=top)|none=>false
theorem Nk{s:List UInt8}{top:Nat}(h:Cx s=none):Ef s top=false:=by unfold Ef;rw[h]
theorem Nu{s:List UInt8}{top n:Nat}(h:Cx s=some n):Ef s top=decide (n<=top):=by unfold Ef;rw[h]
def Qiw(s:List UInt8)(top:Nat)(w:World)(e:Ending)(w':World):Prop:=
 ∃n:Nat,n<=999999/\e=.returned (.tuple #[.int .i64 n,.bool (Ef s top)])/\(∀m,Cx s=some m->m=n)/\Below w w w'
theorem Dv(s:List UInt8)(m:Nat)(w:World)(hs:s.length<=4000000)(hm:m<=999999):
  Calls prog 127 #[s,.int .i64 m] w (Qiw s m w):=by
 go_enter func127,ntmps127;go_wp2_with fail;go_loop [6,7] (fun x i=>∃k:Nat,i=.int .i64 k/\k<=s.length/\k<=6/\Hid ((s.take k).all Bh=true)/\Gt (s.take k)<=999999/\x=.int .i64 ((Gt (s.take k):Nat):Int)) (fun _ i=>s.length - (intOf i).toNat)
 case atStart=>exact⟨0,rfl,ag _,by omega,by simp[Hid],by simp[Gt],by simp[Gt]⟩
 case round=>
  obtain⟨k,rfl,hk,hk6,hdig,hv,rfl⟩:=hrel;by_cases hlt:k<s.length
  ·have hc:=(s[k]).toNat_lt;have Hts:=Aa (Cv s k hlt);have Hmem:=Aa (ae hlt);by_cases hd:Bh s[k]=true
   ·have hd2:=Dy.1 hd;obtain⟨d1,d2⟩:=hd2;by_cases h5:k<=5
    ·have hdig2:(s.take (k+1)).all Bh=true:=by
      rw[Hts.o,List.all_append,hdig.o];simp[hd]
     have hv2:=Qa6 s (k+1) aI hdig2;have Hdig2:=Aa hdig2;have Hv:=Aa (show Gt (s.take (k+1))=10*Gt (s.take k)+((s[k]).toNat - 48)by rw[Hts.o,Kw]);clear hd hdig2;go_wp2_with fail;go_round
     case rel=>exact⟨k+1,by go_num,by omega,by omega,Hdig2.o,hv2,Qb9 (by rw[Hv.o];omega)⟩
     case measure=>simp[intOf];omega
    have h5':5<k:=aI;have hno:Cx s=none:=by
     unfold Cx;rw[if_neg];rintro⟨_,h,_⟩;omega
    have Hn:=Aa (Nk (top:=m) hno);have Hno:=Aa hno;clear hd hno h5;go_wp2_with fail;go_ret2;exact iE
   have hno:Cx s=none:=by
    unfold Cx;rw[if_neg];rintro⟨_,_,h,_⟩;exact hd (List.all_eq_true.1 h _ Hmem.o)
   have Hn:=Aa (Nk (top:=m) hno);have Hno:=Aa hno;have h2:(s[k]).toNat<48\/(48<=(s[k]).toNat/\57<(s[k]).toNat):=by
    rcases aH (s[k]).toNat 48 with h|h
    ·exact .inl h
    rcases aH 57 (s[k]).toNat with h'|h'
    ·exact .inr ⟨h,h'⟩
    exact absurd (Dy.2 ⟨h,h'⟩) hd
   clear hd hno;rcases h2 with h2|⟨h2,h4⟩
   ·go_wp2_with fail;go_ret2;exact iE
   go_wp2_with fail;go_ret2;exact iE
  ·have e:s.take k=s:=av aI;rw[e]at hv ⊢;have hcase:(Cx s=some (Gt s)/\s=Az (Gt s))\/(Cx s=none/\s≠Az (Gt s)):=by
    by_cases h:s=Az (Gt s)
    ·exact .inl ⟨Bw.2 ⟨hv,h⟩,h⟩
    refine .inr ⟨?_,h⟩;cases hd:Cx s with
    |none=>rfl
    |some n=>
     obtain⟨_,h2⟩:=Bw.1 hd;exact absurd (by rw[h2,Q7]) h
   clear hdig e;generalize Gt s=v at hv hcase;have hdl:=C9 5 v fc;rcases hcase with⟨h1,h2⟩|⟨h1,h2⟩
   ·have Hn:=Aa (Nu (top:=m) h1);have Hd:=Aa h1;have tq:(s == Az v)=true:=dV;clear h1 h2;by_cases hvm:v<=m
    ·go_wp2_with fail;refine(Gg v v _ (Al _) aI).mono ?_;rintro e w1 ⟨rfl,hb⟩;have Hb:=Aa hb;clear hb;go_wp2_with fail;go_ret2;exact⟨v,hv,by rw[Hn.o];exact Qmr rfl (Db (by simp[hvm])),(fun m h=>by rw[Hd.o]at h;injection h with h;exact h.symm),Hb.o⟩
    have hvm':m<v:=aI;go_wp2_with fail;refine(Gg v v _ (Al _) aI).mono ?_;rintro e w1 ⟨rfl,hb⟩;have Hb:=Aa hb;clear hb;go_wp2_with fail;go_ret2;exact⟨v,hv,by rw[Hn.o];exact Qmr rfl (Db aO),(fun m h=>by rw[Hd.o]at h;injection h with h;exact h.symm),Hb.o⟩
   have Hn:=Aa (Nk (top:=m) h1);have Hd:=Aa h1;have tq:(s == Az v)=false:=dV;clear h1 h2;go_wp2_with fail;refine(Gg v v _ (Al _) aI).mono ?_;rintro e w1 ⟨rfl,hb⟩;have Hb:=Aa hb;clear hb;go_wp2_with fail;go_ret2;exact⟨v,hv,by rw[Hn.o];rfl,(fun m h=>by rw[Hd.o]at h;cases h),Hb.o⟩
def Fq(s:List UInt8):Bool:=decide (2<=s.length) && decide (s.head?=some 39) && decide (s.getLast?=some 39) && Da (s.drop 1).dropLast
theorem Sh(s:List UInt8)(w:World)(hs:s.length<=4000000):
  Calls prog 158 #[s] w fun e w'=>e=.returned (.bool (Fq s))/\w=w':=by
 have hf:Fq s=(decide (2<=s.length) && decide (s.head?=some 39) && decide (s.getLast?=some 39) && Da (s.drop 1).dropLast):=rfl;rcases aH s.length 2 with h2|h2
 ·have e0:decide (2<=s.length)=false:=aO;have Hf:=Aa (show Fq s=false by rw[hf,e0];simp);have t0:decide ((s.length:Int)<2)=true:=aO;clear hf e0;go_enter func158,ntmps158;go_wp2_with fail;exact ir
 have t0:decide ((s.length:Int)<2)=false:=aO;rcases aH 14 s.length with h14|h14
 ·have Hf:=Aa (show Fq s=false by
   have:Da (s.drop 1).dropLast=false:=by
    unfold Da;have e1:decide ((s.drop 1).dropLast.length<=12)=false:=aO;rw[e1];rfl
   rw[hf,this];simp)
  have t1:decide (14<(s.length:Int))=true:=aO;clear hf;go_enter func158,ntmps158;go_wp2_with fail;exact ir
 obtain⟨c,u,d,rfl⟩:∃c u d,s=c::(u++[d]):=by
  cases s with
  |nil=>simp at h2
  |cons c t=>
   rcases Fl t with rfl|⟨u,d,rfl⟩
   ·simp at h2
   exact⟨c,u,d,rfl⟩
 have hl:(c::(u++[d])).getLast?=some d:=by
  exact iu
 have hu:((c::(u++[d])).drop 1).dropLast=u:=aK;have e2:decide (2<=(c::(u++[d])).length)=true:=aK;rw[hl,hu,e2]at hf;simp only[List.head?_cons,aj,Bool.true_and]at hf;have Hf:=Aa hf;have hc:=c.toNat_lt;have hd:=d.toNat_lt;have hgd:∀h,(c::(u++[d]))[u.length+1]'h=d:=by intro h;simp
 have hul:u.length<=12:=by simp at h14;omega
 have Hfit:=Aa (show Da u=u.all Cn by simp[Da,hul]);clear hf hl hu h2 hs h14 t0 e2;by_cases hc39:c=39
 ·have t1:((c.toNat:Int) != 39)=false:=by have:=Bv hc39;simpa using this
  have Hc:=Aa (show decide (c=39)=true by simpa using hc39);clear hc39;by_cases hd39:d=39
  ·have t2:((d.toNat:Int) != 39)=false:=by have:=Bv hd39;simpa using this
   have Hd:=Aa (show decide (d=39)=true by simpa using hd39);clear hd39;go_enter func158,ntmps158;go_wp2_with fail;go_loop [3] (fun i=>∃k:Nat,i=.int .i64 ((k:Int)+1)/\k<=u.length/\Hid ((u.take k).all Cn=true)) (fun i=>u.length+1 - (intOf i).toNat)
   case atStart=>exact⟨0,rfl,ag _,by simp[Hid]⟩
   case round=>
    obtain⟨k,rfl,hk,hin⟩:=hrel;by_cases hlt:k<u.length
    ·have hg:∀h,(c::(u++[d]))[k+1]'h=u[k]:=by intro h;simp[List.getElem_append_left hlt]
     have Hts:=Aa (Cv u k hlt);have Hmem:=Aa (ae hlt);have hx:=(u[k]).toNat_lt;generalize u[k]=x at hg Hts Hmem hx;by_cases ht:Cn x=true
     ·have Hin:=Aa (show (u.take (k+1)).all Cn=true by rw[Hts.o,List.all_append,hin.o];simp[ht]);have h3:x=32\/(x.toNat≠32/\48<=x.toNat/\x.toNat<=57)\/(57<x.toNat/\97<=x.toNat/\x.toNat<=122):=by
       unfold Cn at ht;simp only[Bool.or_eq_true]at ht;rcases ht with(h|h)|h
       ·have:=No.1 h;exact .inr (.inr ⟨by omega,this⟩)
       ·have:=Dy.1 h;exact .inr (.inl ⟨by omega,this⟩)
       exact .inl aU
      clear ht;rcases h3 with h3|⟨h3,h4,h5⟩|⟨h3,h4,h5⟩
      ·have t3:((x.toNat:Int) != 32)=false:=by have:=Bv h3;simpa using this
       clear h3;go_wp2_with fail;go_round
       case rel=>exact⟨k+1,by go_num,by omega,Hin.o⟩
       case measure=>simp[intOf];omega
      ·have t3:((x.toNat:Int) != 32)=true:=dS;go_wp2_with fail;go_round
       case rel=>exact⟨k+1,by go_num,by omega,Hin.o⟩
       case measure=>simp[intOf];omega
      have t3:((x.toNat:Int) != 32)=true:=dS;go_wp2_with fail;go_round
      case rel=>exact⟨k+1,by go_num,by omega,Hin.o⟩
      case measure=>simp[intOf];omega
     have Hno:=Aa (show u.all Cn=false by
      cases h:u.all Cn with
      |false=>rfl
      |true=>exact absurd (List.all_eq_true.1 h _ Hmem.o) ht)
     have h32:x≠32:=by rintro rfl;exact ht rfl
     have t3:((x.toNat:Int) != 32)=true:=by have:=At h32;simpa using this
     have h3:x.toNat<48\/(57<x.toNat/\x.toNat<97)\/122<x.toNat:=by
      have a:¬Jx x=true:=fun h=>ht (by simp[Cn,h]);have b:¬Bh x=true:=fun h=>ht (by simp[Cn,h]);rw[No]at a;rw[Dy]at b;omega
     clear ht h32;rcases h3 with h3|⟨h3,h4⟩|h3;all_goals
      go_wp2_with fail;go_ret;exact⟨Er (Db (by rw[Hf.o,Hc.o,Hd.o,Hfit.o,Hno.o];rfl)),rfl⟩
    ·have Hall:=Aa (show u.all Cn=true by
      have:=hin.o;rwa [av aI]at this)
     have hk2:k=u.length:=aI;subst hk2;go_wp2_with fail;go_ret;exact⟨Er (Db (by rw[Hf.o,Hc.o,Hd.o,Hfit.o,Hall.o];rfl)),rfl⟩
  have t2:((d.toNat:Int) != 39)=true:=by have:=At hd39;simpa using this
  have Hd:=Aa (show decide (d=39)=false by simpa using hd39);clear hd39;go_enter func158,ntmps158;go_wp2_with fail;go_ret;exact⟨Er (Db (by rw[Hf.o,Hd.o];simp)),rfl⟩
 have t1:((c.toNat:Int) != 39)=true:=by have:=At hc39;simpa using this
 have Hc:=Aa (show decide (c=39)=false by simpa using hc39);clear hc39;go_enter func158,ntmps158;go_wp2_with fail;go_ret;exact⟨Er (Db (by rw[Hf.o,Hc.o];simp)),rfl⟩
end
theorem Nw{α:Type}{p q:α->Bool}:∀(l:List α) (_:∀x,q x=true->p x=true) {a:α} (_:a∈l) (_:p a=true) (_:q a=false),(l.filter q).length<(l.filter p).length
 |[],_,_,ha,_,_=>by cases ha
 |x::l,h,a,ha,hp,hq=>by
  have hle:∀l:List α,(l.filter q).length<=(l.filter p).length:=by
   intro l;induction l with
   |nil=>exact Al _
   |cons y l ih=>
    simp only[List.filter_cons];by_cases h1:q y=true
    ·rw[if_pos h1,if_pos (h y h1)];simpa using ih
    rw[if_neg h1];split
    ·simp;omega
    exact ih
  rcases aB.1 ha with rfl|ha
  ·have:=hle l;simp only[List.filter_cons,hp,hq];simp;omega
  have ih:=Nw l h ha hp hq;simp only[List.filter_cons];by_cases h1:q x=true
  ·rw[if_pos h1,if_pos (h x h1)];simpa using ih
  rw[if_neg h1];split
  ·simp;omega
  exact ih
section
variable {P:Program} {ops:Array Oper} {Q:Exit->Act->World->Prop} {md:Region.Mode}
def Ss(ops:Array Oper)(listed:Array Bool):Nat:=((List.range ops.size).filter fun i=>!listed.getD i false).length
theorem Qbf(hac:∀(i:Nat) (o:Oper),ops[i]?=some o->∀e∈o.after,Region.binds md e=true->e.on<i)(I:(Nat->Bool)->Act->World->Prop)
  (hstep:∀(l:Nat->Bool) a w i o,ops[i]?=some o->l i=false->(∀e∈o.after,Region.binds md e=true->l e.on=true)->I l a w->wpOp P ops Q i (I fun j=>if j=i then true else l j) a w)
  (hdone:∀l a w,(∀i,i<ops.size->l i=true)->I l a w->Q .normal a w):
  ∀(fuel:Nat) (listed:Array Bool) a w,listed.size=ops.size->Ss ops listed<=fuel->I (fun j=>listed.getD j false) a w->wpAny P md ops Q fuel listed a w:=by
 have hall:∀listed:Array Bool,listed.size=ops.size->Region.ready md ops listed=[]->∀i,i<ops.size->listed.getD i false=true:=by
  intro listed hsz hr i;induction i using Nat.strongRecOn with
  |ind i ih=>
   intro hi;cases hb:listed.getD i false with
   |true=>rfl
   |false=>
    have:i∈Region.ready md ops listed:=by
     rw[mem_ready]
     refine ⟨by have h2:i<listed.size:=by omega
                simpa [Array.getD,h2]using hb,ops[i],by simp[hi],fun e he hbd=>?_⟩
     have h1:=hac i ops[i] (by simp[hi]) e he hbd;exact ih e.on h1 aI
    rw[hr]at this;cases this
 intro fuel;induction fuel with
 |zero=>
  intro listed a w hsz hst hI;have hall':∀i,i<ops.size->listed.getD i false=true:=by
   intro i hi;have h0:((List.range ops.size).filter fun i=>!listed.getD i false)=[]:=List.eq_nil_of_length_eq_zero (by unfold Ss at hst;omega);have:=List.filter_eq_nil_iff.1 h0 i (List.mem_range.2 hi);simpa using this
  refine⟨?_,hdone _ a w hall' hI⟩;cases hr:Region.ready md ops listed with
  |nil=>rfl
  |cons j js=>
   have hj:j∈Region.ready md ops listed:=by rw[hr];simp
   obtain⟨h1,o,h2,_⟩:=mem_ready.1 hj;have h3:j<ops.size:=(Array.getElem?_eq_some_iff.1 h2).1;have h4:=hall' j h3;have h5:j<listed.size:=aI;simp[Array.getD,h5]at h1 h4;rw[h1]at h4;cases h4
 |succ fuel ih=>
  intro listed a w hsz hst hI;refine⟨fun hr=>hdone _ a w (hall listed hsz hr) hI,fun i hi=>?_⟩;obtain⟨h1,o,h2,h3⟩:=mem_ready.1 hi;have hlt:i<ops.size:=(Array.getElem?_eq_some_iff.1 h2).1;have hlt2:i<listed.size:=aI;have h1':listed.getD i false=false:=by simpa [Array.getD,hlt2]using h1
  have hset:∀j,(listed.setIfInBounds i true).getD j false=if j=i then true else listed.getD j false:=by
   intro j;by_cases hj:j=i
   ·subst hj;simp[Array.getD,hlt2]
   rw[if_neg hj,getD_set_ne _ (Ne.symm hj)]
  refine wpOp_mono (fun a' w' h=>ih (listed.setIfInBounds i true) a' w' (by simpa using hsz) ?_ ?_) (hstep _ a w i o h2 h1' h3 hI)
  ·have:=Nw (p:=fun i=>!listed.getD i false) (q:=fun j=>!(listed.setIfInBounds i true).getD j false) (List.range ops.size) (fun x hx=>by
    simp only[Bool.not_eq_true']at hx ⊢;rw[hset]at hx;by_cases hxi:x=i
    ·rw[if_pos hxi]at hx;cases hx
    rwa [if_neg hxi]at hx) (List.mem_range.2 hlt) (by simp only[h1',Bool.not_false]) (by simp only[hset,if_true,Bool.not_true])
   unfold Ss at hst ⊢;omega
  have e:(fun j=>(listed.setIfInBounds i true).getD j false)=fun j=>if j=i then true else listed.getD j false:=funext hset
  rw[e];exact h
def Bb(p:Nat->Oper->Prop)(k:Nat)(os:List Oper):Prop:=∀i o,os[i]?=some o->p (k+i) o
theorem Bb.nil{p:Nat->Oper->Prop}{k:Nat}:Bb p k []:=fun i o h=>by simp at h
theorem Bb.cons{p:Nat->Oper->Prop}{k:Nat}{o:Oper}{os:List Oper}(h:p k o)(hs:Bb p (k+1) os):Bb p k (o::os):=fun i o' ho=>by
 cases i with
 |zero=>simp at ho;subst ho;exact h
 |succ i=>simp at ho;have:=hs i o' ho;rwa [Nat.add_assoc,Nat.add_comm 1 i]at this
theorem Qaz{id:Nat}(hm:P.follows .mixedOrders=true)(hac:(List.range ops.size).all (fun i=>((ops[i]?).map fun o=>o.after.all fun e=>!Region.binds .any e || decide (e.on<i)).getD true)=true)
  (mk:(Nat->Value)->Act) (u0:Nat->Value) {a:Act} (ha:a=mk u0) {w:World}
  (φ:Nat->Value->World->Prop) (R:(Nat->Bool)->World->Prop) (Rel:World->World->Prop)
  (hput:Bb (fun i o=>∀u v,(mk u).put o.dst v=mk (fun j=>if j=i then v else u j)) 0 ops.toList)
  (hst:∀w w',Rel w w'->∀i v,φ i v w->φ i v w')
  (h0:R (fun _=>false) w.drew)
  (hstep:Bb (fun i o=>∀(l:Nat->Bool) u w,l i=false->(∀e∈o.after,Region.binds .any e=true->l e.on=true/\φ e.on (u e.on) w)->R l w ->
   ∀K:Act->World->Prop,(∀v w' a',φ i v w'->Rel w w'->R (fun j=>if j=i then true else l j) w'->a'=(mk u).put o.dst v->K a' w') ->
    if Region.wanted o (yielded ops (mk u).tmps)=true then Oper.wp P o (mk u) w K Q else K ((mk u).put o.dst undef) w) 0 ops.toList)
  (hdone:∀(l:Nat->Bool) u w,(∀i,i<ops.size->l i=true)->(∀i,i<ops.size->φ i (u i) w)->R l w->Q .normal (mk u) w):(Code.region id ops true).wp P Q a w:=by
 subst ha;have hst':=fun i v w w' h=>hst w w' h i v;have hac':∀(i:Nat) (o:Oper),ops[i]?=some o->∀e∈o.after,Region.binds .any e=true->e.on<i:=by
  intro i o ho e he hbd;have hlt:i<ops.size:=(Array.getElem?_eq_some_iff.1 ho).1;have h:=List.all_eq_true.1 hac i (List.mem_range.2 hlt);rw[ho]at h;have:=Array.all_eq_true_iff_forall_mem.1 h e he;simpa [hbd]using this
 refine wp_region_any hm ?_
 refine Qbf hac' (fun l a w=>∃u,a=mk u/\(∀i,l i=true->i<ops.size->φ i (u i) w)/\R l w) ?_ ?_ ops.size _ (mk u0) _ aK (by
  unfold Ss;exact ad (List.length_filter_le _ _) aK) ⟨u0,rfl,?_,?_⟩
 ·rintro l a w i o ho hl hpre ⟨u,rfl,hφ,hR⟩;have ho':ops.toList[i]?=some o:=by simpa using ho
  have hp:=hput i o ho';have hs:=hstep i o ho';rw[am]at hp hs;refine wpOp_step ho fun K' hK'=>?_;refine hs l u w hl (fun e he hb=>⟨hpre e he hb,hφ e.on (hpre e he hb) ?_⟩) hR K' (fun v w' a' hv hrel hR' ha'=>hK' _ _ ⟨_,ha'.trans (hp u v),fun j hj hjs=>?_,hR'⟩)
  ·exact gZ
  by_cases hji:j=i
  ·subst hji;simpa using hv
  have hj':l j=true:=f6;simpa [hji]using hst' j _ w w' hrel (hφ j hj' hjs)
 ·rintro l a w hl ⟨u,rfl,hφ,hR⟩;exact iF
 ·intro i hi;simp[Array.getD]at hi
 have e:(fun j=>(Array.replicate ops.size false).getD j false)=fun _=>false:=by
  funext j
  simp[Array.getD]
 rw[e];exact h0
def Bk:List Nat->Nat->(Nat->Value)->List Value->List Value
 |[],_,_,t=>t
 |s::S,i,u,t=>Bk S (i+1) u (t.set s (u i))
def Bl(a:Act)(S:List Nat)(u:Nat->Value):Act:={tmps:=(Bk S 0 u a.tmps.toList).toArray,defers:=a.defers}
theorem Pf:∀(S:List Nat) (i:Nat) (u:Nat->Value) (t:List Value),(∀k s,S[k]?=some s->u (i+k)=t.getD s undef)->Bk S i u t=t
 |[],_,_,_,_=>rfl
 |s::S,i,u,t,h=>by
  have h0:u i=t.getD s undef:=by simpa using h 0 s rfl
  have e:t.set s (u i)=t:=by
   rw[h0];apply List.ext_getElem?;intro j;by_cases hj:s=j
   ·subst hj;by_cases hl:s<t.length
    ·simp[List.getD,hl]
    simp[hl]
   simp[hj]
  rw[Bk,e];exact Pf S (i+1) u t fun k s' hk=>by
   have:=h (k+1) s' (by simpa using hk);rwa [show i+1+k=i+(k+1)by omega]
theorem Nh:∀(S:List Nat) (i:Nat) (u v:Nat->Value) (t:List Value),(∀j,i<=j->u j=v j)->Bk S i u t=Bk S i v t
 |[],_,_,_,_,_=>rfl
 |s::S,i,u,v,t,h=>by
  rw[Bk,Bk,h i (Al _)];exact Nh S (i+1) u v _ fun j hj=>h j aI
theorem S6:∀(S:List Nat) (i:Nat) (u:Nat->Value) (t:List Value) (s:Nat) (v:Value),s∉S->(Bk S i u t).set s v=Bk S i u (t.set s v)
 |[],_,_,_,_,_,_=>rfl
 |s'::S,i,u,t,s,v,h=>by
  have h1:s≠s':=fun e=>h (by simp[e]);rw[Bk,Bk,S6 S (i+1) u _ s v (fun hm=>h (by simp[hm]))];congr 1
  exact(List.set_comm _ _ h1).symm
theorem Qh:∀(S:List Nat) (i:Nat) (u:Nat->Value) (t:List Value) (k s:Nat) (v:Value),S.Nodup->S[k]?=some s->(Bk S i u t).set s v=Bk S i (fun j=>if j=i+k then v else u j) t
 |[],_,_,_,k,s,v,_,h=>by simp at h
 |s'::S,i,u,t,0,s,v,hn,h=>by
  simp at h;subst h;rw[Bk,Bk,S6 S (i+1) u _ s' v (List.nodup_cons.1 hn).1];rw[if_pos aI,List.set_set];exact Nh S (i+1) u _ _ fun j hj=>by rw[if_neg aI]
 |s'::S,i,u,t,k+1,s,v,hn,h=>by
  simp at h;rw[Bk,Bk,Qh S (i+1) u _ k s v (List.nodup_cons.1 hn).2 h,if_neg aI];rw[show i+1+k=i+(k+1)by omega]
theorem Qc:∀(S:List Nat) (i:Nat) (u:Nat->Value) (t:List Value) (k s:Nat) (v:Value),S[k]?=some s->t.length<=s->Bk S i u t=Bk S i (fun j=>if j=i+k then v else u j) t
 |[],_,_,_,k,s,v,h,_=>by simp at h
 |s'::S,i,u,t,0,s,v,h,hl=>by
  simp at h;subst h;rw[Bk,Bk,List.set_eq_of_length_le hl,List.set_eq_of_length_le hl];exact Nh S (i+1) u _ _ fun j hj=>by rw[if_neg aI]
 |s'::S,i,u,t,k+1,s,v,h,hl=>by
  simp at h;rw[Bk,Bk,Qc S (i+1) u _ k s v h eM,if_neg aI];rw[show i+1+k=i+(k+1)by omega]
def Fp(n:Nat):List Oper->List Nat->Bool
 |[],[]=>true
 |o::os,s::S=>(match o.dst with|some d=>d == s|none=>decide (n<=s)) && !S.contains s && Fp n os S
 |_,_=>false
theorem N3{n:Nat}:∀{os:List Oper} {S:List Nat},Fp n os S=true->S.Nodup/\∀(i:Nat) (o:Oper),os[i]?=some o->∃s,S[i]?=some s/\(o.dst=some s\/(o.dst=none/\n<=s))
 |[],[],_=>⟨List.nodup_nil,fun i o h=>by simp at h⟩
 |[],_::_,h=>by simp[Fp]at h
 |_::_,[],h=>by simp[Fp]at h
 |o::os,s::S,h=>by
  simp only[Fp,ax]at h;obtain⟨⟨h1,h2⟩,h3⟩:=h;obtain⟨hn,hs⟩:=N3 h3;refine⟨List.nodup_cons.2 ⟨by simpa using h2,hn⟩,fun i o' ho=>?_⟩;cases i with
  |zero=>
   simp at ho;subst ho;refine⟨s,rfl,?_⟩;cases hd:o.dst with
   |some d=>rw[hd]at h1;simp at h1;exact .inl (by rw[h1])
   |none=>rw[hd]at h1;simp at h1;exact .inr ⟨rfl,h1⟩
  |succ i=>simpa using hs i o' (by simpa using ho)
theorem H9{id:Nat}{a:Act}{w:World}(S:List Nat)(hm:P.follows .mixedOrders=true)(hac:(List.range ops.size).all (fun i=>((ops[i]?).map fun o=>o.after.all fun e=>!Region.binds .any e || decide (e.on<i)).getD true)=true)
  (hS:Fp a.tmps.size ops.toList S=true) {mk:(Nat->Value)->Act} (hmk:∀u,Bl a S u=mk u)
  (φ:Nat->Value->World->Prop) (R:(Nat->Bool)->World->Prop) (Rel:World->World->Prop)
  (hst:∀w w',Rel w w'->∀i v,φ i v w->φ i v w')
  (h0:R (fun _=>false) w.drew)
  (hstep:Bb (fun i o=>∀(l:Nat->Bool) u w,l i=false->(∀e∈o.after,Region.binds .any e=true->l e.on=true/\φ e.on (u e.on) w)->R l w ->
   ∀K:Act->World->Prop,(∀v w' a',φ i v w'->Rel w w'->R (fun j=>if j=i then true else l j) w'->a'=(mk u).put o.dst v->K a' w') ->
    if Region.wanted o (yielded ops (mk u).tmps)=true then Oper.wp P o (mk u) w K Q else K ((mk u).put o.dst undef) w) 0 ops.toList)
  (hdone:∀(l:Nat->Bool) u w,(∀i,i<ops.size->l i=true)->(∀i,i<ops.size->φ i (u i) w)->R l w->Q .normal (mk u) w):(Code.region id ops true).wp P Q a w:=by
 obtain rfl:Bl a S=mk:=funext hmk;obtain⟨hn,hs⟩:=N3 hS;refine Qaz hm hac (Bl a S) (fun i=>a.tmps.toList.getD (S.getD i 0) undef) ?_ φ R Rel ?_ hst h0 hstep hdone
 ·exact ie
 intro i o ho u v;rw[am];obtain⟨s,hsi,hd|⟨hd,hb⟩⟩:=hs i o ho
 ·exact gI
 have e:=Qc S 0 u a.tmps.toList i s v hsi (by simpa using hb);rw[am]at e;unfold Bl Act.put;rw[hd];simp only[<-e]
end
section
variable {P:Program} {ops:Array Oper} {Q:Exit->Act->World->Prop}
theorem Bm{id:Nat}{a:Act}{w:World}(S:List Nat)(hm:P.follows .mixedOrders=true)(hac:(List.range ops.size).all (fun i=>((ops[i]?).map fun o=>o.after.all fun e=>!Region.binds .any e || decide (e.on<i)).getD true)=true)
  (hS:Fp a.tmps.size ops.toList S=true) {mk:(Nat->Value)->Act} (hmk:∀u,Bl a S u=mk u)
  (φ:Nat->Value->World->Prop) (R:(Nat->Bool)->(Nat->Value)->World->Prop) (Rel:World->World->Prop)
  (hst:∀w w',Rel w w'->∀i v,φ i v w->φ i v w')
  (h0:R (fun _=>false) (fun i=>a.tmps.toList.getD (S.getD i 0) undef) w.drew)
  (hstep:Bb (fun i o=>∀(l:Nat->Bool) u w,l i=false->(∀e∈o.after,Region.binds .any e=true->l e.on=true/\φ e.on (u e.on) w)->R l u w ->
   (∀j,l j=false->u j=a.tmps.toList.getD (S.getD j 0) undef)->(∀(j:Nat) (o:Oper),ops[j]?=some o->∀e∈o.after,Region.binds .any e=true->l e.on=false->l j=false) ->
   ∀K:Act->World->Prop,(∀v w' a',φ i v w'->Rel w w'->R (fun j=>if j=i then true else l j) (fun j=>if j=i then v else u j) w'->a'=(mk u).put o.dst v->K a' w') ->
    if Region.wanted o (yielded ops (mk u).tmps)=true then Oper.wp P o (mk u) w K Q else K ((mk u).put o.dst undef) w) 0 ops.toList)
  (hdone:∀(l:Nat->Bool) u w,(∀i,i<ops.size->l i=true)->(∀i,i<ops.size->φ i (u i) w)->R l u w->Q .normal (mk u) w):(Code.region id ops true).wp P Q a w:=by
 obtain rfl:Bl a S=mk:=funext hmk;obtain⟨hn,hs⟩:=N3 hS;have hput:∀(i:Nat) (o:Oper),ops.toList[i]?=some o->∀u v,(Bl a S u).put o.dst v=Bl a S (fun j=>if j=i then v else u j):=by
  intro i o ho u v;obtain⟨s,hsi,hd|⟨hd,hb⟩⟩:=hs i o ho
  ·exact gI
  have e:=Qc S 0 u a.tmps.toList i s v hsi (by simpa using hb);rw[am]at e;unfold Bl Act.put;rw[hd];simp only[<-e]
 have hac':∀(i:Nat) (o:Oper),ops[i]?=some o->∀e∈o.after,Region.binds .any e=true->e.on<i:=by
  intro i o ho e he hbd;have hlt:i<ops.size:=(Array.getElem?_eq_some_iff.1 ho).1;have h:=List.all_eq_true.1 hac i (List.mem_range.2 hlt);rw[ho]at h;have:=Array.all_eq_true_iff_forall_mem.1 h e he;simpa [hbd]using this
 refine wp_region_any hm ?_
 refine Qbf hac' (fun l b w=>∃u,b=Bl a S u/\(∀i,l i=true->i<ops.size->φ i (u i) w)/\R l u w/\(∀j,l j=false->u j=a.tmps.toList.getD (S.getD j 0) undef) /\
   (∀(j:Nat) (o:Oper),ops[j]?=some o->∀e∈o.after,Region.binds .any e=true->l e.on=false->l j=false)) ?_ ?_ ops.size _ a _ aK (by
  unfold Ss;exact ad (List.length_filter_le _ _) aK) ⟨fun i=>a.tmps.toList.getD (S.getD i 0) undef,?_,?_,?_,fun _ _=>rfl,?_⟩
 ·rintro l b w i o ho hl hpre ⟨u,rfl,hφ,hR,hi,hdn⟩;have ho':ops.toList[i]?=some o:=by simpa using ho
  have hp:=hput i o ho';have hs':=hstep i o ho';rw[am]at hs';refine wpOp_step ho fun K' hK'=>?_;refine hs' l u w hl (fun e he hb=>⟨hpre e he hb,hφ e.on (hpre e he hb) ?_⟩) hR hi hdn K' (fun v w' a' hv hrel hR' ha'=>hK' _ _ ⟨_,ha'.trans (hp u v),fun j hj hjs=>?_,hR',fun j hj=>?_,fun j o' hj e he hb hle=>?_⟩)
  ·exact gZ
  ·by_cases hji:j=i
   ·subst hji;simpa using hv
   have hj':l j=true:=f6;simpa [hji]using hst w w' hrel j _ (hφ j hj' hjs)
  ·by_cases hji:j=i
   ·subst hji;simp at hj
   have hj':l j=false:=f6;simpa [hji]using hi j hj'
  have hne:e.on≠i:=by rintro rfl;simp at hle
  have hle':l e.on=false:=by simpa [hne]using hle
  have hlj:=hdn j o' hj e he hb hle';have hji:j≠i:=by
   rintro rfl;rw[ho]at hj;injection hj with hj;subst hj;rw[hpre e he hb]at hle';cases hle'
  simpa [hji]using hlj
 ·rintro l b w hl ⟨u,rfl,hφ,hR,_,_⟩;exact iF
 ·exact ie
 ·intro i hi;simp[Array.getD]at hi
 ·have e:(fun j=>(Array.replicate ops.size false).getD j false)=fun _=>false:=by
   funext j
   simp[Array.getD]
  rw[e];exact h0
 intro j o hj e he hb _;simp[Array.getD]
end
theorem Ct{ops:Array Oper}{l:Nat->Bool}(h:∀(j:Nat) (o:Oper),ops[j]?=some o->∀e∈o.after,Region.binds .any e=true->l e.on=false->l j=false)(j i:Nat)(hc:((ops[j]?).map fun o=>o.after.toList.any fun e=>decide (e.on=i) && Region.binds .any e)=some true)(hi:l i=false):l j=false:=by
 cases ho:ops[j]? with
 |none=>rw[ho]at hc;cases hc
 |some o=>
  rw[ho]at hc;have hc:(o.after.toList.any fun e=>decide (e.on=i) && Region.binds .any e)=true:=by injection hc
  obtain⟨e,he,h2⟩:=List.any_eq_true.1 hc;rw[ax,decide_eq_true_iff]at h2;obtain⟨rfl,h3⟩:=h2;exact h j o ho e cQ h3 hi
theorem rgE{P:Program}{ops:Array Oper}{Q:Exit->Act->World->Prop}{id:Nat}{a:Act}{w:World}(S:List Nat){mk:(Nat->Value)->Act}
  (φ:Nat->Value->World->Prop) (R:(Nat->Bool)->(Nat->Value)->World->Prop)
  (h0:R (fun _=>false) (fun i=>a.tmps.toList.getD (S.getD i 0) undef) w.drew)
  (hstep:Bb (fun i o=>∀(l:Nat->Bool) u w,l i=false->(∀e∈o.after,Region.binds .any e=true->l e.on=true/\φ e.on (u e.on) w)->R l u w ->
   (∀j,l j=false->u j=a.tmps.toList.getD (S.getD j 0) undef)->(∀(j:Nat) (o:Oper),ops[j]?=some o->∀e∈o.after,Region.binds .any e=true->l e.on=false->l j=false) ->
   ∀K:Act->World->Prop,(∀v w' a',φ i v w'->True->R (fun j=>if j=i then true else l j) (fun j=>if j=i then v else u j) w'->a'=(mk u).put o.dst v->K a' w') ->
    if Region.wanted o (yielded ops (mk u).tmps)=true then Oper.wp P o (mk u) w K Q else K ((mk u).put o.dst undef) w) 0 ops.toList)
  (hdone:∀(l:Nat->Bool) u w,(∀i,i<ops.size->l i=true)->(∀i,i<ops.size->φ i (u i) w)->R l u w->Q .normal (mk u) w)
  (hc:(P.follows .mixedOrders && (List.range ops.size).all (fun i=>((ops[i]?).map fun o=>o.after.all fun e=>!Region.binds .any e || decide (e.on<i)).getD true) && Fp a.tmps.size ops.toList S)=true:=by kernel_rfl) (hst:∀w w':World,True->∀i v,φ i v w->φ i v w':=by exact fun _ _ _ _ _ h=>h) (hmk:∀u,Bl a S u=mk u:=by intro u;dsimp only[Bl,Bk,List.set,am,Nat.reduceAdd]):(Code.region id ops true).wp P Q a w:=
 have h1:=Bool.and_eq_true_iff.1 hc;have h2:=Bool.and_eq_true_iff.1 h1.1;Bm S h2.1 h2.2 h1.2 hmk φ R (fun _ _=>True) hst h0 hstep hdone
theorem Xa{P:Program}{ops:Array Oper}{Q:Exit->Act->World->Prop}{id:Nat}{a:Act}{w:World}(S:List Nat){mk:(Nat->Value)->Act}
  (φ:Nat->Value->World->Prop) (R:(Nat->Bool)->(Nat->Value)->World->Prop)
  (h0:R (fun _=>false) (fun i=>a.tmps.toList.getD (S.getD i 0) undef) w.drew)
  (hstep:Bb (fun i o=>∀(l:Nat->Bool) u w,l i=false->(∀e∈o.after,Region.binds .any e=true->l e.on=true/\φ e.on (u e.on) w)->Hid (R l u w)->Hid (∀(j:Nat) (o:Oper),ops[j]?=some o->∀e∈o.after,Region.binds .any e=true->l e.on=false->l j=false) ->
   ∀K:Act->World->Prop,(∀v w' a',φ i v w'->True->R (fun j=>if j=i then true else l j) (fun j=>if j=i then v else u j) w'->a'=(mk u).put o.dst v->K a' w') ->
    if Region.wanted o (yielded ops (mk u).tmps)=true then Oper.wp P o (mk u) w K Q else K ((mk u).put o.dst undef) w) 0 ops.toList)
  (hdone:∀(l:Nat->Bool) u w,(∀i,i<ops.size->l i=true)->(∀i,i<ops.size->φ i (u i) w)->R l u w->Q .normal (mk u) w)
  (hc:(P.follows .mixedOrders && (List.range ops.size).all (fun i=>((ops[i]?).map fun o=>o.after.all fun e=>!Region.binds .any e || decide (e.on<i)).getD true) && Fp a.tmps.size ops.toList S)=true:=by kernel_rfl) (hst:∀w w':World,True->∀i v,φ i v w->φ i v w':=by exact fun _ _ _ _ _ h=>h) (hmk:∀u,Bl a S u=mk u:=by intro u;dsimp only[Bl,Bk,List.set,am,Nat.reduceAdd]):(Code.region id ops true).wp P Q a w:=
 have h1:=Bool.and_eq_true_iff.1 hc;have h2:=Bool.and_eq_true_iff.1 h1.1;Bm S h2.1 h2.2 h1.2 hmk φ R (fun _ _=>True) hst h0 (fun i o ho l u w h1 h2 hR _ hd=>hstep i o ho l u w h1 h2 hR hd) hdone
theorem Sm{a b:Bool}(h:a=false->b=false)(l:b=true):a=true:=by
 cases a with
 |true=>rfl
 |false=>rw[h rfl]at l;cases l
theorem Ar{B:Nat}{w w':World}{b o:Nat}{cs:List Value}(h:w.rangeAt b o cs)(hb:b<B)(hw:Below B w w'):w'.rangeAt b o cs:=fun j v hv=>(hw.cell (p:=⟨b,o+j,none⟩) hb).trans (h j v hv)
theorem An{B:Nat}{w w':World}{b o n:Nat}(h:w.there b o n)(hb:b<B)(hw:Below B w w'):w'.there b o n:=fun j hj=>by
 rw[hw.cell (p:=⟨b,o+j,none⟩) hb,hw.frozen (p:=⟨b,o+j,none⟩) hb];exact h j hj
theorem Ee{w w':World}{b o:Nat}{cs:List Value}{row:Option Nat}(h:w.rangeAt b o cs)(hg:w.grownBy w' row)(hne:some b≠row):w'.rangeAt b o cs:=fun j v hv=>hg.cell (h j v hv) hne
theorem Dn{w w':World}{b o n:Nat}{row:Option Nat}(h:w.there b o n)(hg:w.grownBy w' row)(hb:b<w.heap.size)(hne:some b≠row):w'.there b o n:=fun j hj=>by
 rw[hg.cell_far ⟨b,o+j,none⟩ hb hne,hg.frozen_far ⟨b,o+j,none⟩ hb hne];exact h j hj
theorem Kz{w:World}{b o n:Nat}(h:w.there b o n)(p m:Nat)(h1:o<=p)(h2:p+m<=o+n):w.there b p m:=fun j hj=>by
 have:=h (p+j - o) aI;rwa [show o+(p+j - o)=p+j by omega]at this
theorem Br(w:World)(cs:List Value)(t:TypeId):(w.alloc (.cells cs.toArray t)).rangeAt w 0 cs:=fun j v hv=>by
 rw[World.cell?_alloc_new];simpa using hv
theorem Cu(w:World)(cs:List Value)(t:TypeId):(w.alloc (.cells cs.toArray t)).there w 0 cs.length:=fun j hj=>by
 refine⟨?_,by simp⟩;rw[World.cell?_alloc_new];simp;omega
theorem Ak{B:Nat}{a:World}(b:Nat)(hb:B<=b):∀(vs:List Value) (o:Nat) (w:World),Below B a w->Below B a (w.setCells b o vs)
 |[],_,_,h=>h
 |v::r,o,w,h=>Ak b hb r (o+1) _ (h.setCell hb v)
theorem Ch(b:Nat):∀(vs:List Value) (o:Nat) (w:World),(w.setCells b o vs).heap.size=w.heap.size
 |[],_,_=>rfl
 |v::r,o,w=>by rw[World.setCells,Ch b r];simp
theorem Ab{w:World}{b o:Nat}{cs:List Value}(h:w.rangeAt b o cs)(j:Nat){v:Value}(hv:cs[j]?=some v):w.cell? ⟨b,o+j,none⟩=some v:=h j v hv
theorem Qca{w:World}{b o:Nat}(l1 l2 l3:List Value)(h:w.rangeAt b o (l1++(l2++l3))):w.rangeAt b (o+l1.length) l2:=fun j v hv=>by
 have hj:=(List.getElem?_eq_some_iff.1 hv).1;rw[Nat.add_assoc];exact h _ v (by rw[List.getElem?_append_right aI,Nat.add_sub_cancel_left,List.getElem?_append_left hj];exact hv)
theorem Cm{w:World}{b:Nat}(l1 l2 l3 l2':List Value)(h:w.rangeAt b 0 (l1++(l2++l3)))(hl:l2'.length=l2.length):(w.setCells b l1.length l2').rangeAt b 0 (l1++(l2'++l3)):=fun j v hv=>by
 have hjl:j<l1.length+(l2'.length+l3.length):=by
  have:=(List.getElem?_eq_some_iff.1 hv).1;simpa using this
 have hsome:∀i,i<l2'.length->(w.cell? ⟨b,l1.length+i,none⟩).isSome=true:=fun i hi=>by
  have e:(l1++(l2++l3))[l1.length+i]?=some (l2[i]' aI):=by
   rw[List.getElem?_append_right aI,List.getElem?_append_left aI,Nat.add_sub_cancel_left,List.getElem?_eq_getElem aI]
  have:=h _ _ e;rw[am]at this;rw[this];rfl
 rw[am];rcases aH j l1.length with h1|h1
 ·rw[World.cell?_setCells_out b l2' l1.length w ⟨b,j,none⟩ (fun _ _=>.inl h1)];rw[List.getElem?_append_left h1]at hv;have:=h j v (by rw[List.getElem?_append_left h1];exact hv);rwa [am]at this
 rw[List.getElem?_append_right h1]at hv;rcases aH (j - l1.length) l2'.length with h2|h2
 ·rw[List.getElem?_append_left h2,List.getElem?_eq_getElem h2]at hv;have:=World.cell?_setCells_in b l2' l1.length w hsome (j - l1.length) h2;rw[show l1.length+(j - l1.length)=j by omega]at this;rw[this];exact hv
 rw[World.cell?_setCells_out b l2' l1.length w ⟨b,j,none⟩ (fun _ _=>.inr (by show l1.length+l2'.length<=j;omega))];rw[List.getElem?_append_right h2]at hv;have:=h j v (by rw[List.getElem?_append_right h1,List.getElem?_append_right aI,<-hl];exact hv);rwa [am]at this
section
variable {P:Program}
theorem Ac{ops:Array Oper}{rest:List Oper}{op:Oper}{a:Act}{w:World}{Q:Exit->Act->World->Prop}(hgd:op.guard=none)(ty:TypeId)(x y:Operand)(ho:op.op=.store ty x y)
  (b o:Nat) (cs:List Value) (hx:a.eval x=.pointer (some ⟨b,o,none⟩)) (hy:a.eval y=.agg cs.toArray)
  (ht:w.there b o cs.length) (hi:(P.info? ty).map (·.size)=some cs.length) (h1:∀v∈cs,v.oneCell'=true)
  (h:∀w',Hid (w'=w.setCells b o cs)->wpList P ops Q rest (a.put op.dst undef) w'):wpList P ops Q (op::rest) a w:=
 wpList_store_mid hgd ty x y ho b o cs.toArray hx hy dX (by simpa using hi) (all_oneCell_toArray h1) (h _ rfl)
theorem Au{fn:Func}{p q:Tmp}{ty:TypeId}(h:fn.results=#[.cell p ty,.tmp q])(tmps:Array Value)(w:World)(b:Nat)(cs:List Value)(d:TypeDesc)(x:Value)
  (hp:tmps.getD p undef=b) (hq:tmps.getD q undef=x) (hc:w.rangeAt b 0 cs) (hu:P.underlying ty=some d) (hd:d.isRow=true) (hi:(P.info? ty).map (·.size)=some cs.length):
  (results fn tmps).run P w=.ok (.tuple #[.agg cs.toArray,x]) w:=by
 have hp':tmps[p]?.getD undef=b:=eN;have hq':tmps[q]?.getD undef=x:=by simpa using hq
 simp[results,h,hp',hq',asAddr,run_loadVar_mid w b 0 ty cs d hc hu hd hi]
theorem Gv{fn:Func}{r p q:Tmp}{ty:TypeId}(h:fn.results=#[.tmp r,.cell p ty,.tmp q])(tmps:Array Value)(w:World)(b:Nat)(cs:List Value)(d:TypeDesc)(y x:Value)
  (hr:tmps.getD r undef=y) (hp:tmps.getD p undef=b) (hq:tmps.getD q undef=x) (hc:w.rangeAt b 0 cs) (hu:P.underlying ty=some d) (hd:d.isRow=true) (hi:(P.info? ty).map (·.size)=some cs.length):
  (results fn tmps).run P w=.ok (.tuple #[y,.agg cs.toArray,x]) w:=by
 have hp':tmps[p]?.getD undef=b:=eN;have hq':tmps[q]?.getD undef=x:=by simpa using hq
 have hr':tmps[r]?.getD undef=y:=dW;simp[results,h,hp',hq',hr',asAddr,run_loadVar_mid w b 0 ty cs d hc hu hd hi]
end
section
attribute [local go_sem] Qra Qpu Qo3 Qmi ByteArray.mk_append_mk
def ngV:Option (Nat × List UInt8)->Value
 |none=>.tuple #[.int .i64 0,a6,.bool false]
 |some (n,r)=>.tuple #[.int .i64 n,r,.bool true]
def ngo:Nat->Nat->Nat->List UInt8->Option (Nat × List UInt8)
 |0,_,_,_=>none
 |_+1,_,_,[]=>none
 |f+1,n,sc,c::t=>if c.toNat<128 then(if f<2/\c.toNat=0\/999999<n+c.toNat*sc then none else some (n+c.toNat*sc,t))else ngo f (n+c.toNat % 128*sc) (sc*128) t
theorem Qo5(s:List UInt8):Ag s=ngo 3 0 1 s:=by
 rcases s with _|⟨a,_|⟨b,_|⟨c,v⟩⟩⟩
 ·rfl
 ·by_cases ha:a.toNat<128
  ·exact gU
  simp[Ag,ngo,ha]
 ·by_cases ha:a.toNat<128
  ·exact gU
  by_cases hb:b.toNat<128
  ·exact gJ
  simp[Ag,ngo,ha,hb]
 by_cases ha:a.toNat<128
 ·exact gU
 by_cases hb:b.toNat<128
 ·exact gJ
 by_cases hc:c.toNat<128
 ·simp[Ag,ngo,ha,hb,hc]
 simp[Ag,ngo,ha,hb,hc]
theorem Qj3{p:Prop}(h:p:=by
  go_wp2_with fail;go_loop [5,6,7] (fun n y i=>∃k m sc:Nat,n=.int .i64 m/\y=(sc:Int)/\i=.int .i64 k/\k<=s.length/\m<sc/\(k=0/\sc=1\/k=1/\sc=128\/k=2/\sc=16384\/k=3/\sc=2097152)/\Hid (Ag s=ngo (3 - k) m sc (s.drop k))) (fun _ _ i=>3 - (intOf i).toNat)
  case atStart=>exact⟨0,0,1,rfl,rfl,rfl,ag _,by decide,.inl ⟨rfl,rfl⟩,Qo5 s⟩
  case round=>
   obtain⟨k,m,sc,rfl,rfl,rfl,hk,hm,h4,HF⟩:=hrel;by_cases hlt:k<s.length
   ·have hdr:=List.drop_eq_getElem_cons hlt;rw[hdr]at HF;have hc8:=(s[k]).toNat_lt;generalize hcc:s[k]=c at *;rcases h4 with⟨rfl,rfl⟩|⟨rfl,rfl⟩|⟨rfl,rfl⟩|⟨rfl,rfl⟩;rotate_left 3
    ·have HN:=@Aa (Ag s=none) HF.o;go_wp2_with fail;go_ret3
     exact⟨by rw[HN.o];rfl,0,rfl⟩
    ·obtain rfl:m=0:=aI;by_cases ha:c.toNat<128
     ·have h9:¬(999999:Int)<(c.toNat:Int) % 128:=aI;have hT:List.take (s.length - 1) s.tail=s.tail:=by rw[av aK]
      have HN:=@Aa (Ag s=some (c.toNat,s.tail)) (HF.o.trans ((if_pos ha).trans ((if_neg (by rintro(h|h);exact absurd h.1 aL;omega)).trans aK)));go_wp2_with fail;go_quiet (fail)
      go_wp2_with fail;go_ret3
      exact⟨by rw[HN.o];exact Qow (Qb9 (by show (c.toNat:Int) % 128=_;omega)) rfl rfl,_,rfl⟩
     have HF:=Aa (HF.o.trans (if_neg ha));go_wp2_with fail;go_round
     case rel=>exact⟨1,c.toNat % 128,128,Qb9 aK,rfl,rfl,by omega,by omega,.inr (.inl ⟨rfl,rfl⟩),Aa (by have:=HF.o;simpa using this)⟩
     case measure=>simp[intOf]
    all_goals
     by_cases ha:c.toNat<128
     ·have HF2:=HF.o.trans (if_pos ha);clear HF;by_cases hz:c.toNat=0
      ·have hz1:((c.toNat:Int) == 0)=true:=by simp[hz]
       have HN:=Aa (HF2.trans (if_pos (.inl ⟨by decide,hz⟩)));clear hz HF2;go_wp2_with fail;go_ret3
       exact⟨by rw[HN.o];rfl,0,rfl⟩
      have hz1:((c.toNat:Int) == 0)=false:=aO;split at HF2
      ·rename_i hn;first
        |(exfalso;omega)
        |(have HN:=Aa HF2
          have h9:(999999:Int)<(m:Int)+(c.toNat:Int) % 128*16384:=aI;clear hz hn HF2;go_wp2_with fail;go_ret3
          exact⟨by rw[HN.o];rfl,0,rfl⟩)
      rename_i hn;have HN:=Aa HF2;have h8:¬(999999:Int)<(m:Int)+(c.toNat:Int) % 128*128:=aI;try have h9:¬(999999:Int)<(m:Int)+(c.toNat:Int) % 128*16384:=aI
      clear hz hn HF2;go_wp2_with fail;go_quiet (fail)
      go_wp2_with fail;go_ret3
      exact⟨by rw[HN.o];exact Qow (Qb9 aI) rfl rfl,_,rfl⟩
     ·have HF:=Aa (HF.o.trans (if_neg ha));go_wp2_with fail;go_round
      case rel=>first|exact⟨2,m+c.toNat % 128*128,16384,Qb9 aI,rfl,rfl,by omega,by omega,.inr (.inr (.inl ⟨rfl,rfl⟩)),HF.o⟩|exact⟨3,m+c.toNat % 128*16384,2097152,Qb9 aI,rfl,rfl,by omega,by omega,.inr (.inr (.inr ⟨rfl,rfl⟩)),HF.o⟩
      case measure=>simp[intOf]
   ·have HN:=@Aa (Ag s=none) (by rw[HF.o,List.drop_eq_nil_of_le aI];cases 3 - k<;>rfl);go_wp2_with fail;go_ret3
    exact⟨by rw[HN.o];rfl,0,rfl⟩):p:=h
theorem Ji(s:List UInt8)(w:World)(hl:s.length<=9223372036854775800):
  Calls prog 69 #[s] w fun e w'=>e=.returned (ngV (Ag s))/\∃k,w'=w.drewN k:=by
 go_enter func69,ntmps69;exact Qj3
theorem Qfq(s:List UInt8)(w:World)(hl:s.length<=9223372036854775800):
  Calls prog 68 #[s] w fun e w'=>e=.returned (ngV (Ag s))/\∃k,w'=w.drewN k:=by
 go_enter func68,ntmps68;exact Qj3
theorem Fz{n:Nat}(h:n<=999999)(r:List UInt8):Ag (D1 n++r)=some (n,r):=by
 unfold D1
 by_cases h1:n<128
 ·rw[if_pos h1]
  have e:=Bo (show n<256 by omega)
  simp[Ag,e,h1]
 rw[if_neg h1]
 by_cases h2:n<16384
 ·rw[if_pos h2]
  have e1:=Bo (show n % 128+128<256 by omega)
  have e2:=Bo (show n / 128<256 by omega)
  simp only[Ag,List.cons_append,List.nil_append,e1,e2]
  rw[if_neg (by omega),if_pos (by omega),if_neg (by omega)]
  congr 2;omega
 rw[if_neg h2]
 have e1:=Bo (show n % 128+128<256 by omega)
 have e2:=Bo (show n / 128 % 128+128<256 by omega)
 have e3:=Bo (show n / 16384<256 by omega)
 simp only[Ag,List.cons_append,List.nil_append,e1,e2,e3]
 have e4:(n % 128+128) % 128+(n / 128 % 128+128) % 128*128+n / 16384*16384=n:=by omega
 rw[if_neg (by omega),if_neg (by omega),if_pos (by omega),e4,if_neg (by omega)]
def Qr(s:List UInt8):List UInt8:=D1 s.length++s
def byW(w:UInt8)(tx:List UInt8)(tg:Nat)(bs:List (List UInt8)):List UInt8:=
 if w=110 then D1 ((Cx tx).getD 0)
 else if w=116 then Qr tx
 else if w=102 then(if tx=Dk then[1]else[0])
 else if w=91 then D1 bs.length++bs.flatten
 else if w=63 then(match bs with|[]=>[0]|b::_=>1::b)
 else if w=69 then D1 tg
 else if w=82 then bs.flatten++[0]
 else D1 tg++Qr (bs.headD [])
mutual
def Dg:Vl->List UInt8
 |.mk w tx tg ks=>byW w tx tg (Qa2 ks)
def Qa2:List Vl->List (List UInt8)
 |[]=>[]
 |x::xs=>Dg x::Qa2 xs
end
theorem Sx:∀ks:List Vl,Qa2 ks=ks.map Dg
 |[]=>rfl
 |x::xs=>by rw[Qa2,Sx xs];rfl
theorem Qhn{m:Nat}(h:m<=999999):Dg (.mk 110 (Az m) 0 [])=D1 m:=by
 have:Cx (Az m)=some m:=Bw.2 ⟨by omega,rfl⟩
 simp[Dg,byW,this]
theorem Qdx(s:List UInt8):Dg (.mk 116 s 0 [])=Qr s:=by simp[Dg,byW]
theorem Qho(b:Bool):Dg (.mk 102 (if b then Dk else H7) 0 [])=[if b then 1 else 0]:=by cases b<;>simp[Dg,byW,Dk,H7]
theorem Yj(ks:List Vl):Dg (.mk 91 [] 0 ks)=D1 ks.length++(ks.map Dg).flatten:=by simp[Dg,byW,Sx]
theorem Ye:Dg (.mk 63 [] 0 [])=[0]:=by simp[Dg,byW,Qa2]
theorem Ra(x:Vl):Dg (.mk 63 [] 0 [x])=1::Dg x:=by simp[Dg,byW,Qa2]
theorem Yc(g:Nat):Dg (.mk 69 [] g [])=D1 g:=by simp[Dg,byW]
theorem Yp(g:Nat)(x:Vl):Dg (.mk 85 [] g [x])=D1 g++Qr (Dg x):=by simp[Dg,byW,Qa2]
theorem Qpc(p:Fd × Vl):Dg (Ea p)=D1 p.1.tag++Qr (Dg p.2):=by simp[Ea,Dg,byW,Qa2]
theorem Q6(ps:List (Fd × Vl)):Dg (.mk 82 [] 0 (ps.map Ea))=(ps.map fun p=>D1 p.1.tag++Qr (Dg p.2)).flatten++[0]:=by
 have e:Qa2 (ps.map Ea)=ps.map fun p=>D1 p.1.tag++Qr (Dg p.2):=by
  rw[Sx,List.map_map]
  exact List.map_congr_left fun p _=>Qpc p
 simp[Dg,byW,e]
def Ed(s:List UInt8):Option (List UInt8 × List UInt8):=match Ag s with
 |none=>none
 |some (n,r)=>if n<=r.length then some (r.take n,r.drop n)else none
theorem Ph{p:List UInt8}(h:p.length<=999999)(r:List UInt8):Ed (Qr p++r)=some (p,r):=by
 unfold Ed Qr
 rw[List.append_assoc,Fz h]
 simp
theorem Ke{s p r:List UInt8}(h:Ed s=some (p,r)):p.length+r.length<s.length:=by
 unfold Ed at h
 cases hn:Ag s with
 |none=>rw[hn]at h;cases h
 |some y=>
  obtain⟨n,z⟩:=y
  rw[hn]at h
  simp only at h
  have:=(Cq hn).2
  split at h
  ·simp only[Option.some.injEq,Prod.mk.injEq]at h
   obtain⟨rfl,rfl⟩:=h
   simp;omega
  cases h
def Df(K:List UInt8->Option (Vl × List UInt8)):Nat->List UInt8->Option (List Vl × List UInt8)
 |0,s=>some ([],s)
 |m+1,s=>match K s with
  |none=>none
  |some (v,r)=>match Df K m r with|some (vs,z)=>some (v::vs,z)|none=>none
def Cg(K:List UInt8->Option (Vl × List UInt8))(s:List UInt8):Option Vl:=match K s with
 |some (v,[])=>some v
 |_=>none
def Dc(S:List Ty)(K:Kd->List UInt8->Option (Vl × List UInt8))(fs:List Fd):Nat->Nat->List UInt8->Option (List (Fd × Vl) × List UInt8)
 |0,_,_=>none
 |m+1,last,s=>match Ag s with
  |none=>none
  |some (tag,r)=>if tag=0 then some ([],r)else match Ed r with
   |none=>none
   |some (p,q)=>if tag<=last then none else match Ap fs tag with
    |none=>Dc S K fs m tag q
    |some f=>match Cg (K f.kind) p with
     |none=>none
     |some v=>match Dc S K fs m tag q with
      |none=>none
      |some (ps,z)=>some (if Aw v=Kr S f then ps else(f,v)::ps,z)
def Sv(S:List Ty)(K:Kd->List UInt8->Option (Vl × List UInt8))(t:Ty)(s:List UInt8):Option (Vl × List UInt8):=
 if t.sort=82 then(match Dc S K t.fields 1000 0 s with|some (ps,z)=>some (.mk 82 [] 0 (ps.map Ea),z)|none=>none)
 else match Ag s with
  |none=>none
  |some (tag,r)=>match Ap t.fields tag with
   |none=>none
   |some f=>if t.sort=69 then some (.mk 69 [] tag [],r)else match Ed r with
    |none=>none
    |some (p,q)=>match Cg (K f.kind) p with|some v=>some (.mk 85 [] tag [v],q)|none=>none
def E9(S:List Ty):Nat->Kd->List UInt8->Option (Vl × List UInt8)
 |0,_,_=>none
 |d+1,k,s=>match k.signs with
  |c::_=>if c=91 then(match Ag s with
    |none=>none
    |some (n,r)=>if 20<n then none else match Df (E9 S d k.part) n r with|some (vs,z)=>some (.mk 91 [] 0 vs,z)|none=>none)
   else(match s with
    |[]=>none
    |b::r=>if b=0 then some (.mk 63 [] 0 [],r)else if b=1 then(match E9 S d k.part r with|some (v,z)=>some (.mk 63 [] 0 [v],z)|none=>none)else none)
  |[]=>if k.base=[110]then(match Ag s with|some (n,r)=>some (.mk 110 (Az n) 0 [],r)|none=>none)
   else if k.base=[116]then(match Ed s with|some (p,r)=>if Da p=true then some (.mk 116 p 0 [],r)else none|none=>none)
   else if k.base=[102]then(match s with
    |[]=>none
    |b::r=>if b=0 then some (.mk 102 H7 0 [],r)else if b=1 then some (.mk 102 Dk 0 [],r)else none)
   else match B9 S k.name with
    |none=>none
    |some t=>Sv S (E9 S d) t s
theorem Xf{K:List UInt8->Option (Vl × List UInt8)}:∀(vs:List Vl) (r:List UInt8),(∀x∈vs,∀r,K (Dg x++r)=some (x,r))->Df K vs.length ((vs.map Dg).flatten++r)=some (vs,r)
 |[],r,_=>rfl
 |x::vs,r,h=>by
  rw[List.length_cons,List.map_cons,List.flatten_cons,List.append_assoc]
  unfold Df
  rw[h x (by simp)]
  simp only
  rw[Xf vs r fun y hy=>h y (by simp[hy])]
theorem Xq{K:List UInt8->Option (Vl × List UInt8)}{x:Vl}(h:K (Dg x++[])=some (x,[])):Cg K (Dg x)=some x:=by
 rw[List.append_nil]at h
 unfold Cg
 rw[h]
theorem Tj{S:List Ty}{K:Kd->List UInt8->Option (Vl × List UInt8)}{fs:List Fd}(r:List UInt8):∀(m last:Nat) (ps:List (Fd × Vl)),ps.length<m->(∀p∈ps,last<p.1.tag/\p.1.tag<=999999/\Ap fs p.1.tag=some p.1/\(Dg p.2).length<=999999/\K p.1.kind (Dg p.2++[])=some (p.2,[])/\Aw p.2≠Kr S p.1)->(ps.Pairwise fun p q=>p.1.tag<q.1.tag) ->
  Dc S K fs m last ((ps.map fun p=>D1 p.1.tag++Qr (Dg p.2)).flatten++(0::r))=some (ps,r)
 |0,_,_,h,_,_=>by omega
 |m+1,last,[],_,_,_=>by
  have e:Ag (0::r)=some (0,r):=by simp[Ag]
  simp[Dc,e]
 |m+1,last,p::ps,hl,h,hp=>by
  obtain⟨h1,h2,h3,h4,h5,h6⟩:=h p (by simp)
  rw[List.pairwise_cons]at hp
  have ih:=Tj r m p.1.tag ps (by simp at hl;omega) (fun q hq=>by
   obtain⟨_,g⟩:=h q (by simp[hq])
   exact⟨hp.1 q hq,g⟩) hp.2
  rw[List.map_cons,List.flatten_cons,List.append_assoc,List.append_assoc]
  unfold Dc
  rw[Fz h2]
  simp only
  rw[if_neg (by omega),Ph h4]
  simp only
  rw[if_neg (by omega),h3]
  simp only
  rw[Xq h5]
  simp only
  rw[ih]
  simp only
  rw[if_neg h6]
theorem Qdu{x:Vl}{xs:List Vl}(h:x∈xs):(Dg x).length<=((xs.map Dg).flatten).length:=by
 induction xs with
 |nil=>cases h
 |cons y xs ih=>
  rw[List.map_cons,List.flatten_cons,List.length_append]
  rcases List.mem_cons.1 h with rfl|h
  ·omega
  have:=ih h;omega
theorem Qcg{p:Fd × Vl}{ps:List (Fd × Vl)}(h:p∈ps):(Dg p.2).length<=((ps.map fun p=>D1 p.1.tag++Qr (Dg p.2)).flatten).length:=by
 induction ps with
 |nil=>cases h
 |cons y xs ih=>
  rw[List.map_cons,List.flatten_cons,List.length_append,List.length_append,Qr,List.length_append]
  rcases List.mem_cons.1 h with rfl|h
  ·omega
  have:=ih h;omega
theorem Qhu{n:Nat}{α:Type}(f:α->Nat):∀(ps:List α) (last:Nat),(∀p∈ps,last<f p/\f p<=n)->(ps.Pairwise fun p q=>f p<f q)->ps.length+last<=n\/ps=[]
 |[],_,_,_=>.inr rfl
 |p::ps,last,h,hp=>by
  rw[List.pairwise_cons]at hp
  have h0:=h p (by simp)
  refine .inl ?_
  rcases Qhu f ps (f p) (fun q hq=>⟨hp.1 q hq,(h q (by simp[hq])).2⟩) hp.2 with h1|h1
  ·simp;omega
  subst h1;simp;omega
theorem Qfh{S:List Ty}(hS:∀t∈S,Ek t):∀(d:Nat) (k:Kd) (v:Vl),Ge S d k v->(Dg v).length<=999999->∀r,E9 S d k (Dg v++r)=some (v,r):=by
 intro d
 induction d with
 |zero=>intro k v h;cases h
 |succ d ih=>
  intro k v h hl r
  cases h with
  |@n _ _ m hs hb h=>
   rw[Qhn h]
   unfold E9
   rw[hs]
   simp only
   rw[if_pos hb,Fz h]
  |@t _ _ s hs hb h=>
   rw[Qdx]at hl ⊢
   unfold E9
   rw[hs]
   simp only
   rw[if_neg (by rw[hb];decide),if_pos hb,Ph (by unfold Qr at hl;simp at hl;omega)]
   simp only
   rw[if_pos h]
  |@f _ _ b hs hb=>
   rw[Qho]
   unfold E9
   rw[hs]
   simp only
   rw[if_neg (by rw[hb];decide),if_neg (by rw[hb];decide),if_pos hb]
   cases b<;>rfl
  |@lst _ _ z ks hs hk h=>
   rw[Yj]at hl ⊢
   rw[List.length_append]at hl
   unfold E9
   rw[hs]
   simp only
   rw[if_pos Ae,List.append_assoc,Fz (by omega)]
   simp only
   rw[if_neg (by omega),Xf ks r fun x hx r=>ih k.part x (h x hx) (by have:=Qdu hx;omega) r]
  |@non _ _ z hs=>
   rw[Ye]
   unfold E9
   rw[hs]
   simp only
   rw[if_neg (by decide)]
   rfl
  |@som _ _ z x hs h=>
   rw[Ra]at hl ⊢
   unfold E9
   rw[hs]
   simp only
   rw[if_neg (by decide),List.cons_append]
   simp only
   rw[if_neg (by decide),if_pos Ae,ih k.part x h (by simp at hl;omega) r]
  |@enm _ _ t f hs hb ht h9 hf=>
   have hg:f.tag<=200:=((hS t (Bj ht).1).2.2.1.1 f (Ay hf).2).2.1
   rw[Yc]
   unfold E9
   rw[hs]
   simp only
   rw[if_neg (by rw[hb];decide),if_neg (by rw[hb];decide),if_neg (by rw[hb];decide),ht]
   simp only
   unfold Sv
   rw[if_neg (by rw[h9];decide),Fz (by omega)]
   simp only
   rw[hf]
   simp only
   rw[if_pos h9]
  |@uni _ _ t f x hs hb ht h5 hf h=>
   have hg:f.tag<=200:=((hS t (Bj ht).1).2.2.1.1 f (Ay hf).2).2.1
   rw[Yp]at hl ⊢
   have hx:(Dg x).length<=999999:=by unfold Qr at hl;simp at hl;omega
   unfold E9
   rw[hs]
   simp only
   rw[if_neg (by rw[hb];decide),if_neg (by rw[hb];decide),if_neg (by rw[hb];decide),ht]
   simp only
   unfold Sv
   rw[if_neg (by rw[h5];decide),List.append_assoc,Fz (by omega)]
   simp only
   rw[hf]
   simp only
   rw[if_neg (by rw[h5];decide),Ph hx]
   simp only
   rw[Xq (ih f.kind x h hx [])]
  |@rcd _ _ t fs hs hb ht h2 hf h hn hp=>
   rw[Q6]at hl ⊢
   rw[List.length_append]at hl
   have hg:∀p∈fs,p.1.tag<=200/\0<p.1.tag:=fun p hq=>by
    have:=(hS t (Bj ht).1).2.2.1.1 p.1 (Ay (hf p hq)).2
    exact⟨this.2.1,this.1⟩
   have hfew:=Qhu (n:=200) (fun p:Fd × Vl=>p.1.tag) fs 0 (fun p hq=>⟨(hg p hq).2,(hg p hq).1⟩) hp
   have hlen:fs.length<1000:=by rcases hfew with h|h;omega;subst h;simp
   unfold E9
   rw[hs]
   simp only
   rw[if_neg (by rw[hb];decide),if_neg (by rw[hb];decide),if_neg (by rw[hb];decide),ht]
   simp only
   unfold Sv
   rw[if_pos h2,List.append_assoc,List.singleton_append,Tj r 1000 0 fs hlen (fun p hq=>?_) hp]
   have hb9:(Dg p.2).length<=999999:=by have:=Qcg hq;omega
   exact⟨(hg p hq).2,by have:=(hg p hq).1;omega,hf p hq,hb9,ih p.1.kind p.2 (h p hq) hb9 [],hn p hq⟩
end
def Co:List (Value->Prop)->Nat->Value->Prop
 |[],_,_=>True
 |p::_,0,v=>p v
 |_::ps,n+1,v=>Co ps n v
def N6:List (Value->Prop)->Nat->(Nat->Value)->Prop
 |[],_,_=>True
 |p::ps,i,u=>p (u i)/\N6 ps (i+1) u
theorem Qhi:∀(ps:List (Value->Prop)) (i:Nat) (u:Nat->Value),(∀j,j<ps.length->Co ps j (u (i+j)))->N6 ps i u
 |[],_,_,_=>Ae
 |p::ps,i,u,h=>⟨h 0 (by simp),Qhi ps (i+1) u fun j hj=>by
  have:=h (j+1) (by simp;omega)
  rwa [show i+(j+1)=i+1+j by omega]at this⟩
theorem Qd6:∀(ps qs:List (Value->Prop)) (j:Nat) (v:Value),j<ps.length->Co (ps++qs) j v=Co ps j v
 |[],_,_,_,h=>by simp at h
 |p::ps,_,0,_,_=>rfl
 |p::ps,qs,j+1,v,h=>Qd6 ps qs j v (by simpa using h)
theorem Qfa:∀(ps:List (Value->Prop)) (p:Value->Prop) (v:Value),Co (ps++[p]) ps.length v=p v
 |[],_,_=>rfl
 |_::ps,p,v=>Qfa ps p v
def Qn7(ops:Array Oper)(j i:Nat):Bool:=((ops[j]?).map fun o=>o.after.toList.any fun e=>decide (e.on=i) && Region.binds .any e).getD false
section
variable {P:Program} {ops:Array Oper} {Q:Exit->Act->World->Prop} {a:Act} {mk:(Nat->Value)->Act} {R:(Nat->Bool)->(Nat->Value)->World->Prop} {G:World->Prop}
def C7:List Oper->List Nat
 |[]=>[]
 |o::os=>(match o.dst with|some d=>d|none=>100000+os.length)::C7 os
def St(P:Program)(ops:Array Oper)(Q:Exit->Act->World->Prop)(a:Act)(mk:(Nat->Value)->Act)(R:(Nat->Bool)->(Nat->Value)->World->Prop)(G:World->Prop)(i:Nat)(o:Oper)(ps:List (Value->Prop))(p:Value->Prop):Prop:=
 ∀(l:Nat->Bool) (u:Nat->Value) (W:World),l i=false->(∀e∈o.after,Region.binds .any e=true->l e.on=true/\Co ps e.on (u e.on))->Hid (R l u W)->G W->Hid (∀j,Qn7 ops j i=true->l j=false/\u j=a.tmps.toList.getD ((C7 ops.toList).getD j 0) undef) ->
  ∀K:Act->World->Prop,(∀v w' a',p v->R (fun j=>if j=i then true else l j) (fun j=>if j=i then v else u j) w'->a'=(mk u).put o.dst v->K a' w') ->
   if Region.wanted o (yielded ops (mk u).tmps)=true then Oper.wp P o (mk u) W K Q else K ((mk u).put o.dst undef) W
def Sq(P:Program)(ops:Array Oper)(Q:Exit->Act->World->Prop)(a:Act)(mk:(Nat->Value)->Act)(R:(Nat->Bool)->(Nat->Value)->World->Prop)(G:World->Prop):List Oper->Nat->List (Value->Prop)->Prop
 |[],n,ps=>∀l u W,(∀i,i<n->l i=true)->N6 ps 0 u->R l u W->Q .normal (mk u) W
 |o::os,i,ps=>∃p,St P ops Q a mk R G i o ps p/\Sq P ops Q a mk R G os (i+1) (ps++[p])
theorem Sq.all:∀(os:List Oper) (i:Nat) (ps:List (Value->Prop)),ps.length=i->Sq P ops Q a mk R G os i ps ->
  ∃qs:List (Value->Prop),qs.length=os.length/\(∀j o,os[j]?=some o->St P ops Q a mk R G (i+j) o ((ps++qs).take (i+j)) (Co (ps++qs) (i+j)))/\∀l u W,(∀j,j<i+os.length->l j=true)->N6 (ps++qs) 0 u->R l u W->Q .normal (mk u) W
 |[],i,ps,hl,h=>⟨[],rfl,by simp,by simpa [Sq]using h⟩
 |o::os,i,ps,hl,⟨p,h1,h2⟩=>by
  obtain⟨qs,e,h3,h4⟩:=Sq.all os (i+1) (ps++[p]) (by simp[hl]) h2
  refine⟨p::qs,by simp[e],fun j o' ho=>?_,fun l u W hl'=>?_⟩
  ·cases j with
   |zero=>
    simp at ho
    subst ho
    have e1:(ps++p::qs).take (i+0)=ps:=by rw[Nat.add_zero,<-hl];simp
    have e2:Co (ps++p::qs) (i+0)=p:=by
     funext v
     rw[Nat.add_zero,show ps++p::qs=(ps++[p])++qs by simp,Qd6 _ _ _ _ (by simp;omega),<-hl,Qfa]
    rw[e1,e2]
    exact h1
   |succ j=>
    simp at ho
    have:=h3 j o' ho
    rw[List.append_assoc,List.singleton_append,show i+1+j=i+(j+1)by omega]at this
    exact this
  have:=h4 l u W fun j hj=>hl' j (by simp only[List.length_cons];omega)
  rwa [List.append_assoc,List.singleton_append]at this
theorem Qb1:∀(ps:List (Value->Prop)) (i j:Nat) (v:Value),j<i->Co (ps.take i) j v=Co ps j v
 |[],_,_,_,_=>by simp
 |p::ps,0,_,_,h=>absurd h (by omega)
 |p::ps,i+1,0,_,_=>rfl
 |p::ps,i+1,j+1,v,h=>Qb1 ps i j v (by omega)
theorem rgF{id:Nat}{w:World}(R:(Nat->Bool)->(Nat->Value)->World->Prop)(G:World->Prop)(hG:∀l u W,R l u W->G W)(h0:R (fun _=>false) (fun i=>a.tmps.toList.getD ((C7 ops.toList).getD i 0) undef) w.drew)(h:Sq P ops Q a mk R G ops.toList 0 [])
  (hc:(P.follows .mixedOrders && (List.range ops.size).all (fun i=>((ops[i]?).map fun o=>o.after.all fun e=>!Region.binds .any e || decide (e.on<i)).getD true) && Fp a.tmps.size ops.toList (C7 ops.toList))=true:=by kernel_rfl)
  (hmk:∀u,Bl a (C7 ops.toList) u=mk u:=by intro u;dsimp only[Bl,C7,Bk,List.set,Nat.zero_add,Nat.reduceAdd,List.length_cons,List.length_nil]):(Code.region id ops true).wp P Q a w:=by
 have h1:=Bool.and_eq_true_iff.1 hc
 have h2:=Bool.and_eq_true_iff.1 h1.1
 obtain⟨qs,e,h3,h4⟩:=Sq.all ops.toList 0 [] rfl h
 rw[List.nil_append]at h3 h4
 have hac:=h2.2
 refine Bm (C7 ops.toList) h2.1 hac h1.2 hmk (fun i v _=>Co qs i v) R (fun _ _=>True) (fun _ _ _ _ _ h=>h) h0 ?_ ?_
 ·intro i o ho l u W hl hp hF hun hdep K hK
  simp only[Nat.zero_add]at *
  have hs:=h3 i o ho
  refine hs l u W hl (fun e he hb=>⟨(hp e he hb).1,?_⟩) hF (hG l u W hF) (fun j hj=>?_) K fun v w' a' hv hF' ha=>hK v w' a' hv Ae hF' ha
  ·have ho':ops[i]?=some o:=by simpa using ho
   have hlt:i<ops.size:=(Array.getElem?_eq_some_iff.1 ho').1
   have hh:=List.all_eq_true.1 hac i (List.mem_range.2 hlt)
   rw[ho']at hh
   have h5:=Array.all_eq_true_iff_forall_mem.1 hh e he
   have h6:e.on<i:=by simpa [hb]using h5
   rw[Qb1 _ _ _ _ h6]
   exact(hp e he hb).2
  unfold Qn7 at hj
  cases hjo:ops[j]? with
  |none=>rw[hjo]at hj;cases hj
  |some o'=>
   rw[hjo]at hj
   simp only[Option.map_some,Option.getD_some]at hj
   obtain⟨e,he,h5⟩:=List.any_eq_true.1 hj
   rw[Bool.and_eq_true,decide_eq_true_iff]at h5
   obtain⟨rfl,h6⟩:=h5
   have:=hdep j o' hjo e (by simpa using he) h6 hl
   exact⟨this,hun j this⟩
 intro l u W hl hφ hF
 exact h4 l u W (fun j hj=>hl j (by rw[<-Array.length_toList];omega)) (Qhi _ _ _ fun j hj=>by rw[Nat.zero_add];exact hφ j (by rw[<-Array.length_toList];omega)) hF
def Gz(w W:World):Prop:=∀b o k,b<w.heap.size->W.cell? ⟨b,o,k⟩=w.cell? ⟨b,o,k⟩
theorem Sa{w W:World}(h:Below w.heap.size w W):Gz w W:=fun b o k hb=>h.cell (p:=⟨b,o,k⟩) hb
theorem rgB{id:Nat}{w:World}(h:Sq P ops Q a mk (fun _ _=>Below w.heap.size w) (Gz w) ops.toList 0 [])
  (hc:(P.follows .mixedOrders && (List.range ops.size).all (fun i=>((ops[i]?).map fun o=>o.after.all fun e=>!Region.binds .any e || decide (e.on<i)).getD true) && Fp a.tmps.size ops.toList (C7 ops.toList))=true:=by kernel_rfl)
  (hmk:∀u,Bl a (C7 ops.toList) u=mk u:=by intro u;dsimp only[Bl,C7,Bk,List.set,Nat.zero_add,Nat.reduceAdd,List.length_cons,List.length_nil]):(Code.region id ops true).wp P Q a w:=
 rgF (fun _ _=>Below w.heap.size w) (Gz w) (fun _ _ _ h=>Sa h) (Aq _ _).drew h hc hmk
section
variable {o:Oper} {os:List Oper} {i:Nat} {ps:List (Value->Prop)} {v:Value}
theorem sq(k:Sq P ops Q a mk R G os (i+1) (ps++[fun x=>x=v]))(h:St P ops Q a mk R G i o ps (fun x=>x=v):=by
  intro l u W hl hp hF hG hi K hK
  first|unfold Gz at hG|skip
  first|(simp[Region.binds,Co]at hp;done)|simp[Region.binds,Co]at hp|clear hp
  go_simp
  exact hK _ _ _ rfl hF.o (by first|rfl|(simp[Act.put,hp];done)|(simp[Act.put,hp];exact rfl))):Sq P ops Q a mk R G (o::os) i ps:=⟨_,h,k⟩
theorem sqI(J:Nat)(k:Sq P ops Q a mk R G os (i+1) (ps++[fun x=>x=v]))(h:∀j,j=J->St P ops Q a mk R G i o ps (fun x=>x=v):=by
  intro j hj l u W hl hp hF hG hi K hK
  have hq:=(hi.o j (by rw[hj];rfl)).2
  rw[hj]at hq
  simp[C7]at hq
  first|unfold Gz at hG|skip
  first|(simp[Region.binds,Co]at hp;done)|simp[Region.binds,Co]at hp|clear hp
  go_simp
  exact hK _ _ _ rfl hF.o (by first|rfl|(simp[Act.put,hq];done)|(simp[Act.put,hq];exact rfl)|(simp[Act.put,hp,hq];done)|(simp[Act.put,hp,hq];exact rfl))):Sq P ops Q a mk R G (o::os) i ps:=⟨_,h J rfl,k⟩
theorem sqC{C:World->Prop}{n:Nat}{w:World}(X:∀W,Below n w W->C W)(k:Sq P ops Q a mk (fun _ _=>Below n w) G os (i+1) (ps++[fun x=>x=v]))(h:(∀W,Below n w W->C W)->St P ops Q a mk (fun _ _=>Below n w) G i o ps (fun x=>x=v):=by
  intro X l u W hl hp hF hG hi K hK
  have HX:=X W hF.o
  first|unfold Gz at hG|skip
  first|(simp[Region.binds,Co]at hp;done)|simp[Region.binds,Co]at hp|clear hp
  go_simp
  refine HX.mono ?_
  rintro e w' ⟨rfl,hb⟩
  exact hK _ _ _ rfl (hF.o.trans (hb.mono hF.o.size)) (by first|rfl|(simp[Act.put,hp];done)|(simp[Act.put,hp];exact rfl))):Sq P ops Q a mk (fun _ _=>Below n w) G (o::os) i ps:=⟨_,h X,k⟩
theorem Ju(p:Value->Prop)(h:St P ops Q a mk R G i o ps p)(k:Sq P ops Q a mk R G os (i+1) (ps++[p])):Sq P ops Q a mk R G (o::os) i ps:=⟨_,h,k⟩
theorem dn{b:Act}(h:∀l u W,(∀j,j<i->l j=true)->N6 ps 0 u->Hid (R l u W)->Q .normal b W)(e:∀u,N6 ps 0 u->mk u=b:=by
  intro u h
  simp only[N6,List.nil_append,List.cons_append,Nat.zero_add,Nat.reduceAdd]at h
  simp only[h]
  exact rfl):Sq P ops Q a mk R G [] i ps:=fun l u W hl hu hF=>by rw[e u hu];exact h l u W hl hu hF
theorem dnB{b:Act}{F:World->Prop}(h:∀W,Hid (F W)->Q .normal b W)(e:∀u,N6 ps 0 u->mk u=b:=by
  intro u h
  simp only[N6,List.nil_append,List.cons_append,Nat.zero_add,Nat.reduceAdd]at h
  simp only[h]
  exact rfl):Sq P ops Q a mk (fun _ _=>F) G [] i ps:=fun l u W hl hu hF=>by rw[e u hu];exact h W hF
end
end
theorem Qcs(s:List UInt8):(Qr s).length<=s.length+3:=by have:=Cz s.length;simp[Qr];omega
theorem Qoj:∀ks:List Vl,(∀x∈ks,(Dg x).length<=4*(Aw x).length)->(ks.map Dg).flatten.length<=4*Du (ks.map Aw)
 |[],_=>by simp
 |x::ks,h=>by
  have h1:=h x (by simp)
  have h2:=Qoj ks fun y hy=>h y (by simp[hy])
  rw[List.map_cons,List.flatten_cons,List.length_append,List.map_cons,Ev]
  omega
theorem Qp6:∀ps:List (Fd × Vl),(∀p∈ps,(Dg p.2).length<=4*(Aw p.2).length)->(ps.map fun p=>D1 p.1.tag++Qr (Dg p.2)).flatten.length<=4*Du (ps.map fun p=>Aw (Ea p))
 |[],_=>by simp
 |p::ps,h=>by
  have h1:=h p (by simp)
  have h2:=Qp6 ps fun y hy=>h y (by simp[hy])
  have h3:=Cz p.1.tag
  have h4:=Qcs (Dg p.2)
  have h5:=Jo p
  rw[List.map_cons,List.flatten_cons,List.length_append,List.length_append,List.map_cons,Ev]
  omega
theorem Qf2{S:List Ty}:∀(d:Nat) (k:Kd) (v:Vl),Ge S d k v->(Dg v).length<=4*(Aw v).length:=by
 intro d
 induction d with
 |zero=>intro k v h;cases h
 |succ d ih=>
  intro k v h
  cases h with
  |@n _ _ m hs hb h=>
   have h1:=Cz m
   have h2:0<(Az m).length:=List.length_pos_iff.2 (Q9 m)
   rw[Qhn h];simp[Aw,Di,Gl];omega
  |@t _ _ s hs hb h=>
   have:=Qcs s
   rw[Qdx];simp[Aw,Di,Gl];omega
  |@f _ _ b hs hb=>rw[Qho];cases b<;>simp[Aw,Di,Gl,Dk,H7]
  |@lst _ _ z ks hs hk h=>
   have h1:=Cz ks.length
   have h2:=Qoj ks fun x hx=>ih _ _ (h x hx)
   have h3:=Bs 44 (ks.map Aw)
   rw[Yj,G6]
   simp only[List.length_append,List.length_cons,List.length_nil]
   omega
  |@non _ _ z hs=>rw[Ye];simp[Aw,Di,Gl]
  |@som _ _ z x hs h=>
   have:=ih _ _ h
   rw[Ra];simp[Aw,Di,Gl,Ax];omega
  |@enm _ _ t f hs hb ht h9 hf=>
   have:=Cz f.tag
   rw[Yc];simp[Aw,Di,Gl];omega
  |@uni _ _ t f x hs hb ht h5 hf h=>
   have h1:=ih _ _ h
   have h2:=Cz f.tag
   have h3:=Qcs (Dg x)
   have h4:=Jo (f,x)
   rw[Yp,Qo]
   simp only[List.length_append,List.length_cons,List.length_nil]at h4 ⊢
   omega
  |@rcd _ _ t fs hs hb ht h2 hf h hn hp=>
   have h1:=Qp6 fs fun p hq=>ih _ _ (h p hq)
   have h3:=Bs 44 (fs.map fun p=>Aw (Ea p))
   rw[Q6,Nb]
   simp only[List.length_append,List.length_cons,List.length_nil]
   omega
theorem Xr{K:List UInt8->Option (Vl × List UInt8)}{P:Vl->Prop}(hK:∀s v r,K s=some (v,r)->P v):∀(m:Nat) (s:List UInt8) (vs:List Vl) (r:List UInt8),Df K m s=some (vs,r)->vs.length=m/\∀x∈vs,P x
 |0,s,vs,r,h=>by
  simp only[Df,Option.some.injEq,Prod.mk.injEq]at h
  obtain⟨rfl,_⟩:=h
  simp
 |m+1,s,vs,r,h=>by
  unfold Df at h
  cases hk:K s with
  |none=>rw[hk]at h;cases h
  |some q=>
   obtain⟨v,z⟩:=q
   rw[hk]at h
   simp only at h
   cases hi:Df K m z with
   |none=>rw[hi]at h;cases h
   |some y=>
    obtain⟨us,y⟩:=y
    rw[hi]at h
    simp only[Option.some.injEq,Prod.mk.injEq]at h
    obtain⟨rfl,_⟩:=h
    obtain⟨h1,h2⟩:=Xr hK m _ _ _ hi
    exact⟨by simp[h1],by simpa using⟨hK _ _ _ hk,h2⟩⟩
theorem D3{K:List UInt8->Option (Vl × List UInt8)}{s:List UInt8}{v:Vl}(h:Cg K s=some v):K s=some (v,[]):=by
 unfold Cg at h
 cases hk:K s with
 |none=>rw[hk]at h;cases h
 |some q=>
  obtain⟨x,r⟩:=q
  rw[hk]at h
  cases r with
  |nil=>simp only[Option.some.injEq]at h;rw[h]
  |cons=>cases h
theorem N9{S:List Ty}{K:Kd->List UInt8->Option (Vl × List UInt8)}{P:Fd->Vl->Prop}{fs:List Fd}(hK:∀f∈fs,∀s v r,K f.kind s=some (v,r)->P f v):∀(m last:Nat) (s:List UInt8) (ps:List (Fd × Vl)) (r:List UInt8),
  Dc S K fs m last s=some (ps,r)->(∀p∈ps,last<p.1.tag/\Ap fs p.1.tag=some p.1/\P p.1 p.2/\Aw p.2≠Kr S p.1)/\ps.Pairwise fun p q=>p.1.tag<q.1.tag
 |0,_,_,_,_,h=>by cases h
 |m+1,last,s,ps,r,h=>by
  unfold Dc at h
  cases hn:Ag s with
  |none=>rw[hn]at h;cases h
  |some q=>
   obtain⟨tag,q⟩:=q
   rw[hn]at h
   simp only at h
   split at h
   ·simp only[Option.some.injEq,Prod.mk.injEq]at h
    obtain⟨rfl,_⟩:=h
    simp
   cases hp:Ed q with
   |none=>rw[hp]at h;cases h
   |some y=>
    obtain⟨p,y⟩:=y
    rw[hp]at h
    simp only at h
    split at h
    ·cases h
    rename_i hlt
    cases hf:Ap fs tag with
    |none=>
     rw[hf]at h
     simp only at h
     obtain⟨h1,h2⟩:=N9 hK m tag _ _ _ h
     exact⟨fun x hx=>by obtain⟨a,b⟩:=h1 x hx;exact⟨by omega,b⟩,h2⟩
    |some f=>
     rw[hf]at h
     simp only at h
     cases hw:Cg (K f.kind) p with
     |none=>rw[hw]at h;cases h
     |some v=>
      rw[hw]at h
      simp only at h
      cases hi:Dc S K fs m tag y with
      |none=>rw[hi]at h;cases h
      |some z=>
       obtain⟨us,z⟩:=z
       rw[hi]at h
       simp only[Option.some.injEq,Prod.mk.injEq]at h
       obtain⟨rfl,_⟩:=h
       obtain⟨h1,h2⟩:=N9 hK m tag _ _ _ hi
       obtain⟨e1,e2⟩:=Ay hf
       subst e1
       have h1':∀x∈us,last<x.1.tag/\Ap fs x.1.tag=some x.1/\P x.1 x.2/\Aw x.2≠Kr S x.1:=fun x hx=>by obtain⟨a,b⟩:=h1 x hx;exact⟨by omega,b⟩
       split
       ·exact⟨h1',h2⟩
       rename_i hst
       refine⟨fun x hx=>?_,?_⟩
       ·rcases List.mem_cons.1 hx with rfl|hx
        ·exact⟨(by show last<f.tag;omega),hf,hK _ e2 _ _ _ (D3 hw),hst⟩
        exact h1' x hx
       rw[List.pairwise_cons]
       exact⟨fun x hx=>(h1 x hx).1,h2⟩
theorem Mc{S:List Ty}(hS:∀t∈S,Ek t):∀(d:Nat) (k:Kd) (s:List UInt8) (v:Vl) (r:List UInt8),Cw k->E9 S d k s=some (v,r)->Ge S d k v:=by
 intro d
 induction d with
 |zero=>intro k s v r _ h;cases h
 |succ d ih=>
  intro k s v r hk h
  unfold E9 at h
  cases hs:k.signs with
  |cons c t=>
   rw[hs]at h
   simp only at h
   have hp:=(Jk hk).1
   by_cases h91:c=91
   ·subst h91
    rw[if_pos rfl]at h
    cases hn:Ag s with
    |none=>rw[hn]at h;cases h
    |some q=>
     obtain⟨n,q⟩:=q
     rw[hn]at h
     simp only at h
     split at h
     ·cases h
     rename_i hl
     cases hi:Df (E9 S d k.part) n q with
     |none=>rw[hi]at h;cases h
     |some y=>
      obtain⟨vs,y⟩:=y
      rw[hi]at h
      simp only[Option.some.injEq,Prod.mk.injEq]at h
      obtain⟨rfl,_⟩:=h
      obtain⟨i1,i2⟩:=Xr (P:=Ge S d k.part) (fun s v r h=>ih _ _ _ _ hp h) _ _ _ _ hi
      exact .lst hs (by omega) i2
   have h63:=(Kl hk hs).resolve_left h91
   subst h63
   rw[if_neg h91]at h
   cases s with
   |nil=>cases h
   |cons b z=>
    simp only at h
    split at h
    ·simp only[Option.some.injEq,Prod.mk.injEq]at h
     obtain⟨rfl,_⟩:=h
     exact .non hs
    split at h
    ·cases hi:E9 S d k.part z with
     |none=>rw[hi]at h;cases h
     |some y=>
      obtain⟨x,y⟩:=y
      rw[hi]at h
      simp only[Option.some.injEq,Prod.mk.injEq]at h
      obtain⟨rfl,_⟩:=h
      exact .som hs (ih _ _ _ _ hp hi)
    cases h
  |nil=>
   rw[hs]at h
   simp only at h
   split at h
   ·rename_i hb
    cases hn:Ag s with
    |none=>rw[hn]at h;cases h
    |some q=>
     obtain⟨n,q⟩:=q
     rw[hn]at h
     simp only[Option.some.injEq,Prod.mk.injEq]at h
     obtain⟨rfl,_⟩:=h
     exact .n hs hb (Cq hn).1
   split at h
   ·rename_i hb
    cases hn:Ed s with
    |none=>rw[hn]at h;cases h
    |some q=>
     obtain⟨p,q⟩:=q
     rw[hn]at h
     simp only at h
     split at h
     ·rename_i ht
      simp only[Option.some.injEq,Prod.mk.injEq]at h
      obtain⟨rfl,_⟩:=h
      exact .t hs hb ht
     cases h
   split at h
   ·rename_i hb
    cases s with
    |nil=>cases h
    |cons b z=>
     simp only at h
     split at h
     ·simp only[Option.some.injEq,Prod.mk.injEq]at h
      obtain⟨rfl,_⟩:=h
      exact .f (b:=false) hs hb
     split at h
     ·simp only[Option.some.injEq,Prod.mk.injEq]at h
      obtain⟨rfl,_⟩:=h
      exact .f (b:=true) hs hb
     cases h
   rename_i b1 b2 b3
   have hb:k.base=[64]:=by
    rcases hk.2.1 with h|⟨h|h|h,_⟩
    ·exact h.1
    ·exact absurd h b1
    ·exact absurd h b2
    exact absurd h b3
   cases ht:B9 S k.name with
   |none=>rw[ht]at h;cases h
   |some t=>
    rw[ht]at h
    simp only at h
    unfold Sv at h
    by_cases h2:t.sort=82
    ·rw[if_pos h2]at h
     cases hi:Dc S (E9 S d) t.fields 1000 0 s with
     |none=>rw[hi]at h;cases h
     |some y=>
      obtain⟨ps,y⟩:=y
      rw[hi]at h
      simp only[Option.some.injEq,Prod.mk.injEq]at h
      obtain⟨rfl,_⟩:=h
      obtain⟨i1,i2⟩:=N9 (P:=fun f v=>Ge S d f.kind v) (fun f hf s v r hr=>ih _ _ _ _ (Na hS ht (by rw[h2];decide) hf).1 hr) _ _ _ _ _ hi
      exact .rcd hs hb ht h2 (fun p hp=>(i1 p hp).2.1) (fun p hp=>(i1 p hp).2.2.1) (fun p hp=>(i1 p hp).2.2.2) i2
    rw[if_neg h2]at h
    cases hn:Ag s with
    |none=>rw[hn]at h;cases h
    |some q=>
     obtain⟨tag,q⟩:=q
     rw[hn]at h
     simp only at h
     cases hf:Ap t.fields tag with
     |none=>rw[hf]at h;cases h
     |some f=>
      rw[hf]at h
      simp only at h
      obtain⟨e1,e2⟩:=Ay hf
      subst e1
      by_cases h9:t.sort=69
      ·rw[if_pos h9]at h
       simp only[Option.some.injEq,Prod.mk.injEq]at h
       obtain⟨rfl,_⟩:=h
       exact .enm hs hb ht h9 hf
      rw[if_neg h9]at h
      have h5:t.sort=85:=by
       rcases(hS t (Bj ht).1).1 with h|h|h
       ·exact absurd h h2
       ·exact h
       exact absurd h h9
      cases hp:Ed q with
      |none=>rw[hp]at h;cases h
      |some y=>
       obtain⟨p,y⟩:=y
       rw[hp]at h
       simp only at h
       cases hw:Cg (E9 S d f.kind) p with
       |none=>rw[hw]at h;cases h
       |some v=>
        rw[hw]at h
        simp only[Option.some.injEq,Prod.mk.injEq]at h
        obtain⟨rfl,_⟩:=h
        exact .uni hs hb ht h5 hf (ih _ _ _ _ (Na hS ht h9 e2).1 (D3 hw))
end Go.Proofs.YtmmhmlmfhpfgbaaGreatDoor
