/- Texts joined. Conditions: as each theorem names them. -/
import Derived.Test.YtkigmebejmmikaaGreatDoorG17
set_option maxRecDepth 100000
set_option maxHeartbeats 32000000
set_option linter.unusedVariables false
set_option linter.unusedSimpArgs false
namespace Go.Proofs.YtkigmebejmmikaaGreatDoor
open Go.RowKit Go.Proofs.Tryz
section
open Go.RowKit Go.Sort
attribute [local go_sem] Qjy Qiu Qil Qgp ByteArray.mk_append_mk
theorem Qff{xs:List PT}{n:C5}{t:Ty}(h:B0 (Af xs) n=some t):∃x,Ew xs n=some x/\x.ty=t:=by
 rw[Jm]at h;cases hq:Ew xs n with
 |none=>rw[hq]at h;cases h
 |some x=>rw[hq]at h;injection h with h;exact⟨x,rfl,h⟩
theorem Ro{p:List UInt8}:∀{l:List (List UInt8)},p∈l->p.length+1<=Cq l
 |x::xs,h=>by
  rw[De];rcases ax.1 h with rfl|h
  ·omega
  have:=Ro h;omega
theorem Qel{S:List Ty}(hS:∀t∈S,Ed t):∀(d:Nat) (k:Kd) (v:Vl),Jq S d k v->(Au v).length<=900000->Bd v:=by
 intro d;induction d with
 |zero=>intro k v h;cases h
 |succ d ih=>
  intro k v h hl;cases h with
  |@n _ _ m hs hb h=>exact .mk aE cJ (by simp[Au,Cs,Ez]at hl;omega) aI
  |@t _ _ s hs hb h=>exact .mk aE cJ (by simp[Au,Cs,Ez]at hl;omega) aI
  |@f _ _ x hs hb=>exact .mk aE cJ (by cases x<;>decide) aI
  |@lst _ _ r ks hs hl2 h=>
   rw[E4]at hl;simp only[List.length_cons,ag,B1,List.length_nil]at hl;exact .mk aE aE aI fun x hx=>ih _ x (h x hx) (by have:=Ro (am (f:=Au) hx);omega)
  |@non _ _ r hs=>exact .mk aE cJ aI aI
  |@som _ _ r x hs h=>
   have hx:(Au x).length<=900000:=by simp[Au,Cs,Ez,An]at hl;omega
   exact .mk aE dS aI fun y hy=>eY
  |@enm _ _ t f hs hb ht h9 hf=>exact .mk (by have:=((hS t (Bq ht).1).2.2.1.1 f (Bz hf).2).2.1;omega) cJ aI aI
  |@uni _ _ t f x hs hb ht h5 hf h=>
   have hx:(Au x).length<=900000:=by simp[Au,Cs,Ez,An]at hl;omega
   exact .mk (by have:=(Js hS ht dX (Bz hf).2).2;omega) dS aI fun y hy=>eY
  |@rcd _ _ t fs hs hb ht h2 hf h hn hp=>
   rw[Jk]at hl;simp only[List.length_cons,ag,B1,List.length_nil]at hl;refine .mk aE (by rw[List.map_map];show Cq (fs.map fun p=>Au (Cw p))<=_;omega) aI fun y hy=>?_;obtain⟨p,hp',rfl⟩:=au.1 hy;have h3:=Ro (am (f:=fun p=>Au (Cw p)) hp');simp only[Kt]at h3;have h4:=(Js hS ht cC (Bz (hf p hp')).2).2;exact .mk aE dS aI fun y hy=>by rw[an]at hy;subst hy;exact ih _ _ (h p hp') aE
def Qa2(o:Option (List Ty × Kd))(x:List UInt8):Option (List UInt8):=if 600<x.length then none else o.bind fun y=>(B2 y.1 12 y.2 x).bind fun z=>if z.2=[]/\(Au z.1).length<=400 then some (Au z.1)else none
inductive H3(S:List Ty):Nat->Kd->Vl->Prop
 |n {d:Nat} {k:Kd} {m:Nat} (hs:k.signs=[]) (hb:k.base=[110]) (h:m<=999999):H3 S (d+1) k (.mk 110 (Az m) 0 [])
 |t {d:Nat} {k:Kd} {s:List UInt8} (hs:k.signs=[]) (hb:k.base=[116]) (h:Dq s=true):H3 S (d+1) k (.mk 116 s 0 [])
 |f {d:Nat} {k:Kd} {b:Bool} (hs:k.signs=[]) (hb:k.base=[102]):H3 S (d+1) k (.mk 102 (if b then Ei else Ma) 0 [])
 |lst {d:Nat} {k:Kd} {r:List UInt8} {ks:List Vl} (hs:k.signs=91::r) (h:∀x∈ks,H3 S d k.part x):H3 S (d+1) k (.mk 91 [] 0 ks)
 |non {d:Nat} {k:Kd} {r:List UInt8} (hs:k.signs=63::r):H3 S (d+1) k (.mk 63 [] 0 [])
 |som {d:Nat} {k:Kd} {r:List UInt8} {x:Vl} (hs:k.signs=63::r) (h:H3 S d k.part x):H3 S (d+1) k (.mk 63 [] 0 [x])
 |enm {d:Nat} {k:Kd} {t:Ty} {f:Fd} (hs:k.signs=[]) (hb:k.base=[64]) (ht:B0 S k.name=some t) (h9:t.sort=69) (hf:Bp t.fields f.tag=some f):H3 S (d+1) k (.mk 69 [] f.tag [])
 |uni {d:Nat} {k:Kd} {t:Ty} {f:Fd} {x:Vl} (hs:k.signs=[]) (hb:k.base=[64]) (ht:B0 S k.name=some t) (h5:t.sort=85) (hf:Bp t.fields f.tag=some f) (h:H3 S d f.kind x):H3 S (d+1) k (.mk 85 [] f.tag [x])
 |rcd {d:Nat} {k:Kd} {t:Ty} {fs:List (Fd × Vl)} (hs:k.signs=[]) (hb:k.base=[64]) (ht:B0 S k.name=some t) (h2:t.sort=82) (hf:∀p∈fs,Bp t.fields p.1.tag=some p.1) (h:∀p∈fs,H3 S d p.1.kind p.2)
   (hn:∀p∈fs,Au p.2≠Kn S p.1) (hp:fs.Pairwise fun p q=>p.1.tag<q.1.tag):H3 S (d+1) k (.mk 82 [] 0 (fs.map Cw))
theorem Rt{S:List Ty}{d:Nat}{k:Kd}{v:Vl}(h:H3 S d k v):∃c t,Au v=c::t/\c≠93:=by
 cases h with
 |@n d _ m hs hb h=>exact(Ms (S:=S) (.n (d:=d) hs hb h)).imp fun c h=>h.imp fun t h=>⟨h.1,h.2.1⟩
 |@t d _ s hs hb h=>exact(Ms (S:=S) (.t (d:=d) hs hb h)).imp fun c h=>h.imp fun t h=>⟨h.1,h.2.1⟩
 |@f d _ b hs hb=>exact(Ms (S:=S) (.f (d:=d) (b:=b) hs hb)).imp fun c h=>h.imp fun t h=>⟨h.1,h.2.1⟩
 |@lst _ _ t ks hs h=>exact⟨91,An 44 (ks.map Au)++[93],by rw[E4],by decide⟩
 |@non _ _ t hs=>exact⟨45,[],by simp[Au,Cs,Ez,An],by decide⟩
 |@som _ _ t x hs h=>exact⟨43,Au x,by simp[Au,Cs,Ez,An],by decide⟩
 |@enm _ _ t f hs hb ht h9 hf=>exact⟨35,Az f.tag,by simp[Au,Cs,Ez],by decide⟩
 |@uni _ _ t f x hs hb ht h5 hf h=>exact⟨60,Au (Cw (f,x))++[62],by rw[Mb],by decide⟩
 |@rcd _ _ t fs hs hb ht h2 hf h hn hp=>exact⟨123,(An 44 (fs.map fun p=>Au (Cw p)))++[125],by rw[Jk],by decide⟩
def Uq(K:List UInt8->Option (Vl × List UInt8))(P:Prop)(x:Vl):Prop:=∀r u q,Ng r->K (Au x++r)=some (u,q)->u=x/\q=r/\P
theorem V6{K:List UInt8->Option (Vl × List UInt8)}{P:Vl->Prop}:∀(m:Nat) (vs:List Vl) (r:List UInt8) (us:List Vl) (q:List UInt8),(∀x∈vs,Uq K (P x) x)->vs≠[] ->
  A0 K m (An 44 (vs.map Au)++93::r)=some (us,q)->us=vs/\q=r/\∀x∈vs,P x
 |0,vs,r,us,q,_,_,h=>by cases h
 |m+1,[],r,us,q,_,h,_=>absurd rfl h
 |m+1,[x],r,us,q,hK,_,h=>by
  simp only[List.map_cons,List.map_nil,An]at h
  unfold A0 at h
  cases hk:K (Au x++93::r)with
  |none=>rw[hk]at h;cases h
  |some y=>
   obtain⟨v,z⟩:=y
   obtain⟨rfl,rfl,hp⟩:=hK x (by simp) _ _ _ (Dk _ (by decide)) hk
   rw[hk]at h
   simp only[Bl (show (93:UInt8)≠44 by decide),Aq,Option.some.injEq,Prod.mk.injEq]at h
   obtain⟨rfl,rfl⟩:=h
   exact⟨rfl,rfl,by simpa using hp⟩
 |m+1,x::y::vs,r,us,q,hK,_,h=>by
  rw[List.map_cons,Cf 44 _ (by simp),List.append_assoc,List.cons_append]at h
  unfold A0 at h
  cases hk:K (Au x++44::(An 44 ((y::vs).map Au)++93::r))with
  |none=>rw[hk]at h;cases h
  |some w=>
   obtain⟨v,z⟩:=w
   obtain⟨rfl,rfl,hp⟩:=hK x (by simp) _ _ _ (Dk _ (by decide)) hk
   rw[hk]at h
   simp only[Aq]at h
   cases hi:A0 K m (An 44 ((y::vs).map Au)++93::r)with
   |none=>rw[hi]at h;cases h
   |some w=>
    obtain⟨vs',z'⟩:=w
    rw[hi]at h
    simp only[Option.some.injEq,Prod.mk.injEq]at h
    obtain⟨rfl,rfl⟩:=h
    obtain⟨rfl,rfl,hP⟩:=V6 m (y::vs) r vs' z' (fun z hz=>hK z (by simp at hz ⊢;exact .inr hz)) (by simp) hi
    exact⟨rfl,rfl,fun z hz=>by rcases List.mem_cons.1 hz with rfl|hz;exact hp;exact hP z hz⟩
theorem T9{K:Kd->List UInt8->Option (Vl × List UInt8)}{fs:List Fd}{p:Fd × Vl}{P:Prop}{r q:List UInt8}{p':Fd × Vl}(h1:p.1.tag<=200)(h2:Bp fs p.1.tag=some p.1)(hK:Uq (K p.1.kind) P p.2)(hr:Ng r)
  (h:Ct K fs (Au (Cw p)++r)=some (p',q)):p'=p/\q=r/\P:=by
 have e:Au (Cw p)++r=Az p.1.tag++(61::(Au p.2++r)):=by simp[Cw,Au,Cs,Ez,An]
 rw[e]at h
 unfold Ct at h
 rw[Qo h1 h2 (Dk _ (by decide))]at h
 simp only[Aq]at h
 cases hk:K p.1.kind (Au p.2++r)with
 |none=>rw[hk]at h;cases h
 |some y=>
  obtain⟨v,z⟩:=y
  obtain⟨rfl,rfl,hp⟩:=hK _ _ _ hr hk
  rw[hk]at h
  simp only[Option.some.injEq,Prod.mk.injEq]at h
  obtain⟨rfl,rfl⟩:=h
  exact⟨rfl,rfl,hp⟩
theorem Y7{S:List Ty}{K:Kd->List UInt8->Option (Vl × List UInt8)}{P:Fd × Vl->Prop}{fs:List Fd}:∀(m last:Nat) (ps:List (Fd × Vl)) (r:List UInt8) (us:List (Fd × Vl)) (q:List UInt8),
  (∀p∈ps,p.1.tag<=200/\Bp fs p.1.tag=some p.1/\Uq (K p.1.kind) (P p) p.2)->ps≠[] ->
  Do S K fs m last (An 44 (ps.map fun p=>Au (Cw p))++125::r)=some (us,q)->us=ps/\q=r/\∀p∈ps,P p
 |0,last,ps,r,us,q,_,_,h=>by cases h
 |m+1,last,[],r,us,q,_,h,_=>absurd rfl h
 |m+1,last,[p],r,us,q,hK,_,h=>by
  obtain⟨h1,h2,h3⟩:=hK p (by simp)
  simp only[List.map_cons,List.map_nil,An]at h
  unfold Do at h
  cases hk:Ct K fs (Au (Cw p)++125::r)with
  |none=>rw[hk]at h;cases h
  |some y=>
   obtain⟨v,z⟩:=y
   obtain⟨rfl,rfl,hp⟩:=T9 h1 h2 h3 (Dk _ (by decide)) hk
   rw[hk]at h
   simp only at h
   split at h
   ·cases h
   simp only[Bl (show (125:UInt8)≠44 by decide),Aq,Option.some.injEq,Prod.mk.injEq]at h
   obtain⟨rfl,rfl⟩:=h
   exact⟨rfl,rfl,by simpa using hp⟩
 |m+1,last,p::p2::ps,r,us,q,hK,_,h=>by
  obtain⟨h1,h2,h3⟩:=hK p (by simp)
  rw[List.map_cons,Cf 44 _ (by simp),List.append_assoc,List.cons_append]at h
  unfold Do at h
  cases hk:Ct K fs (Au (Cw p)++44::(An 44 ((p2::ps).map fun p=>Au (Cw p))++125::r))with
  |none=>rw[hk]at h;cases h
  |some w=>
   obtain⟨v,z⟩:=w
   obtain⟨rfl,rfl,hp⟩:=T9 h1 h2 h3 (Dk _ (by decide)) hk
   rw[hk]at h
   simp only at h
   split at h
   ·cases h
   simp only[Aq]at h
   cases hi:Do S K fs m v.1.tag (An 44 ((p2::ps).map fun p=>Au (Cw p))++125::r)with
   |none=>rw[hi]at h;cases h
   |some w=>
    obtain⟨vs',z'⟩:=w
    rw[hi]at h
    simp only[Option.some.injEq,Prod.mk.injEq]at h
    obtain⟨rfl,rfl⟩:=h
    obtain⟨rfl,rfl,hP⟩:=Y7 m v.1.tag (p2::ps) r vs' z' (fun z hz=>hK z (by simp at hz ⊢;exact .inr hz)) (by simp) hi
    exact⟨rfl,rfl,fun z hz=>by rcases List.mem_cons.1 hz with rfl|hz;exact hp;exact hP z hz⟩
theorem Qgh{S:List Ty}(hS:∀t∈S,Ed t){m:Nat}:∀(d:Nat) (k:Kd) (v:Vl),H3 S d k v->Uq (Ak S m d k) (Jq S d k v) v:=by
 intro d
 induction d with
 |zero=>intro k v h;cases h
 |succ d ih=>
  intro k v h r u q hr he
  unfold Ak at he
  cases h with
  |@n _ _ n hs hb h=>
   rw[hs]at he;simp only at he;rw[if_pos hb]at he
   have e:Au (.mk 110 (Az n) 0 [])=Az n:=by simp[Au,Cs,Ez]
   rw[e,N7 h hr]at he
   simp only[Option.some.injEq,Prod.mk.injEq]at he
   exact⟨he.1.symm,he.2.symm,.n hs hb h⟩
  |@t _ _ s hs hb h=>
   rw[hs]at he;simp only at he;rw[if_neg (by rw[hb];decide),if_pos hb]at he
   rw[show Mj (Au (.mk 116 s 0 [])++r)=some (s,r)from Rs.2 ⟨h,by simp[Au,Cs,Ez]⟩]at he
   simp only[Option.some.injEq,Prod.mk.injEq]at he
   exact⟨he.1.symm,he.2.symm,.t hs hb h⟩
  |@f _ _ b hs hb=>
   rw[hs]at he;simp only at he;rw[if_neg (by rw[hb];decide),if_neg (by rw[hb];decide),if_pos hb]at he
   rw[show Ni (Au (.mk 102 (if b then Ei else Ma) 0 [])++r)=some (b,r)from P5.2 (by cases b<;>simp[Au,Cs,Ez])]at he
   simp only[Option.some.injEq,Prod.mk.injEq]at he
   exact⟨he.1.symm,he.2.symm,.f hs hb⟩
  |@lst _ _ t ks hs h=>
   rw[hs]at he;simp only at he;rw[if_pos Ad]at he
   unfold Kl at he
   rw[E4,List.cons_append,Aq]at he
   simp only at he
   cases ks with
   |nil=>
    simp only[List.map_nil,An,List.nil_append,List.singleton_append,Aq,Option.some.injEq,Prod.mk.injEq]at he
    exact⟨he.1.symm,he.2.symm,.lst hs (by simp) (by simp)⟩
   |cons x ks=>
    obtain⟨c,z,e1,e2⟩:=Rt (h x (by simp))
    have e3:Ae 93 (An 44 ((x::ks).map Au)++[93]++r)=none:=by
     cases ks with
     |nil=>simp only[List.map_cons,List.map_nil,An,e1,List.cons_append,Bl e2]
     |cons y ks=>rw[List.map_cons,Cf 44 _ (by simp),e1];simp only[List.cons_append,Bl e2]
    rw[e3]at he
    simp only at he
    rw[List.append_assoc,List.singleton_append]at he
    cases hi:A0 (Ak S m d k.part) m (An 44 ((x::ks).map Au)++93::r)with
    |none=>rw[hi]at he;cases he
    |some w=>
     obtain⟨us,z'⟩:=w
     obtain⟨rfl,rfl,hP⟩:=V6 (P:=Jq S d k.part) m (x::ks) r us z' (fun y hy=>ih _ _ (h y hy)) (by simp) hi
     rw[hi]at he
     simp only at he
     split at he
     ·rename_i hl
      simp only[Option.some.injEq,Prod.mk.injEq]at he
      exact⟨he.1.symm,he.2.symm,.lst hs hl hP⟩
     cases he
  |@non _ _ t hs=>
   rw[hs]at he
   have e:Au (.mk 63 [] 0 [])=[45]:=by simp[Au,Cs,Ez,An]
   rw[e]at he
   simp only at he
   rw[if_neg (by decide)]at he
   unfold Vu at he
   rw[List.singleton_append,Aq]at he
   simp only[Option.some.injEq,Prod.mk.injEq]at he
   exact⟨he.1.symm,he.2.symm,.non hs⟩
  |@som _ _ t x hs h=>
   rw[hs]at he;simp only at he;rw[if_neg (by decide)]at he
   have e:Au (.mk 63 [] 0 [x])=43::Au x:=by simp[Au,Cs,Ez,An]
   unfold Vu at he
   rw[e,List.cons_append,Bl (by decide),Aq]at he
   simp only at he
   cases hk:Ak S m d k.part (Au x++r)with
   |none=>rw[hk]at he;cases he
   |some y=>
    obtain⟨v,z⟩:=y
    obtain⟨rfl,rfl,hp⟩:=ih _ _ h _ _ _ hr hk
    rw[hk]at he
    simp only[Option.some.injEq,Prod.mk.injEq]at he
    exact⟨he.1.symm,he.2.symm,.som hs hp⟩
  |@enm _ _ t f hs hb ht h9 hf=>
   rw[hs]at he;simp only at he;rw[if_neg (by rw[hb];decide),if_neg (by rw[hb];decide),if_neg (by rw[hb];decide),ht]at he
   simp only at he
   unfold Ha at he
   have h200:f.tag<=200:=((hS t (Bq ht).1).2.2.1.1 f (Bz hf).2).2.1
   have e:Au (.mk 69 [] f.tag [])=35::Az f.tag:=by simp[Au,Cs,Ez]
   rw[if_pos h9,e,List.cons_append,Aq]at he
   simp only at he
   rw[Qo h200 hf hr]at he
   simp only[Option.some.injEq,Prod.mk.injEq]at he
   exact⟨he.1.symm,he.2.symm,.enm hs hb ht h9 hf⟩
  |@uni _ _ t f x hs hb ht h5 hf h=>
   rw[hs]at he;simp only at he;rw[if_neg (by rw[hb];decide),if_neg (by rw[hb];decide),if_neg (by rw[hb];decide),ht]at he
   simp only at he
   unfold Ha at he
   have h9:t.sort≠69:=by rw[h5];decide
   rw[if_neg h9,if_pos h5,Mb,List.cons_append,Aq]at he
   simp only at he
   rw[List.append_assoc,List.singleton_append]at he
   cases hk:Ct (Ak S m d) t.fields (Au (Cw (f,x))++62::r)with
   |none=>rw[hk]at he;cases he
   |some y=>
    obtain⟨v,z⟩:=y
    obtain⟨rfl,rfl,hp⟩:=T9 (p:=(f,x)) (Js hS ht h9 (Bz hf).2).2 hf (ih _ _ h) (Dk (c:=62) _ (by decide)) hk
    rw[hk]at he
    simp only[Aq,Option.some.injEq,Prod.mk.injEq]at he
    exact⟨he.1.symm,he.2.symm,.uni hs hb ht h5 hf hp⟩
  |@rcd _ _ t fs hs hb ht h2 hf h hn hp=>
   rw[hs]at he;simp only at he;rw[if_neg (by rw[hb];decide),if_neg (by rw[hb];decide),if_neg (by rw[hb];decide),ht]at he
   simp only at he
   unfold Ha at he
   have h9:t.sort≠69:=by rw[h2];decide
   rw[if_neg h9,if_neg (by rw[h2];decide),Jk,List.cons_append,Aq]at he
   simp only at he
   cases fs with
   |nil=>
    simp only[List.map_nil,An,List.nil_append,List.singleton_append,Aq,Option.some.injEq,Prod.mk.injEq]at he
    exact⟨he.1.symm,he.2.symm,.rcd hs hb ht h2 hf (by simp) hn hp⟩
   |cons p fs=>
    have e3:Ae 125 (An 44 ((p::fs).map fun p=>Au (Cw p))++[125]++r)=none:=by
     have e1:Au (Cw p)=Az p.1.tag++61::Au p.2:=by simp[Cw,Au,Cs,Ez,An]
     cases hd:Az p.1.tag with
     |nil=>exact absurd hd (Ph _)
     |cons c q=>
      have hc:=Mq p.1.tag
      rw[hd,List.all_cons,Bool.and_eq_true,Di]at hc
      have e2:c≠125:=by rintro rfl;revert hc;simp
      rw[hd]at e1
      cases fs with
      |nil=>simp only[List.map_cons,List.map_nil,An,e1,List.cons_append,Bl e2]
      |cons y fs=>rw[List.map_cons,Cf 44 _ (by simp),e1];simp only[List.cons_append,Bl e2]
    rw[e3]at he
    simp only at he
    rw[List.append_assoc,List.singleton_append]at he
    cases hi:Do S (Ak S m d) t.fields 201 0 (An 44 ((p::fs).map fun p=>Au (Cw p))++125::r)with
    |none=>rw[hi]at he;cases he
    |some w=>
     obtain⟨us,z'⟩:=w
     obtain⟨rfl,rfl,hP⟩:=Y7 (P:=fun p=>Jq S d p.1.kind p.2) 201 0 (p::fs) r us z' (fun q hq=>⟨(Js hS ht h9 (Bz (hf q hq)).2).2,hf q hq,ih _ _ (h q hq)⟩) (by simp) hi
     rw[hi]at he
     simp only[Option.some.injEq,Prod.mk.injEq]at he
     exact⟨he.1.symm,he.2.symm,.rcd hs hb ht h2 hf hP hn hp⟩
theorem Jq.un{S:List Ty}:∀{d:Nat} {k:Kd} {v:Vl},Jq S d k v->H3 S d k v:=by
 intro d
 induction d with
 |zero=>intro k v h;cases h
 |succ d ih=>
  intro k v h
  cases h with
  |n hs hb h=>exact .n hs hb h
  |t hs hb h=>exact .t hs hb h
  |f hs hb=>exact .f hs hb
  |lst hs hl h=>exact .lst hs fun x hx=>ih (h x hx)
  |non hs=>exact .non hs
  |som hs h=>exact .som hs (ih h)
  |enm hs hb ht h9 hf=>exact .enm hs hb ht h9 hf
  |uni hs hb ht h5 hf h=>exact .uni hs hb ht h5 hf (ih h)
  |rcd hs hb ht h2 hf h hn hp=>exact .rcd hs hb ht h2 hf (fun p hq=>ih (h p hq)) hn hp
theorem Qgd{S:List Ty}(hS:∀t∈S,Ed t):∀(n d:Nat) (k:Kd) (v:Vl),H3 S d k v->Au v=C4 S n k->Jq S d k v:=by
 intro n
 induction n with
 |zero=>
  intro d k v h he
  obtain⟨c,t,e,_⟩:=Rt h
  rw[e]at he;cases he
 |succ n ih=>
  intro d k v h he
  unfold C4 at he
  cases h with
  |n hs hb h=>exact .n hs hb h
  |t hs hb h=>exact .t hs hb h
  |f hs hb=>exact .f hs hb
  |non hs=>exact .non hs
  |enm hs hb ht h9 hf=>exact .enm hs hb ht h9 hf
  |@lst _ _ r ks hs h=>
   rw[hs,List.head?_cons,if_pos rfl,E4]at he
   cases ks with
   |nil=>exact .lst hs (by simp) (by simp)
   |cons x ks=>
    obtain⟨c,t,e,hc⟩:=Rt (h x (by simp))
    exfalso
    cases ks with
    |nil=>simp[An,e]at he
    |cons y ks=>rw[List.map_cons,Cf 44 _ (by simp),e]at he;simp at he
  |@som _ _ r x hs h=>
   rw[hs,List.head?_cons,if_neg (by decide),if_pos rfl]at he
   simp[Au,Cs,Ez,An]at he
  |@uni d _ t f x hs hb ht h5 hf h=>
   rw[hs,List.head?_nil,if_neg (by decide),if_neg (by decide),if_neg (by rw[hb];decide),if_neg (by rw[hb];decide),if_neg (by rw[hb];decide),ht]at he
   simp only at he
   rw[if_neg (by rw[h5];decide)]at he
   have hm:=(Bz hf).2
   have htF:=(hS t (Bq ht).1).2.2.1
   cases hfs:t.fields with
   |nil=>rw[hfs]at hm;cases hm
   |cons g gs=>
    rw[hfs]at he
    simp only at he
    have hg:g∈t.fields:=by rw[hfs];simp
    rw[if_neg (by rw[h5];decide),Mb]at he
    have e2:Au (Cw (f,x))=Az f.tag++61::Au x:=by simp[Cw,Au,Cs,Ez,An]
    rw[e2,List.cons.injEq]at he
    have he:=he.2
    have e3:Az f.tag++61::(Au x++[62])=Az g.tag++61::(C4 S n g.kind++[62]):=by rw[<-he];simp
    have n1:=N7 (n:=f.tag) (r:=61::(Au x++[62])) (by have:=(htF.1 f hm).2.1;omega) (Dk _ (by decide))
    have n2:=N7 (n:=g.tag) (r:=61::(C4 S n g.kind++[62])) (by have:=(htF.1 g hg).2.1;omega) (Dk _ (by decide))
    rw[e3,n2]at n1
    simp only[Option.some.injEq,Prod.mk.injEq,List.cons.injEq,true_and]at n1
    have e4:=Dl htF hg
    rw[n1.1,hf]at e4
    simp only[Option.some.injEq]at e4
    subst e4
    exact .uni hs hb ht h5 hf (ih _ _ _ h (List.append_cancel_right n1.2).symm)
  |@rcd _ _ t fs hs hb ht h2 hf h hn hp=>
   rw[hs,List.head?_nil,if_neg (by decide),if_neg (by decide),if_neg (by rw[hb];decide),if_neg (by rw[hb];decide),if_neg (by rw[hb];decide),ht]at he
   simp only at he
   rw[if_pos h2,Jk]at he
   cases fs with
   |nil=>exact .rcd hs hb ht h2 hf (by simp) hn hp
   |cons p fs=>
    exfalso
    have e1:Au (Cw p)=Az p.1.tag++61::Au p.2:=by simp[Cw,Au,Cs,Ez,An]
    cases fs with
    |nil=>have:=congrArg List.length he;simp[An,e1]at this;omega
    |cons y ks=>rw[List.map_cons,Cf 44 _ (by simp),e1]at he;have:=congrArg List.length he;simp at this;omega
theorem Qi1{S:List Ty}(hS:∀t∈S,Ed t){st:UInt8}{f:Fd}(hf:Q5 st f)(h9:st≠69){d:Nat}{v:Vl}(h:H3 S d f.kind v)(he:Au v=Kn S f):Jq S d f.kind v:=by
 unfold Kn at he
 split at he
 ·exact Qgd hS 10 d f.kind v h he
 rename_i hg
 obtain⟨_,hsg,hst⟩:=(hf.2.2.2.2 h9).2 hg
 cases h with
 |n hs hb h=>exact .n hs hb h
 |t hs hb h=>exact .t hs hb h
 |f hs hb=>exact .f hs hb
 |non hs=>exact .non hs
 |enm hs hb ht h9 hf=>exact .enm hs hb ht h9 hf
 |lst hs h=>rw[hsg]at hs;cases hs
 |som hs h=>rw[hsg]at hs;cases hs
 |uni hs hb ht h5 hf h=>rw[hb]at hst;simp[Bw]at hst
 |rcd hs hb ht h2 hf h hn hp=>rw[hb]at hst;simp[Bw]at hst
def Xq(K:List UInt8->Option (Vl × List UInt8))(m:Nat)(s:List UInt8):Option (Vl × List UInt8):=match Ae 91 s with
 |none=>none
 |some r=>match Ae 93 r with
  |some q=>some (.mk 91 [] 0 [],q)
  |none=>match A0 K m r with|some (vs,q)=>some (.mk 91 [] 0 vs,q)|none=>none
def Cp(S:List Ty):Nat->Kd->List UInt8->Option (Vl × List UInt8)
 |0,_,_=>none
 |d+1,k,s=>match k.signs with
  |c::_=>if c=91 then Xq (Cp S d k.part) 1000 s
   else if k.part.signs.head?=some 63 then none
   else(match Dt Fv s with
    |some q=>some (.mk 63 [] 0 [],q)
    |none=>match Cp S d k.part s with|some (v,q)=>some (.mk 63 [] 0 [v],q)|none=>none)
  |[]=>if k.base=[64]then(match B0 S k.name with
    |none=>none
    |some t=>Jn S (Cp S d) t s)
   else Ak S 1000 1 k s
def Si(o:Option (List Ty × Kd))(x:List UInt8):Option (List UInt8):=if 600<x.length then none else o.bind fun y=>(Cp y.1 12 y.2 x).bind fun z=>if z.2=[]/\(Pt y.1 y.2 (Au z.1)).isSome=true then some (Au z.1)else none
theorem Sd{K K':List UInt8->Option (Vl × List UInt8)}(h:∀s y,K s=some y->K' s=some y):∀(m:Nat) (s:List UInt8) (y),A0 K m s=some y->A0 K' m s=some y
 |0,_,_,e=>by cases e
 |m+1,s,y,e=>by
  unfold A0 at e ⊢
  cases hk:K s with
  |none=>rw[hk]at e;cases e
  |some w=>
   obtain⟨v,r⟩:=w
   rw[hk]at e
   rw[h _ _ hk]
   simp only at e ⊢
   cases hb:Ae 44 r with
   |none=>rw[hb]at e;exact e
   |some q=>
    rw[hb]at e
    simp only at e ⊢
    cases hi:A0 K m q with
    |none=>rw[hi]at e;cases e
    |some w=>rw[Sd h m q _ hi];rw[hi]at e;exact e
theorem Tg{K K':Kd->List UInt8->Option (Vl × List UInt8)}(h:∀k s y,K k s=some y->K' k s=some y){fs:List Fd}{s:List UInt8}{y}(e:Cu K fs s=some y):Cu K' fs s=some y:=by
 unfold Cu at e ⊢
 cases hf:Cx fs (s.takeWhile Ao)with
 |none=>rw[hf]at e;cases e
 |some f=>
  rw[hf]at e
  simp only at e ⊢
  cases hb:Ae 58 (s.dropWhile Ao)with
  |none=>rw[hb]at e;cases e
  |some q=>
   rw[hb]at e
   simp only at e ⊢
   cases hk:K f.kind q with
   |none=>rw[hk]at e;cases e
   |some w=>rw[h _ _ _ hk];rw[hk]at e;exact e
theorem Ss{K K':Kd->List UInt8->Option (Vl × List UInt8)}(h:∀k s y,K k s=some y->K' k s=some y){fs:List Fd}:∀(m:Nat) (ps:List (Fd × Vl)) (s:List UInt8) (y),C9 K fs m ps s=some y->C9 K' fs m ps s=some y
 |0,_,_,_,e=>by cases e
 |m+1,ps,s,y,e=>by
  unfold C9 at e ⊢
  cases hk:Cu K fs s with
  |none=>rw[hk]at e;cases e
  |some w=>
   obtain⟨p,r⟩:=w
   rw[hk]at e
   rw[Tg h hk]
   simp only at e ⊢
   split at e
   ·cases e
   rename_i hni
   rw[if_neg hni]
   cases hb:Ae 44 r with
   |none=>rw[hb]at e;exact e
   |some q=>
    rw[hb]at e
    exact Ss h m _ q y e
theorem Qdg{S:List Ty}{K K':Kd->List UInt8->Option (Vl × List UInt8)}(h:∀k s y,K k s=some y->K' k s=some y){t:Ty}{s:List UInt8}{y}(e:Jn S K t s=some y):Jn S K' t s=some y:=by
 unfold Jn at e ⊢
 by_cases h9:t.sort=69
 ·rw[if_pos h9]at e ⊢;exact e
 rw[if_neg h9]at e ⊢
 cases hb:Ae 123 s with
 |none=>rw[hb]at e;cases e
 |some r=>
  rw[hb]at e
  simp only at e ⊢
  by_cases h5:t.sort=85
  ·rw[if_pos h5]at e ⊢
   cases hk:Cu K t.fields r with
   |none=>rw[hk]at e;cases e
   |some w=>rw[Tg h hk];rw[hk]at e;exact e
  rw[if_neg h5]at e ⊢
  cases hb2:Ae 125 r with
  |some q=>rw[hb2]at e;exact e
  |none=>
   rw[hb2]at e
   simp only at e ⊢
   cases hk:C9 K t.fields 1000 [] r with
   |none=>rw[hk]at e;cases e
   |some w=>rw[Ss h _ _ _ _ hk];rw[hk]at e;exact e
theorem Qf9{S:List Ty}:∀(d:Nat) (k:Kd) (s:List UInt8) (y),B2 S d k s=some y->Cp S d k s=some y:=by
 intro d
 induction d with
 |zero=>intro k s y e;cases e
 |succ d ih=>
  intro k s y e
  unfold B2 at e
  unfold Cp
  cases hs:k.signs with
  |cons c t=>
   rw[hs]at e
   simp only at e ⊢
   by_cases hc:c=91
   ·rw[if_pos hc]at e ⊢
    unfold Kl at e
    unfold Xq
    cases hb:Ae 91 s with
    |none=>rw[hb]at e;cases e
    |some r=>
     rw[hb]at e
     simp only at e ⊢
     cases hb2:Ae 93 r with
     |some q=>rw[hb2]at e;exact e
     |none=>
      rw[hb2]at e
      simp only at e ⊢
      cases hi:A0 (B2 S d k.part) 1000 r with
      |none=>rw[hi]at e;cases e
      |some w=>
       obtain⟨vs,q⟩:=w
       rw[Sd (fun s y=>ih k.part s y) _ _ _ hi]
       rw[hi]at e
       simp only at e ⊢
       split at e
       ·exact e
       cases e
   rw[if_neg hc]at e ⊢
   split at e
   ·cases e
   rename_i h63
   rw[if_neg h63]
   cases hw:Dt Fv s with
   |some q=>rw[hw]at e;exact e
   |none=>
    rw[hw]at e
    simp only at e ⊢
    cases hq:B2 S d k.part s with
    |none=>rw[hq]at e;cases e
    |some w=>rw[ih _ _ _ hq];rw[hq]at e;exact e
  |nil=>
   rw[hs]at e
   simp only at e ⊢
   by_cases hb:k.base=[64]
   ·rw[if_pos hb]at e ⊢
    cases ht:B0 S k.name with
    |none=>rw[ht]at e;cases e
    |some t=>
     rw[ht]at e
     exact Qdg (fun k s y=>ih k s y) e
   rw[if_neg hb]at e ⊢;exact e
theorem T2{KR KG:List UInt8->Option (Vl × List UInt8)}{P Q:Vl->Prop}(h:∀s v r,KR s=some (v,r)->P v/\(Q v->KG s=some (v,r))):∀(m:Nat) (s:List UInt8) (vs:List Vl) (r:List UInt8),
  A0 KR m s=some (vs,r)->(∀x∈vs,P x)/\((∀x∈vs,Q x)->A0 KG m s=some (vs,r))
 |0,_,_,_,e=>by cases e
 |m+1,s,vs,r,e=>by
  unfold A0 at e
  cases hk:KR s with
  |none=>rw[hk]at e;cases e
  |some w=>
   obtain⟨v,z⟩:=w
   obtain⟨hp,hq⟩:=h _ _ _ hk
   rw[hk]at e
   simp only at e
   cases hb:Ae 44 z with
   |some q=>
    rw[hb]at e
    simp only at e
    cases hi:A0 KR m q with
    |none=>rw[hi]at e;cases e
    |some w=>
     obtain⟨us,z'⟩:=w
     rw[hi]at e
     simp only[Option.some.injEq,Prod.mk.injEq]at e
     obtain⟨rfl,rfl⟩:=e
     obtain⟨i1,i2⟩:=T2 h m q us z' hi
     refine⟨fun x hx=>by rcases List.mem_cons.1 hx with rfl|hx;exact hp;exact i1 x hx,fun hQ=>?_⟩
     unfold A0
     rw[hq (hQ v (by simp))]
     simp only[hb]
     rw[i2 fun x hx=>hQ x (by simp[hx])]
   |none=>
    rw[hb]at e
    simp only at e
    cases hb2:Ae 93 z with
    |none=>rw[hb2]at e;cases e
    |some q=>
     rw[hb2]at e
     simp only[Option.some.injEq,Prod.mk.injEq]at e
     obtain⟨rfl,rfl⟩:=e
     refine⟨by simpa using hp,fun hQ=>?_⟩
     unfold A0
     rw[hq (hQ v (by simp))]
     simp only[hb,hb2]
theorem Xh{KR KG:Kd->List UInt8->Option (Vl × List UInt8)}{P Q:Fd->Vl->Prop}{fs:List Fd}(h:∀f∈fs,∀s v r,KR f.kind s=some (v,r)->P f v/\(Q f v->KG f.kind s=some (v,r))){s r:List UInt8}{p:Fd × Vl}(e:Cu KR fs s=some (p,r)):
  p.1∈fs/\P p.1 p.2/\(Q p.1 p.2->Cu KG fs s=some (p,r)):=by
 unfold Cu at e
 cases hf:Cx fs (s.takeWhile Ao)with
 |none=>rw[hf]at e;cases e
 |some f=>
  rw[hf]at e
  simp only at e
  cases hb:Ae 58 (s.dropWhile Ao)with
  |none=>rw[hb]at e;cases e
  |some q=>
   rw[hb]at e
   simp only at e
   cases hk:KR f.kind q with
   |none=>rw[hk]at e;cases e
   |some w=>
    obtain⟨v,z⟩:=w
    obtain⟨hp,hq⟩:=h f (Dd hf).1 _ _ _ hk
    rw[hk]at e
    simp only[Option.some.injEq,Prod.mk.injEq]at e
    obtain⟨rfl,rfl⟩:=e
    refine⟨(Dd hf).1,hp,fun hQ=>?_⟩
    unfold Cu
    simp only[hf,hb,hq hQ]
theorem Vc{KR KG:Kd->List UInt8->Option (Vl × List UInt8)}{P Q:Fd->Vl->Prop}{fs:List Fd}(h:∀f∈fs,∀s v r,KR f.kind s=some (v,r)->P f v/\(Q f v->KG f.kind s=some (v,r))):∀(m:Nat) (ps:List (Fd × Vl)) (s:List UInt8) (qs:List (Fd × Vl)) (r:List UInt8),
  C9 KR fs m ps s=some (qs,r)->(∀p∈ps,p.1∈fs/\P p.1 p.2)->(ps.map (·.1.tag)).Nodup->(∀p∈qs,p.1∈fs/\P p.1 p.2)/\(qs.map (·.1.tag)).Nodup/\(∀p∈ps,p∈qs)/\((∀p∈qs,Q p.1 p.2)->C9 KG fs m ps s=some (qs,r))
 |0,_,_,_,_,e,_,_=>by cases e
 |m+1,ps,s,qs,r,e,hps,hnd=>by
  unfold C9 at e
  cases hk:Cu KR fs s with
  |none=>rw[hk]at e;cases e
  |some w=>
   obtain⟨p,z⟩:=w
   obtain⟨h1,h2,h3⟩:=Xh h hk
   rw[hk]at e
   simp only at e
   split at e
   ·cases e
   rename_i hni
   have hps':∀q∈ps++[p],q.1∈fs/\P q.1 q.2:=fun q hq=>by
    rcases List.mem_append.1 hq with hq|hq
    ·exact hps q hq
    rw[List.mem_singleton]at hq;subst hq;exact⟨h1,h2⟩
   have hnd':((ps++[p]).map (·.1.tag)).Nodup:=by
    rw[List.map_append,List.nodup_append]
    exact⟨hnd,by simp,fun a ha b hb e=>by simp at hb;subst hb e;exact hni ha⟩
   cases hb:Ae 44 z with
   |some q=>
    rw[hb]at e
    simp only at e
    obtain⟨i1,i2,i3,i4⟩:=Vc h m _ _ _ _ e hps' hnd'
    refine⟨i1,i2,fun x hx=>i3 x (by simp[hx]),fun hQ=>?_⟩
    unfold C9
    rw[h3 (hQ p (i3 p (by simp)))]
    simp only[if_neg hni,hb]
    exact i4 hQ
   |none=>
    rw[hb]at e
    simp only at e
    cases hb2:Ae 125 z with
    |none=>rw[hb2]at e;cases e
    |some q=>
     rw[hb2]at e
     simp only[Option.some.injEq,Prod.mk.injEq]at e
     obtain⟨rfl,rfl⟩:=e
     refine⟨hps',hnd',fun x hx=>by simp[hx],fun hQ=>?_⟩
     unfold C9
     rw[h3 (hQ p (by simp))]
     simp only[if_neg hni,hb,hb2]
theorem Qho{S:List Ty}{ps:List (Fd × Vl)}{p:Fd × Vl}(h:p∈ps)(hn:Au p.2≠Kn S p.1):p∈Fg S ps:=by
 revert h
 refine Pd (P:=fun ps=>p∈ps->p∈Fg S ps) (fun h=>by cases h) (fun ps q ih h=>?_) ps
 rw[Gx]
 unfold Qu
 split
 ·rename_i he
  rcases List.mem_append.1 h with h|h
  ·exact ih h
  rw[List.mem_singleton]at h;subst h;exact absurd he hn
 rw[(Gu q _).mem_iff]
 rcases List.mem_append.1 h with h|h
 ·exact List.mem_cons_of_mem _ (ih h)
 rw[List.mem_singleton]at h;subst h;exact List.mem_cons_self
theorem Jq.fd{S:List Ty}{d:Nat}{k:Kd}{ks:List Vl}{t:Ty}(h:Jq S (d+1) k (.mk 82 [] 0 ks))(ht:B0 S k.name=some t){p:Fd × Vl}(hp:Cw p∈ks)(hf:Bp t.fields p.1.tag=some p.1):Jq S d p.1.kind p.2:=by
 generalize hv:Vl.mk 82 [] 0 ks=v at h
 cases h with
 |@rcd _ _ t' fs hs hb ht' h2 hf' h hn hp'=>
  simp only[Vl.mk.injEq,true_and]at hv
  subst hv
  rw[ht]at ht'
  simp only[Option.some.injEq]at ht'
  subst ht'
  obtain⟨q,hq,e⟩:=List.mem_map.1 hp
  simp only[Cw,Vl.mk.injEq,List.cons.injEq,and_true,true_and]at e
  have h1:=hf' q hq
  rw[e.1,hf]at h1
  simp only[Option.some.injEq]at h1
  have:=h q hq
  rw[<-h1,e.2]at this
  exact this
 |_=>simp at hv
theorem J9{S:List Ty}(hS:∀t∈S,Ed t):∀(d:Nat) (k:Kd),C0 k->∀s,PkB (H3 S d k) (Cp S d k s) s (if k.signs.head?=some 63 then 0 else 1):=by
 intro d
 induction d with
 |zero=>intro k hk s v r h;cases h
 |succ d ih=>
  intro k hk s v r h
  have ihf:∀{t:Ty},B0 S k.name=some t->t.sort≠69->∀f∈t.fields,∀s,PkB (H3 S d f.kind) (Cp S d f.kind s) s 0:=fun ht h9 f hf s v r h=>by
   obtain⟨h1,h2,h3⟩:=ih f.kind (Js hS ht h9 hf).1 s v r h
   exact⟨h1,h2,by omega⟩
  unfold Cp at h
  cases hs:k.signs with
  |cons c t=>
   rw[hs]at h
   simp only at h
   have hkp:=(Gh hk).1
   by_cases hc:c=91
   ·subst hc
    rw[if_pos rfl]at h
    have hK:∀s,PkB (H3 S d k.part) (Cp S d k.part s) s 0:=fun s v r h=>by
     obtain⟨h1,h2,h3⟩:=ih k.part hkp s v r h
     exact⟨h1,h2,by omega⟩
    rw[List.head?_cons,if_neg (by decide)]
    unfold Xq at h
    cases hb:Ae 91 s with
    |none=>rw[hb]at h;cases h
    |some q=>
     rw[hb]at h
     simp only at h
     have e1:=Ax.1 hb
     cases hb2:Ae 93 q with
     |some z=>
      rw[hb2]at h
      simp only[Option.some.injEq,Prod.mk.injEq]at h
      obtain⟨rfl,rfl⟩:=h
      have e2:=Ax.1 hb2
      rw[e1,e2]
      exact⟨.lst hs (by simp),by simp;omega,by simp[Au,Cs,Ez,An];omega⟩
     |none=>
      rw[hb2]at h
      simp only at h
      cases hi:A0 (Cp S d k.part) 1000 q with
      |none=>rw[hi]at h;cases h
      |some y=>
       obtain⟨vs,z⟩:=y
       rw[hi]at h
       simp only at h
       simp only[Option.some.injEq,Prod.mk.injEq]at h
       obtain⟨rfl,rfl⟩:=h
       obtain⟨i1,i2,i3⟩:=Sb hK _ _ _ _ hi
       rw[e1]
       refine⟨.lst hs i1,by simp;omega,?_⟩
       rw[E4]
       simp only[List.length_cons,List.length_append,B1,List.length_nil]
       omega
   have h63:=(Kb hk hs).resolve_left hc
   subst h63
   rw[if_neg (by decide)]at h
   rw[List.head?_cons,if_pos rfl]
   split at h
   ·cases h
   rename_i hp
   cases hw:Dt Fv s with
   |some q=>
    rw[hw]at h
    simp only[Option.some.injEq,Prod.mk.injEq]at h
    obtain⟨rfl,rfl⟩:=h
    rw[Du.1 hw]
    exact⟨.non hs,by simp[Fv];omega,by simp[Au,Cs,Ez,Fv];omega⟩
   |none=>
    rw[hw]at h
    simp only at h
    cases hq:Cp S d k.part s with
    |none=>rw[hq]at h;cases h
    |some y=>
     obtain⟨x,q⟩:=y
     rw[hq]at h
     simp only[Option.some.injEq,Prod.mk.injEq]at h
     obtain⟨rfl,rfl⟩:=h
     obtain⟨h1,h2,h3⟩:=ih k.part hkp s x q hq
     rw[if_neg hp]at h3
     exact⟨.som hs h1,h2,by simp[Au,Cs,Ez,An];omega⟩
  |nil=>
   rw[hs]at h
   simp only at h
   rw[List.head?_nil,if_neg (by simp)]
   by_cases hb:k.base=[64]
   ·rw[if_pos hb]at h
    cases ht:B0 S k.name with
    |none=>rw[ht]at h;cases h
    |some t=>
     rw[ht]at h
     simp only at h
     have htO:=hS t (Bq ht).1
     have htF:=htO.2.2.1
     unfold Jn at h
     by_cases h9:t.sort=69
     ·rw[if_pos h9]at h
      cases hb1:Ae 34 s with
      |none=>rw[hb1]at h;cases h
      |some q=>
       rw[hb1]at h
       simp only at h
       cases hn:Cx t.fields (q.takeWhile Ao)with
       |none=>rw[hn]at h;cases h
       |some f=>
        rw[hn]at h
        simp only at h
        cases hb2:Ae 34 (q.dropWhile Ao)with
        |none=>rw[hb2]at h;cases h
        |some z=>
         rw[hb2]at h
         simp only[Option.some.injEq,Prod.mk.injEq]at h
         obtain⟨rfl,rfl⟩:=h
         have hm:=(Dd hn).1
         have h4:=Mi Ao q
         rw[Ax.1 hb2,List.length_cons]at h4
         have hd:=Df 2 f.tag (by have:=(htF.1 f hm).2.1;have e:10 ^ (2+1)=1000:=rfl;omega)
         rw[Ax.1 hb1]
         exact⟨.enm hs hb ht h9 (Dl htF hm),by simp;omega,by simp[Au,Cs,Ez];omega⟩
     rw[if_neg h9]at h
     cases hb1:Ae 123 s with
     |none=>rw[hb1]at h;cases h
     |some q=>
      rw[hb1]at h
      simp only at h
      have e1:=Ax.1 hb1
      by_cases h5:t.sort=85
      ·rw[if_pos h5]at h
       cases hf:Cu (Cp S d) t.fields q with
       |none=>rw[hf]at h;cases h
       |some y=>
        obtain⟨p,z⟩:=y
        rw[hf]at h
        simp only at h
        obtain⟨i1,i2,i3,i4⟩:=Qe (ihf ht h9) hf
        cases hb2:Ae 125 z with
        |none=>rw[hb2]at h;cases h
        |some z'=>
         rw[hb2]at h
         simp only[Option.some.injEq,Prod.mk.injEq]at h
         obtain⟨rfl,rfl⟩:=h
         rw[Ax.1 hb2,List.length_cons]at i3 i4
         have hd:=Df 2 p.1.tag (by have:=(htF.1 p.1 i1).2.1;have e:10 ^ (2+1)=1000:=rfl;omega)
         rw[e1]
         exact⟨.uni hs hb ht h5 (Dl htF i1) i2,by simp;omega,by rw[Mb,List.length_cons,List.length_append,Kt];simp;omega⟩
      rw[if_neg h5]at h
      have h2:t.sort=82:=by
       have:=htO.1
       unfold Dj at this
       rcases this with h|h|h
       ·exact h
       ·exact absurd h h5
       exact absurd h h9
      cases hb2:Ae 125 q with
      |some z=>
       rw[hb2]at h
       simp only[Option.some.injEq,Prod.mk.injEq]at h
       obtain⟨rfl,rfl⟩:=h
       rw[e1,Ax.1 hb2]
       exact⟨.rcd (fs:=[]) hs hb ht h2 (by simp) (by simp) (by simp) List.Pairwise.nil,by simp;omega,by simp[Au,Cs,Ez,An];omega⟩
      |none=>
       rw[hb2]at h
       simp only at h
       cases hi:C9 (Cp S d) t.fields 1000 [] q with
       |none=>rw[hi]at h;cases h
       |some y=>
        obtain⟨ps,z⟩:=y
        rw[hi]at h
        simp only[Option.some.injEq,Prod.mk.injEq]at h
        obtain⟨rfl,rfl⟩:=h
        obtain⟨i1,i2,i3,i4⟩:=R9 (fun f hf=>(htF.1 f hf).2.1) (ihf ht h9) _ _ _ _ _ hi (by simp) (by simp)
        have hal:=Zc S ps
        rw[e1]
        refine⟨.rcd hs hb ht h2 (fun p hp=>Dl htF (i1 p (En p hp).1).1) (fun p hp=>(i1 p (En p hp).1).2) (fun p hp=>(En p hp).2) (Nz i2),by simp;omega,?_⟩
        show (Au (.mk 82 [] 0 ((Fg S ps).map Cw))).length+_+1<=_
        rw[Jk]
        simp only[List.length_cons,List.length_append,B1,List.length_nil]
        simp[Cq]at i4
        simp[Cq]at hal ⊢
        omega
   rw[if_neg hb]at h
   obtain⟨h1,h2⟩:=E9 hS 1000 1 k s v r hk h
   have hp:H3 S (d+1) k v:=Jq.un ((J3 S _ _ _ h1 (d+1)).2 (by have:=(J3 S _ _ _ h1 1).1 h1;omega))
   obtain⟨c,t,e,_⟩:=Ms h1
   rw[h2]
   refine⟨hp,by rw[e];simp;omega,?_⟩
   rw[e];simp;omega
end
end Go.Proofs.YtkigmebejmmikaaGreatDoor
