/- Texts joined. Conditions: as each theorem names them. -/
import Derived.Deep.DeepCutAuto
import Derived.Laws.BitsAllLaws
import Derived.Laws.BitsLemmas
import Derived.Test.YtkigmebejmmikaaGreatDoorV20
import Derived.Test.YtkigmebejmmikaaGreatDoorV21
set_option maxRecDepth 100000
set_option maxHeartbeats 32000000
set_option linter.unusedVariables false
set_option linter.unusedSimpArgs false
namespace Go.Proofs.YtkigmebejmmikaaGreatDoor
open Go.RowKit Go.Proofs.Tryz
theorem Qke{s d x tx:List UInt8}(h:vlB (Cx s d) x Qx=some tx):Z7 (Cx s d) tx=(if 600<tx.length then none else some x)/\tx.length<=100000:=by
 cases hb:Cx s d with
 |none=>rw[hb]at h;cases h
 |some y=>
  obtain⟨S,k⟩:=y;rw[hb]at h;cases hv:Kz S k x with
  |none=>simp[vlB,hv]at h
  |some v=>
   simp only[vlB,hv,Option.bind_some]at h;obtain⟨hok,_,_,hk,_,_⟩:=Jz hb;obtain⟨hvk,hpr,hxl⟩:=(Kr hok.1.1 hk).1 hv;unfold Qx Mf at h;split at h
   ·rename_i ho;injection h with h;subst h;have hlen:=Rl hok.1.1 _ _ _ hvk;refine⟨?_,by rw[hpr]at hlen;omega⟩;unfold Z7;split
    ·rfl
    have:=Yh hok.1.1 12 k v hvk ho [] Mt;rw[List.append_nil]at this;simp only[Option.bind_some];rw[this];simp only[Option.bind_some];rw[if_pos ⟨Ac,by rw[hpr];exact hxl⟩,hpr]
   cases h
theorem Qcp{c:UInt8}:∀{a x b y:List UInt8},c∉a->c∉x->a++c::b=x++c::y->a=x/\b=y
 |[],[],b,y,_,_,h=>⟨rfl,by simpa using h⟩
 |[],u::x,b,y,_,h2,h=>by simp at h h2;exact absurd h.1 h2.1
 |u::a,[],b,y,h1,_,h=>by simp at h h1;exact absurd h.1.symm h1.1
 |u::a,v::x,b,y,h1,h2,h=>by
  simp at h h1 h2;obtain⟨e1,e2⟩:=Qcp h1.2 h2.2 h.2;exact⟨by rw[h.1,e1],e2⟩
theorem Qlu{s:List UInt8}(h:∀c∈s,Br c=true):(44:UInt8)∉s:=fun hm=>by have:=Km.1 (h _ hm);exact absurd this aJ
theorem Qkb{S:List Ty}(hS:∀t∈S,Do t):∀(d:Nat) (k:Kd) (v:Vl),Gb S d k v->(123:UInt8)∉Dj S d k v->(91:UInt8)∉Dj S d k v->(44:UInt8)∉Dj S d k v/\(Dj S d k v).length<=14:=by
 intro d;induction d with
 |zero=>intro k v h;cases h
 |succ d ih=>
  intro k v h h1 h2;cases h with
  |@n _ _ m hs hb hm=>
   have e:Dj S (d+1) k (.mk 110 (Bb m) 0 [])=Bb m:=ev;rw[e];refine⟨fun hc=>?_,?_⟩
   ·have:=Dh.1 (List.all_eq_true.1 (J5 m) _ hc);exact absurd this aJ
   have:=C0 5 m db;omega
  |@t _ _ s hs hb hx=>
   have e:Dj S (d+1) k (.mk 116 s 0 [])=39::(s++[39]):=ev;rw[e];unfold Du at hx;rw[av,decide_eq_true_eq]at hx;refine⟨fun hc=>?_,by simp;omega⟩;rw[az,af,ap]at hc;rcases hc with hc|hc|hc
   ·exact absurd hc aJ
   ·exact absurd (List.all_eq_true.1 hx.2 _ hc) aJ
   exact absurd hc aJ
  |@f _ _ b hs hb=>cases b<;>simp[Dj,Vl.what,Ay,Di,Fa,Mb,Eh]
  |@lst _ _ r ks hs hl hx=>exact absurd cd h2
  |@non _ _ r hs=>simp[Dj,Vl.what,Vl.kids,H7]
  |@som _ _ r x hs hx=>
   have e:Dj S (d+1) k (.mk 63 [] 0 [x])=Dj S d k.part x:=cd;rw[e]at h1 h2 ⊢;exact ih _ _ hx h1 h2
  |@enm _ _ t f hs hb ht h9 hf=>
   have e:Dj S (d+1) k (.mk 69 [] f.tag [])=34::(f.name++[34]):=by simp[Dj,Vl.what,Vl.tag,Dp ht hf]
   have hn:=C7.1 ((hS t (Be ht).1).2.2.1.1 f (Bi hf).2).2.2.1;rw[e];refine⟨fun hc=>?_,by simp;omega⟩;rw[az,af,ap]at hc;rcases hc with hc|hc|hc
   ·exact absurd hc aJ
   ·exact Qlu hn.2.2 hc
   exact absurd hc aJ
  |@uni _ _ t f x hs hb ht h5 hf hx=>exact absurd (by simp[Dj,Vl.what,Vl.tag,Vl.kids]) h1
  |@rcd _ _ t fs hs hb ht h2' hf hx hn hp=>exact absurd cd h1
theorem Qbh{S:List Ty}(hS:∀t∈S,Do t){d:Nat}{t:Ty}(ht:Do t){p:Fd × Vl}(hp:p.1∈t.fields)(h:Gb S d p.1.kind p.2)(h1:(123:UInt8)∉Kg S d p)(h2:(91:UInt8)∉Kg S d p):
  (44:UInt8)∉Kg S d p/\(Kg S d p).length<=18:=by
 have hn:=C7.1 (ht.2.2.1.1 p.1 hp).2.2.1;unfold Kg at h1 h2 ⊢;obtain⟨i1,i2⟩:=Qkb hS d _ _ h (fun hc=>h1 (by simp[hc])) (fun hc=>h2 (by simp[hc]));refine⟨fun hc=>?_,by simp;omega⟩;rw[af,az]at hc;rcases hc with hc|hc|hc
 ·exact Qlu hn.2.2 hc
 ·exact absurd hc aJ
 exact i1 hc
theorem Qe8{S:List Ty}(hS:∀t∈S,Do t):∀(d:Nat) (k:Kd) (v:Vl),Gb S d k v->Cp S d k v=true->∀x y,Dj S d k v=123::(x++44::y)->(44:UInt8)∉x->(44:UInt8)∉y->(123:UInt8)∉x++y->(91:UInt8)∉x++y ->
  ∃z,y=z++[125]/\x.length+z.length<=36/\∀r,Ci S d k (123::(z++44::(x++125::r)))=some (v,r):=by
 intro d;induction d with
 |zero=>intro k v h;cases h
 |succ d ih=>
  intro k v h ho x y he hx1 hy1 h123 h91;cases h with
  |@n _ _ m hs hb hm=>
   have e:Dj S (d+1) k (.mk 110 (Bb m) 0 [])=Bb m:=ev;rw[e]at he;have:=Dh.1 (List.all_eq_true.1 (J5 m) 123 (by rw[he];simp));exact absurd this aJ
  |@t _ _ s hs hb hx=>simp[Dj,Vl.what,Ay,Di,Fa]at he
  |@f _ _ b hs hb=>cases b<;>simp[Dj,Vl.what,Ay,Di,Fa,Mb,Eh]at he
  |@lst _ _ r ks hs hl hx=>simp[Dj,Vl.what,Vl.kids]at he
  |@non _ _ r hs=>simp[Dj,Vl.what,Vl.kids,H7]at he
  |@som _ _ rr u hs hx=>
   simp[Cp,Vl.what,Vl.kids]at ho;have e:Dj S (d+1) k (.mk 63 [] 0 [u])=Dj S d k.part u:=cd;rw[e]at he;obtain⟨z,e1,e2,e3⟩:=ih _ _ hx ho.2 x y he hx1 hy1 h123 h91;refine⟨z,e1,e2,fun r=>?_⟩;unfold Ci;rw[hs];simp only;have hw:Ea H7 (123::(z++44::(x++125::r)))=none:=by
    show Ea (110::[117,108,108]) _=none;unfold Ea;rw[C9 aJ]
   rw[if_neg aJ,if_neg ho.1,hw];simp only;rw[e3 r]
  |@enm _ _ t f hs hb ht h9 hf=>simp[Dj,Vl.what]at he
  |@uni _ _ t f u hs hb ht h5 hf hx=>
   exfalso
   have e:Dj S (d+1) k (.mk 85 [] f.tag [u])=123::(Kg S d (f,u)++[125]):=by simp[Dj,Vl.what,Vl.tag,Vl.kids,Mw,Dp ht hf,Cv ht hf,Kg]
   rw[e,List.cons.injEq]at he;have hm:∀c∈Kg S d (f,u),c≠44->c∈x++y:=fun c hc hn=>by
    have:c∈Kg S d (f,u)++[125]:=by simp[hc]
    rw[he.2]at this;simp[hn]at this ⊢;exact this
   obtain⟨i1,_⟩:=Qbh (p:=(f,u)) hS (hS t (Be ht).1) (Bi hf).2 hx (fun hc=>h123 (hm _ hc aJ)) (fun hc=>h91 (hm _ hc aJ));have:(44:UInt8)∈Kg S d (f,u)++[125]:=by rw[he.2];simp
   rw[af,ap]at this;exact this.elim i1 aJ
  |@rcd _ _ t fs hs hb ht h2 hf hx hn hp=>
   have htO:=hS t (Be ht).1;have ho':∀p∈fs,Cp S d p.1.kind p.2=true:=fun p hp=>by
    simp[Cp,Vl.what,Vl.kids]at ho;exact kK
   obtain⟨qs,hq,_,e⟩:=Qdi (d:=d) ht hf;rw[e,List.cons.injEq]at he;have he:=he.2;have hfl:∀p∈qs,(∀c∈Kg S d p,c∈Am 44 (qs.map (Kg S d))++[125])->(44:UInt8)∉Kg S d p/\(Kg S d p).length<=18:=fun p hpq hs=>by
    have hm:∀c∈Kg S d p,c≠44->c∈x++y:=fun c hc hn=>by
     have:=hs c hc;rw[he]at this;simp[hn]at this ⊢;exact this
    exact Qbh hS htO (Bi (hf p (hq.mem_iff.1 hpq))).2 (hx p (hq.mem_iff.1 hpq)) (fun hc=>h123 (hm _ hc aJ)) (fun hc=>h91 (hm _ hc aJ))
   have hin:(44:UInt8)∈Am 44 (qs.map (Kg S d))++[125]:=by rw[he];simp
   match qs,hq,he,hfl,hin with
   |[],_,_,_,hin=>simp[Am]at hin
   |[p],_,_,hfl,hin=>
    obtain⟨i1,_⟩:=hfl p aL fun c hc=>by simp[Am,hc]
    simp[Am,i1]at hin
   |[p,q],hq,he,hfl,_=>
    obtain⟨i1,i2⟩:=hfl p aL fun c hc=>by simp[Am,hc]
    obtain⟨j1,j2⟩:=hfl q aL fun c hc=>by simp[Am,hc]
    rw[ax,B0 44 _ aL,List.append_assoc,au]at he;obtain⟨e1,e2⟩:=Qcp i1 hx1 he;simp only[ax,List.map_nil,Am]at e2;refine⟨Kg S d q,e2.symm,by rw[<-e1];omega,fun r=>?_⟩;have:=Qdt htO h2 ((List.Perm.swap p q []).trans hq) (K:=Ci S d) (fun p hp=>⟨(Bi (hf p hp)).2,fun r hr=>Yh hS d _ _ (hx p hp) (ho' p hp) r hr⟩) hn hp (by have:=Tc hS ht hf hp;omega) r;simp only[ax,List.map_nil,B0 44 _ (show [Kg S d p]≠[]by simp)]at this;simp only[Am,List.append_assoc,au]at this;unfold Ci;rw[hs];simp only;rw[if_pos hb,ht];simp only;rw[<-e1];exact this
   |p::q::u::l,_,he,hfl,_=>
    obtain⟨i1,_⟩:=hfl p aL fun c hc=>by rw[ax,B0 44 _ aL];simp[hc]
    rw[ax,B0 44 _ aL,List.append_assoc,au]at he;obtain⟨_,e2⟩:=Qcp i1 hx1 he;rw[ax,B0 44 _ aL]at e2;exact absurd (by rw[<-e2];simp) hy1
theorem Qfw{s d x tx a b:List UInt8}(h:vlB (Cx s d) x Qx=some tx)(he:tx=123::(a++44::b))(h1:(44:UInt8)∉a)(h2:(44:UInt8)∉b)(h3:(123:UInt8)∉a++b)(h4:(91:UInt8)∉a++b):
  ∃z,b=z++[125]/\a.length+z.length<=36/\Z7 (Cx s d) (123::(z++44::(a++[125])))=some x:=by
 cases hb:Cx s d with
 |none=>rw[hb]at h;cases h
 |some y=>
  obtain⟨S,k⟩:=y;rw[hb]at h;cases hv:Kz S k x with
  |none=>simp[vlB,hv]at h
  |some v=>
   simp only[vlB,hv,Option.bind_some]at h;obtain⟨hok,_,_,hk,_,_⟩:=Jz hb;obtain⟨hvk,hpr,hxl⟩:=(Kr hok.1.1 hk).1 hv;unfold Qx Mf at h;split at h
   ·rename_i ho;injection h with h;rw[<-h]at he;obtain⟨z,e1,e2,e3⟩:=Qe8 hok.1.1 12 k v hvk ho a b he h1 h2 h3 h4;refine⟨z,e1,e2,?_⟩;unfold Z7;rw[if_neg aO];simp only[Option.bind_some];rw[e3 []];simp only[Option.bind_some];rw[if_pos ⟨Ac,by rw[hpr];exact hxl⟩,hpr]
   cases h
theorem Rv{A:List UInt8}{x y:UInt8}{n:Nat}(h:x∈(A++[y]).drop n):x∈A.drop n\/x=y/\n<=A.length:=by
 rw[List.drop_append,af]at h;rcases h with h|h
 ·exact .inl h
 by_cases hn:n<=A.length
 ·exact .inr ⟨by simpa using List.mem_of_mem_drop h,hn⟩
 rw[List.drop_eq_nil_of_le aO]at h;cases h
structure OI(t:List UInt8)(c:Int)(k:Nat):Prop where
 s:c = -1/\(44:UInt8)∉t.take k\/∃p:Nat,c=p/\p<k/\(∃h:p<t.length,t[p]=44)/\(44:UInt8)∉t.take p/\(44:UInt8)∉(t.take k).drop (p+1)
 a:(123:UInt8)∉(t.take k).drop 1
 b:(91:UInt8)∉(t.take k).drop 1
theorem OI.init(t:List UInt8):OI t (-1) 0:=⟨.inl ⟨rfl,by simp⟩,by simp,by simp⟩
theorem OI.other{t:List UInt8}{k:Nat}(h:k<t.length){x:UInt8}(h1:x∉(t.take k).drop 1)(h2:k=0\/t[k]≠x):x∉(t.take (k+1)).drop 1:=fun hm=>by
 rw[<-List.take_append_getElem h]at hm;rcases Rv hm with hm|⟨e,hl⟩
 ·exact h1 hm
 simp at hl;rcases h2 with h2|h2
 ·omega
 exact h2 e.symm
theorem OI.cut{t:List UInt8}{k:Nat}(i:OI t (-1) k)(h:k<t.length)(he:t[k]=44):OI t k (k+1):=by
 refine⟨.inr ⟨k,rfl,by omega,⟨h,he⟩,?_,?_⟩,OI.other h i.a (.inr (by rw[he];decide)),OI.other h i.b (.inr (by rw[he];decide))⟩
 ·rcases i.s with h|⟨p,h,_⟩
  ·exact h.2
  omega
 rw[List.drop_eq_nil_of_le aO];simp
theorem OI.step{t:List UInt8}{k:Nat}{c:Int}(i:OI t c k)(h:k<t.length)(he:t[k]≠44)(hx:k=0\/t[k]≠123/\t[k]≠91):OI t c (k+1):=by
 refine⟨?_,OI.other h i.a (hx.imp id (·.1)),OI.other h i.b (hx.imp id (·.2))⟩;rcases i.s with⟨e,hn⟩|⟨p,e,hp,hpt,hn,hd⟩
 ·refine .inl ⟨e,fun hm=>?_⟩;rw[<-List.take_append_getElem h,af,ap]at hm;exact hm.elim hn fun e=>he e.symm
 refine .inr ⟨p,e,by omega,hpt,hn,fun hm=>?_⟩;rw[<-List.take_append_getElem h]at hm;rcases Rv hm with hm|⟨e,_⟩
 ·exact hd hm
 exact he e.symm
theorem OI.fin{t:List UInt8}{p:Nat}(i:OI t p t.length)(h0:0<t.length)(he:t[0]=123):
  0<p/\p<t.length/\t=123::((t.drop 1).take (p - 1)++44::t.drop (p+1))/\(44:UInt8)∉(t.drop 1).take (p - 1)/\(44:UInt8)∉t.drop (p+1)/\(123:UInt8)∉(t.drop 1).take (p - 1)++t.drop (p+1)/\(91:UInt8)∉(t.drop 1).take (p - 1)++t.drop (p+1):=by
 obtain⟨hs,ha,hb⟩:=i;rw[List.take_length]at ha hb;rcases hs with⟨e,_⟩|⟨q,e,hq,⟨hl,hc⟩,hn,hd⟩
 ·omega
 obtain rfl:p=q:=aG;rw[List.take_length]at hd;have h1:0<p:=by
  rcases Nat.eq_zero_or_pos p with rfl|h
  ·rw[he]at hc;exact absurd hc aJ
  exact h
 obtain⟨m,rfl⟩:∃m,p=m+1:=⟨p - 1,by omega⟩
 cases t with
 |nil=>cases h0
 |cons c t=>
  simp only[List.getElem_cons_zero]at he;subst he;simp only[List.getElem_cons_succ]at hc;simp only[List.length_cons]at hl;simp only[List.drop_succ_cons,List.drop_zero,Nat.add_sub_cancel]at *;have hsub:∀x,x∈t.take m++t.drop (m+1)->x∈t:=fun x hx=>(af.1 hx).elim List.mem_of_mem_take List.mem_of_mem_drop;refine⟨h1,by simp;omega,?_,fun hm=>hn ?_,hd,fun hm=>ha (hsub _ hm),fun hm=>hb (hsub _ hm)⟩
  ·rw[<-hc,<-List.drop_eq_getElem_cons aG,List.take_append_drop]
  rw[List.take_succ_cons];exact List.mem_cons_of_mem _ hm
def Mn(S:List Ty):Nat->Kd->Vl->List UInt8
 |0,_,_=>[]
 |d+1,k,v=>
  if v.what=85 then 123::(D5 S k v.tag++58::(Mn S d (Fq S k v.tag) (Mw v)++[125]))
  else if v.what=63 then(if k.part.signs.head?=some 63 then[]else match v.kids with|[]=>H7|x::_=>Mn S d k.part x)
  else if Cp S (d+1) k v=true then Dj S (d+1) k v else[]
theorem Qgg{S:List Ty}:∀{d:Nat} {k:Kd} {v:Vl},Gb S d k v->Cp S d k v=true->Mn S d k v=Dj S d k v:=by
 intro d;induction d with
 |zero=>intro k v h;cases h
 |succ d ih=>
  intro k v h ho;cases h with
  |n hs hb h=>simp[Mn,Cp,Vl.what]
  |t hs hb h=>simp[Mn,Cp,Vl.what]
  |f hs hb=>simp[Mn,Cp,Vl.what]
  |@lst _ _ r ks hs hl h=>
   unfold Mn;rw[ho];simp[Vl.what]
  |@non _ _ r hs=>
   simp[Cp,Vl.what,Vl.kids]at ho;simp[Mn,Dj,Vl.what,Vl.kids,ho]
  |@som _ _ r x hs h=>
   simp[Cp,Vl.what,Vl.kids]at ho;simp[Mn,Dj,Vl.what,Vl.kids,ho.1,ih h ho.2]
  |enm hs hb ht h9 hf=>simp[Mn,Cp,Vl.what]
  |@uni _ _ t f x hs hb ht h5 hf h=>
   have e:=Cv ht hf;simp[Cp,Vl.what,Vl.kids,Vl.tag,e]at ho;simp[Mn,Dj,Vl.what,Vl.kids,Vl.tag,e,Mw,ih h ho]
  |@rcd _ _ t fs hs hb ht h2 hf h hn hp=>
   unfold Mn;rw[ho];simp[Vl.what]
theorem K0{S:List Ty}{d:Nat}{k:Kd}{v:Vl}(h5:v.what≠85)(h3:v.what≠63):Mn S (d+1) k v=if Cp S (d+1) k v=true then Dj S (d+1) k v else[]:=by
 conv=>lhs;unfold Mn
 rw[if_neg h5,if_neg h3]
theorem Rf{S:List Ty}(hS:∀t∈S,Do t){d:Nat}{k:Kd}{v:Vl}(h:Gb S (d+1) k v)(h5:v.what≠85)(h3:v.what≠63):(Mn S (d+1) k v).length<=20*(Ay v).length:=by
 rw[K0 h5 h3];split
 ·exact Rl hS _ _ _ h
 simp
theorem Qb2{S:List Ty}(hS:∀t∈S,Do t):∀{d:Nat} {k:Kd} {v:Vl},Gb S d k v->(Mn S d k v).length<=20*(Ay v).length:=by
 intro d;induction d with
 |zero=>intro k v h;cases h
 |succ d ih=>
  intro k v h;have hT:=Rl hS _ _ _ h;have H:=h;cases h with
  |n hs hb h=>exact Rf hS H bC bC
  |t hs hb h=>exact Rf hS H bC bC
  |f hs hb=>exact Rf hS H bC bC
  |@lst _ _ r ks hs hl h=>exact Rf hS H bC bC
  |non hs=>simp only[Mn,Vl.what,Vl.kids];simp;split;simp;simpa [Dj,Vl.what,Vl.kids]using hT
  |@som _ _ r x hs h=>
   have h1:=ih h;rw[E4];simp[Mn,Vl.what,Vl.kids,Fa,Am];split
   ·simp
   omega
  |@enm _ _ t f hs hb ht h9 hf=>exact Rf hS H bC bC
  |@uni _ _ t f x hs hb ht h5 hf h=>
   have:=Q9 hS ht hf;have h1:=ih h;have e:=Cv ht hf;rw[E4];simp[Mn,Vl.what,Vl.tag,Vl.kids,Fa,Am,Mw,e];omega
  |@rcd _ _ t fs hs hb ht h2 hf h hn hp=>exact Rf hS H bC bC
def Qgv(w:World)(e:Ending)(w':World):Prop:=∃a b s:List UInt8,e=.returned (.tuple #[.string ⟨a.toArray⟩,.string ⟨b.toArray⟩,.string ⟨s.toArray⟩])/\a.length<=100000/\b.length<=100000/\s.length<=100000/\Below w.heap.size w w'
def Ez(w:World)(g p:Nat):Prop:=
 ∃A n c l,w.heap[g]?=some (.cells #[.slice A n c,(p:Int)] 113 (0,0))/\Bh w A n (Fj l)/\n<=2000/\∀b off,A=some ⟨b,off,none⟩->0<n->b<g
theorem Ez.lt{w:World}{g p:Nat}(h:Ez w g p):g<w.heap.size:=by
 obtain⟨A,n,c,l,hh,_⟩:=h;rcases aF g w.heap.size with h1|h1
 ·exact h1
 rw[Array.getElem?_eq_none h1]at hh;cases hh
theorem Ez.below{w w':World}{g p:Nat}(h:Ez w g p)(hb:Below w w w'):Ez w' g p:=by
 have hlt:=h.lt;obtain⟨A,n,c,l,hh,hr,h2,h3⟩:=h;exact⟨A,n,c,l,(hb.block g hlt).trans hh,hr.below hb,h2,h3⟩
theorem Ez.belowg{w w':World}{g p:Nat}(h:Ez w g p)(hb:Below (g+1) w w')(hs:w.heap.size<=w'.heap.size):Ez w' g p:=by
 obtain⟨A,n,c,l,hh,hr,h2,h3⟩:=h;refine⟨A,n,c,l,(hb.block g aG).trans hh,⟨hr.1,hr.2.1,fun hn=>?_⟩,h2,h3⟩;obtain⟨b,off,e,hlt,hc⟩:=hr.2.2 hn;have:=h3 b off e hn;exact⟨b,off,e,ac hlt hs,fun j u hu=>(hb.cell (p:=⟨b,off+j,none⟩) (by show b<g+1;omega)).trans (hc j u hu)⟩
theorem Bh.grown{w w':World}{g:Nat}{A:Option Addr}{n:Nat}{xs:List Value}(h:Bh w A n xs)(hg:w.grownBy w' (some g))(hne:∀b off,A=some ⟨b,off,none⟩->0<n->b≠g):Bh w' A n xs:=by
 refine⟨h.1,h.2.1,fun hn=>?_⟩;obtain⟨b,off,e,hlt,hc⟩:=h.2.2 hn;refine⟨b,off,e,ac hlt hg.size,fun j u hu=>?_⟩;exact(World.cell?_of_block (a:=⟨b,off+j,none⟩) (hg.block b hlt (fun h=>hne b off e hn (Option.some.inj h)))).trans (hc j u hu)
theorem Qd8(a b:Nat)(ha:a<4611686018427387904)(hb:b<4611686018427387904):∃x:Nat,bits .xor .i64 (a:Int) (b:Int)=(x:Int)/\x<4611686018427387904:=by
 have hx:a ^^^ b<2 ^ 62:=Nat.xor_lt_two_pow aG aG;refine⟨a ^^^ b,?_,hx⟩;show IntKind.i64.wrap ((BitVec.ofInt 64 (a:Int) ^^^ BitVec.ofInt 64 (b:Int)).toNat:Int)=_;have ho:∀a:Nat,a<4611686018427387904->(BitVec.ofInt 64 (a:Int)).toNat=a:=fun a ha=>by
  rw[BitVec.ofInt_natCast,BitVec.toNat_ofNat];exact Nat.mod_eq_of_lt aG
 rw[BitVec.toNat_xor,ho a ha,ho b hb,IntKind.wrap_i64];omega
def Qj3(w:World)(g p:Nat)(n:Int)(e:Ending)(w':World):Prop:=
 ∃x:Nat,e=.returned (x:Int)/\(1<=n->(x:Int)<n)/\(n<1->x=0)/\Ez w' g (p+1)/\w.grownBy w' (some g)
theorem Qgr{w:World}{g p:Nat}(h:Ez w g p)(k:Nat):Ez ((w.setCell ⟨g,1,none⟩ (.int .i64 ((p:Int)+1))).drewN k) g (p+1)/\w.grownBy ((w.setCell ⟨g,1,none⟩ (.int .i64 ((p:Int)+1))).drewN k) (some g):=by
 obtain⟨A,n,c,l,hh,hr,h2,h3⟩:=h;have hg:w.grownBy (w.setCell ⟨g,1,none⟩ (.int .i64 ((p:Int)+1))) (some g):=
  ⟨rfl,rfl,rfl,by simp,fun k _ hk=>heap_setCell_other w ⟨g,1,none⟩ k _ (fun e=>hk (by simp[e]))⟩
 have hg':w.grownBy ((w.setCell ⟨g,1,none⟩ (.int .i64 ((p:Int)+1))).drewN k) (some g):=⟨hg.os,hg.tape,hg.output,hg.size,hg.block⟩
 refine⟨⟨A,n,c,l,?_,hr.grown hg' (fun b off e hn=>Nat.ne_of_lt (h3 b off e hn)),h2,h3⟩,hg'⟩;have:=heap_setCell_same w g 1 _ _ (.int .i64 ((p:Int)+1)) hh;have e:((p+1:Nat):Int)=(p:Int)+1:=aG;rw[e];exact this
theorem Bu(g p:Nat)(n:Int)(w:World)(h:Ez w g p)(hp:p<=1000000000)(hn:n<=1000000000)(hn0:-1000000000<=n):
  Calls prog 29 #[g,.int .i64 n] w (Qj3 w g p n):=by
 have hw:=fun k=>Qgr h k;have Hw:=Aa hw;clear hw;obtain⟨A,m,c,l,hh,hr,h2,h3⟩:=h;have hc0:w.cell? (g,0)=some (.slice A m c):=by simp[World.cell?,hh]
 have hc1:w.cell? (g,1)=(p:Int):=by simp[World.cell?,hh]
 have hf:w.frozen? (g,1)=false:=by simp[World.frozen?,hh]
 have Hh:=Aa hh;clear hh;by_cases hn1:n<1
 ·have H3:=Aa h3;clear h3;go_enter func29,ntmps29;go_wp2
  exact m8
 by_cases hm:m=0
 ·have H3:=Aa h3;clear h3;subst hm;go_enter func29,ntmps29;go_wp2
  exact m8
 have hm1:0<m:=aG;have tm:((m:Int) == 0)=false:=aO;have hl:l.length=m:=by have:=hr.1;simpa [Fj]using this
 by_cases hk:p<m
 ·obtain⟨b,o,rfl,hb,hx⟩:=hr.at_ hk;have hbg:b≠g:=Nat.ne_of_lt (h3 b o rfl hm1);have hx':w.cell? ⟨b,o+p,none⟩=some (.int .u8 ((l[p]' aG).toNat:Int)):=by rw[hx];simp[Fj]
  have hlt:=(l[p]' aG).toNat_lt;generalize (l[p]'(show p<l.length by omega)).toNat=y at hx' hlt;clear hx h3 tm;have tm:((m:Int) == 0)=false:=aO;have i1:(0:Int)<=(p:Int):=aG;have i2:(p:Int)<(m:Int):=aG;go_enter func29,ntmps29;go_wp2
  go_ret;have hn':(0:Int)<n:=aG;have e1:=Int.emod_nonneg (y:Int) (show n≠0 by omega);have e2:=Int.emod_lt_of_pos (y:Int) hn';exact⟨((y:Int) % n).toNat,Eu (Qne aG),by omega,by omega,(Hw.o 0).1,(Hw.o 0).2⟩
 obtain⟨b,o,rfl,hb,hcell⟩:=hr.2.2 hm1;have hbg:b≠g:=Nat.ne_of_lt (h3 b o rfl hm1);have m1:p % m<m:=Nat.mod_lt _ hm1;have m2:(p*7+3) % m<m:=Nat.mod_lt _ hm1;have hx1:=hcell (p % m) _ (List.getElem?_eq_getElem (show p % m<(Fj l).length by rw[Rz];omega));have hx2:=hcell ((p*7+3) % m) _ (List.getElem?_eq_getElem (show (p*7+3) % m<(Fj l).length by rw[Rz];omega));simp only[Fj,List.getElem_map]at hx1 hx2;have hlt1:=(l[p % m]' aG).toNat_lt;have hlt2:=(l[(p*7+3) % m]' aG).toNat_lt;generalize (l[p % m]'(show p % m<l.length by omega)).toNat=y1 at hx1 hlt1;generalize (l[(p*7+3) % m]'(show (p*7+3) % m<l.length by omega)).toNat=y2 at hx2 hlt2;have M1:((p:Int).tmod m)=((p % m:Nat):Int):=by rw[Int.tmod_eq_emod_of_nonneg aG];omega
 have M2:(((p:Int)*7+3).tmod m)=(((p*7+3) % m:Nat):Int):=by rw[Int.tmod_eq_emod_of_nonneg aG];simp
 have M3:((p:Int).tdiv m)=((p / m:Nat):Int):=by rw[Int.tdiv_eq_ediv_of_nonneg aG];omega
 have m3:p / m<=p:=Nat.div_le_self _ _;generalize p % m=k1 at M1 hx1 m1;generalize (p*7+3) % m=k2 at M2 hx2 m2;generalize p / m=k3 at M3 m3;have a1:IntKind.i64.wrap ((y1:Int)*131)=(y1:Int)*131:=IntWalk.i64_in _ aG;have a2:IntKind.i64.wrap ((y2:Int)*1117)=(y2:Int)*1117:=IntWalk.i64_in _ aG;have a3:IntKind.i64.wrap ((y1:Int)*131+(y2:Int)*1117)=(y1:Int)*131+(y2:Int)*1117:=IntWalk.i64_in _ aG;have a4:IntKind.i64.wrap ((p:Int)*29)=(p:Int)*29:=IntWalk.i64_in _ aG;have a5:IntKind.i64.wrap ((y1:Int)*131+(y2:Int)*1117+(p:Int)*29)=(y1:Int)*131+(y2:Int)*1117+(p:Int)*29:=IntWalk.i64_in _ aG;have a7:IntKind.i64.wrap ((k3:Int)*53)=(k3:Int)*53:=IntWalk.i64_in _ aG;have a9:IntKind.i64.wrap ((p:Int)*7)=(p:Int)*7:=IntWalk.i64_in _ aG;have a10:IntKind.i64.wrap ((p:Int)*7+3)=(p:Int)*7+3:=IntWalk.i64_in _ aG;obtain⟨z,a8,hz⟩:∃z:Nat,IntKind.i64.wrap ((y1:Int)*131+(y2:Int)*1117+(p:Int)*29+(k3:Int)*53)=(z:Int)/\z<4611686018427387904:=
  ⟨y1*131+y2*1117+p*29+k3*53,by rw[IntWalk.i64_in _ aG];omega,by omega⟩
 obtain⟨x,hx,hxl⟩:=Qd8 z (z / 64) hz aG;rw[show ((z / 64:Nat):Int)=(z:Int) / 64 from by omega]at hx;clear hcell h3 hm hr;have i1:(0:Int)<=(p:Int):=aG;have i2:(0:Int)<(m:Int):=aG;have i3:(0:Int)<=(k1:Int):=aG;have i4:(k1:Int)<(m:Int):=aG;have i5:(0:Int)<=(k2:Int):=aG;have i6:(k2:Int)<(m:Int):=aG;have j1:(0:Int)<=(z:Int):=aG;have j2:(0:Int)<=(x:Int):=aG;go_enter func29,ntmps29;go_wp2
 go_quiet (fail)
 clear a1 a2 a3 a4 a5 a7 a9 a10 a8 M1 M2 M3;go_wp2
 go_ret;have hn':(0:Int)<n:=aG;have e1:=Int.emod_nonneg (x:Int) (show n≠0 by omega);have e2:=Int.emod_lt_of_pos (x:Int) hn';exact⟨((x:Int) % n).toNat,Eu (Qne aG),by omega,by omega,(Hw.o _).1,(Hw.o _).2⟩
theorem Qg1{w:World}{A:Option Addr}{n c:Nat}{l:List UInt8}(h:Bh w A n (Fj l))(hn:n<=2000):Ez (w.alloc (.cells #[.slice A n c,.int .i64 0] 113)) w 0:=by
 refine⟨A,n,c,l,heap_alloc_new w _,h.alloc _,hn,fun b off e hpos=>?_⟩;obtain⟨b',off',e',hlt,_⟩:=h.2.2 hpos;rw[e]at e';injection e' with e';injection e' with e1;subst e1;omega
theorem Bh.take{w:World}{A:Option Addr}{n:Nat}{l:List UInt8}(h:Bh w A n (Fj l))(k:Nat)(hk:k<=n):Bh w A k (Fj (l.take k)):=by
 have hl:l.length=n:=by have:=h.1;simpa [Fj]using this
 refine⟨by simp[Fj];omega,ad hk h.2.1,fun h0=>?_⟩;obtain⟨b,off,e,hlt,hc⟩:=h.2.2 aG;refine⟨b,off,e,hlt,fun j u hu=>hc j u ?_⟩;have hj:j<k:=by
  have:=(List.getElem?_eq_some_iff.1 hu).1;simp[Fj]at this;omega
 simpa [Fj,List.getElem?_take,hj]using hu
theorem Qfk(A:Option Addr)(n c:Nat)(l:List UInt8)(w:World)(h:Bh w A n (Fj l))(hc:n<=c)(hcm:c<=maxLen):
  Calls prog 27 #[.slice A n c] w fun e w'=>∃g,e=.returned (.pointer (some ⟨g,0,none⟩))/\Ez w' g 0/\w.heap.size<=g/\Below w w w':=by
 unfold maxLen at hcm;by_cases hn:n<=2000
 ·go_enter func27,ntmps27;go_wp2
  go_goals
  go_ret;exact⟨w.heap.size,rfl,Qg1 h hn,Ar _,(Aw _ _).alloc (Ar _) _⟩
 go_enter func27,ntmps27;go_wp2
 go_goals
 go_ret;exact⟨w.heap.size,rfl,Qg1 (h.take 2000 aG) (Ar _),Ar _,(Aw _ _).alloc (Ar _) _⟩
section
attribute [local go_sem] Qo1 Qof Qnv Qlx ByteArray.mk_append_mk
theorem Ae{a b c:World}{row:Option Nat}(h:a.grownBy b row)(k:b.grownBy c row):a.grownBy c row:=
 ⟨k.os.trans h.os,k.tape.trans h.tape,k.output.trans h.output,ad h.size k.size,fun i hi hne=>(k.block i (ac hi h.size) hne).trans (h.block i hi hne)⟩
theorem Cs{a w:World}(h:Below a a w)(row:Option Nat):a.grownBy w row:=⟨h.os,h.tape,h.output,h.size,fun i hi _=>h.block i hi⟩
theorem Gh{a b:World}{row:Option Nat}(h:a.grownBy b row):a.grownBy b.drew row:=⟨h.os,h.tape,h.output,h.size,h.block⟩
theorem Ez.ddrew{w:World}{g p:Nat}(h:Ez w g p):Ez w.drew g p:=h
theorem Ez.dalloc{w:World}{g p:Nat}(h:Ez w g p)(o:Obj):Ez (w.alloc o) g p:=h.below ((Aw _ _).alloc (Ar _) o)
def Jf(W:World)(b:Nat)(ls:List (List UInt8)):Prop:=W.heap[b]?=some (.cells (Ah ls).toArray 9 (0,0))
theorem Jf.new(W:World)(ls:List (List UInt8)):Jf (W.alloc (.cells (Ah ls).toArray 9)) W.heap.size ls:=heap_alloc_new W _
theorem Jf.lt{W:World}{b:Nat}{ls:List (List UInt8)}(h:Jf W b ls):b<W.heap.size:=by
 rcases aF b W.heap.size with h1|h1
 ·exact h1
 unfold Jf at h;rw[Array.getElem?_eq_none h1]at h;cases h
theorem Jf.grown{W W':World}{b r:Nat}{ls:List (List UInt8)}(h:Jf W b ls)(hg:W.grownBy W' (some r))(hne:b≠r):Jf W' b ls:=
 (hg.block b h.lt (fun e=>hne (Option.some.inj e))).trans h
theorem Jf.cell{W:World}{b j:Nat}{ls:List (List UInt8)}(h:Jf W b ls)(hj:j<ls.length):∃s,s∈ls/\W.cell? ⟨b,j,none⟩=some (.string ⟨s.toArray⟩):=
 ⟨ls[j],ae hj,by unfold Jf at h;simp[World.cell?,h,Ah,hj]⟩
def Pn(Q:List UInt8->Prop)(w:World)(g p m:Nat)(e:Ending)(w':World):Prop:=
 ∃(l:List UInt8) (q:Nat),e=.returned l/\Q l/\q<=p+m/\Ez w' g q/\w.grownBy w' (some g)
def Tt:List (List UInt8):=[[110],[116],[102],[110],[116],[64,97,59],[64,98,59],[64,99,59]]
def Tg:List (List UInt8):=[[],[120],[64,59],[64,65,59],[91],[63,63,63,63,63,63,63,63,63,63,63,63,63,63,110],[64,97],[110,110]]
def DK(l:List UInt8):Prop:=(∃sg b,l=sg++b/\sg.length<=2/\sg.all Bo=true/\b∈Tt)\/l∈Tg
theorem DK.len{l:List UInt8}(h:DK l):l.length<=15:=by
 rcases h with⟨sg,b,rfl,h1,_,h3⟩|h
 ·have:∀b∈Tt,b.length<=3:=aJ;have:=this b h3;rw[ah];omega
 have:∀b∈Tg,b.length<=15:=aJ;exact this l h
theorem Qc(g p:Nat)(w:World)(h:Ez w g p)(hp:p<=100000000):
  Calls prog 105 #[g] w (Pn DK w g p 7):=by
 have hgl:=h.lt;have HR:=Aa h;clear h;go_enter func105,ntmps105;go_wp2_with fail;refine(Bu g p 8 _ (HR.o.dalloc _) aG aG aG).mono ?_;rintro e w1 ⟨x,rfl,hx1,_,hR1,hg1⟩;have hx:x<Tt.length:=by show x<8;omega
 obtain⟨b,hbm,hcell⟩:=((Jf.new w Tt).grown hg1 aG).cell hx;have hbl:b.length<=3:=(show ∀b∈Tt,b.length<=3 by decide) b hbm;have i1:(0:Int)<=(x:Int):=aG;have i2:(x:Int)<8:=aG;have HR1:=Aa hR1;have Hg1:=Aa (Ae (World.grownBy_alloc w _ (some g)) hg1);have Hbm:=Aa hbm;clear hR1 hg1 hbm HR hx hx1;go_wp2_with fail;refine(Bu g (p+1) 4 _ HR1.o aG aG aG).mono ?_;rintro e w2 ⟨y,rfl,hy1,_,hR2,hg2⟩;have hy:y<=3:=aG;have HR2:=Aa hR2;have Hg2:=Aa (Ae Hg1.o hg2);clear hR2 hg2 HR1 Hg1 hy1 hcell;go_wp2_with fail;go_loopw [3,4] (fun s k wr=>∃(sg:List UInt8) (x q:Nat),s=.string ⟨(sg++b).toArray⟩/\k=.int .i64 x/\sg.length+x<=3/\(x=0->sg=[])/\Hid (sg.all Bo=true)/\q+x<=p+5/\g<wr.heap.size/\Hid (Ez wr g q)/\Hid (w.grownBy wr (some g))) (fun _ k _=>(intOf k).toNat)
 case atStart=>exact⟨[],y,p+2,by simp,rfl,by simp;omega,fun _=>rfl,rfl,by omega,HR2.o.lt,HR2.o,Hg2.o⟩
 case round=>
  obtain⟨sg,x,q,rfl,rfl,hlen,h0,hsg,hq,hgw,hR,hg⟩:=hrel;by_cases hx:1<x
  ·have hxi:(1:Int)<(x:Int):=aG;go_wp2_with fail;refine(Bu g q 3 _ (hR.o.dalloc _) aG aG aG).mono ?_;rintro e w3 ⟨z,rfl,hz1,_,hR3,hg3⟩;have hz:z<([[91],[63],[91]]:List (List UInt8)).length:=by show z<3;omega
   obtain⟨s3,hsm,hcell⟩:=((Jf.new wr [[91],[63],[91]]).grown hg3 aG).cell hz;obtain⟨c,rfl,hc⟩:∃c,s3=[c]/\Bo c=true:=by
    simp at hsm;rcases hsm with rfl|rfl|rfl
    ·exact⟨91,rfl,by decide⟩
    ·exact⟨63,rfl,by decide⟩
    exact⟨91,rfl,by decide⟩
   have j1:(0:Int)<=(z:Int):=aG;have j2:(z:Int)<3:=aG;have HR3:=Aa hR3;have hg3l:=hR3.lt;have Hg3:=Aa (Ae hg.o (Ae (World.grownBy_alloc wr _ (some g)) hg3));have Hc:=Aa hc;have Hsg:=Aa hsg.o;clear hR3 hg3 hsm hc;go_wp2_with fail;go_roundw
   case rel=>exact⟨c::sg,x - 1,q+1,by simp,by go_num,by simp;omega,fun h=>by omega,by show List.all _ _=_;rw[List.all_cons,Hc.o,Hsg.o];rfl,by omega,hg3l,HR3.o,Hg3.o⟩
   case measure=>simp[intOf];omega
  ·have hxi:¬(1:Int)<(x:Int):=aG
   have Hsl:=Aa (show sg.length<=2 by
    by_cases hx0:x=0
    ·rw[h0 hx0];simp
    omega)
   have HRa:=Aa hR.o;have Hga:=Aa hg.o;have Hsg:=Aa hsg.o;go_wp2_with fail;refine(Bu g q 30 _ HRa.o aG aG aG).mono ?_;rintro e w3 ⟨z,rfl,hz1,_,hR3,hg3⟩;have HR3:=Aa hR3;have Hg3:=Aa (Ae Hga.o hg3);have hg3l:=hR3.lt;clear hR3 hg3 HRa Hga;by_cases hz0:z=0
   ·subst hz0;go_wp2_with fail;refine(Bu g (q+1) 8 _ (HR3.o.dalloc _) aG aG aG).mono ?_;rintro e w4 ⟨u,rfl,hu1,_,hR4,hg4⟩;have hu:u<Tg.length:=by show u<8;omega
    obtain⟨s4,hsm,hcell⟩:=((Jf.new w3 Tg).grown hg4 aG).cell hu;have k1:(0:Int)<=(u:Int):=aG;have k2:(u:Int)<8:=aG;have HR4:=Aa hR4;have Hg4:=Aa (Ae Hg3.o (Ae (World.grownBy_alloc w3 _ (some g)) hg4));have Hsm:=Aa hsm;clear hR4 hg4 hsm;go_wp2_with fail;go_ret;exact⟨s4,q+1+1,rfl,.inr Hsm.o,by omega,HR4.o,Hg4.o⟩
   have hz2:((z:Int) == 0)=false:=aO;go_wp2_with fail;go_ret;exact⟨sg++b,q+1,rfl,.inl ⟨sg,b,rfl,Hsl.o,Hsg.o,Hbm.o⟩,by omega,HR3.o,Hg3.o⟩
def DrH(Q1 Q2:List UInt8->Prop):Prop:=(∀l,Q1 l->l.length<=100000)/\(∀l,Q2 l->l.length<=100000) /\
 (∀(g p:Nat) (W:World),Ez W g p->p<=100000->Calls prog 63 #[g] W (Pn Q1 W g p 170)) /\
 (∀(g p:Nat) (s:List UInt8) (W:World),Ez W g p->p<=100000->s.length<=100000->Calls prog 64 #[g,s] W (Pn Q2 W g p 10)) /\
 ∀(g p:Nat) (s k:List UInt8) (W:World),Ez W g p->p<=100000->s.length<=100000->k.length<=100000->Calls prog 65 #[g,s,k] W (Pn (fun l=>l.length<=20000) W g p 40000000)
theorem Qen{Q1 Q2:List UInt8->Prop}(H:DrH Q1 Q2)(g p:Nat)(w:World)(h:Ez w g p)(hp:p<=1000):
  Calls prog 28 #[g] w fun e w'=>∃(a b s:List UInt8) (q:Nat),e=.returned (.tuple #[a,b,s])/\a.length<=100000/\b.length<=100000/\s.length<=100000/\q<=p+50000000/\Ez w' g q/\w.grownBy w' (some g):=by
 have H:=Aa H;have HR:=Aa h;clear h;go_enter func28,ntmps28;go_wp2_with fail;refine(H.o.2.2.1 g p w HR.o aG).mono ?_;rintro e w1 ⟨a,q1,rfl,ha,hq1,hR1,hg1⟩;have HR1:=Aa hR1;have Hg1:=Aa hg1;have hal:=H.o.1 a ha;clear hR1 hg1 ha;go_wp2_with fail;refine(H.o.2.2.2.1 g q1 a _ HR1.o aG hal).mono ?_;rintro e w2 ⟨b,q2,rfl,hb,hq2,hR2,hg2⟩;have HR2:=Aa hR2;have Hg2:=Aa (Ae Hg1.o hg2);have hbl:=H.o.2.1 b hb;clear hR2 hg2 hb;go_wp2_with fail;refine(H.o.2.2.2.2 g q2 a b _ HR2.o aG hal hbl).mono ?_;rintro e w3 ⟨s,q3,rfl,hs,hq3,hR3,hg3⟩;have HR3:=Aa hR3;have Hg3:=Aa (Ae Hg2.o hg3);clear hR3 hg3;go_wp2_with fail;refine aE (v:=.tuple #[a,b,s]) (by simp[results,results28,go_sem]) rfl ?_;exact⟨a,b,s,q3,rfl,hal,hbl,by omega,by omega,HR3.o,Hg3.o⟩
theorem Xk{Q1 Q2:List UInt8->Prop}(H:DrH Q1 Q2)(A:Option Addr)(n c:Nat)(l:List UInt8)(w:World)(h:Bh w A n (Fj l))(hc:n<=c)(hcm:c<=maxLen):
  Calls prog 12 #[.slice A n c] w (Qgv w):=by
 have H:=Aa H;go_enter func12,ntmps12;go_wp2_with fail;refine(Qfk A n c l w h hc hcm).mono ?_;rintro e w0 ⟨g,rfl,hR,hgb,hb0⟩;have HR:=Aa hR;have Hb0:=Aa hb0;clear hR h hb0;go_wp2_with fail;refine(Qen H.o g 0 _ HR.o aG).mono ?_;rintro e w1 ⟨a,b,s,q,rfl,ha,hb,hs,hq,hR1,hg1⟩;have Hb1:=@Aa (Below w w w1) (Hb0.o.grown hg1 Hb0.o.size (fun k hk=>by injection hk with hk;omega));clear hR1 hg1;go_wp2_with fail;refine aE (v:=.tuple #[a,b,s]) (by simp[results,results12,go_sem]) rfl ?_;exact⟨a,b,s,rfl,ha,hb,hs,Hb1.o⟩
end
end Go.Proofs.YtkigmebejmmikaaGreatDoor
