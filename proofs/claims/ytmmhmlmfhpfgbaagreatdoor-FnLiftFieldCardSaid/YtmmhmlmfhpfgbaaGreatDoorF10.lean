/- Texts joined. Conditions: as each theorem names them. -/
import Derived.Test.YtmmhmlmfhpfgbaaGreatDoorF04
set_option maxRecDepth 100000
set_option maxHeartbeats 32000000
set_option linter.unusedVariables false
set_option linter.unusedSimpArgs false
namespace Go.Proofs.YtmmhmlmfhpfgbaaGreatDoor
open Go.RowKit Go.Proofs.Tryz
theorem B0.ownK{w:World}{base k:Nat}{e:TypeId}{v:Value}{n:Nat}{xs:List Value}(h:w.ownsRow base e k v n xs)(hle:n*k<=maxLen):∃A c,v=.slice A n c/\B0 w A (n*k) xs:=by
 have h1:=h.1;rcases h.2 with⟨rfl,rfl⟩|⟨g,cap,cur,rfl,hb,hh,hnc,hcm,hcs,htk⟩
 ·exact⟨none,0,rfl,by omega,by omega,fun h=>absurd h aH⟩
 refine⟨some ⟨g,0,none⟩,cap,rfl,by omega,hle,fun hn=>⟨g,0,rfl,(h.lt g rfl).2,fun j u hu=>?_⟩⟩;have:=h.cells (g:=g) rfl j u hu;have e1:(⟨g,0,none⟩:Addr).add j=⟨g,0+j,none⟩:=bD;rwa [e1]at this
section
variable {P:Program}
theorem Qd8(w:World){ops:Array Oper}{rest:List Oper}{o:Oper}{a:Act}{Q:Exit->Act->World->Prop}(hgd:o.guard=none)(s x:Operand)(t:TypeId)
  (ho:o.op=.call {callee:=.builtin .append,args:=#[s,x],argTypes:=#[t,t]})
  (base:Nat) (e:TypeId) (z:Value) (k bytes:Nat) (ht:P.underlying t=some (.slice e)) (hinfo:(P.info? e).map (fun i=>(i.zero,i.size,i.bytes))=some (some z,k,bytes))
  (hzs:z.cells.size=k) (hk:0<k) (W:World) (us:List Value) (hul:us.length=k) (hw:w=W.alloc (.cells us.toArray e)) (hu:∀u∈us,u.oneCell'=true) (v:Value) (n:Nat) (xs:List Value) (hs:a.eval s=v) (hx:a.eval x=.slice (W,0) 1 1)
  (hown:W.ownsRow base e k v n xs)
  (h63:n+1<=maxLen) (hbytes:(n+1)*bytes<=140737488355328) (hbase:base<=W.heap.size)
  (h:∀v' w',w'.ownsRow base e k v' (n+1) (xs++us)->Below base W w'->wpList P ops Q rest (a.put o.dst v') w'):wpList P ops Q (o::rest) a w:=by
 subst hw;obtain⟨i0,hi,hz0,hz1,hz2⟩:=info_parts hinfo;refine wpList_append_own _ hgd s x t ho base e i0 z k bytes ht hi hz0 hz1 hz2 hzs hk v n xs hs (hown.alloc _) ⟨W.heap.size,0,none⟩ 1 1 us hx aH ?_ hu h63 hbytes ?_ ?_
 ·exact j7
 ·exact jA
 intro v' w' h1 h2 _;exact h v' w' h1 (((Ao base W).alloc hbase _).grown h2 aM (fun k hk=>(hown.lt k hk).1))
end
theorem Qb6:(prog.info? 157).map (fun i=>(i.zero,i.size,i.bytes))=some (some sf0,4,56):=aN
theorem Tryz.infoSt:(prog.info? 143).map (fun i=>(i.zero,i.size,i.bytes))=some (some (.agg #[.int .u8 0,a6,.slice none 0 0]),3,48):=aN
section
variable {P:Program} {ops:Array Oper} {Q:Exit->Act->World->Prop}
theorem Bp{id:Nat}{a:Act}{w:World}(S:List Nat)(hm:P.follows .mixedOrders=true)(hac:(List.range ops.size).all (fun i=>((ops[i]?).map fun o=>o.after.all fun e=>!Region.binds .any e || decide (e.on<i)).getD true)=true)
  (hS:Gc a.tmps.size ops.toList S=true) {mk:(Nat->Value)->Act} (hmk:∀u,Bt a S u=mk u)
  (φ:Nat->Value->World->Prop) (R:(Nat->Bool)->(Nat->Value)->World->Prop) (Rel:World->World->Prop)
  (hst:∀w w',Rel w w'->∀i v,φ i v w->φ i v w')
  (h0:R (fun _=>false) (fun i=>a.tmps.toList.getD (S.getD i 0) undef) w.drew)
  (hstep:Ak (fun i o=>∀(l:Nat->Bool) u w,l i=false->(∀e∈o.after,Region.binds .any e=true->l e.on=true/\φ e.on (u e.on) w)->R l u w ->
   (∀j,l j=false->u j=a.tmps.toList.getD (S.getD j 0) undef)->(∀(j:Nat) (o:Oper),ops[j]?=some o->∀e∈o.after,Region.binds .any e=true->l e.on=false->l j=false) ->
   ∀K:Act->World->Prop,(∀v w' a',φ i v w'->Rel w w'->R (fun j=>if j=i then true else l j) (fun j=>if j=i then v else u j) w'->a'=(mk u).put o.dst v->K a' w') ->
    if Region.wanted o (yielded ops (mk u).tmps)=true then Oper.wp P o (mk u) w K Q else K ((mk u).put o.dst undef) w) 0 ops.toList)
  (hdone:∀(l:Nat->Bool) u w,(∀i,i<ops.size->l i=true)->(∀i,i<ops.size->φ i (u i) w)->R l u w->Q .normal (mk u) w):(Code.region id ops true).wp P Q a w:=by
 obtain rfl:Bt a S=mk:=funext hmk;obtain⟨hn,hs⟩:=Pv hS;have hput:∀(i:Nat) (o:Oper),ops.toList[i]?=some o->∀u v,(Bt a S u).put o.dst v=Bt a S (fun j=>if j=i then v else u j):=by
  intro i o ho u v;obtain⟨s,hsi,hd|⟨hd,hb⟩⟩:=hs i o ho
  ·exact jc
  have e:=Qt S 0 u a.tmps.toList i s v hsi (by simpa using hb);rw[am]at e;unfold Bt Act.put;rw[hd];simp only[<-e]
 have hac':∀(i:Nat) (o:Oper),ops[i]?=some o->∀e∈o.after,Region.binds .any e=true->e.on<i:=by
  intro i o ho e he hbd;have hlt:i<ops.size:=(Array.getElem?_eq_some_iff.1 ho).1;have h:=List.all_eq_true.1 hac i (List.mem_range.2 hlt);rw[ho]at h;have:=Array.all_eq_true_iff_forall_mem.1 h e he;simpa [hbd]using this
 refine wp_region_any hm ?_
 refine Qa8 hac' (fun l b w=>∃u,b=Bt a S u/\(∀i,l i=true->i<ops.size->φ i (u i) w)/\R l u w/\(∀j,l j=false->u j=a.tmps.toList.getD (S.getD j 0) undef) /\
   (∀(j:Nat) (o:Oper),ops[j]?=some o->∀e∈o.after,Region.binds .any e=true->l e.on=false->l j=false)) ?_ ?_ ops.size _ a _ aK (by
  unfold Tk;exact ad (List.length_filter_le _ _) aK) ⟨fun i=>a.tmps.toList.getD (S.getD i 0) undef,?_,?_,?_,fun _ _=>rfl,?_⟩
 ·rintro l b w i o ho hl hpre ⟨u,rfl,hφ,hR,hi,hdn⟩;have ho':ops.toList[i]?=some o:=by simpa using ho
  have hp:=hput i o ho';have hs':=hstep i o ho';rw[am]at hs';refine wpOp_step ho fun K' hK'=>?_;refine hs' l u w hl (fun e he hb=>⟨hpre e he hb,hφ e.on (hpre e he hb) ?_⟩) hR hi hdn K' (fun v w' a' hv hrel hR' ha'=>hK' _ _ ⟨_,ha'.trans (hp u v),fun j hj hjs=>?_,hR',fun j hj=>?_,fun j o' hj e he hb hle=>?_⟩)
  ·exact ju
  ·by_cases hji:j=i
   ·subst hji;simpa using hv
   have hj':l j=true:=gg;simpa [hji]using hst w w' hrel j _ (hφ j hj' hjs)
  ·by_cases hji:j=i
   ·subst hji;simp at hj
   have hj':l j=false:=gg;simpa [hji]using hi j hj'
  have hne:e.on≠i:=by rintro rfl;simp at hle
  have hle':l e.on=false:=by simpa [hne]using hle
  have hlj:=hdn j o' hj e he hb hle';have hji:j≠i:=by
   rintro rfl;rw[ho]at hj;injection hj with hj;subst hj;rw[hpre e he hb]at hle';cases hle'
  simpa [hji]using hlj
 ·rintro l b w hl ⟨u,rfl,hφ,hR,_,_⟩;exact jX
 ·exact jE
 ·intro i hi;simp[Array.getD]at hi
 ·have e:(fun j=>(Array.replicate ops.size false).getD j false)=fun _=>false:=by
   funext j
   simp[Array.getD]
  rw[e];exact h0
 intro j o hj e he hb _;simp[Array.getD]
end
theorem Bb{ops:Array Oper}{l:Nat->Bool}(h:∀(j:Nat) (o:Oper),ops[j]?=some o->∀e∈o.after,Region.binds .any e=true->l e.on=false->l j=false)(j i:Nat)(hc:((ops[j]?).map fun o=>o.after.toList.any fun e=>decide (e.on=i) && Region.binds .any e)=some true)(hi:l i=false):l j=false:=by
 cases ho:ops[j]? with
 |none=>rw[ho]at hc;cases hc
 |some o=>
  rw[ho]at hc;have hc:(o.after.toList.any fun e=>decide (e.on=i) && Region.binds .any e)=true:=by injection hc
  obtain⟨e,he,h2⟩:=List.any_eq_true.1 hc;rw[aw,decide_eq_true_iff]at h2;obtain⟨rfl,h3⟩:=h2;exact h j o ho e de h3 hi
theorem rgE{P:Program}{ops:Array Oper}{Q:Exit->Act->World->Prop}{id:Nat}{a:Act}{w:World}(S:List Nat){mk:(Nat->Value)->Act}
  (φ:Nat->Value->World->Prop) (R:(Nat->Bool)->(Nat->Value)->World->Prop)
  (h0:R (fun _=>false) (fun i=>a.tmps.toList.getD (S.getD i 0) undef) w.drew)
  (hstep:Ak (fun i o=>∀(l:Nat->Bool) u w,l i=false->(∀e∈o.after,Region.binds .any e=true->l e.on=true/\φ e.on (u e.on) w)->R l u w ->
   (∀j,l j=false->u j=a.tmps.toList.getD (S.getD j 0) undef)->(∀(j:Nat) (o:Oper),ops[j]?=some o->∀e∈o.after,Region.binds .any e=true->l e.on=false->l j=false) ->
   ∀K:Act->World->Prop,(∀v w' a',φ i v w'->True->R (fun j=>if j=i then true else l j) (fun j=>if j=i then v else u j) w'->a'=(mk u).put o.dst v->K a' w') ->
    if Region.wanted o (yielded ops (mk u).tmps)=true then Oper.wp P o (mk u) w K Q else K ((mk u).put o.dst undef) w) 0 ops.toList)
  (hdone:∀(l:Nat->Bool) u w,(∀i,i<ops.size->l i=true)->(∀i,i<ops.size->φ i (u i) w)->R l u w->Q .normal (mk u) w)
  (hc:(P.follows .mixedOrders && (List.range ops.size).all (fun i=>((ops[i]?).map fun o=>o.after.all fun e=>!Region.binds .any e || decide (e.on<i)).getD true) && Gc a.tmps.size ops.toList S)=true:=by kernel_rfl) (hst:∀w w':World,True->∀i v,φ i v w->φ i v w':=by exact fun _ _ _ _ _ h=>h) (hmk:∀u,Bt a S u=mk u:=by intro u;dsimp only[Bt,Bq,List.set,am,Nat.reduceAdd]):(Code.region id ops true).wp P Q a w:=
 have h1:=Bool.and_eq_true_iff.1 hc;have h2:=Bool.and_eq_true_iff.1 h1.1;Bp S h2.1 h2.2 h1.2 hmk φ R (fun _ _=>True) hst h0 hstep hdone
theorem Jd{P:Program}{ops:Array Oper}{Q:Exit->Act->World->Prop}{id:Nat}{a:Act}{w:World}(S:List Nat){mk:(Nat->Value)->Act}
  (φ:Nat->Value->World->Prop) (R:(Nat->Bool)->(Nat->Value)->World->Prop)
  (h0:R (fun _=>false) (fun i=>a.tmps.toList.getD (S.getD i 0) undef) w.drew)
  (hstep:Ak (fun i o=>∀(l:Nat->Bool) u w,l i=false->(∀e∈o.after,Region.binds .any e=true->l e.on=true/\φ e.on (u e.on) w)->Hid (R l u w)->Hid (∀(j:Nat) (o:Oper),ops[j]?=some o->∀e∈o.after,Region.binds .any e=true->l e.on=false->l j=false) ->
   ∀K:Act->World->Prop,(∀v w' a',φ i v w'->True->R (fun j=>if j=i then true else l j) (fun j=>if j=i then v else u j) w'->a'=(mk u).put o.dst v->K a' w') ->
    if Region.wanted o (yielded ops (mk u).tmps)=true then Oper.wp P o (mk u) w K Q else K ((mk u).put o.dst undef) w) 0 ops.toList)
  (hdone:∀(l:Nat->Bool) u w,(∀i,i<ops.size->l i=true)->(∀i,i<ops.size->φ i (u i) w)->R l u w->Q .normal (mk u) w)
  (hc:(P.follows .mixedOrders && (List.range ops.size).all (fun i=>((ops[i]?).map fun o=>o.after.all fun e=>!Region.binds .any e || decide (e.on<i)).getD true) && Gc a.tmps.size ops.toList S)=true:=by kernel_rfl) (hst:∀w w':World,True->∀i v,φ i v w->φ i v w':=by exact fun _ _ _ _ _ h=>h) (hmk:∀u,Bt a S u=mk u:=by intro u;dsimp only[Bt,Bq,List.set,am,Nat.reduceAdd]):(Code.region id ops true).wp P Q a w:=
 have h1:=Bool.and_eq_true_iff.1 hc;have h2:=Bool.and_eq_true_iff.1 h1.1;Bp S h2.1 h2.2 h1.2 hmk φ R (fun _ _=>True) hst h0 (fun i o ho l u w h1 h2 hR _ hd=>hstep i o ho l u w h1 h2 hR hd) hdone
theorem Np{a b:Bool}(h:a=false->b=false)(l:b=true):a=true:=by
 cases a with
 |true=>rfl
 |false=>rw[h rfl]at l;cases l
def Fb:List (Value->Prop)->Nat->Value->Prop
 |[],_,_=>True
 |p::_,0,v=>p v
 |_::ps,n+1,v=>Fb ps n v
def Xw:List (Value->Prop)->Nat->(Nat->Value)->Prop
 |[],_,_=>True
 |p::ps,i,u=>p (u i)/\Xw ps (i+1) u
theorem Qgl:∀(ps:List (Value->Prop)) (i:Nat) (u:Nat->Value),(∀j,j<ps.length->Fb ps j (u (i+j)))->Xw ps i u
 |[],_,_,_=>Ac
 |p::ps,i,u,h=>⟨h 0 (by simp),Qgl ps (i+1) u fun j hj=>by
  have:=h (j+1) (by simp;omega)
  rwa [show i+(j+1)=i+1+j by omega]at this⟩
theorem Qej:∀(ps qs:List (Value->Prop)) (j:Nat) (v:Value),j<ps.length->Fb (ps++qs) j v=Fb ps j v
 |[],_,_,_,h=>by simp at h
 |p::ps,_,0,_,_=>rfl
 |p::ps,qs,j+1,v,h=>Qej ps qs j v (by simpa using h)
theorem Qec:∀(ps:List (Value->Prop)) (p:Value->Prop) (v:Value),Fb (ps++[p]) ps.length v=p v
 |[],_,_=>rfl
 |_::ps,p,v=>Qec ps p v
def Qmo(ops:Array Oper)(j i:Nat):Bool:=((ops[j]?).map fun o=>o.after.toList.any fun e=>decide (e.on=i) && Region.binds .any e).getD false
section
variable {P:Program} {ops:Array Oper} {Q:Exit->Act->World->Prop} {a:Act} {mk:(Nat->Value)->Act} {R:(Nat->Bool)->(Nat->Value)->World->Prop} {G:World->Prop}
def Di:List Oper->List Nat
 |[]=>[]
 |o::os=>(match o.dst with|some d=>d|none=>100000+os.length)::Di os
def St(P:Program)(ops:Array Oper)(Q:Exit->Act->World->Prop)(a:Act)(mk:(Nat->Value)->Act)(R:(Nat->Bool)->(Nat->Value)->World->Prop)(G:World->Prop)(i:Nat)(o:Oper)(ps:List (Value->Prop))(p:Value->Prop):Prop:=
 ∀(l:Nat->Bool) (u:Nat->Value) (W:World),l i=false->(∀e∈o.after,Region.binds .any e=true->l e.on=true/\Fb ps e.on (u e.on))->Hid (R l u W)->G W->Hid (∀j,Qmo ops j i=true->l j=false/\u j=a.tmps.toList.getD ((Di ops.toList).getD j 0) undef) ->
  ∀K:Act->World->Prop,(∀v w' a',p v->R (fun j=>if j=i then true else l j) (fun j=>if j=i then v else u j) w'->a'=(mk u).put o.dst v->K a' w') ->
   if Region.wanted o (yielded ops (mk u).tmps)=true then Oper.wp P o (mk u) W K Q else K ((mk u).put o.dst undef) W
def Sq(P:Program)(ops:Array Oper)(Q:Exit->Act->World->Prop)(a:Act)(mk:(Nat->Value)->Act)(R:(Nat->Bool)->(Nat->Value)->World->Prop)(G:World->Prop):List Oper->Nat->List (Value->Prop)->Prop
 |[],n,ps=>∀l u W,(∀i,i<n->l i=true)->Xw ps 0 u->R l u W->Q .normal (mk u) W
 |o::os,i,ps=>∃p,St P ops Q a mk R G i o ps p/\Sq P ops Q a mk R G os (i+1) (ps++[p])
theorem Sq.all:∀(os:List Oper) (i:Nat) (ps:List (Value->Prop)),ps.length=i->Sq P ops Q a mk R G os i ps ->
  ∃qs:List (Value->Prop),qs.length=os.length/\(∀j o,os[j]?=some o->St P ops Q a mk R G (i+j) o ((ps++qs).take (i+j)) (Fb (ps++qs) (i+j)))/\∀l u W,(∀j,j<i+os.length->l j=true)->Xw (ps++qs) 0 u->R l u W->Q .normal (mk u) W
 |[],i,ps,hl,h=>⟨[],rfl,by simp,by simpa [Sq]using h⟩
 |o::os,i,ps,hl,⟨p,h1,h2⟩=>by
  obtain⟨qs,e,h3,h4⟩:=Sq.all os (i+1) (ps++[p]) (by simp[hl]) h2
  refine⟨p::qs,by simp[e],fun j o' ho=>?_,fun l u W hl'=>?_⟩
  ·cases j with
   |zero=>
    simp at ho
    subst ho
    have e1:(ps++p::qs).take (i+0)=ps:=by rw[Nat.add_zero,<-hl];simp
    have e2:Fb (ps++p::qs) (i+0)=p:=by
     funext v
     rw[Nat.add_zero,show ps++p::qs=(ps++[p])++qs by simp,Qej _ _ _ _ (by simp;omega),<-hl,Qec]
    rw[e1,e2]
    exact h1
   |succ j=>
    simp at ho
    have:=h3 j o' ho
    rw[List.append_assoc,List.singleton_append,show i+1+j=i+(j+1)by omega]at this
    exact this
  have:=h4 l u W fun j hj=>hl' j (by simp only[List.length_cons];omega)
  rwa [List.append_assoc,List.singleton_append]at this
theorem Qa7:∀(ps:List (Value->Prop)) (i j:Nat) (v:Value),j<i->Fb (ps.take i) j v=Fb ps j v
 |[],_,_,_,_=>by simp
 |p::ps,0,_,_,h=>absurd h (by omega)
 |p::ps,i+1,0,_,_=>rfl
 |p::ps,i+1,j+1,v,h=>Qa7 ps i j v (by omega)
theorem rgF{id:Nat}{w:World}(R:(Nat->Bool)->(Nat->Value)->World->Prop)(G:World->Prop)(hG:∀l u W,R l u W->G W)(h0:R (fun _=>false) (fun i=>a.tmps.toList.getD ((Di ops.toList).getD i 0) undef) w.drew)(h:Sq P ops Q a mk R G ops.toList 0 [])
  (hc:(P.follows .mixedOrders && (List.range ops.size).all (fun i=>((ops[i]?).map fun o=>o.after.all fun e=>!Region.binds .any e || decide (e.on<i)).getD true) && Gc a.tmps.size ops.toList (Di ops.toList))=true:=by kernel_rfl)
  (hmk:∀u,Bt a (Di ops.toList) u=mk u:=by intro u;dsimp only[Bt,Di,Bq,List.set,Nat.zero_add,Nat.reduceAdd,List.length_cons,List.length_nil]):(Code.region id ops true).wp P Q a w:=by
 have h1:=Bool.and_eq_true_iff.1 hc
 have h2:=Bool.and_eq_true_iff.1 h1.1
 obtain⟨qs,e,h3,h4⟩:=Sq.all ops.toList 0 [] rfl h
 rw[List.nil_append]at h3 h4
 have hac:=h2.2
 refine Bp (Di ops.toList) h2.1 hac h1.2 hmk (fun i v _=>Fb qs i v) R (fun _ _=>True) (fun _ _ _ _ _ h=>h) h0 ?_ ?_
 ·intro i o ho l u W hl hp hF hun hdep K hK
  simp only[Nat.zero_add]at *
  have hs:=h3 i o ho
  refine hs l u W hl (fun e he hb=>⟨(hp e he hb).1,?_⟩) hF (hG l u W hF) (fun j hj=>?_) K fun v w' a' hv hF' ha=>hK v w' a' hv Ac hF' ha
  ·have ho':ops[i]?=some o:=by simpa using ho
   have hlt:i<ops.size:=(Array.getElem?_eq_some_iff.1 ho').1
   have hh:=List.all_eq_true.1 hac i (List.mem_range.2 hlt)
   rw[ho']at hh
   have h5:=Array.all_eq_true_iff_forall_mem.1 hh e he
   have h6:e.on<i:=by simpa [hb]using h5
   rw[Qa7 _ _ _ _ h6]
   exact(hp e he hb).2
  unfold Qmo at hj
  cases hjo:ops[j]? with
  |none=>rw[hjo]at hj;cases hj
  |some o'=>
   rw[hjo]at hj
   simp only[Option.map_some,Option.getD_some]at hj
   obtain⟨e,he,h5⟩:=List.any_eq_true.1 hj
   rw[Bool.and_eq_true,decide_eq_true_iff]at h5
   obtain⟨rfl,h6⟩:=h5
   have:=hdep j o' hjo e (by simpa using he) h6 hl
   exact⟨this,hun j this⟩
 intro l u W hl hφ hF
 exact h4 l u W (fun j hj=>hl j (by rw[<-Array.length_toList];omega)) (Qgl _ _ _ fun j hj=>by rw[Nat.zero_add];exact hφ j (by rw[<-Array.length_toList];omega)) hF
def Jz(w W:World):Prop:=∀b o k,b<w.heap.size->W.cell? ⟨b,o,k⟩=w.cell? ⟨b,o,k⟩
theorem Zg{w W:World}(h:Below w.heap.size w W):Jz w W:=fun b o k hb=>h.cell (p:=⟨b,o,k⟩) hb
theorem rgB{id:Nat}{w:World}(h:Sq P ops Q a mk (fun _ _=>Below w.heap.size w) (Jz w) ops.toList 0 [])
  (hc:(P.follows .mixedOrders && (List.range ops.size).all (fun i=>((ops[i]?).map fun o=>o.after.all fun e=>!Region.binds .any e || decide (e.on<i)).getD true) && Gc a.tmps.size ops.toList (Di ops.toList))=true:=by kernel_rfl)
  (hmk:∀u,Bt a (Di ops.toList) u=mk u:=by intro u;dsimp only[Bt,Di,Bq,List.set,Nat.zero_add,Nat.reduceAdd,List.length_cons,List.length_nil]):(Code.region id ops true).wp P Q a w:=
 rgF (fun _ _=>Below w.heap.size w) (Jz w) (fun _ _ _ h=>Zg h) (Ao _ _).drew h hc hmk
section
variable {o:Oper} {os:List Oper} {i:Nat} {ps:List (Value->Prop)} {v:Value}
theorem sq(k:Sq P ops Q a mk R G os (i+1) (ps++[fun x=>x=v]))(h:St P ops Q a mk R G i o ps (fun x=>x=v):=by
  intro l u W hl hp hF hG hi K hK
  first|unfold Jz at hG|skip
  first|(simp[Region.binds,Fb]at hp;done)|simp[Region.binds,Fb]at hp|clear hp
  go_simp
  exact hK _ _ _ rfl hF.o (by first|rfl|(simp[Act.put,hp];done)|(simp[Act.put,hp];exact rfl))):Sq P ops Q a mk R G (o::os) i ps:=⟨_,h,k⟩
theorem sqC{C:World->Prop}{n:Nat}{w:World}(X:∀W,Below n w W->C W)(k:Sq P ops Q a mk (fun _ _=>Below n w) G os (i+1) (ps++[fun x=>x=v]))(h:(∀W,Below n w W->C W)->St P ops Q a mk (fun _ _=>Below n w) G i o ps (fun x=>x=v):=by
  intro X l u W hl hp hF hG hi K hK
  have HX:=X W hF.o
  first|unfold Jz at hG|skip
  first|(simp[Region.binds,Fb]at hp;done)|simp[Region.binds,Fb]at hp|clear hp
  go_simp
  refine HX.mono ?_
  rintro e w' ⟨rfl,hb⟩
  exact hK _ _ _ rfl (hF.o.trans (hb.mono hF.o.size)) (by first|rfl|(simp[Act.put,hp];done)|(simp[Act.put,hp];exact rfl))):Sq P ops Q a mk (fun _ _=>Below n w) G (o::os) i ps:=⟨_,h X,k⟩
theorem sqX(p:Value->Prop)(h:St P ops Q a mk R G i o ps p)(k:Sq P ops Q a mk R G os (i+1) (ps++[p])):Sq P ops Q a mk R G (o::os) i ps:=⟨_,h,k⟩
theorem dnB{b:Act}{F:World->Prop}(h:∀W,Hid (F W)->Q .normal b W)(e:∀u,Xw ps 0 u->mk u=b:=by
  intro u h
  simp only[Xw,List.nil_append,List.cons_append,Nat.zero_add,Nat.reduceAdd]at h
  simp only[h]
  exact rfl):Sq P ops Q a mk (fun _ _=>F) G [] i ps:=fun l u W hl hu hF=>by rw[e u hu];exact h W hF
end
end
structure PkS(w1:World)(g q:Nat)(code:List UInt8)(ls:List (List UInt8))(tb pk ix:Bool)(W:World):Prop where
 gr:w1.grownBy W (some g)
 rd:N5 W g (if pk then q+1 else q) code
 sz:W.heap.size=w1.heap.size+(if tb then 1 else 0)
 tr:tb=true->J1 W w1.heap.size ls
 ox:ix=true->tb=true
section
variable {w1 W:World} {g q:Nat} {code:List UInt8} {ls:List (List UInt8)} {tb pk ix:Bool}
theorem PkS.start(h:N5 w1 g q code):PkS w1 g q code ls false false false w1.drew:=⟨Gx (Cc (Ao _ _) _),h,rfl,fun h=>Bool.noConfusion h,fun h=>Bool.noConfusion h⟩
theorem PkS.lt(h:PkS w1 g q code ls tb pk ix W)(hg:g<w1.heap.size):∀b o k,b<w1.heap.size->¬(b=g)->W.cell? ⟨b,o,k⟩=w1.cell? ⟨b,o,k⟩:=fun b o k hb hne=>
 World.cell?_of_block (a:=⟨b,o,k⟩) (h.gr.block b hb fun e=>hne (Option.some.inj e))
theorem PkS.lay(h:PkS w1 g q code ls false pk ix W):W.heap.size=w1.heap.size/\PkS w1 g q code ls true pk ix (W.alloc (.cells (By ls).toArray 9)):=by
 have e:W.heap.size=w1.heap.size:=h.sz
 refine⟨e,Ae h.gr (World.grownBy_alloc W _ _),h.rd.below ((Ao _ _).alloc (An _) _),by simp[e],fun _=>?_,fun _=>rfl⟩
 rw[<-e]
 exact J1.new W ls
theorem PkS.pick(h:PkS w1 g q code ls tb false ix W)(hg:g<w1.heap.size){w':World}(hw:Qd2 W g q w'):PkS w1 g q code ls tb true ix w':=by
 obtain⟨k,rfl⟩:=hw
 obtain⟨h1,h2⟩:=Pj h.rd k
 refine⟨Ae h.gr h2,h1,by simpa using h.sz,fun e=>(h.tr e).grown h2 (by omega),h.ox⟩
theorem PkS.at_(h:PkS w1 g q code ls tb pk ix W)(ht:tb=true):PkS w1 g q code ls tb pk true W:=⟨h.gr,h.rd,h.sz,h.tr,fun _=>ht⟩
theorem PkS.txt(h:PkS w1 g q code ls tb pk ix W)(hx:ix=true){y:Nat}{tx:List UInt8}(hy:ls[y]?=some tx):W.cell? ⟨w1.heap.size,y,none⟩=some (.string ⟨tx.toArray⟩):=by
 have:=h.tr (h.ox hx)
 unfold J1 at this
 simp[World.cell?,this,By,hy]
end
def PK(w1:World)(g q:Nat)(code:List UInt8)(ls:List (List UInt8))(t p x:Nat)(l:Nat->Bool)(u:Nat->Value)(W:World):Prop:=PkS w1 g q code ls (l t) (l p) (l x) W
theorem PK.to{w1 W:World}{g q:Nat}{code:List UInt8}{ls:List (List UInt8)}{t p x:Nat}{l:Nat->Bool}{u:Nat->Value}(h:PK w1 g q code ls t p x l u W):PkS w1 g q code ls (l t) (l p) (l x) W:=h
section
variable {P:Program} {ops:Array Oper} {Q:Exit->Act->World->Prop} {a:Act} {mk:(Nat->Value)->Act} {G:World->Prop} {w1:World} {g q:Nat} {code:List UInt8} {ls:List (List UInt8)} {t p x:Nat}
theorem rgP{id:Nat}(ls:List (List UInt8))(t p x:Nat){w:World}(hR:N5 w g q code)(h:Sq P ops Q a mk (PK w g q code ls t p x) (fun W=>∀b o k,b<w.heap.size->¬(b=g)->W.cell? ⟨b,o,k⟩=w.cell? ⟨b,o,k⟩) ops.toList 0 [])
  (hc:(P.follows .mixedOrders && (List.range ops.size).all (fun i=>((ops[i]?).map fun o=>o.after.all fun e=>!Region.binds .any e || decide (e.on<i)).getD true) && Gc a.tmps.size ops.toList (Di ops.toList))=true:=by kernel_rfl)
  (hmk:∀u,Bt a (Di ops.toList) u=mk u:=by intro u;dsimp only[Bt,Di,Bq,List.set,Nat.zero_add,Nat.reduceAdd,List.length_cons,List.length_nil]):(Code.region id ops true).wp P Q a w:=
 rgF (PK w g q code ls t p x) _ (fun _ _ _ h=>PkS.lt h hR.any.lt) (PkS.start hR) h hc hmk
variable {o:Oper} {os:List Oper} {i:Nat} {ps:List (Value->Prop)} {v:Value}
theorem Qou(k:Sq P ops Q a mk (PK w1 g q code ls t p x) G os (i+1) (ps++[fun z=>z=v]))(h:St P ops Q a mk (PK w1 g q code ls t p x) G i o ps (fun z=>z=v):=by
  intro l u W hl hp hF hG hi K9 hK
  have h:=PK.to hF.o
  rw[hl]at h
  obtain⟨hs,hn⟩:=h.lay
  have hn:=Aa hn
  first|(simp[Region.binds,Fb]at hp;done)|simp[Region.binds,Fb]at hp|clear hp
  clear hG hi hF h
  go_simp
  exact hK _ _ _ rfl hn.o (by first|rfl|(simp[Act.put,hp];done)|(simp[Act.put,hp];exact rfl))):Sq P ops Q a mk (PK w1 g q code ls t p x) G (o::os) i ps:=⟨_,h,k⟩
theorem Qob{C:World->Prop}(hg:g<w1.heap.size)(X:∀W,N5 W g q code->C W)(k:Sq P ops Q a mk (PK w1 g q code ls t p x) G os (i+1) (ps++[fun z=>z=v]))(h:g<w1.heap.size->(∀W,N5 W g q code->C W)->St P ops Q a mk (PK w1 g q code ls t p x) G i o ps (fun z=>z=v):=by
  intro hg X l u W hl hp hF hG hi K9 hK
  have h:=PK.to hF.o
  rw[hl]at h
  have HX:=X W h.rd
  have Hh:=Aa (fun w' (hw:Qd2 W _ _ w')=>h.pick hg hw)
  first|(simp[Region.binds,Fb]at hp;done)|simp[Region.binds,Fb]at hp|clear hp
  clear hG hi hF h
  go_simp
  refine HX.mono ?_
  rintro e w' ⟨rfl,hw⟩
  exact hK _ _ _ rfl (Hh.o _ hw) (by first|rfl|(simp[Act.put,hp];done)|(simp[Act.put,hp];exact rfl))):Sq P ops Q a mk (PK w1 g q code ls t p x) G (o::os) i ps:=⟨_,h hg X,k⟩
theorem Qor(k:Sq P ops Q a mk (PK w1 g q code ls t p x) G os (i+1) (ps++[fun z=>z=v]))(h:St P ops Q a mk (PK w1 g q code ls t p x) G i o ps (fun z=>z=v):=by
  intro l u W hl hp hF hG hi K9 hK
  have h:=PK.to hF.o
  simp[Region.binds,Fb]at hp
  have hn:=Aa (h.at_ (by simp[hp]))
  clear hG hi hF h
  go_simp
  exact hK _ _ _ rfl hn.o (by first|rfl|(simp[Act.put,hp];done)|(simp[Act.put,hp];exact rfl))):Sq P ops Q a mk (PK w1 g q code ls t p x) G (o::os) i ps:=⟨_,h,k⟩
theorem Qov{y:Nat}{tx:List UInt8}(hy:ls[y]?=some tx)(k:Sq P ops Q a mk (PK w1 g q code ls t p x) G os (i+1) (ps++[fun z=>z=v]))(h:ls[y]?=some tx->St P ops Q a mk (PK w1 g q code ls t p x) G i o ps (fun z=>z=v):=by
  intro hy l u W hl hp hF hG hi K9 hK
  have h:=PK.to hF.o
  simp[Region.binds,Fb]at hp
  have hx:=h.txt (by simp[hp]) hy
  have hn:=Aa h
  clear hG hi hF h
  go_simp
  exact hK _ _ _ rfl hn.o (by first|rfl|(simp[Act.put,hp];done)|(simp[Act.put,hp];exact rfl))):Sq P ops Q a mk (PK w1 g q code ls t p x) G (o::os) i ps:=⟨_,h hy,k⟩
theorem sqZ{R:(Nat->Bool)->(Nat->Value)->World->Prop}(k:Sq P ops Q a mk R G os (i+1) (ps++[fun z=>z=v]))(h:St P ops Q a mk R G i o ps (fun z=>z=v):=by
  intro l u W hl hp hF hG hi K hK
  first|(simp[Region.binds,Fb]at hp;done)|simp[Region.binds,Fb]at hp|clear hp
  go_simp
  rw[if_neg (by simp;omega)]
  go_simp
  exact hK _ _ _ rfl hF.o (by first|rfl|(simp[Act.put,hp];done)|(simp[Act.put,hp];exact rfl))):Sq P ops Q a mk R G (o::os) i ps:=⟨_,h,k⟩
theorem dnP{b:Act}(h:∀W,Hid (PkS w1 g q code ls true true true W)->Q .normal b W)(hi:t<i/\p<i/\x<i)(e:∀u,Xw ps 0 u->mk u=b:=by
  intro u h
  simp only[Xw,List.nil_append,List.cons_append,Nat.zero_add,Nat.reduceAdd]at h
  simp only[h]
  exact rfl):Sq P ops Q a mk (PK w1 g q code ls t p x) G [] i ps:=fun l u W hl hu hF=>by
 have hF:=PK.to hF
 rw[hl t hi.1,hl p hi.2.1,hl x hi.2.2]at hF
 rw[e u hu]
 exact h W hF
end
end Go.Proofs.YtmmhmlmfhpfgbaaGreatDoor
