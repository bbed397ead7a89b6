/- Texts joined. Conditions: as each theorem names them. -/
import Derived.Deep.DeepAppendRoom
import Derived.Deep.DeepAppendWide
import Derived.Test.YtkigmebejmmikaaGreatDoorG13
set_option maxRecDepth 100000
set_option maxHeartbeats 32000000
set_option linter.unusedVariables false
set_option linter.unusedSimpArgs false
namespace Go.Proofs.YtkigmebejmmikaaGreatDoor
open Go.RowKit Go.Proofs.Tryz
def LN(K:List UInt8->Option (Vl × List UInt8))(t1:List UInt8)(b1:Bool)(vs:List Vl)(tt:List UInt8):Prop:=
 (b1=true->vs=[])/\(b1=false->A0 K 1000 t1=G0 vs (A0 K (1000 - vs.length) tt))/\vs.length+tt.length<=t1.length
def LM(K:List UInt8->Option (Vl × List UInt8))(t1:List UInt8)(b1:Bool)(vs:List Vl)(tt:List UInt8)(bb:Bool):Prop:=
 (if b1 then none else A0 K 1000 t1)=(if bb then none else match Ae 93 tt with|some z=>some (vs,z)|none=>none)
theorem LN.init(K:List UInt8->Option (Vl × List UInt8))(t1:List UInt8)(b1:Bool):LN K t1 b1 [] t1:=
 ⟨fun _=>rfl,fun _=>by cases h:A0 K 1000 t1<;>simp[G0,h],by simp⟩
theorem LN.step{K:List UInt8->Option (Vl × List UInt8)}{t1 tt t' t'':List UInt8}{vs:List Vl}{v:Vl}(h:LN K t1 false vs tt)(hK:K tt=some (v,t'))(hg:t'.length<tt.length)(hc:Ae 44 t'=some t'')(hl:t1.length<=900):LN K t1 false (vs++[v]) t'':=by
 obtain⟨_,h2,h3⟩:=h
 have e:t'=44::t'':=Ax.1 hc
 refine⟨fun h=>Bool.noConfusion h,fun _=>?_,?_⟩
 ·rw[h2 rfl]
  obtain⟨m,hm⟩:∃m,1000 - vs.length=m+1:=⟨999 - vs.length,by omega⟩
  rw[hm,show 1000 - (vs++[v]).length=m by simp;omega]
  conv=>lhs;unfold A0
  rw[hK]
  simp only[hc]
  cases A0 K m t''<;>simp[G0]
 rw[e]at hg
 simp at hg ⊢
 omega
theorem LN.brk{K:List UInt8->Option (Vl × List UInt8)}{t1 tt t':List UInt8}{vs:List Vl}{v:Vl}(h:LN K t1 false vs tt)(hx:∀x,K tt=some x->v=x.1/\t'=x.2)(hc:Aj [44] t' (K tt).isNone=none)(hl:t1.length<=900):LM K t1 false (vs++[v]) t' (K tt).isNone:=by
 obtain⟨_,h2,h3⟩:=h
 unfold LM
 rw[if_neg (by decide),h2 rfl]
 obtain⟨m,hm⟩:∃m,1000 - vs.length=m+1:=⟨999 - vs.length,by omega⟩
 rw[hm]
 unfold A0
 cases hk:K tt with
 |none=>rfl
 |some y=>
  obtain⟨e1,e2⟩:=hx y hk
  obtain⟨y1,y2⟩:=y
  simp only at e1 e2
  subst e1 e2
  rw[hk,Be]at hc
  simp only[Option.isNone_some,Bool.false_eq_true,if_false]at hc ⊢
  rw[hc]
  simp only
  cases Ae 93 t'<;>simp[G0]
theorem LN.bad{K:List UInt8->Option (Vl × List UInt8)}{t1 tt:List UInt8}{vs:List Vl}(h:LN K t1 true vs tt):LM K t1 true vs tt true:=by simp[LM]
theorem LM.fin{K:List UInt8->Option (Vl × List UInt8)}{t t1 tt:List UInt8}{b1 bb:Bool}{vs:List Vl}(h:LM K t1 b1 vs tt bb)(h1:t1=(Aj [91] t false).getD t)(hb1:b1=(Aj [91] t false).isNone)(h2:Aj [93] t1 b1=none):
  Kl K 1000 t=if (Aj [93] tt bb).isNone || decide (20<vs.length)then none else some (.mk 91 [] 0 vs,(Aj [93] tt bb).getD tt):=by
 have h3:=h
 unfold LM at h3
 rw[Be]at h1 hb1 h2 ⊢
 simp only[Bool.false_eq_true,if_false]at h1 hb1
 unfold Kl
 cases hy:Ae 91 t with
 |none=>
  rw[hy]at hb1
  simp only[Option.isNone_none]at hb1
  subst hb1
  simp only[if_true]at h3
  simp only
  cases bb with
  |true=>simp
  |false=>
   simp only[Bool.false_eq_true,if_false]at h3 ⊢
   cases hz:Ae 93 tt with
   |none=>simp
   |some z=>rw[hz]at h3;cases h3
 |some r=>
  rw[hy]at h1 hb1
  simp only[Option.isNone_some,Option.getD_some]at h1 hb1
  subst h1 hb1
  simp only[Bool.false_eq_true,if_false]at h2 h3
  simp only
  rw[h2]
  simp only
  rw[h3]
  cases bb with
  |true=>simp
  |false=>
   simp only[Bool.false_eq_true,if_false]
   cases Ae 93 tt with
   |none=>simp
   |some z=>
    simp only[Option.isNone_some,Bool.false_or,decide_eq_true_eq,Option.getD_some]
    by_cases h:vs.length<=20
    ·rw[if_pos h,if_neg (by omega)]
    rw[if_neg h,if_pos (by omega)]
theorem Qdo(w:World)(T:TypeId)(base:Nat)(h:base<=w.heap.size):(w.alloc (.cells #[] T)).ownsRow base T 1 (.slice (some ⟨w.heap.size,0,none⟩) 0 0) 0 []:=
 ⟨rfl,.inr ⟨w.heap.size,0,#[],rfl,h,by have:=heap_alloc_new w (.cells #[] T);simpa using this,As _,by decide,rfl,rfl⟩⟩
section
variable {P:Program}
end
section
attribute [local go_sem] Qjy Qiu Qil Qgp ByteArray.mk_append_mk
structure Gw(vo vo':Value)(w w':World):Prop where
 gr:w.grownBy w' vo.ownBlock
 own:vo'.ownBlock=vo.ownBlock\/∃k,vo'.ownBlock=some k/\w.heap.size<=k
theorem Gw.refl(vo:Value)(w:World):Gw vo vo w w:=⟨World.grownBy.refl _ _,.inl rfl⟩
theorem Gw.trans{v1 v2 v3:Value}{a b c:World}(h:Gw v1 v2 a b)(k:Gw v2 v3 b c):Gw v1 v3 a c:=by
 refine⟨⟨k.gr.os.trans h.gr.os,k.gr.tape.trans h.gr.tape,k.gr.output.trans h.gr.output,ac h.gr.size k.gr.size,fun x hx hne=>(k.gr.block x (ab hx h.gr.size) ?_).trans (h.gr.block x hx hne)⟩,?_⟩
 ·rcases h.own with e|⟨y,e,hy⟩
  ·rw[e];exact hne
  rw[e];intro he;injection he with he;omega
 rcases k.own with e|⟨y,e,hy⟩
 ·rw[e];exact h.own
 exact .inr ⟨y,e,ac h.gr.size hy⟩
theorem Gw.of{v:Value}{a b:World}(hb:Below a a b):Gw v v a b:=⟨⟨hb.os,hb.tape,hb.output,hb.size,fun k hk _=>hb.block k hk⟩,.inl rfl⟩
end
def Ck:List (Value->Prop)->Nat->Value->Prop
 |[],_,_=>True
 |p::_,0,v=>p v
 |_::ps,n+1,v=>Ck ps n v
def Te:List (Value->Prop)->Nat->(Nat->Value)->Prop
 |[],_,_=>True
 |p::ps,i,u=>p (u i)/\Te ps (i+1) u
theorem Qcm:∀(ps:List (Value->Prop)) (i:Nat) (u:Nat->Value),(∀j,j<ps.length->Ck ps j (u (i+j)))->Te ps i u
 |[],_,_,_=>Ad
 |p::ps,i,u,h=>⟨h 0 (by simp),Qcm ps (i+1) u fun j hj=>by
  have:=h (j+1) (by simp;omega)
  rwa [show i+(j+1)=i+1+j by omega]at this⟩
theorem Qae:∀(ps qs:List (Value->Prop)) (j:Nat) (v:Value),j<ps.length->Ck (ps++qs) j v=Ck ps j v
 |[],_,_,_,h=>by simp at h
 |p::ps,_,0,_,_=>rfl
 |p::ps,qs,j+1,v,h=>Qae ps qs j v (by simpa using h)
theorem Qar:∀(ps:List (Value->Prop)) (p:Value->Prop) (v:Value),Ck (ps++[p]) ps.length v=p v
 |[],_,_=>rfl
 |_::ps,p,v=>Qar ps p v
def Qh8(ops:Array Oper)(j i:Nat):Bool:=((ops[j]?).map fun o=>o.after.toList.any fun e=>decide (e.on=i) && Region.binds .any e).getD false
section
variable {P:Program} {ops:Array Oper} {Q:Exit->Act->World->Prop} {a:Act} {mk:(Nat->Value)->Act} {R:(Nat->Bool)->(Nat->Value)->World->Prop} {G:World->Prop}
def D9:List Oper->List Nat
 |[]=>[]
 |o::os=>(match o.dst with|some d=>d|none=>100000+os.length)::D9 os
def St(P:Program)(ops:Array Oper)(Q:Exit->Act->World->Prop)(a:Act)(mk:(Nat->Value)->Act)(R:(Nat->Bool)->(Nat->Value)->World->Prop)(G:World->Prop)(i:Nat)(o:Oper)(ps:List (Value->Prop))(p:Value->Prop):Prop:=
 ∀(l:Nat->Bool) (u:Nat->Value) (W:World),l i=false->(∀e∈o.after,Region.binds .any e=true->l e.on=true/\Ck ps e.on (u e.on))->Hid (R l u W)->G W->Hid (∀j,Qh8 ops j i=true->l j=false/\u j=a.tmps.toList.getD ((D9 ops.toList).getD j 0) undef) ->
  ∀K:Act->World->Prop,(∀v w' a',p v->R (fun j=>if j=i then true else l j) (fun j=>if j=i then v else u j) w'->a'=(mk u).put o.dst v->K a' w') ->
   if Region.wanted o (yielded ops (mk u).tmps)=true then Oper.wp P o (mk u) W K Q else K ((mk u).put o.dst undef) W
def Sq(P:Program)(ops:Array Oper)(Q:Exit->Act->World->Prop)(a:Act)(mk:(Nat->Value)->Act)(R:(Nat->Bool)->(Nat->Value)->World->Prop)(G:World->Prop):List Oper->Nat->List (Value->Prop)->Prop
 |[],n,ps=>∀l u W,(∀i,i<n->l i=true)->Te ps 0 u->R l u W->Q .normal (mk u) W
 |o::os,i,ps=>∃p,St P ops Q a mk R G i o ps p/\Sq P ops Q a mk R G os (i+1) (ps++[p])
theorem Sq.all:∀(os:List Oper) (i:Nat) (ps:List (Value->Prop)),ps.length=i->Sq P ops Q a mk R G os i ps ->
  ∃qs:List (Value->Prop),qs.length=os.length/\(∀j o,os[j]?=some o->St P ops Q a mk R G (i+j) o ((ps++qs).take (i+j)) (Ck (ps++qs) (i+j)))/\∀l u W,(∀j,j<i+os.length->l j=true)->Te (ps++qs) 0 u->R l u W->Q .normal (mk u) W
 |[],i,ps,hl,h=>⟨[],rfl,by simp,by simpa [Sq]using h⟩
 |o::os,i,ps,hl,⟨p,h1,h2⟩=>by
  obtain⟨qs,e,h3,h4⟩:=Sq.all os (i+1) (ps++[p]) (by simp[hl]) h2
  refine⟨p::qs,by simp[e],fun j o' ho=>?_,fun l u W hl'=>?_⟩
  ·cases j with
   |zero=>
    simp at ho
    subst ho
    have e1:(ps++p::qs).take (i+0)=ps:=by rw[Nat.add_zero,<-hl];simp
    have e2:Ck (ps++p::qs) (i+0)=p:=by
     funext v
     rw[Nat.add_zero,show ps++p::qs=(ps++[p])++qs by simp,Qae _ _ _ _ (by simp;omega),<-hl,Qar]
    rw[e1,e2]
    exact h1
   |succ j=>
    simp at ho
    have:=h3 j o' ho
    rw[List.append_assoc,List.singleton_append,show i+1+j=i+(j+1)by omega]at this
    exact this
  have:=h4 l u W fun j hj=>hl' j (by simp only[List.length_cons];omega)
  rwa [List.append_assoc,List.singleton_append]at this
theorem Xl:∀(ps:List (Value->Prop)) (i j:Nat) (v:Value),j<i->Ck (ps.take i) j v=Ck ps j v
 |[],_,_,_,_=>by simp
 |p::ps,0,_,_,h=>absurd h (by omega)
 |p::ps,i+1,0,_,_=>rfl
 |p::ps,i+1,j+1,v,h=>Xl ps i j v (by omega)
theorem Z9{id:Nat}{w:World}(R:(Nat->Bool)->(Nat->Value)->World->Prop)(G:World->Prop)(hG:∀l u W,R l u W->G W)(h0:R (fun _=>false) (fun i=>a.tmps.toList.getD ((D9 ops.toList).getD i 0) undef) w.drew)(h:Sq P ops Q a mk R G ops.toList 0 [])
  (hc:(P.follows .mixedOrders && (List.range ops.size).all (fun i=>((ops[i]?).map fun o=>o.after.all fun e=>!Region.binds .any e || decide (e.on<i)).getD true) && Gd a.tmps.size ops.toList (D9 ops.toList))=true:=by kernel_rfl)
  (hmk:∀u,Bn a (D9 ops.toList) u=mk u:=by intro u;dsimp only[Bn,D9,Bk,List.set,Nat.zero_add,Nat.reduceAdd,List.length_cons,List.length_nil]):(Code.region id ops true).wp P Q a w:=by
 have h1:=Bool.and_eq_true_iff.1 hc
 have h2:=Bool.and_eq_true_iff.1 h1.1
 obtain⟨qs,e,h3,h4⟩:=Sq.all ops.toList 0 [] rfl h
 rw[List.nil_append]at h3 h4
 have hac:=h2.2
 refine Bh (D9 ops.toList) h2.1 hac h1.2 hmk (fun i v _=>Ck qs i v) R (fun _ _=>True) (fun _ _ _ _ _ h=>h) h0 ?_ ?_
 ·intro i o ho l u W hl hp hF hun hdep K hK
  simp only[Nat.zero_add]at *
  have hs:=h3 i o ho
  refine hs l u W hl (fun e he hb=>⟨(hp e he hb).1,?_⟩) hF (hG l u W hF) (fun j hj=>?_) K fun v w' a' hv hF' ha=>hK v w' a' hv Ad hF' ha
  ·have ho':ops[i]?=some o:=by simpa using ho
   have hlt:i<ops.size:=(Array.getElem?_eq_some_iff.1 ho').1
   have hh:=List.all_eq_true.1 hac i (List.mem_range.2 hlt)
   rw[ho']at hh
   have h5:=Array.all_eq_true_iff_forall_mem.1 hh e he
   have h6:e.on<i:=by simpa [hb]using h5
   rw[Xl _ _ _ _ h6]
   exact(hp e he hb).2
  unfold Qh8 at hj
  cases hjo:ops[j]? with
  |none=>rw[hjo]at hj;cases hj
  |some o'=>
   rw[hjo]at hj
   simp only[Option.map_some,Option.getD_some]at hj
   obtain⟨e,he,h5⟩:=List.any_eq_true.1 hj
   rw[Bool.and_eq_true,decide_eq_true_iff]at h5
   obtain⟨rfl,h6⟩:=h5
   have:=hdep j o' hjo e (by simpa using he) h6 hl
   exact⟨this,hun j this⟩
 intro l u W hl hφ hF
 exact h4 l u W (fun j hj=>hl j (by rw[<-Array.length_toList];omega)) (Qcm _ _ _ fun j hj=>by rw[Nat.zero_add];exact hφ j (by rw[<-Array.length_toList];omega)) hF
def Dz(w W:World):Prop:=∀b o k,b<w.heap.size->W.cell? ⟨b,o,k⟩=w.cell? ⟨b,o,k⟩
theorem M3{w W:World}(h:Below w.heap.size w W):Dz w W:=fun b o k hb=>h.cell (p:=⟨b,o,k⟩) hb
theorem rgB{id:Nat}{w:World}(h:Sq P ops Q a mk (fun _ _=>Below w.heap.size w) (Dz w) ops.toList 0 [])
  (hc:(P.follows .mixedOrders && (List.range ops.size).all (fun i=>((ops[i]?).map fun o=>o.after.all fun e=>!Region.binds .any e || decide (e.on<i)).getD true) && Gd a.tmps.size ops.toList (D9 ops.toList))=true:=by kernel_rfl)
  (hmk:∀u,Bn a (D9 ops.toList) u=mk u:=by intro u;dsimp only[Bn,D9,Bk,List.set,Nat.zero_add,Nat.reduceAdd,List.length_cons,List.length_nil]):(Code.region id ops true).wp P Q a w:=
 Z9 (fun _ _=>Below w.heap.size w) (Dz w) (fun _ _ _ h=>M3 h) (Ay _ _).drew h hc hmk
theorem rgD{id:Nat}{w:World}(h:Sq P ops Q a mk (fun _ _ W=>∃k,W=w.drewN k) (fun W=>∀p,W.cell? p=w.cell? p) ops.toList 0 [])
  (hc:(P.follows .mixedOrders && (List.range ops.size).all (fun i=>((ops[i]?).map fun o=>o.after.all fun e=>!Region.binds .any e || decide (e.on<i)).getD true) && Gd a.tmps.size ops.toList (D9 ops.toList))=true:=by kernel_rfl)
  (hmk:∀u,Bn a (D9 ops.toList) u=mk u:=by intro u;dsimp only[Bn,D9,Bk,List.set,Nat.zero_add,Nat.reduceAdd,List.length_cons,List.length_nil]):(Code.region id ops true).wp P Q a w:=
 Z9 (fun _ _ W=>∃k,W=w.drewN k) (fun W=>∀p,W.cell? p=w.cell? p) (fun _ _ W h p=>by obtain⟨k,rfl⟩:=h;rfl) ⟨1,rfl⟩ h hc hmk
section
variable {o:Oper} {os:List Oper} {i:Nat} {ps:List (Value->Prop)} {v:Value}
theorem sq(k:Sq P ops Q a mk R G os (i+1) (ps++[fun x=>x=v]))(h:St P ops Q a mk R G i o ps (fun x=>x=v):=by
  intro l u W hl hp hF hG hi K hK
  first|unfold Dz at hG|skip
  first|(simp[Region.binds,Ck]at hp;done)|simp[Region.binds,Ck]at hp|clear hp
  go_simp
  exact hK _ _ _ rfl hF.o (by first|rfl|(simp[Act.put,hp];done)|(simp[Act.put,hp];exact rfl))):Sq P ops Q a mk R G (o::os) i ps:=⟨_,h,k⟩
theorem sqC{C:World->Prop}{n:Nat}{w:World}(X:∀W,Below n w W->C W)(k:Sq P ops Q a mk (fun _ _=>Below n w) G os (i+1) (ps++[fun x=>x=v]))(h:(∀W,Below n w W->C W)->St P ops Q a mk (fun _ _=>Below n w) G i o ps (fun x=>x=v):=by
  intro X l u W hl hp hF hG hi K hK
  have HX:=X W hF.o
  first|unfold Dz at hG|skip
  first|(simp[Region.binds,Ck]at hp;done)|simp[Region.binds,Ck]at hp|clear hp
  go_simp
  refine HX.mono ?_
  rintro e w' ⟨rfl,hb⟩
  exact hK _ _ _ rfl (hF.o.trans (hb.mono hF.o.size)) (by first|rfl|(simp[Act.put,hp];done)|(simp[Act.put,hp];exact rfl))):Sq P ops Q a mk (fun _ _=>Below n w) G (o::os) i ps:=⟨_,h X,k⟩
theorem Gy(p:Value->Prop)(h:St P ops Q a mk R G i o ps p)(k:Sq P ops Q a mk R G os (i+1) (ps++[p])):Sq P ops Q a mk R G (o::os) i ps:=⟨_,h,k⟩
theorem dn{b:Act}(h:∀l u W,(∀j,j<i->l j=true)->Te ps 0 u->Hid (R l u W)->Q .normal b W)(e:∀u,Te ps 0 u->mk u=b:=by
  intro u h
  simp only[Te,List.nil_append,List.cons_append,Nat.zero_add,Nat.reduceAdd]at h
  simp only[h]
  exact rfl):Sq P ops Q a mk R G [] i ps:=fun l u W hl hu hF=>by rw[e u hu];exact h l u W hl hu hF
theorem dnB{b:Act}{F:World->Prop}(h:∀W,Hid (F W)->Q .normal b W)(e:∀u,Te ps 0 u->mk u=b:=by
  intro u h
  simp only[Te,List.nil_append,List.cons_append,Nat.zero_add,Nat.reduceAdd]at h
  simp only[h]
  exact rfl):Sq P ops Q a mk (fun _ _=>F) G [] i ps:=fun l u W hl hu hF=>by rw[e u hu];exact h W hF
end
end
def Mk(w0:World)(cs:List Value)(la ls:Bool)(ua:Value)(W:World):Prop:=
 Below w0 w0 W/\(ls=true->la=true)/\(la=true->∃b,ua=.pointer (some ⟨b,0,none⟩)/\w0.heap.size<=b/\b<W.heap.size/\W.there b 0 cs.length/\(ls=true->W.rangeAt b 0 cs))
section
variable {w0 W W':World} {cs:List Value} {la ls:Bool} {ua:Value}
theorem Mk.start{us:List Value}:Mk w0 us false false ua w0.drew:=⟨(Ay _ _).drew,by simp,by simp⟩
theorem Mk.below(h:Mk w0 cs la ls ua W)(hb:Below W W W'):Mk w0 cs la ls ua W':=by
 refine⟨h.1.trans (hb.mono h.1.size),h.2.1,fun hl=>?_⟩;obtain⟨b,e,h1,h2,h3,h4⟩:=h.2.2 hl;exact⟨b,e,h1,ab h2 hb.size,Bt h3 h2 hb,fun hs=>Av (h4 hs) h2 hb⟩
theorem Mk.alloc(h:Mk w0 cs false ls ua W)(zs:List Value)(hz:zs.length=cs.length)(T:TypeId):Mk w0 cs true ls W.heap.size (W.alloc (.cells zs.toArray T)):=by
 have hs:ls=false:=by cases hq:ls with|false=>rfl|true=>exact absurd (h.2.1 hq) aH
 subst hs;exact⟨h.1.alloc h.1.size _,by simp,fun _=>⟨_,rfl,h.1.size,by simp,by rw[<-hz];exact D2 W zs T,by simp⟩⟩
theorem Mk.store(h:Mk w0 cs la ls ua W){b:Nat}(hl:la=true)(e:ua=b):Mk w0 cs la true ua (W.setCells b 0 cs):=by
 obtain⟨b',e',h1,h2,h3,_⟩:=h.2.2 hl;rw[e]at e';injection e' with e';injection e' with e';injection e' with e';subst e';exact⟨Aw _ h1 _ _ _ h.1,fun _=>hl,fun _=>⟨b,e,h1,by rw[Cm];exact h2,ah h3 _ _ _,fun _=>aa _ _ _ _ h3⟩⟩
end
section
variable {P:Program} {ops:Array Oper} {Q:Exit->Act->World->Prop} {a:Act} {mk:(Nat->Value)->Act} {R:(Nat->Bool)->(Nat->Value)->World->Prop} {G:World->Prop} {o:Oper} {os:List Oper} {i:Nat} {ps:List (Value->Prop)} {v:Value}
theorem sqB{C:World->Prop}{n:Nat}{w:World}(hB:∀l u W,R l u W->Below n w W)(hst:∀l u W W',R l u W->Below W W W'->R l u W')(X:∀W,Below n w W->C W)(k:Sq P ops Q a mk R G os (i+1) (ps++[fun x=>x=v]))
  (h:(∀l u W,R l u W->Below n w W)->(∀l u W W',R l u W->Below W W W'->R l u W')->(∀W,Below n w W->C W)->St P ops Q a mk R G i o ps (fun x=>x=v):=by
  intro hB hst X l u W hl hp hF hG hi K hK;have HX:=X W (hB _ _ _ hF.o);first|unfold Dz at hG|skip
  first|(simp[Region.binds,Ck]at hp;done)|simp[Region.binds,Ck]at hp|clear hp
  clear hB;have Hst:=Aa hst;clear hst X;go_simp;refine HX.mono ?_;rintro e w' ⟨rfl,hb⟩;exact hK _ _ _ rfl (Hst.o _ _ _ _ hF.o hb) bS):Sq P ops Q a mk R G (o::os) i ps:=⟨_,h hB hst X,k⟩
end
end Go.Proofs.YtkigmebejmmikaaGreatDoor
