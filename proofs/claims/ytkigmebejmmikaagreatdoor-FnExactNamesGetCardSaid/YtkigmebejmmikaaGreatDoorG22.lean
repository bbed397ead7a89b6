/- Texts joined. Conditions: as each theorem names them. -/
import Derived.Test.YtkigmebejmmikaaGreatDoorG21
set_option maxRecDepth 100000
set_option maxHeartbeats 32000000
set_option linter.unusedVariables false
set_option linter.unusedSimpArgs false
namespace Go.Proofs.YtkigmebejmmikaaGreatDoor
open Go.RowKit Go.Proofs.Tryz
structure Pj(Q:World->Value->Value->Value->Prop)(w1:World)(c m x y z a b e:Bool)(uc um ux uy uz ua ub ue:Value)(W:World):Prop where
 st:Fw Q w1 c m x y z a b e uc um ux uy uz ua ub ue W
 om:m=true->c=true
 ox:x=true->m=true
 oy:y=true->m=true
 oz:z=true->m=true
 oa:a=true->x=true
 ob:b=true->y=true
 oe:e=true->z=true
theorem Qa{a b:Bool}(h:a=true->b=true)(hb:b=false):a=false:=by
 cases a with
 |false=>rfl
 |true=>exact absurd ((h rfl).symm.trans hb) (by decide)
section
variable {Q:World->Value->Value->Value->Prop} {w1 W W':World} {c m x y z a b e:Bool} {uc um ux uy uz ua ub ue vp vr vk:Value}
theorem Pj.start:Pj Q w1 false false false false false false false false uc um ux uy uz ua ub ue w1:=
 ⟨⟨fun _=>rfl,fun h=>Bool.noConfusion h⟩,id,id,id,id,id,id,id⟩
theorem Pj.cells(hQ:∀W vp vr vk,Q W vp vr vk->Below w1.heap.size w1 W)(h:Pj Q w1 c m x y z a b e uc um ux uy uz ua ub ue W):∀b o k,b<w1.heap.size->W.cell? ⟨b,o,k⟩=w1.cell? ⟨b,o,k⟩:=by
 cases c with
 |false=>rw[h.st.no rfl];intros;rfl
 |true=>obtain⟨vp,vr,vk,hq,_⟩:=h.st.yes rfl;exact fun b o k hb=>(hQ _ _ _ _ hq).cell (p:=⟨b,o,k⟩) hb
theorem Pj.call(h:Pj Q w1 c m x y z a b e uc um ux uy uz ua ub ue W)(hc:c=false):W=w1/\∀{W' vp vr vk},Q W' vp vr vk->Pj Q w1 true m x y z a b e (.tuple #[vp,vr,vk]) um ux uy uz ua ub ue W':=by
 have hm:=Qa h.om hc
 have hx:=Qa h.ox hm
 have hy:=Qa h.oy hm
 have hz:=Qa h.oz hm
 exact⟨h.st.no hc,fun hq=>⟨Fw.call hm hx hy hz (Qa h.oa hx) (Qa h.ob hy) (Qa h.oe hz) hq,fun _=>rfl,h.ox,h.oy,h.oz,h.oa,h.ob,h.oe⟩⟩
theorem Pj.move(h:Pj Q w1 c m x y z a b e uc um ux uy uz ua ub ue W)(hc:c=true):Pj Q w1 c true x y z a b e uc uc ux uy uz ua ub ue W:=
 ⟨h.st.move hc,fun _=>hc,fun _=>rfl,fun _=>rfl,fun _=>rfl,h.oa,h.ob,h.oe⟩
theorem Pj.get(h:Pj Q w1 c m x y z a b e uc um ux uy uz ua ub ue W)(hm:m=true):∃vp vr vk,um=.tuple #[vp,vr,vk]/\Pj Q w1 c m true y z a b e uc um vp uy uz ua ub ue W/\Pj Q w1 c m x true z a b e uc um ux vr uz ua ub ue W/\Pj Q w1 c m x y true a b e uc um ux uy vk ua ub ue W:=by
 obtain⟨vp,vr,vk,e1,h1,h2,h3⟩:=h.st.get (h.om hm) hm
 exact⟨vp,vr,vk,e1,⟨h1,h.om,fun _=>hm,h.oy,h.oz,fun _=>rfl,h.ob,h.oe⟩,⟨h2,h.om,h.ox,fun _=>hm,h.oz,h.oa,fun _=>rfl,h.oe⟩,⟨h3,h.om,h.ox,h.oy,fun _=>hm,h.oa,h.ob,fun _=>rfl⟩⟩
theorem Pj.as0(h:Pj Q w1 c m x y z a b e uc um ux uy uz ua ub ue W)(hx:x=true):Pj Q w1 c m x y z true b e uc um ux uy uz ux ub ue W:=⟨h.st.as0 hx,h.om,h.ox,h.oy,h.oz,fun _=>hx,h.ob,h.oe⟩
theorem Pj.as1(h:Pj Q w1 c m x y z a b e uc um ux uy uz ua ub ue W)(hy:y=true):Pj Q w1 c m x y z a true e uc um ux uy uz ua uy ue W:=⟨h.st.as1 hy,h.om,h.ox,h.oy,h.oz,h.oa,fun _=>hy,h.oe⟩
theorem Pj.as2(h:Pj Q w1 c m x y z a b e uc um ux uy uz ua ub ue W)(hz:z=true):Pj Q w1 c m x y z a b true uc um ux uy uz ua ub uz W:=⟨h.st.as2 hz,h.om,h.ox,h.oy,h.oz,h.oa,h.ob,fun _=>hz⟩
end
def RK(Q:World->Value->Value->Value->Prop)(w1:World)(c:Nat)(l:Nat->Bool)(u:Nat->Value)(W:World):Prop:=
 Pj Q w1 (l c) (l (c+1)) (l (c+2)) (l (c+3)) (l (c+4)) (l (c+5)) (l (c+6)) (l (c+7)) (u c) (u (c+1)) (u (c+2)) (u (c+3)) (u (c+4)) (u (c+5)) (u (c+6)) (u (c+7)) W
section
variable {P:Program} {ops:Array Oper} {Q:Exit->Act->World->Prop} {a:Act} {mk:(Nat->Value)->Act} {G:World->Prop} {K:World->Value->Value->Value->Prop} {w1:World} {c:Nat}
theorem rgT{id:Nat}(K:World->Value->Value->Value->Prop)(c:Nat){w:World}(hQ:∀W vp vr vk,K W vp vr vk->Below w.drew.heap.size w.drew W)(h:Sq P ops Q a mk (RK K w.drew c) (Dz w) ops.toList 0 [])
  (hc:(P.follows .mixedOrders && (List.range ops.size).all (fun i=>((ops[i]?).map fun o=>o.after.all fun e=>!Region.binds .any e || decide (e.on<i)).getD true) && Gd a.tmps.size ops.toList (D9 ops.toList))=true:=by kernel_rfl)
  (hmk:∀u,Bn a (D9 ops.toList) u=mk u:=by intro u;dsimp only[Bn,D9,Bk,List.set,Nat.zero_add,Nat.reduceAdd,List.length_cons,List.length_nil]):(Code.region id ops true).wp P Q a w:=
 Z9 (RK K w.drew c) (Dz w) (fun l u W h b o k hb=>by rw[Pj.cells hQ h b o k (by simpa using hb),World.cell?_drew]) Pj.start h hc hmk
variable {o:Oper} {os:List Oper} {i:Nat} {ps:List (Value->Prop)} {v:Value}
theorem sqS(v:Value){R:(Nat->Bool)->(Nat->Value)->World->Prop}(k:Sq P ops Q a mk R G os (i+1) (ps++[fun x=>x=v]))(h:St P ops Q a mk R G i o ps (fun x=>x=v):=by
  intro l u W hl hp hF hG hi K hK
  first|(simp[Region.binds,Ck]at hp;done)|simp[Region.binds,Ck]at hp|clear hp
  go_simp
  rw[if_pos (by omega)]
  go_simp
  exact hK _ _ _ rfl hF.o (by first|rfl|(simp[Act.put,hp];done)|(simp[Act.put,hp];exact rfl))):Sq P ops Q a mk R G (o::os) i ps:=⟨_,h,k⟩
theorem sqK{C:Prop}(X:C)(k:Sq P ops Q a mk (RK K w1 c) G os (i+1) (ps++[fun _=>True]))(h:C->St P ops Q a mk (RK K w1 c) G i o ps (fun _=>True):=by
  intro X l u W hl hp hF hG hi K9 hK
  obtain⟨hW,f⟩:=Pj.call hF.o hl
  first|(simp[Region.binds,Ck]at hp;done)|simp[Region.binds,Ck]at hp|clear hp
  clear hG hi hF
  subst hW
  go_simp
  refine X.mono ?_
  rintro e w5 hp5
  obtain⟨vp,vr,vk,rfl,hq5⟩:=hp5.q
  go_simp
  exact hK _ _ _ True.intro (f hq5) (by first|rfl|(simp[Act.put,hp];done)|(simp[Act.put,hp];exact rfl))):Sq P ops Q a mk (RK K w1 c) G (o::os) i ps:=⟨_,h X,k⟩
theorem sqM(k:Sq P ops Q a mk (RK K w1 c) G os (i+1) (ps++[fun _=>True]))(h:St P ops Q a mk (RK K w1 c) G i o ps (fun _=>True):=by
  intro l u W hl hp hF hG hi K9 hK
  simp[Region.binds,Ck]at hp
  have g:=Pj.move hF.o (by simp[hp])
  clear hG hi hF
  go_simp
  exact hK _ _ _ True.intro g (by first|(simp[Act.put,hp];done)|(simp[Act.put,hp];exact rfl))):Sq P ops Q a mk (RK K w1 c) G (o::os) i ps:=⟨_,h,k⟩
theorem sqP(k:Sq P ops Q a mk (RK K w1 c) G os (i+1) (ps++[fun _=>True]))(h:St P ops Q a mk (RK K w1 c) G i o ps (fun _=>True):=by
  intro l u W hl hp hF hG hi K9 hK
  simp[Region.binds,Ck]at hp
  obtain⟨vp,vr,vk,um,g0,g1,g2⟩:=Pj.get hF.o (by simp[hp])
  clear hG hi hF
  simp only[Nat.reduceAdd]at um
  simp only[um]
  go_simp
  first
   |exact hK _ _ _ True.intro g0 (by first|(simp[Act.put,hp,um];done)|(simp[Act.put,hp,um];exact rfl))
   |exact hK _ _ _ True.intro g1 (by first|(simp[Act.put,hp,um];done)|(simp[Act.put,hp,um];exact rfl))
   |exact hK _ _ _ True.intro g2 (by first|(simp[Act.put,hp,um];done)|(simp[Act.put,hp,um];exact rfl))):Sq P ops Q a mk (RK K w1 c) G (o::os) i ps:=⟨_,h,k⟩
theorem sqA(k:Sq P ops Q a mk (RK K w1 c) G os (i+1) (ps++[fun _=>True]))(h:St P ops Q a mk (RK K w1 c) G i o ps (fun _=>True):=by
  intro l u W hl hp hF hG hi K9 hK
  simp[Region.binds,Ck]at hp
  go_simp
  first
   |exact hK _ _ _ True.intro (Pj.as0 hF.o (by simp[hp];done)) (by first|(simp[Act.put,hp];done)|(simp[Act.put,hp];exact rfl))
   |exact hK _ _ _ True.intro (Pj.as1 hF.o (by simp[hp];done)) (by first|(simp[Act.put,hp];done)|(simp[Act.put,hp];exact rfl))
   |exact hK _ _ _ True.intro (Pj.as2 hF.o (by simp[hp];done)) (by first|(simp[Act.put,hp];done)|(simp[Act.put,hp];exact rfl))):Sq P ops Q a mk (RK K w1 c) G (o::os) i ps:=⟨_,h,k⟩
theorem RK.fin{l:Nat->Bool}{u:Nat->Value}{W:World}{n:Nat}(h:RK K w1 c l u W)(hl:∀j,j<n->l j=true)(hn:c+8<=n):∃vp vr vk,K W vp vr vk/\u (c+5)=vp/\u (c+6)=vr/\u (c+7)=vk:=
 Fw.fin (Pj.st h) (hl _ (by omega)) (hl _ (by omega)) (hl _ (by omega)) (hl _ (by omega))
end
def G1{α:Type}(g:Nat)(y:α):List (Nat × α)->List (Nat × α)
 |[]=>[(g,y)]
 |q::l=>if g<=q.1 then(g,y)::q::l else q::G1 g y l
theorem Ve{α:Type}(g:Nat)(y:α):∀l,(G1 g y l).length=l.length+1
 |[]=>rfl
 |q::l=>by unfold G1;split<;>simp[Ve g y l]
theorem Qa0{α:Type}(f:Fd × Vl->α)(p:Fd × Vl):∀l:List (Fd × Vl),(Ql p l).map (fun q=>(q.1.tag,f q))=G1 p.1.tag (f p) (l.map fun q=>(q.1.tag,f q))
 |[]=>rfl
 |q::l=>by
  simp only[List.map_cons]
  unfold Ql G1
  split
  ·rfl
  rw[List.map_cons,Qa0 f p l]
theorem Zr{α:Type}{g:Nat}{y:α}:∀{l:List (Nat × α)},(∀q∈l,q.1<g)->G1 g y l=l++[(g,y)]
 |[],_=>rfl
 |q::l,h=>by
  have:=h q (by simp)
  unfold G1
  rw[if_neg (by omega),Zr fun q hq=>h q (by simp[hq])]
  rfl
theorem Zb{α:Type}{g:Nat}{y:α}{z:Nat × α}(hz:g<z.1):∀{l:List (Nat × α)},(∀q∈l,q.1<g)->G1 g y (l++[z])=l++[(g,y)]++[z]
 |[],_=>by simp[G1];omega
 |q::l,h=>by
  have:=h q (by simp)
  rw[List.cons_append]
  unfold G1
  rw[if_neg (by omega),Zb hz fun q hq=>h q (by simp[hq])]
  rfl
theorem Qaa{α:Type}{g:Nat}{y:α}{z:Nat × α}:∀{l:List (Nat × α)},(∃q∈l,g<q.1)->G1 g y (l++[z])=G1 g y l++[z]
 |[],h=>by simp at h
 |q::l,h=>by
  rw[List.cons_append]
  unfold G1
  by_cases hq:g<=q.1
  ·rw[if_pos hq,if_pos hq];rfl
  rw[if_neg hq,if_neg hq]
  obtain⟨x,hx,h1⟩:=h
  rcases List.mem_cons.1 hx with rfl|hx
  ·omega
  rw[Qaa ⟨x,hx,h1⟩];rfl
def Nl{α:Type}(g:Nat)(y:α)(l out:List (Nat × α))(done:Bool):Prop:=(done=false->out=l/\∀q∈l,q.1<g)/\(done=true->out=G1 g y l/\∃q∈l,g<q.1)
section
variable {α:Type} {g:Nat} {y:α} {l out:List (Nat × α)} {done:Bool} {z:Nat × α}
theorem Nl.init:Nl g y ([]:List (Nat × α)) [] false:=⟨fun _=>⟨rfl,by simp⟩,fun h=>Bool.noConfusion h⟩
theorem Nl.here(h:Nl g y l out false)(hz:g<z.1):Nl g y (l++[z]) (out++[(g,y)]++[z]) true:=by
 obtain⟨rfl,h1⟩:=h.1 rfl
 exact⟨fun h=>Bool.noConfusion h,fun _=>⟨(Zb hz h1).symm,z,by simp,hz⟩⟩
theorem Nl.step(h:Nl g y l out done)(hd:done=false->z.1<g):Nl g y (l++[z]) (out++[z]) done:=by
 refine⟨fun e=>?_,fun e=>?_⟩
 ·obtain⟨rfl,h1⟩:=h.1 e
  refine⟨rfl,fun q hq=>?_⟩
  rcases List.mem_append.1 hq with hq|hq
  ·exact h1 q hq
  rw[List.mem_singleton]at hq;subst hq;exact hd e
 obtain⟨rfl,h1⟩:=h.2 e
 exact⟨(Qaa h1).symm,by obtain⟨q,hq,h2⟩:=h1;exact⟨q,by simp[hq],h2⟩⟩
theorem Nl.fin(h:Nl g y l out false):out++[(g,y)]=G1 g y l:=by
 obtain⟨rfl,h1⟩:=h.1 rfl
 exact(Zr h1).symm
theorem Nl.fin'(h:Nl g y l out true):out=G1 g y l:=(h.2 rfl).1
theorem Nl.len(h:Nl g y l out done):out.length<=l.length+1:=by
 cases done with
 |false=>rw[(h.1 rfl).1];omega
 |true=>rw[(h.2 rfl).1,Ve];omega
end
structure Sz(S:List Ty)(K:Kd->List UInt8->Option (Vl × List UInt8))(fs:List Fd)(s:List UInt8)(ps:List (Fd × Vl))(tt:List UInt8):Prop where
 eq:C9 K fs 1000 [] s=C9 K fs (1000 - ps.length) ps tt
 mem:∀p∈ps,p.1∈fs
 nod:(ps.map fun p=>p.1.tag).Nodup
 le:ps.length+tt.length<=s.length
section
variable {S:List Ty} {K:Kd->List UInt8->Option (Vl × List UInt8)} {fs:List Fd} {s tt r q z z':List UInt8} {ps:List (Fd × Vl)} {f:Fd} {v:Vl}
theorem Sz.init:Sz S K fs s [] s:=⟨rfl,by simp,by simp,by simp⟩
theorem Sz.one(h:Sz S K fs s ps tt)(hs:s.length<=900):∃m,1000 - ps.length=m+1/\C9 K fs 1000 [] s=(match Cu K fs tt with
  |none=>none
  |some (p,r)=>if p.1.tag∈ps.map (·.1.tag)then none else match Ae 44 r with
   |some q=>C9 K fs m (ps++[p]) q
   |none=>match Ae 125 r with|some q=>some (ps++[p],q)|none=>none):=
 ⟨999 - ps.length,by have:=h.le;omega,by rw[h.eq,show 1000 - ps.length=(999 - ps.length)+1 by have:=h.le;omega];rfl⟩
theorem Sz.fail(h:Sz S K fs s ps tt)(hs:s.length<=900)(h1:Cu K fs tt=none):C9 K fs 1000 [] s=none:=by
 obtain⟨m,_,e⟩:=h.one hs;rw[e,h1]
theorem Sz.name(h:Sz S K fs s ps tt)(hs:s.length<=900)(h1:Cx fs (tt.takeWhile Ao)=none):C9 K fs 1000 [] s=none:=by
 obtain⟨m,_,e⟩:=h.one hs;rw[e];simp[Cu,h1]
theorem Sz.dup(h:Sz S K fs s ps tt)(hs:s.length<=900)(h1:Cx fs (tt.takeWhile Ao)=some f)(h2:f.tag∈ps.map fun p=>p.1.tag):C9 K fs 1000 [] s=none:=by
 obtain⟨m,_,e⟩:=h.one hs;rw[e]
 unfold Cu
 rw[h1]
 simp only
 cases Ae 58 (tt.dropWhile Ao)with
 |none=>rfl
 |some q=>
  simp only
  cases K f.kind q with
  |none=>rfl
  |some y=>simp only;rw[if_pos h2]
theorem Sz.sign(h:Sz S K fs s ps tt)(hs:s.length<=900)(h1:Cx fs (tt.takeWhile Ao)=some f)(h2:Ae 58 (tt.dropWhile Ao)=none):C9 K fs 1000 [] s=none:=by
 obtain⟨m,_,e⟩:=h.one hs;rw[e];simp[Cu,h1,h2]
theorem Sz.rd(h:Sz S K fs s ps tt)(hs:s.length<=900)(h1:Cx fs (tt.takeWhile Ao)=some f)(h2:Ae 58 (tt.dropWhile Ao)=some q)(hk:K f.kind q=none):C9 K fs 1000 [] s=none:=by
 obtain⟨m,_,e⟩:=h.one hs;rw[e];simp[Cu,h1,h2,hk]
theorem Sz.sep(h:Sz S K fs s ps tt)(hs:s.length<=900)(h1:Cx fs (tt.takeWhile Ao)=some f)(h2:Ae 58 (tt.dropWhile Ao)=some q)(hk:K f.kind q=some (v,z))(h5:Ae 44 z=none)(h6:Ae 125 z=none):C9 K fs 1000 [] s=none:=by
 obtain⟨m,_,e⟩:=h.one hs;rw[e];simp[Cu,h1,h2,hk,h5,h6]
theorem Sz.nod'(h:Sz S K fs s ps tt)(h1:Cx fs (tt.takeWhile Ao)=some f)(h3:f.tag∉ps.map fun p=>p.1.tag):(∀p∈ps++[(f,v)],p.1∈fs)/\((ps++[(f,v)]).map fun p=>p.1.tag).Nodup:=by
 refine⟨fun p hp=>?_,?_⟩
 ·rcases List.mem_append.1 hp with hp|hp
  ·exact h.mem p hp
  rw[List.mem_singleton]at hp;subst hp;exact(Dd h1).1
 rw[List.map_append,List.nodup_append]
 refine⟨h.nod,by simp,fun a ha b hb e=>?_⟩
 simp at hb
 subst e hb
 exact h3 ha
theorem Sz.go(h:Sz S K fs s ps tt)(hs:s.length<=900)(h1:Cx fs (tt.takeWhile Ao)=some f)(h2:Ae 58 (tt.dropWhile Ao)=some q)(h3:f.tag∉ps.map fun p=>p.1.tag)(hk:K f.kind q=some (v,z))(h5:Ae 44 z=some z')(hl:z'.length<tt.length):
  Sz S K fs s (ps++[(f,v)]) z':=by
 obtain⟨m,hm,e⟩:=h.one hs
 obtain⟨n1,n2⟩:=h.nod' (v:=v) h1 h3
 refine⟨?_,n1,n2,by have:=h.le;simp;omega⟩
 rw[e,show 1000 - (ps++[(f,v)]).length=m by simp;omega]
 simp only[Cu,h1,h2,hk,h5]
 rw[if_neg h3]
theorem Sz.fin(h:Sz S K fs s ps tt)(hs:s.length<=900)(h1:Cx fs (tt.takeWhile Ao)=some f)(h2:Ae 58 (tt.dropWhile Ao)=some q)(h3:f.tag∉ps.map fun p=>p.1.tag)(hk:K f.kind q=some (v,z))(h5:Ae 44 z=none)(h6:Ae 125 z=some z'):
  C9 K fs 1000 [] s=some (ps++[(f,v)],z'):=by
 obtain⟨m,hm,e⟩:=h.one hs
 rw[e]
 simp only[Cu,h1,h2,hk,h5,h6]
 rw[if_neg h3]
end
theorem Qde{S:List Ty}(hS:∀t∈S,Ed t):∀(d:Nat) (k:Kd),C0 k->∀s v r,Cp S d k s=some (v,r)->H3 S d k v/\(Jq S d k v->B2 S d k s=some (v,r)):=by
 intro d
 induction d with
 |zero=>intro k _ s v r e;cases e
 |succ d ih=>
  intro k hk s v r e
  have ihf:∀{t:Ty},B0 S k.name=some t->t.sort≠69->∀f∈t.fields,∀s v r,Cp S d f.kind s=some (v,r)->H3 S d f.kind v/\(Jq S d f.kind v->B2 S d f.kind s=some (v,r)):=fun ht h9 f hf=>ih f.kind (Js hS ht h9 hf).1
  unfold Cp at e
  unfold B2
  cases hs:k.signs with
  |cons c t=>
   rw[hs]at e
   simp only at e ⊢
   have hkp:=(Gh hk).1
   by_cases hc:c=91
   ·subst hc
    rw[if_pos rfl]at e ⊢
    unfold Xq at e
    unfold Kl
    cases hb:Ae 91 s with
    |none=>rw[hb]at e;cases e
    |some q=>
     rw[hb]at e
     simp only at e ⊢
     cases hb2:Ae 93 q with
     |some z=>
      rw[hb2]at e
      simp only[Option.some.injEq,Prod.mk.injEq]at e
      obtain⟨rfl,rfl⟩:=e
      exact⟨.lst hs (by simp),fun _=>rfl⟩
     |none=>
      rw[hb2]at e
      simp only at e ⊢
      cases hi:A0 (Cp S d k.part) 1000 q with
      |none=>rw[hi]at e;cases e
      |some w=>
       obtain⟨vs,z⟩:=w
       rw[hi]at e
       simp only[Option.some.injEq,Prod.mk.injEq]at e
       obtain⟨rfl,rfl⟩:=e
       obtain⟨i1,i2⟩:=T2 (P:=H3 S d k.part) (Q:=Jq S d k.part) (KG:=B2 S d k.part) (fun s v r=>ih k.part hkp s v r) _ _ _ _ hi
       refine⟨.lst hs i1,fun hv=>?_⟩
       cases hv with
       |lst _ hl hx=>
        rw[i2 hx]
        simp only
        rw[if_pos hl]
   have h63:=(Kb hk hs).resolve_left hc
   subst h63
   rw[if_neg (by decide)]at e ⊢
   split at e
   ·cases e
   rename_i hp
   rw[if_neg hp]
   cases hw:Dt Fv s with
   |some q=>
    rw[hw]at e
    simp only[Option.some.injEq,Prod.mk.injEq]at e
    obtain⟨rfl,rfl⟩:=e
    exact⟨.non hs,fun _=>rfl⟩
   |none=>
    rw[hw]at e
    simp only at e ⊢
    cases hq:Cp S d k.part s with
    |none=>rw[hq]at e;cases e
    |some y=>
     obtain⟨x,q⟩:=y
     rw[hq]at e
     simp only[Option.some.injEq,Prod.mk.injEq]at e
     obtain⟨rfl,rfl⟩:=e
     obtain⟨h1,h2⟩:=ih k.part hkp s x q hq
     refine⟨.som hs h1,fun hv=>?_⟩
     cases hv with
     |som _ hx=>rw[h2 hx]
  |nil=>
   rw[hs]at e
   simp only at e ⊢
   by_cases hb:k.base=[64]
   ·rw[if_pos hb]at e ⊢
    cases ht:B0 S k.name with
    |none=>rw[ht]at e;cases e
    |some t=>
     rw[ht]at e
     simp only at e ⊢
     have htO:=hS t (Bq ht).1
     have htF:=htO.2.2.1
     unfold Jn at e ⊢
     by_cases h9:t.sort=69
     ·rw[if_pos h9]at e ⊢
      refine⟨?_,fun _=>e⟩
      cases hb1:Ae 34 s with
      |none=>rw[hb1]at e;cases e
      |some q=>
       rw[hb1]at e
       simp only at e
       cases hn:Cx t.fields (q.takeWhile Ao)with
       |none=>rw[hn]at e;cases e
       |some f=>
        rw[hn]at e
        simp only at e
        cases hb2:Ae 34 (q.dropWhile Ao)with
        |none=>rw[hb2]at e;cases e
        |some z=>
         rw[hb2]at e
         simp only[Option.some.injEq,Prod.mk.injEq]at e
         obtain⟨rfl,rfl⟩:=e
         exact .enm hs hb ht h9 (Dl htF (Dd hn).1)
     rw[if_neg h9]at e ⊢
     cases hb1:Ae 123 s with
     |none=>rw[hb1]at e;cases e
     |some q=>
      rw[hb1]at e
      simp only at e ⊢
      by_cases h5:t.sort=85
      ·rw[if_pos h5]at e ⊢
       cases hn:Cu (Cp S d) t.fields q with
       |none=>rw[hn]at e;cases e
       |some y=>
        obtain⟨p,z⟩:=y
        rw[hn]at e
        simp only at e
        obtain⟨h1,h2,h3⟩:=Xh (KG:=B2 S d) (P:=fun f v=>H3 S d f.kind v) (Q:=fun f v=>Jq S d f.kind v) (ihf ht h9) hn
        cases hb2:Ae 125 z with
        |none=>rw[hb2]at e;cases e
        |some z'=>
         rw[hb2]at e
         simp only[Option.some.injEq,Prod.mk.injEq]at e
         obtain⟨rfl,rfl⟩:=e
         refine⟨.uni hs hb ht h5 (Dl htF h1) h2,fun hv=>?_⟩
         generalize hv':Vl.mk 85 [] p.1.tag [p.2]=v at hv
         cases hv with
         |@uni _ _ t' f x _ _ ht' _ hf hx=>
          simp only[Vl.mk.injEq,List.cons.injEq,and_true,true_and]at hv'
          rw[ht]at ht'
          simp only[Option.some.injEq]at ht'
          subst ht'
          have hf2:=Dl htF h1
          rw[hv'.1,hf]at hf2
          simp only[Option.some.injEq]at hf2
          rw[hf2,<-hv'.2]at hx
          rw[h3 hx]
          simp only[hb2]
          rw[hv'.1,hv'.2]
         |_=>simp at hv'
      rw[if_neg h5]at e ⊢
      have h2:t.sort=82:=by
       have:=htO.1
       unfold Dj at this
       rcases this with h|h|h
       ·exact h
       ·exact absurd h h5
       exact absurd h h9
      cases hb2:Ae 125 q with
      |some z=>
       rw[hb2]at e
       simp only[Option.some.injEq,Prod.mk.injEq]at e
       obtain⟨rfl,rfl⟩:=e
       exact⟨.rcd (fs:=[]) hs hb ht h2 (by simp) (by simp) (by simp) List.Pairwise.nil,fun _=>rfl⟩
      |none=>
       rw[hb2]at e
       simp only at e ⊢
       cases hi:C9 (Cp S d) t.fields 1000 [] q with
       |none=>rw[hi]at e;cases e
       |some y=>
        obtain⟨ps,z⟩:=y
        rw[hi]at e
        simp only[Option.some.injEq,Prod.mk.injEq]at e
        obtain⟨rfl,rfl⟩:=e
        obtain⟨i1,i2,_,i4⟩:=Vc (KG:=B2 S d) (P:=fun f v=>H3 S d f.kind v) (Q:=fun f v=>Jq S d f.kind v) (ihf ht h9) _ _ _ _ _ hi (by simp) (by simp)
        have hacc:ps.foldl (Qu S) []=Fg S ps:=rfl
        rw[hacc]
        refine⟨.rcd hs hb ht h2 (fun p hp=>Dl htF (i1 p (En p hp).1).1) (fun p hp=>(i1 p (En p hp).1).2) (fun p hp=>(En p hp).2) (Nz i2),fun hv=>?_⟩
        have hQ:∀p∈ps,Jq S d p.1.kind p.2:=fun p hp=>by
         by_cases he:Au p.2=Kn S p.1
         ·exact Qi1 hS (htF.1 p.1 (i1 p hp).1) h9 (i1 p hp).2 he
         exact hv.fd ht (List.mem_map_of_mem (f:=Cw) (Qho hp he)) (Dl htF (i1 p hp).1)
        rw[i4 hQ]
        simp only
        rw[hacc]
   rw[if_neg hb]at e ⊢
   have h1:=(E9 hS 1000 1 k s v r hk e).1
   exact⟨((J3 S _ _ _ h1 (d+1)).2 (by have:=(J3 S _ _ _ h1 1).1 h1;omega)).un,fun _=>e⟩
theorem Qer{S:List Ty}(hS:∀t∈S,Ed t)(d:Nat){k:Kd}(hk:C0 k){x r:List UInt8}{v u:Vl}(h:Cp S d k x=some (v,r))(hu:Jq S d k u)(he:Au u=Au v):B2 S d k x=some (v,r):=by
 obtain⟨h1,h2⟩:=Qde hS d k hk x v r h
 have h3:=Tj hS (As 20) d k u [] hu Rv
 rw[he]at h3
 obtain⟨rfl,_,h4⟩:=Qgh hS d k v h1 _ _ _ Rv h3
 exact h2 h4
theorem Qbj{S:List Ty}(hS:∀t∈S,Ed t)(d:Nat){k:Kd}(hk:C0 k){x:List UInt8}(V:List UInt8->Option Vl)(hV:∀s v,V s=some v↔Jq S d k v/\Au v=s/\s.length<=400):
  ((Cp S d k x).bind fun z=>if z.2=[]/\(V (Au z.1)).isSome=true then some (Au z.1)else none)=(B2 S d k x).bind fun z=>if z.2=[]/\(Au z.1).length<=400 then some (Au z.1)else none:=by
 cases hg:B2 S d k x with
 |some w=>
  obtain⟨v,r⟩:=w
  rw[Qf9 _ _ _ _ hg]
  simp only[Option.bind_some]
  obtain⟨hv,_,_⟩:=Qc hS d k hk x v r hg
  have e:(V (Au v)).isSome=true↔(Au v).length<=400:=by
   constructor
   ·intro h
    obtain⟨u,hu⟩:=Option.isSome_iff_exists.1 h
    exact((hV _ _).1 hu).2.2
   intro h
   rw[(hV _ _).2 ⟨hv,rfl,h⟩];rfl
  simp only[e]
 |none=>
  cases hr:Cp S d k x with
  |none=>rfl
  |some w=>
   obtain⟨v,r⟩:=w
   simp only[Option.bind_some,Option.bind_none]
   rw[if_neg fun h=>?_]
   obtain⟨u,hu⟩:=Option.isSome_iff_exists.1 h.2
   obtain⟨hu,he,_⟩:=(hV _ _).1 hu
   rw[Qer hS d hk hr hu he]at hg
   cases hg
theorem Qfl(s d x:List UInt8):Si (D3 s d) x=Qa2 (D3 s d) x:=by
 unfold Si Qa2
 by_cases h6:600<x.length
 ·rw[if_pos h6,if_pos h6]
 rw[if_neg h6,if_neg h6]
 cases hb:D3 s d with
 |none=>simp only[Option.bind_none]
 |some y=>
  obtain⟨S,k⟩:=y
  obtain⟨hok,_,_,hk,_,_⟩:=P6 hb
  simp only[Option.bind_some]
  exact Qbj hok.1.1 12 hk (Pt S k) fun s v=>Qc2 hok.1.1 hk
end Go.Proofs.YtkigmebejmmikaaGreatDoor
