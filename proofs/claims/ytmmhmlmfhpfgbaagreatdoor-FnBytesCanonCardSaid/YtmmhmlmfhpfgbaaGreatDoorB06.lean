/- Texts joined. Conditions: as each theorem names them. -/
import Derived.Lib.Builder
import Derived.Lib.AppendStr
import Derived.Lib.UnsafeStr
import Derived.Lib.MakeNoZero
import Derived.Laws.Externs
import Derived.Laws.BitsLemmas
import Derived.RegionTactic
import Derived.Laws.AppendOwnNone
import Derived.Test.YtmmhmlmfhpfgbaaGreatDoorB04
set_option maxRecDepth 100000
set_option maxHeartbeats 32000000
set_option linter.unusedVariables false
set_option linter.unusedSimpArgs false
namespace Go.Proofs.YtmmhmlmfhpfgbaaGreatDoor
open Go.RowKit Go.Proofs.Tryz
structure J5(Q:World->Value->Value->Value->Prop)(w1:World)(c m x y z a b e:Bool)(uc um ux uy uz ua ub ue:Value)(W:World):Prop where
 no:c=false->W=w1
 yes:c=true->∃vp vr vk,Q W vp vr vk/\uc=.tuple #[vp,vr,vk]/\(m=true->um=.tuple #[vp,vr,vk])/\(x=true->ux=vp)/\(y=true->uy=vr)/\(z=true->uz=vk)/\(a=true->ua=vp)/\(b=true->ub=vr)/\(e=true->ue=vk)
def SrQ(w1:World)(S:List Ty)(k:Kd)(o:Option (Vl × List UInt8))(W:World)(vp vr vk:Value):Prop:=
 Below w1.heap.size w1 W/\match o with
  |some x=>(∃b,vp=.pointer (some ⟨b,0,none⟩)/\En (fun c=>w1.heap.size<=c) W b (Bt S k x.1))/\vr=.string ⟨x.2.toArray⟩/\vk=.bool true
  |none=>(∃q,vp=.pointer q)/\(∃r,vr=.string r)/\vk=.bool false
theorem Bc.q{S:List Ty}{k:Kd}{o:Option (Vl × List UInt8)}{w w':World}{e:Ending}(h:Bc S k o w e w'):∃vp vr vk,e=.returned (.tuple #[vp,vr,vk])/\SrQ w S k o w' vp vr vk:=by
 obtain⟨h,hb⟩:=h
 cases o with
 |none=>obtain⟨q,r,rfl⟩:=h;exact⟨_,_,_,rfl,hb,⟨q,rfl⟩,⟨r,rfl⟩,rfl⟩
 |some x=>obtain⟨b,rfl,hs⟩:=h;exact⟨_,_,_,rfl,hb,⟨b,rfl,hs⟩,rfl,rfl⟩
section
variable {Q:World->Value->Value->Value->Prop} {w1 W W':World} {l m x y z a b e:Bool} {ul um ux uy uz ua ub ue vp vr vk:Value}
theorem J5.call(hm:m=false)(hx:x=false)(hy:y=false)(hz:z=false)(ha:a=false)(hb:b=false)(he:e=false)(h:Q W vp vr vk):J5 Q w1 true m x y z a b e (.tuple #[vp,vr,vk]) um ux uy uz ua ub ue W:=by
 subst hm hx hy hz ha hb he
 exact⟨fun h=>Bool.noConfusion h,fun _=>⟨vp,vr,vk,h,rfl,fun h=>Bool.noConfusion h,fun h=>Bool.noConfusion h,fun h=>Bool.noConfusion h,fun h=>Bool.noConfusion h,fun h=>Bool.noConfusion h,fun h=>Bool.noConfusion h,fun h=>Bool.noConfusion h⟩⟩
theorem J5.call2(hx:x=false)(hy:y=false)(hz:z=false)(ha:a=false)(hb:b=false)(he:e=false)(h:Q W vp vr vk):J5 Q w1 true true x y z a b e (.tuple #[vp,vr,vk]) (.tuple #[vp,vr,vk]) ux uy uz ua ub ue W:=by
 subst hx hy hz ha hb he
 exact⟨fun h=>Bool.noConfusion h,fun _=>⟨vp,vr,vk,h,rfl,fun _=>rfl,fun h=>Bool.noConfusion h,fun h=>Bool.noConfusion h,fun h=>Bool.noConfusion h,fun h=>Bool.noConfusion h,fun h=>Bool.noConfusion h,fun h=>Bool.noConfusion h⟩⟩
theorem J5.move(h:J5 Q w1 l m x y z a b e ul um ux uy uz ua ub ue W)(hl:l=true):J5 Q w1 l true x y z a b e ul ul ux uy uz ua ub ue W:=
 ⟨h.no,fun hl=>by obtain⟨p,r,k,h1,h2,_,h3⟩:=h.yes hl;exact⟨p,r,k,h1,h2,fun _=>h2,h3⟩⟩
theorem J5.get(h:J5 Q w1 l m x y z a b e ul um ux uy uz ua ub ue W)(hl:l=true)(hm:m=true):∃vp vr vk,um=.tuple #[vp,vr,vk]/\J5 Q w1 l m true y z a b e ul um vp uy uz ua ub ue W/\J5 Q w1 l m x true z a b e ul um ux vr uz ua ub ue W/\J5 Q w1 l m x y true a b e ul um ux uy vk ua ub ue W:=by
 obtain⟨p,r,k,h1,h2,h3,h4,h5,h6,h7⟩:=h.yes hl
 exact⟨p,r,k,h3 hm,⟨h.no,fun _=>⟨p,r,k,h1,h2,h3,fun _=>rfl,h5,h6,h7⟩⟩,⟨h.no,fun _=>⟨p,r,k,h1,h2,h3,h4,fun _=>rfl,h6,h7⟩⟩,⟨h.no,fun _=>⟨p,r,k,h1,h2,h3,h4,h5,fun _=>rfl,h7⟩⟩⟩
theorem J5.as0(h:J5 Q w1 l m x y z a b e ul um ux uy uz ua ub ue W)(hx:x=true):J5 Q w1 l m x y z true b e ul um ux uy uz ux ub ue W:=
 ⟨h.no,fun hl=>by obtain⟨p,r,k,h1,h2,h3,h4,h5,h6,_,h8,h9⟩:=h.yes hl;exact⟨p,r,k,h1,h2,h3,h4,h5,h6,fun _=>h4 hx,h8,h9⟩⟩
theorem J5.as1(h:J5 Q w1 l m x y z a b e ul um ux uy uz ua ub ue W)(hy:y=true):J5 Q w1 l m x y z a true e ul um ux uy uz ua uy ue W:=
 ⟨h.no,fun hl=>by obtain⟨p,r,k,h1,h2,h3,h4,h5,h6,h7,_,h9⟩:=h.yes hl;exact⟨p,r,k,h1,h2,h3,h4,h5,h6,h7,fun _=>h5 hy,h9⟩⟩
theorem J5.as2(h:J5 Q w1 l m x y z a b e ul um ux uy uz ua ub ue W)(hz:z=true):J5 Q w1 l m x y z a b true ul um ux uy uz ua ub uz W:=
 ⟨h.no,fun hl=>by obtain⟨p,r,k,h1,h2,h3,h4,h5,h6,h7,h8,_⟩:=h.yes hl;exact⟨p,r,k,h1,h2,h3,h4,h5,h6,h7,h8,fun _=>h6 hz⟩⟩
theorem J5.fin(h:J5 Q w1 l m x y z a b e ul um ux uy uz ua ub ue W)(hl:l=true)(ha:a=true)(hb:b=true)(he:e=true):∃vp vr vk,Q W vp vr vk/\ua=vp/\ub=vr/\ue=vk:=by
 obtain⟨p,r,k,h1,_,_,_,_,_,h7,h8,h9⟩:=h.yes hl
 exact⟨p,r,k,h1,h7 ha,h8 hb,h9 he⟩
end
structure Pn(Q:World->Value->Value->Value->Prop)(w1:World)(c m x y z a b e:Bool)(uc um ux uy uz ua ub ue:Value)(W:World):Prop where
 st:J5 Q w1 c m x y z a b e uc um ux uy uz ua ub ue W
 om:m=true->c=true
 ox:x=true->m=true
 oy:y=true->m=true
 oz:z=true->m=true
 oa:a=true->x=true
 ob:b=true->y=true
 oe:e=true->z=true
theorem Kb{a b:Bool}(h:a=true->b=true)(hb:b=false):a=false:=by
 cases a with
 |false=>rfl
 |true=>exact absurd ((h rfl).symm.trans hb) (by decide)
section
variable {Q:World->Value->Value->Value->Prop} {w1 W W':World} {c m x y z a b e:Bool} {uc um ux uy uz ua ub ue vp vr vk:Value}
theorem Pn.start:Pn Q w1 false false false false false false false false uc um ux uy uz ua ub ue w1:=
 ⟨⟨fun _=>rfl,fun h=>Bool.noConfusion h⟩,id,id,id,id,id,id,id⟩
theorem Pn.cells(hQ:∀W vp vr vk,Q W vp vr vk->Below w1.heap.size w1 W)(h:Pn Q w1 c m x y z a b e uc um ux uy uz ua ub ue W):∀b o k,b<w1.heap.size->W.cell? ⟨b,o,k⟩=w1.cell? ⟨b,o,k⟩:=by
 cases c with
 |false=>rw[h.st.no rfl];intros;rfl
 |true=>obtain⟨vp,vr,vk,hq,_⟩:=h.st.yes rfl;exact fun b o k hb=>(hQ _ _ _ _ hq).cell (p:=⟨b,o,k⟩) hb
theorem Pn.call(h:Pn Q w1 c m x y z a b e uc um ux uy uz ua ub ue W)(hc:c=false):W=w1/\∀{W' vp vr vk},Q W' vp vr vk->Pn Q w1 true m x y z a b e (.tuple #[vp,vr,vk]) um ux uy uz ua ub ue W':=by
 have hm:=Kb h.om hc
 have hx:=Kb h.ox hm
 have hy:=Kb h.oy hm
 have hz:=Kb h.oz hm
 exact⟨h.st.no hc,fun hq=>⟨J5.call hm hx hy hz (Kb h.oa hx) (Kb h.ob hy) (Kb h.oe hz) hq,fun _=>rfl,h.ox,h.oy,h.oz,h.oa,h.ob,h.oe⟩⟩
theorem Pn.call2(h:Pn Q w1 c c x y z a b e uc uc ux uy uz ua ub ue W)(hc:c=false):W=w1/\∀{W' vp vr vk},Q W' vp vr vk->Pn Q w1 true true x y z a b e (.tuple #[vp,vr,vk]) (.tuple #[vp,vr,vk]) ux uy uz ua ub ue W':=by
 have hx:=Kb h.ox hc
 have hy:=Kb h.oy hc
 have hz:=Kb h.oz hc
 exact⟨h.st.no hc,fun hq=>⟨J5.call2 hx hy hz (Kb h.oa hx) (Kb h.ob hy) (Kb h.oe hz) hq,fun _=>rfl,fun _=>rfl,fun _=>rfl,fun _=>rfl,h.oa,h.ob,h.oe⟩⟩
theorem Pn.move(h:Pn Q w1 c m x y z a b e uc um ux uy uz ua ub ue W)(hc:c=true):Pn Q w1 c true x y z a b e uc uc ux uy uz ua ub ue W:=
 ⟨h.st.move hc,fun _=>hc,fun _=>rfl,fun _=>rfl,fun _=>rfl,h.oa,h.ob,h.oe⟩
theorem Pn.get(h:Pn Q w1 c m x y z a b e uc um ux uy uz ua ub ue W)(hm:m=true):∃vp vr vk,um=.tuple #[vp,vr,vk]/\Pn Q w1 c m true y z a b e uc um vp uy uz ua ub ue W/\Pn Q w1 c m x true z a b e uc um ux vr uz ua ub ue W/\Pn Q w1 c m x y true a b e uc um ux uy vk ua ub ue W:=by
 obtain⟨vp,vr,vk,e1,h1,h2,h3⟩:=h.st.get (h.om hm) hm
 exact⟨vp,vr,vk,e1,⟨h1,h.om,fun _=>hm,h.oy,h.oz,fun _=>rfl,h.ob,h.oe⟩,⟨h2,h.om,h.ox,fun _=>hm,h.oz,h.oa,fun _=>rfl,h.oe⟩,⟨h3,h.om,h.ox,h.oy,fun _=>hm,h.oa,h.ob,fun _=>rfl⟩⟩
theorem Pn.as0(h:Pn Q w1 c m x y z a b e uc um ux uy uz ua ub ue W)(hx:x=true):Pn Q w1 c m x y z true b e uc um ux uy uz ux ub ue W:=⟨h.st.as0 hx,h.om,h.ox,h.oy,h.oz,fun _=>hx,h.ob,h.oe⟩
theorem Pn.as1(h:Pn Q w1 c m x y z a b e uc um ux uy uz ua ub ue W)(hy:y=true):Pn Q w1 c m x y z a true e uc um ux uy uz ua uy ue W:=⟨h.st.as1 hy,h.om,h.ox,h.oy,h.oz,h.oa,fun _=>hy,h.oe⟩
theorem Pn.as2(h:Pn Q w1 c m x y z a b e uc um ux uy uz ua ub ue W)(hz:z=true):Pn Q w1 c m x y z a b true uc um ux uy uz ua ub uz W:=⟨h.st.as2 hz,h.om,h.ox,h.oy,h.oz,h.oa,h.ob,fun _=>hz⟩
end
def RK(Q:World->Value->Value->Value->Prop)(w1:World)(c m:Nat)(l:Nat->Bool)(u:Nat->Value)(W:World):Prop:=
 Pn Q w1 (l c) (l m) (l (m+1)) (l (m+2)) (l (m+3)) (l (m+4)) (l (m+5)) (l (m+6)) (u c) (u m) (u (m+1)) (u (m+2)) (u (m+3)) (u (m+4)) (u (m+5)) (u (m+6)) W
section
variable {P:Program} {ops:Array Oper} {Q:Exit->Act->World->Prop} {a:Act} {mk:(Nat->Value)->Act} {G:World->Prop} {K:World->Value->Value->Value->Prop} {w1:World} {c m:Nat}
theorem rgT{id:Nat}(K:World->Value->Value->Value->Prop)(c m:Nat){w:World}(hQ:∀W vp vr vk,K W vp vr vk->Below w.drew.heap.size w.drew W)(h:Sq P ops Q a mk (RK K w.drew c m) (Gz w) ops.toList 0 [])
  (hc:(P.follows .mixedOrders && (List.range ops.size).all (fun i=>((ops[i]?).map fun o=>o.after.all fun e=>!Region.binds .any e || decide (e.on<i)).getD true) && Fp a.tmps.size ops.toList (C7 ops.toList))=true:=by kernel_rfl)
  (hmk:∀u,Bl a (C7 ops.toList) u=mk u:=by intro u;dsimp only[Bl,C7,Bk,List.set,Nat.zero_add,Nat.reduceAdd,List.length_cons,List.length_nil]):(Code.region id ops true).wp P Q a w:=
 rgF (RK K w.drew c m) (Gz w) (fun l u W h b o k hb=>by rw[Pn.cells hQ h b o k (by simpa using hb),World.cell?_drew]) Pn.start h hc hmk
variable {o:Oper} {os:List Oper} {i:Nat} {ps:List (Value->Prop)} {v:Value}
theorem sqS(v:Value){R:(Nat->Bool)->(Nat->Value)->World->Prop}(k:Sq P ops Q a mk R G os (i+1) (ps++[fun x=>x=v]))(h:St P ops Q a mk R G i o ps (fun x=>x=v):=by
  intro l u W hl hp hF hG hi K hK
  first|(simp[Region.binds,Co]at hp;done)|simp[Region.binds,Co]at hp|clear hp
  go_simp
  rw[if_pos (by omega)]
  go_simp
  exact hK _ _ _ rfl hF.o (by first|rfl|(simp[Act.put,hp];done)|(simp[Act.put,hp];exact rfl))):Sq P ops Q a mk R G (o::os) i ps:=⟨_,h,k⟩
theorem sqK{C:Prop}(X:C)(k:Sq P ops Q a mk (RK K w1 c m) G os (i+1) (ps++[fun _=>True]))(h:C->St P ops Q a mk (RK K w1 c m) G i o ps (fun _=>True):=by
  intro X l u W hl hp hF hG hi K9 hK
  obtain⟨hW,f⟩:=Pn.call hF.o hl
  first|(simp[Region.binds,Co]at hp;done)|simp[Region.binds,Co]at hp|clear hp
  clear hG hi hF
  subst hW
  go_simp
  refine X.mono ?_
  rintro e w5 hp5
  obtain⟨vp,vr,vk,rfl,hq5⟩:=hp5.q
  go_simp
  exact hK _ _ _ True.intro (f hq5) (by first|rfl|(simp[Act.put,hp];done)|(simp[Act.put,hp];exact rfl))):Sq P ops Q a mk (RK K w1 c m) G (o::os) i ps:=⟨_,h X,k⟩
theorem Qqg{C:Prop}(X:C)(k:Sq P ops Q a mk (RK K w1 c m) G os (i+1) (ps++[fun _=>True]))(h:C->St P ops Q a mk (RK K w1 c m) G i o ps (fun _=>True):=by
  intro X l u W hl hp hF hG hi K9 hK
  obtain⟨hW,f⟩:=Pn.call2 hF.o hl
  first|(simp[Region.binds,Co]at hp;done)|simp[Region.binds,Co]at hp|clear hp
  clear hG hi hF
  subst hW
  go_simp
  refine X.mono ?_
  rintro e w5 hp5
  obtain⟨vp,vr,vk,rfl,hq5⟩:=hp5.q
  go_simp
  exact hK _ _ _ True.intro (f hq5) (by first|rfl|(simp[Act.put,hp];done)|(simp[Act.put,hp];exact rfl))):Sq P ops Q a mk (RK K w1 c m) G (o::os) i ps:=⟨_,h X,k⟩
theorem sqM(k:Sq P ops Q a mk (RK K w1 c m) G os (i+1) (ps++[fun _=>True]))(h:St P ops Q a mk (RK K w1 c m) G i o ps (fun _=>True):=by
  intro l u W hl hp hF hG hi K9 hK
  simp[Region.binds,Co]at hp
  have g:=Pn.move hF.o (by simp[hp])
  clear hG hi hF
  go_simp
  exact hK _ _ _ True.intro g (by first|(simp[Act.put,hp];done)|(simp[Act.put,hp];exact rfl))):Sq P ops Q a mk (RK K w1 c m) G (o::os) i ps:=⟨_,h,k⟩
theorem sqP(k:Sq P ops Q a mk (RK K w1 c m) G os (i+1) (ps++[fun _=>True]))(h:St P ops Q a mk (RK K w1 c m) G i o ps (fun _=>True):=by
  intro l u W hl hp hF hG hi K9 hK
  simp[Region.binds,Co]at hp
  obtain⟨vp,vr,vk,um,g0,g1,g2⟩:=Pn.get hF.o (by simp[hp])
  clear hG hi hF
  try simp only[Nat.reduceAdd]at um
  simp only[um]
  go_simp
  first
   |exact hK _ _ _ True.intro g0 (by first|(simp[Act.put,hp,um];done)|(simp[Act.put,hp,um];exact rfl))
   |exact hK _ _ _ True.intro g1 (by first|(simp[Act.put,hp,um];done)|(simp[Act.put,hp,um];exact rfl))
   |exact hK _ _ _ True.intro g2 (by first|(simp[Act.put,hp,um];done)|(simp[Act.put,hp,um];exact rfl))):Sq P ops Q a mk (RK K w1 c m) G (o::os) i ps:=⟨_,h,k⟩
theorem sqA(k:Sq P ops Q a mk (RK K w1 c m) G os (i+1) (ps++[fun _=>True]))(h:St P ops Q a mk (RK K w1 c m) G i o ps (fun _=>True):=by
  intro l u W hl hp hF hG hi K9 hK
  simp[Region.binds,Co]at hp
  go_simp
  first
   |exact hK _ _ _ True.intro (Pn.as0 hF.o (by simp[hp];done)) (by first|(simp[Act.put,hp];done)|(simp[Act.put,hp];exact rfl))
   |exact hK _ _ _ True.intro (Pn.as1 hF.o (by simp[hp];done)) (by first|(simp[Act.put,hp];done)|(simp[Act.put,hp];exact rfl))
   |exact hK _ _ _ True.intro (Pn.as2 hF.o (by simp[hp];done)) (by first|(simp[Act.put,hp];done)|(simp[Act.put,hp];exact rfl))):Sq P ops Q a mk (RK K w1 c m) G (o::os) i ps:=⟨_,h,k⟩
theorem RK.fin{l:Nat->Bool}{u:Nat->Value}{W:World}{n:Nat}(h:RK K w1 c m l u W)(hl:∀j,j<n->l j=true)(hn:m+7<=n)(hc:c<n):∃vp vr vk,K W vp vr vk/\u (m+4)=vp/\u (m+5)=vr/\u (m+6)=vk:=
 J5.fin (Pn.st h) (hl _ hc) (hl _ (by omega)) (hl _ (by omega)) (hl _ (by omega))
end
theorem Qot{n:Nat}(h:n<=999999):(Az n).length<=6:=C9 5 n (by omega)
theorem Qhs{K:List UInt8->Option (Vl × List UInt8)}(hK:∀s v r,K s=some (v,r)->(Aw v).length+1+20*r.length<=20*s.length):∀(m:Nat) (s:List UInt8) (vs:List Vl) (r:List UInt8),Df K m s=some (vs,r)->Du (vs.map Aw)+20*r.length<=20*s.length
 |0,s,vs,r,h=>by
  simp only[Df,Option.some.injEq,Prod.mk.injEq]at h
  obtain⟨rfl,rfl⟩:=h
  simp[Du]
 |m+1,s,vs,r,h=>by
  unfold Df at h
  cases hk:K s with
  |none=>rw[hk]at h;cases h
  |some y=>
   obtain⟨v,z⟩:=y
   rw[hk]at h
   simp only at h
   cases hi:Df K m z with
   |none=>rw[hi]at h;cases h
   |some u=>
    obtain⟨us,u⟩:=u
    rw[hi]at h
    simp only[Option.some.injEq,Prod.mk.injEq]at h
    obtain⟨rfl,rfl⟩:=h
    have h1:=hK _ _ _ hk
    have h2:=Qhs hK m _ _ _ hi
    rw[List.map_cons,Ev]
    omega
theorem Yx{S:List Ty}{K:Kd->List UInt8->Option (Vl × List UInt8)}{fs:List Fd}(hK:∀f∈fs,∀s v r,K f.kind s=some (v,r)->(Aw v).length+1+20*r.length<=20*s.length):∀(m last:Nat) (s:List UInt8) (ps:List (Fd × Vl)) (r:List UInt8),
  Dc S K fs m last s=some (ps,r)->Du (ps.map fun p=>Aw (Ea p))+20*r.length+20<=20*s.length
 |0,_,_,_,_,h=>by cases h
 |m+1,last,s,ps,r,h=>by
  unfold Dc at h
  cases hn:Ag s with
  |none=>rw[hn]at h;cases h
  |some q=>
   obtain⟨tag,q⟩:=q
   rw[hn]at h
   have hl:=Cq hn
   simp only at h
   split at h
   ·simp only[Option.some.injEq,Prod.mk.injEq]at h
    obtain⟨rfl,rfl⟩:=h
    simp[Du]
    omega
   cases hp:Ed q with
   |none=>rw[hp]at h;cases h
   |some y=>
    obtain⟨p,y⟩:=y
    have hl2:=Ke hp
    rw[hp]at h
    simp only at h
    split at h
    ·cases h
    cases hf:Ap fs tag with
    |none=>
     rw[hf]at h
     simp only at h
     have:=Yx hK m tag _ _ _ h
     omega
    |some f=>
     rw[hf]at h
     simp only at h
     obtain⟨e1,e2⟩:=Ay hf
     cases hw:Cg (K f.kind) p with
     |none=>rw[hw]at h;cases h
     |some v=>
      rw[hw]at h
      simp only at h
      cases hi:Dc S K fs m tag y with
      |none=>rw[hi]at h;cases h
      |some z=>
       obtain⟨us,z⟩:=z
       rw[hi]at h
       simp only[Option.some.injEq,Prod.mk.injEq]at h
       obtain⟨rfl,rfl⟩:=h
       have h1:=Yx hK m tag _ _ _ hi
       have h2:=hK f e2 _ _ _ (D3 hw)
       have h3:=Qot hl.1
       split
       ·omega
       have h4:=Jo (f,v)
       rw[List.map_cons,Ev,h4]
       simp only[e1,List.length_nil]at *
       omega
theorem Sw{S:List Ty}:∀(d:Nat) (k:Kd) (s:List UInt8) (v:Vl) (r:List UInt8),E9 S d k s=some (v,r)->(Aw v).length+1+20*r.length<=20*s.length:=by
 intro d
 induction d with
 |zero=>intro k s v r h;cases h
 |succ d ih=>
  intro k s v r h
  unfold E9 at h
  cases hs:k.signs with
  |cons c t=>
   rw[hs]at h
   simp only at h
   split at h
   ·cases hn:Ag s with
    |none=>rw[hn]at h;cases h
    |some q=>
     obtain⟨n,q⟩:=q
     have hl:=Cq hn
     rw[hn]at h
     simp only at h
     split at h
     ·cases h
     cases hi:Df (E9 S d k.part) n q with
     |none=>rw[hi]at h;cases h
     |some y=>
      obtain⟨vs,y⟩:=y
      rw[hi]at h
      simp only[Option.some.injEq,Prod.mk.injEq]at h
      obtain⟨rfl,rfl⟩:=h
      have h1:=Qhs (fun s v r h=>ih _ _ _ _ h) _ _ _ _ hi
      have h2:=Bs 44 (vs.map Aw)
      rw[G6]
      simp only[List.length_cons,List.length_append,List.length_nil]
      omega
   cases s with
   |nil=>cases h
   |cons b z=>
    simp only at h
    split at h
    ·simp only[Option.some.injEq,Prod.mk.injEq]at h
     obtain⟨rfl,rfl⟩:=h
     simp[Aw,Di,Gl]
     omega
    split at h
    ·cases hi:E9 S d k.part z with
     |none=>rw[hi]at h;cases h
     |some y=>
      obtain⟨x,y⟩:=y
      rw[hi]at h
      simp only[Option.some.injEq,Prod.mk.injEq]at h
      obtain⟨rfl,rfl⟩:=h
      have:=ih _ _ _ _ hi
      simp[Aw,Di,Gl,Ax]
      omega
    cases h
  |nil=>
   rw[hs]at h
   simp only at h
   split at h
   ·cases hn:Ag s with
    |none=>rw[hn]at h;cases h
    |some q=>
     obtain⟨n,q⟩:=q
     have hl:=Cq hn
     have h3:=Qot hl.1
     rw[hn]at h
     simp only[Option.some.injEq,Prod.mk.injEq]at h
     obtain⟨rfl,rfl⟩:=h
     simp[Aw,Di,Gl]
     omega
   split at h
   ·cases hp:Ed s with
    |none=>rw[hp]at h;cases h
    |some q=>
     obtain⟨p,q⟩:=q
     have hl:=Ke hp
     rw[hp]at h
     simp only at h
     split at h
     ·simp only[Option.some.injEq,Prod.mk.injEq]at h
      obtain⟨rfl,rfl⟩:=h
      simp[Aw,Di,Gl]
      omega
     cases h
   split at h
   ·cases s with
    |nil=>cases h
    |cons b z=>
     simp only at h
     split at h
     ·simp only[Option.some.injEq,Prod.mk.injEq]at h
      obtain⟨rfl,rfl⟩:=h
      simp[Aw,Di,Gl,H7]
      omega
     split at h
     ·simp only[Option.some.injEq,Prod.mk.injEq]at h
      obtain⟨rfl,rfl⟩:=h
      simp[Aw,Di,Gl,Dk]
      omega
     cases h
   cases hf:B9 S k.name with
   |none=>rw[hf]at h;cases h
   |some ty=>
    rw[hf]at h
    simp only at h
    unfold Sv at h
    split at h
    ·cases hi:Dc S (E9 S d) ty.fields 1000 0 s with
     |none=>rw[hi]at h;cases h
     |some y=>
      obtain⟨ps,y⟩:=y
      rw[hi]at h
      simp only[Option.some.injEq,Prod.mk.injEq]at h
      obtain⟨rfl,rfl⟩:=h
      have h1:=Yx (fun f _ s v r h=>ih _ _ _ _ h) _ _ _ _ _ hi
      have h2:=Bs 44 (ps.map fun p=>Aw (Ea p))
      rw[Nb]
      simp only[List.length_cons,List.length_append,List.length_nil]
      omega
    cases hn:Ag s with
    |none=>rw[hn]at h;cases h
    |some q=>
     obtain⟨tag,q⟩:=q
     have hl:=Cq hn
     have h3:=Qot hl.1
     rw[hn]at h
     simp only at h
     cases hg:Ap ty.fields tag with
     |none=>rw[hg]at h;cases h
     |some f=>
      rw[hg]at h
      simp only at h
      split at h
      ·simp only[Option.some.injEq,Prod.mk.injEq]at h
       obtain⟨rfl,rfl⟩:=h
       simp[Aw,Di,Gl]
       omega
      cases hp:Ed q with
      |none=>rw[hp]at h;cases h
      |some y=>
       obtain⟨p,y⟩:=y
       have hl2:=Ke hp
       rw[hp]at h
       simp only at h
       cases hw:Cg (E9 S d f.kind) p with
       |none=>rw[hw]at h;cases h
       |some x=>
        rw[hw]at h
        simp only[Option.some.injEq,Prod.mk.injEq]at h
        obtain⟨rfl,rfl⟩:=h
        have h4:=ih _ _ _ _ (D3 hw)
        simp[Aw,Di,Gl,Ax]at *
        omega
abbrev Bld(B b:Nat)(l:List UInt8)(w:World):Prop:=Lib.IsBuilder 195 5 B b (Cf l) w
abbrev Qem(B b:Nat)(p:Value)(bs:List Value)(w:World):Prop:=Lib.BuilderAt 195 5 B b p bs w
theorem Tryz.sizeBuilder:(prog.info? 195).map (·.size)=some 2:=aN
theorem Tryz.liesBuilder:liesAt prog prog.depth 195 (2 / prog.cellsOf 195) 0 195 1=true:=aN
theorem Tryz.cellsByte:prog.cellsOf 5=1:=aN
theorem Qeu(s:List UInt8):Lib.strCells ⟨s.toArray⟩=Cf s:=by simp[Lib.strCells,Cf]
theorem Zb(b:Nat)(w:World)(h0:w.cell? (b,0)=b):
  Calls prog 201 #[b] w fun e w'=>e=.returned (.tuple #[])/\w'=w:=by
 obtain⟨j,hj,_⟩:=Option.map_eq_some_iff.1 Tryz.sizeBuilder;go_enter func201,ntmps201;go_wp2
 rw[Lib.run_neq_ptr_same w _ underlying193 hj];go_wp2
 go_end0
 exact io
theorem Ya(b:Nat)(w:World)(h0:w.cell? (b,0)=some (.pointer none))(hsh:w.shape? b=some (195,2))(hfz:w.frozen? (b,0)=false):
  Calls prog 201 #[b] w fun e w'=>e=.returned (.tuple #[])/\w'=w.setCell ⟨b,0,none⟩ b:=by
 obtain⟨j,hj,hjs⟩:=Option.map_eq_some_iff.1 Tryz.sizeBuilder;go_enter func201,ntmps201;go_wp2
 rw[Lib.run_to_unsafe w ⟨b,0,none⟩ underlying193 underlying256 hj (by rw[hjs];decide) hsh (Nat.zero_lt_succ 1)];simp only[Result.andThen];rw[Oper.upon_value];go_wp2
 rw[run_callFunc_extern func227 aN aN aN (e:=Extern.AbiNoEscape.same) aN];rw[Lib.run_noEscape];simp only[Result.andThen];rw[Oper.upon_value];go_wp2
 rw[Lib.run_from_unsafe w ⟨b,0,none⟩ underlying256 underlying193 hj hsh Tryz.liesBuilder];simp only[Result.andThen];rw[Oper.upon_value];go_wp2
 go_end0
 exact io
theorem Qav(B b:Nat)(bs:List Value)(w:World)(h:Lib.IsBuilder 195 5 B b bs w):
  Calls prog 201 #[b] w fun e w'=>e=.returned (.tuple #[])/\(Qem B b b bs w'/\Below B w w'):=by
 rcases h with h|h
 ·refine(Ya b w h.cell0 h.shape h.frozen0).mono ?_;rintro e w' ⟨rfl,rfl⟩;exact⟨rfl,h.used _,(Aq B w).setCell (p:=⟨b,0,none⟩) h.1 _⟩
 refine(Zb b w h.cell0).mono ?_;rintro e w' ⟨rfl,rfl⟩;exact⟨rfl,h,Aq B _⟩
theorem Yw(B b:Nat)(l s:List UInt8)(w:World)(h:Bld B b l w)(hlen:l.length+s.length<=140737488355328)(hBw:B<=w.heap.size):
  Calls prog 147 #[b,s] w fun e w'=>e=.returned (.tuple #[.int .i64 s.length,.nilIface])/\Bld B b (l++s) w'/\Below B w w':=by
 obtain⟨i0,hi,hz0,hz1,hz2⟩:=info_parts Tryz.infoU8;go_enter func147,ntmps147;go_wp2_with fail;refine(Qav B b (Cf l) _ h).mono ?_;rintro e w1 ⟨rfl,h1,hb1⟩;obtain⟨hB,v,hbk,hown,hne⟩:=h1;have c0:w1.cell? (b,0)=b:=by rw[Lib.cell_of_heap hbk];rfl
 have c1:w1.cell? (b,1)=some v:=by rw[Lib.cell_of_heap hbk];rfl
 have hlB:(Cf l).length=l.length:=H5 l;have hsB:(ByteArray.mk s.toArray).size=s.length:=rfl;go_wp2_with (at_builtin;refine Lib.wpList_append_own_string _ rfl _ _ 22 9 rfl B 5 i0 underlying22 underlying9 hi hz0 hz1 hz2 _ _ _ rfl hown ⟨s.toArray⟩ rfl ?c3 ?c4 ?c5 ?_)
 case c3=>unfold maxLen;omega
 case c4=>omega
 case c5=>have:=hb1.size;omega
 intro v' w2 hown' hgrow _;have hlt:b<w1.heap.size:=by
  rcases aH b w1.heap.size with h'|h'
  ·exact h'
  simp[Array.getElem?_eq_none h']at hbk
 have hb2:w2.heap[b]?=some (.cells #[b,v] 195 (0,0)):=by
  rw[hgrow.block b hlt (fun e=>hne e.symm)];exact hbk
 have d0:w2.cell? (b,0)=b:=by rw[Lib.cell_of_heap hb2];rfl
 have d1:w2.cell? (b,1)=some v:=by rw[Lib.cell_of_heap hb2];rfl
 have f1:w2.frozen? (b,1)=false:=Lib.frozen_of_heap hb2 1;obtain⟨ao,n',cap,rfl⟩:∃ao n' cap,v'=.slice ao n' cap:=by
  rcases hown'.2 with⟨hv,_⟩|⟨g,cap,cur,hv,_⟩
  ·exact⟨_,_,_,hv⟩
  exact⟨_,_,_,hv⟩
 clear hlB hsB;go_wp2
 go_ret2;refine⟨rfl,.inr ?_,?_⟩
 ·have e1:Cf (l++s)=Cf l++Lib.strCells ⟨s.toArray⟩:=by rw[Qeu];simp[Cf]
  rw[e1];exact Lib.BuilderAt.put (T:=195) (e:=5) hB hb2 (bs':=Cf l++Lib.strCells ⟨s.toArray⟩) (by rw[ah,Lib.strCells_length,H5];exact hown') aL
 exact(hb1.grown hgrow (by have:=hb1.size;omega) (fun k hk=>(hown.lt k hk).1)).setCell (p:=⟨b,1,none⟩) hB _
theorem Qf4(W:World)(q:Option Addr):(Builtin.unsafeString_ #[237,3] 9 #[.pointer q,.int .i64 0]).run prog W=.ok (.string .empty) W:=
 Lib.run_unsafeString_none W _ _ _ q
theorem Qdf(B b:Nat)(l:List UInt8)(w:World)(h:Bld B b l w)(h0:l≠[]):
  Calls prog 148 #[b] w fun e w'=>e=.returned l/\Below B w w':=by
 obtain⟨p,hB,v,hbk,hown,hne⟩:∃p,Qem B b p (Cf l) w:=by
  rcases h with h|h
  ·exact⟨_,h⟩
  exact⟨_,h⟩
 have hl0:l.length≠0:=by simpa using h0
 rw[H5]at hown;obtain⟨g,cap,cur,rfl,hbg,hg,hnc,hcm,hcs,htake⟩:∃g cap cur,v=.slice (some ⟨g,0,none⟩) l.length cap/\B<=g/\w.heap[g]?=some (.cells cur 5 (0,0))/\l.length<=cap/\cap<=maxLen/\cur.size=cap*1/\cur.toList.take (l.length*1)=Cf l:=by
  rcases hown.2 with⟨_,hz⟩|⟨g,cap,cur,hv,r⟩
  ·exact absurd hz hl0
  exact⟨g,cap,cur,hv,r⟩
 have c1:w.drew.cell? (b,1)=some (.slice (some ⟨g,0,none⟩) l.length cap):=by
  have:w.drew.heap[b]?=some (.cells #[p,.slice (some ⟨g,0,none⟩) l.length cap] 195 (0,0)):=hbk;exact iI
 have hSD:(Builtin.unsafeSliceData_ #[22] 237 #[.slice (some ⟨g,0,none⟩) l.length cap]).run prog w.drew=.ok (.pointer (some ⟨g,0,none⟩)) w.drew:=
  Lib.run_unsafeSliceData_row _ _ _ _ _ _ aI
 have hUS:(Builtin.unsafeString_ #[237,3] 9 #[.pointer (some ⟨g,0,none⟩),.int .i64 l.length]).run prog w.drew=.ok l (w.drew.freeze ⟨g,0,none⟩ l.length):=by
  refine Lib.run_unsafeString_row w.drew 237 3 9 5 underlying237 Tryz.cellsByte g cur.size dD l h0 aI (by unfold maxLen at hcm;omega) ?_;intro j x hx;have:=hown.cells (g:=g) rfl j (.int .u8 x.toNat) (by simp[Cf,hx]);exact this
 clear h hne hcm htake;go_enter func148,ntmps148;go_wp2
 go_region
 all_goals (go_wp2;go_ret;exact⟨rfl,Lib.below_freeze (Below.drew (Aq B w)) (p:=⟨g,0,none⟩) hbg _⟩)
theorem Qfv(B b:Nat)(p:Value)(w:World)(hbk:w.heap[b]?=some (.cells #[p,.slice none 0 0] 195 (0,0))):
  Calls prog 148 #[b] w fun e w'=>e=.returned a6/\Below B w w':=by
 have hUS:=Qf4;have c1:w.drew.cell? (b,1)=some (.slice none 0 0):=by
  have:w.drew.heap[b]?=some (.cells #[p,.slice none 0 0] 195 (0,0)):=hbk;exact iI
 have hSD:(Builtin.unsafeSliceData_ #[22] 237 #[.slice none 0 0]).run prog w.drew=.ok (.pointer none) w.drew:=rfl;go_enter func148,ntmps148;go_wp2
 go_region
 all_goals (go_wp2;go_ret;exact⟨rfl,Below.drew (Aq B w)⟩)
theorem Yv(B b g:Nat)(p:Value)(cur:Array Value)(w:World)(hBw:B<=w.heap.size)(hbk:w.heap[b]?=some (.cells #[p,.slice (g,0) 0 0] 195 (0,0)))(hg:w.heap[g]?=some (.cells cur 5 (0,0))):
  Calls prog 148 #[b] w fun e w'=>e=.returned a6/\Below B w w':=by
 have hUS:=Qf4;have hlt:b<w.heap.size:=by
  rcases aH b w.heap.size with h'|h'
  ·exact h'
  simp[Array.getElem?_eq_none h']at hbk
 have c1:w.drew.cell? (b,1)=some (.slice (g,0) 0 0):=by
  have:w.drew.heap[b]?=some (.cells #[p,.slice (g,0) 0 0] 195 (0,0)):=hbk;exact iI
 have hSD:(Builtin.unsafeSliceData_ #[22] 237 #[.slice (g,0) 0 0]).run prog w.drew=.ok w.drew.heap.size (w.drew.alloc (.view ⟨g,0,none⟩ 5)):=
  Lib.run_unsafeSliceData_zero w.drew _ _ 5 underlying237 ⟨g,0,none⟩ 0 (5,cur.size) dD
 have c2:(w.drew.alloc (.view ⟨g,0,none⟩ 5)).cell? (b,1)=some (.slice (g,0) 0 0):=by
  have:(w.drew.alloc (.view ⟨g,0,none⟩ 5)).heap[b]?=_:=(Lib.alloc_old w.drew _ b hlt).trans hbk;exact iI
 have c3:(w.alloc (.view ⟨g,0,none⟩ 5)).drew.cell? (b,1)=some (.slice (g,0) 0 0):=c2;have c0:w.cell? (b,1)=some (.slice (g,0) 0 0):=c1;go_enter func148,ntmps148;go_wp2
 go_region
 all_goals (go_wp2;go_ret;exact⟨rfl,(Below.drew (Aq B w)).alloc hBw _⟩)
theorem Qde(B b g cap:Nat)(p:Value)(w:World)(hc0:cap≠0)(hbk:w.heap[b]?=some (.cells #[p,.slice (g,0) 0 cap] 195 (0,0))):
  Calls prog 148 #[b] w fun e w'=>e=.returned a6/\Below B w w':=by
 have hUS:=Qf4;have c1:w.drew.cell? (b,1)=some (.slice (g,0) 0 cap):=by
  have:w.drew.heap[b]?=some (.cells #[p,.slice (g,0) 0 cap] 195 (0,0)):=hbk;exact iI
 have hSD:(Builtin.unsafeSliceData_ #[22] 237 #[.slice (g,0) 0 cap]).run prog w.drew=.ok g w.drew:=
  Lib.run_unsafeSliceData_row _ _ _ _ _ _ hc0
 clear hc0;go_enter func148,ntmps148;go_wp2
 go_region
 all_goals (go_wp2;go_ret;exact⟨rfl,Below.drew (Aq B w)⟩)
theorem Xl(B b:Nat)(l:List UInt8)(w:World)(h:Bld B b l w)(hBw:B<=w.heap.size):
  Calls prog 148 #[b] w fun e w'=>e=.returned l/\Below B w w':=by
 cases l with
 |cons x r=>exact Qdf B b (x::r) w h aK
 |nil=>
  obtain⟨p,hB,v,hbk,hown,hne⟩:∃p,Qem B b p [] w:=by
   rcases h with h|h
   ·exact⟨_,h⟩
   exact⟨_,h⟩
  rcases hown.2 with⟨rfl,_⟩|⟨g,cap,cur,rfl,hbg,hg,_,_,_,_⟩
  ·exact Qfv B b p w hbk
  by_cases hc0:cap=0
  ·subst hc0;exact Yv B b g p cur w hBw hbk hg
  exact Qde B b g cap p w hc0 hbk
theorem Qn3(w:World):Bld w.heap.size w.heap.size [] (w.alloc (.cells #[.pointer none,.slice none 0 0] 195)):=
 Lib.fresh_isBuilder 195 5 w
section
variable {P:Program}
end
theorem Qa0(a b:List (List UInt8)):Bz (a++b)=Bz a++Bz b:=by simp[Bz]
section
attribute [local go_sem] Qra Qpu Qo3 Qmi ByteArray.mk_append_mk
theorem P3(n:Nat)(w:World)(hn:n<10):
  Calls prog 93 #[.int .i64 n] w fun e w'=>e=.returned (.string ⟨(Az n).toArray⟩)/\Below w w w':=by
 have Hfin:=Aa (Fa hn);have hcv:=fun W=>Jh W w 1 (Bx (48+n));rw[Bo aI]at hcv;go_enter func93,ntmps93;go_wp2_with fail;exact iC
theorem M7:∀(k n:Nat) (w:World),n<=k->n<=1000000000 ->
  Calls prog 93 #[.int .i64 n] w fun e w'=>e=.returned (.string ⟨(Az n).toArray⟩)/\Below w w w':=by
 intro k;induction k with
 |zero=>intro n w hn h;exact P3 n w aI
 |succ k ih=>
  intro n w hn h;by_cases h10:n<10
  ·exact P3 n w h10
  have Hfin:=Aa (Nx h10);have Hs:=Aa (Fa (show n % 10<10 by omega));have Ih:=Aa (fun W=>ih (n / 10) W aI aI);have hl:=C9 8 (n / 10) f7;have e1:((n:Int) / 10)=((n / 10:Nat):Int):=aI;have e2:((n:Int) % 10)=((n % 10:Nat):Int):=aI;have E1:=Aa e1;have E2:=Aa e2;clear ih e1 e2;go_enter func93,ntmps93;go_wp2_with fail;rw[E1.o];refine(Ih.o _).mono ?_;rintro e w1 ⟨rfl,hb1⟩;have Hb1:=Aa hb1;clear hb1;go_wp2_with fail;rw[E2.o];refine(P3 (n % 10) w1 aI).mono ?_;rintro e w2 ⟨rfl,hb2⟩;have Hb2:=Aa (Hb1.o.trans (hb2.mono Hb1.o.size));rw[Hs.o];clear hb2;go_wp2_with fail;go_ret;exact⟨by rw[Hfin.o];rfl,Hb2.o⟩
def Qol(b:List UInt8):Prop:=b=[110]\/b=[116]\/b=[102]\/b=[64]
theorem Qjk{s:List UInt8}:Ce [110] s=(match Cx s with|some n=>decide (0<n)|none=>false):=rfl
theorem Qi3{s:List UInt8}:Ce [116] s=(decide (2<s.length) && decide (s.head?=some 39) && decide (s.getLast?=some 39) && Da (s.drop 1).dropLast):=rfl
theorem Qis{s:List UInt8}:Ce [102] s=decide (s=[121,101,115]):=rfl
theorem Qf9(s:List UInt8)(w:World)(hs:s.length<=4000000):
  Calls prog 216 #[.string ⟨#[110]⟩,s] w fun e w'=>e=.returned (.bool (Ce [110] s))/\Below w w w':=by
 have Hp:=Aa (fun W=>Gc s 999999 W aI aI);have Hf:=Aa (Qjk (s:=s));cases hd:Cx s with
 |none=>
  rw[hd]at Hf;have Hv:=Aa (Rp (m:=999999) hd);clear hd;go_enter func216,ntmps216;go_wp2_with fail;refine(Hp.o _).mono ?_;rintro e w' ⟨rfl,rfl⟩;rw[Hv.o];go_wp2_with fail;go_ret;exact⟨Er (Db Hf.o.symm),Aq _ _⟩
 |some n=>
  rw[hd]at Hf;have h9:=(Bw.1 hd).1;have Hv:=Aa (Tk (m:=999999) hd);have t1:decide (n<=999999)=true:=by simp;exact h9
  clear hd;rcases aH 0 n with hn|hn;all_goals
   go_enter func216,ntmps216;go_wp2_with fail;refine(Hp.o _).mono ?_;rintro e w' ⟨rfl,rfl⟩;rw[Hv.o,t1];go_wp2_with fail;go_ret;exact⟨Er (Db (by rw[Hf.o];first|done|(simp;try omega))),Aq _ _⟩
theorem Qgl(s:List UInt8)(w:World)(hs:s.length<=4000000):
  Calls prog 216 #[.string ⟨#[102]⟩,s] w fun e w'=>e=.returned (.bool (Ce [102] s))/\Below w w w':=by
 have Hf:=Aa (Qis (s:=s));by_cases hy:s=[121,101,115]
 ·subst hy;go_enter func216,ntmps216;go_wp2_with fail;go_ret;exact⟨Er (Db (by rw[Hf.o];simp)),Aq _ _⟩
 have Hy:=Aa (show decide (s=[121,101,115])=false by simpa using hy);have ty:(s == [121,101,115])=false:=by simpa using hy
 clear hy;go_enter func216,ntmps216;go_wp2_with fail;go_ret;exact⟨Er (Db (by rw[Hf.o,Hy.o])),Aq _ _⟩
theorem Qfs(s:List UInt8)(w:World):
  Calls prog 216 #[.string ⟨#[64]⟩,s] w fun e w'=>e=.returned (.bool (Ce [64] s))/\Below w w w':=by
 go_enter func216,ntmps216;go_wp2_with fail;go_ret;exact iJ
theorem Qg5(s:List UInt8)(w:World)(hs:s.length<=4000000):
  Calls prog 216 #[.string ⟨#[116]⟩,s] w fun e w'=>e=.returned (.bool (Ce [116] s))/\Below w w w':=by
 have hf:=Qi3 (s:=s);rcases aH 2 s.length with h2|h2
 ·obtain⟨c,u,d,rfl⟩:∃c u d,s=c::(u++[d]):=by
   cases s with
   |nil=>simp at h2
   |cons c t=>
    rcases Fl t with rfl|⟨u,d,rfl⟩
    ·simp at h2
    exact⟨c,u,d,rfl⟩
  have hl:(c::(u++[d])).getLast?=some d:=by
   exact iu
  have hu:((c::(u++[d])).drop 1).dropLast=u:=aK;rw[hl,hu]at hf;have t0:decide (2<(c::(u++[d])).length)=true:=dV;rw[t0]at hf;simp only[List.head?_cons,aj,Bool.true_and]at hf;have Hf:=Aa hf;have hc:=c.toNat_lt;have hd:=d.toNat_lt;have hgd:∀h,(c::(u++[d]))[u.length+1]'h=d:=by intro h;simp
  have hsl:(List.take u.length (u++[d]))=u:=aK;have hul:2<=u.length+1:=by simp at h2;omega
  have hul2:u.length<=4000000:=fl;clear hf hl hu h2 hs t0;by_cases hc39:c=39
  ·have t1:((c.toNat:Int) == 39)=true:=Bv hc39;have Hc:=Aa (show decide (c=39)=true by simpa using hc39);clear hc39;by_cases hd39:d=39
   ·have t2:((d.toNat:Int) == 39)=true:=Bv hd39;have Hd:=Aa (show decide (d=39)=true by simpa using hd39);clear hd39;go_enter func216,ntmps216;go_wp2_with fail;refine(Qaa u _ aI).mono ?_;rintro e w' ⟨rfl,hb⟩;go_wp2_with fail;go_ret;exact⟨Er (Db (by rw[Hf.o,Hc.o,Hd.o];simp)),hb⟩
   have t2:((d.toNat:Int) == 39)=false:=At hd39;have Hd:=Aa (show decide (d=39)=false by simpa using hd39);clear hd39;go_enter func216,ntmps216;go_wp2_with fail;go_ret;exact⟨Er (Db (by rw[Hf.o,Hd.o];simp)),Aq _ _⟩
  have t1:((c.toNat:Int) == 39)=false:=At hc39;have Hc:=Aa (show decide (c=39)=false by simpa using hc39);clear hc39;go_enter func216,ntmps216;go_wp2_with fail;go_ret;exact⟨Er (Db (by rw[Hf.o,Hc.o];simp)),Aq _ _⟩
 have e0:decide (2<s.length)=false:=aO;have Hf:=Aa (show Ce [116] s=false by rw[hf,e0];simp);clear e0;have t0:decide (2<(s.length:Int))=false:=aO;clear hf;go_enter func216,ntmps216;go_wp2_with fail;go_ret;exact⟨Er (Db Hf.o.symm),Aq _ _⟩
theorem Qcf(b s:List UInt8)(w:World)(hb:Qol b)(hs:s.length<=4000000):
  Calls prog 216 #[b,s] w fun e w'=>e=.returned (.bool (Ce b s))/\Below w w w':=by
 rcases hb with rfl|rfl|rfl|rfl
 ·exact Qf9 s w hs
 ·exact Qg5 s w hs
 ·exact Qgl s w hs
 exact Qfs s w
theorem Vp{st:UInt8}{f:Fd}(h:Su st f):f.given.length<=14:=by
 by_cases hs:st=69
 ·rw[(h.2.2.2.1 hs).2];simp
 by_cases hg:f.given=[]
 ·rw[hg];simp
 have:=((h.2.2.2.2 hs).2 hg).2.2
 unfold Ce at this
 split at this
 ·split at this
  ·rename_i n hd
   have:=Bw.1 hd
   rw[this.2]
   have:=C9 5 n (by have e:10 ^ (5+1)=1000000:=rfl;omega)
   omega
  cases this
 split at this
 ·simp only[Bool.and_eq_true,decide_eq_true_eq]at this
  have h4:=this.2
  unfold Da at h4
  simp only[Bool.and_eq_true,decide_eq_true_eq,List.length_dropLast,List.length_drop]at h4
  omega
 split at this
 ·simp only[decide_eq_true_eq]at this;rw[this];simp
 cases this
end
section
variable {P:Program}
theorem Ml(W:World){o:Oper}{a:Act}{K:Act->World->Prop}{Q:Exit->Act->World->Prop}(s x:Operand)(t:TypeId)
  (ho:o.op=.call {callee:=.builtin .append,args:=#[s,x],argTypes:=#[t,t]})
  (base:Nat) (e:TypeId) (z:Value) (k bytes:Nat) (ht:P.underlying t=some (.slice e)) (hinfo:(P.info? e).map (fun i=>(i.zero,i.size,i.bytes))=some (some z,k,bytes))
  (hzs:z.cells.size=k) (hk:0<k) (us:List Value) (hul:us.length=k) (hu:∀u∈us,u.oneCell'=true) (v:Value) (n:Nat) (xs:List Value) (hs:a.eval s=v) (hx:a.eval x=.slice (W,0) 1 1)
  (hown:W.ownsRow base e k v n xs) (h63:n+1<=maxLen) (hbytes:(n+1)*bytes<=140737488355328) (hbase:base<=W.heap.size)
  (h:∀v' w',w'.ownsRow base e k v' (n+1) (xs++us)->W.grownBy w' v.ownBlock->(v'.ownBlock=v.ownBlock\/∃k,v'.ownBlock=some k/\W.heap.size<=k)->K (a.put o.dst v') w'):Oper.wp P o a (W.alloc (.cells us.toArray e)) K Q:=by
 obtain⟨i0,hi,hz0,hz1,hz2⟩:=info_parts hinfo
 obtain⟨v',w',hrun,r1,r2,r3⟩:=Nl (P:=P) (W.alloc (.cells us.toArray e)) base t o.type e i0 z k bytes ht hi hz0 hz1 hz2 hzs hk v n xs (hown.alloc _) ⟨W.heap.size,0,none⟩ 1 1 us aI (by
  intro j y hj;have e1:(⟨W.heap.size,0,none⟩:Addr).add j=⟨W.heap.size,j,none⟩:=bq;rw[e1,World.cell?_alloc_new];simpa using hj) hu aL h63 hbytes aO
 unfold Oper.wp;simp[execOp,ho,resolve,invoke,builtin,hs,hx,hrun,Result.andThen];refine h v' w' r1 ?_ ?_
 ·exact gO
 rcases r3 with r3|⟨k,r3,r4⟩
 ·exact .inl r3
 exact .inr ⟨k,r3,by simp at r4;omega⟩
theorem Sn(W:World){ops:Array Oper}{rest:List Oper}{o:Oper}{a:Act}{Q:Exit->Act->World->Prop}(hgd:o.guard=none)(s x:Operand)(t:TypeId)
  (ho:o.op=.call {callee:=.builtin .append,args:=#[s,x],argTypes:=#[t,t]})
  (base:Nat) (e:TypeId) (z:Value) (k bytes:Nat) (ht:P.underlying t=some (.slice e)) (hinfo:(P.info? e).map (fun i=>(i.zero,i.size,i.bytes))=some (some z,k,bytes))
  (hzs:z.cells.size=k) (hk:0<k) (us:List Value) (hul:us.length=k) (hu:∀u∈us,u.oneCell'=true) (v:Value) (n:Nat) (xs:List Value) (hs:a.eval s=v) (hx:a.eval x=.slice (W,0) 1 1)
  (hown:W.ownsRow base e k v n xs) (h63:n+1<=maxLen) (hbytes:(n+1)*bytes<=140737488355328) (hbase:base<=W.heap.size)
  (h:∀v' w',w'.ownsRow base e k v' (n+1) (xs++us)->W.grownBy w' v.ownBlock->(v'.ownBlock=v.ownBlock\/∃k,v'.ownBlock=some k/\W.heap.size<=k)->wpList P ops Q rest (a.put o.dst v') w'):wpList P ops Q (o::rest) a (W.alloc (.cells us.toArray e)):=
 wpList_plain hgd fun K' hK'=>Ml W s x t ho base e z k bytes ht hinfo hzs hk us hul hu v n xs hs hx hown h63 hbytes hbase fun v' w' h1 h2 h3=>hK' _ _ (h v' w' h1 h2 h3)
end
end Go.Proofs.YtmmhmlmfhpfgbaaGreatDoor
