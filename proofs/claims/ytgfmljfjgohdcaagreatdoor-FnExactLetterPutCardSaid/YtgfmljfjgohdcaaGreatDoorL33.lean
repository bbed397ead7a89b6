/- Texts joined. Conditions: as each theorem names them. -/
import Derived.Test.YtgfmljfjgohdcaaGreatDoorL32
set_option maxRecDepth 100000
set_option maxHeartbeats 32000000
set_option linter.unusedVariables false
set_option linter.unusedSimpArgs false
namespace Go.Proofs.YtgfmljfjgohdcaaGreatDoor
open Go.RowKit Go.Proofs.Tryz
section
attribute [local go_sem] Qls Qkr Qj4 Qig ByteArray.mk_append_mk
theorem Mb.cases{s d x:List UInt8}{w w1:World}{e:Ending}(h:Mb s d x w e w1):Below w w w1/\((S5 (Bn s d) x=none/\∃(v:Value) (q:Option Addr),e=.returned (.tuple #[v,.pointer q,.bool false])) \/
  ∃S k v xv xs b,Bn s d=some (S,k)/\S5 (Bn s d) x=some v/\e=.returned (.tuple #[xv,.pointer (some ⟨b,0,none⟩),.bool true])/\Af xs=S/\Jt w1 xv xs/\Fx (fun c=>w.heap.size<=c) w1 b (De S k v)):=by
 obtain⟨hb1,hm⟩:=h;refine⟨hb1,?_⟩;cases hb:Bn s d with
 |none=>
  rw[hb]at hm;obtain⟨v,q,he⟩:=hm;exact .inl ⟨rfl,v,q,he⟩
 |some y=>
  rw[hb]at hm;simp only at hm;cases hv:Mr y.1 y.2 x with
  |none=>
   rw[hv]at hm;obtain⟨v,q,he⟩:=hm;exact .inl ⟨hv,v,q,he⟩
  |some v=>
   rw[hv]at hm;obtain⟨xv,xs,b,he,h1,h2,hat⟩:=hm;exact .inr ⟨y.1,y.2,v,xv,xs,b,rfl,hv,he,h1,h2,hat⟩
end
structure G0(Q:World->Value->Value->Value->Prop)(w1:World)(c m x y z a b e:Bool)(uc um ux uy uz ua ub ue:Value)(W:World):Prop where
 no:c=false->W=w1
 yes:c=true->∃vp vr vk,Q W vp vr vk/\uc=.tuple #[vp,vr,vk]/\(m=true->um=.tuple #[vp,vr,vk])/\(x=true->ux=vp)/\(y=true->uy=vr)/\(z=true->uz=vk)/\(a=true->ua=vp)/\(b=true->ub=vr)/\(e=true->ue=vk)
def SrQ(w1:World)(S:List Ty)(k:Kd)(o:Option (Vl × List UInt8))(W:World)(vp vr vk:Value):Prop:=
 Below w1.heap.size w1 W/\match o with
  |some x=>(∃b,vp=.pointer (some ⟨b,0,none⟩)/\Fx (fun c=>w1.heap.size<=c) W b (De S k x.1))/\vr=.string ⟨x.2.toArray⟩/\vk=.bool true
  |none=>(∃q,vp=.pointer q)/\(∃r,vr=.string r)/\vk=.bool false
theorem Bj.q{S:List Ty}{k:Kd}{o:Option (Vl × List UInt8)}{w w':World}{e:Ending}(h:Bj S k o w e w'):∃vp vr vk,e=.returned (.tuple #[vp,vr,vk])/\SrQ w S k o w' vp vr vk:=by
 obtain⟨h,hb⟩:=h
 cases o with
 |none=>obtain⟨q,r,rfl⟩:=h;exact⟨_,_,_,rfl,hb,⟨q,rfl⟩,⟨r,rfl⟩,rfl⟩
 |some x=>obtain⟨b,rfl,hs⟩:=h;exact⟨_,_,_,rfl,hb,⟨b,rfl,hs⟩,rfl,rfl⟩
section
variable {Q:World->Value->Value->Value->Prop} {w1 W W':World} {l m x y z a b e:Bool} {ul um ux uy uz ua ub ue vp vr vk:Value}
theorem G0.call(hm:m=false)(hx:x=false)(hy:y=false)(hz:z=false)(ha:a=false)(hb:b=false)(he:e=false)(h:Q W vp vr vk):G0 Q w1 true m x y z a b e (.tuple #[vp,vr,vk]) um ux uy uz ua ub ue W:=by
 subst hm hx hy hz ha hb he
 exact⟨fun h=>Bool.noConfusion h,fun _=>⟨vp,vr,vk,h,rfl,fun h=>Bool.noConfusion h,fun h=>Bool.noConfusion h,fun h=>Bool.noConfusion h,fun h=>Bool.noConfusion h,fun h=>Bool.noConfusion h,fun h=>Bool.noConfusion h,fun h=>Bool.noConfusion h⟩⟩
theorem G0.call2(hx:x=false)(hy:y=false)(hz:z=false)(ha:a=false)(hb:b=false)(he:e=false)(h:Q W vp vr vk):G0 Q w1 true true x y z a b e (.tuple #[vp,vr,vk]) (.tuple #[vp,vr,vk]) ux uy uz ua ub ue W:=by
 subst hx hy hz ha hb he
 exact⟨fun h=>Bool.noConfusion h,fun _=>⟨vp,vr,vk,h,rfl,fun _=>rfl,fun h=>Bool.noConfusion h,fun h=>Bool.noConfusion h,fun h=>Bool.noConfusion h,fun h=>Bool.noConfusion h,fun h=>Bool.noConfusion h,fun h=>Bool.noConfusion h⟩⟩
theorem G0.move(h:G0 Q w1 l m x y z a b e ul um ux uy uz ua ub ue W)(hl:l=true):G0 Q w1 l true x y z a b e ul ul ux uy uz ua ub ue W:=
 ⟨h.no,fun hl=>by obtain⟨p,r,k,h1,h2,_,h3⟩:=h.yes hl;exact⟨p,r,k,h1,h2,fun _=>h2,h3⟩⟩
theorem G0.get(h:G0 Q w1 l m x y z a b e ul um ux uy uz ua ub ue W)(hl:l=true)(hm:m=true):∃vp vr vk,um=.tuple #[vp,vr,vk]/\G0 Q w1 l m true y z a b e ul um vp uy uz ua ub ue W/\G0 Q w1 l m x true z a b e ul um ux vr uz ua ub ue W/\G0 Q w1 l m x y true a b e ul um ux uy vk ua ub ue W:=by
 obtain⟨p,r,k,h1,h2,h3,h4,h5,h6,h7⟩:=h.yes hl
 exact⟨p,r,k,h3 hm,⟨h.no,fun _=>⟨p,r,k,h1,h2,h3,fun _=>rfl,h5,h6,h7⟩⟩,⟨h.no,fun _=>⟨p,r,k,h1,h2,h3,h4,fun _=>rfl,h6,h7⟩⟩,⟨h.no,fun _=>⟨p,r,k,h1,h2,h3,h4,h5,fun _=>rfl,h7⟩⟩⟩
theorem G0.as0(h:G0 Q w1 l m x y z a b e ul um ux uy uz ua ub ue W)(hx:x=true):G0 Q w1 l m x y z true b e ul um ux uy uz ux ub ue W:=
 ⟨h.no,fun hl=>by obtain⟨p,r,k,h1,h2,h3,h4,h5,h6,_,h8,h9⟩:=h.yes hl;exact⟨p,r,k,h1,h2,h3,h4,h5,h6,fun _=>h4 hx,h8,h9⟩⟩
theorem G0.as1(h:G0 Q w1 l m x y z a b e ul um ux uy uz ua ub ue W)(hy:y=true):G0 Q w1 l m x y z a true e ul um ux uy uz ua uy ue W:=
 ⟨h.no,fun hl=>by obtain⟨p,r,k,h1,h2,h3,h4,h5,h6,h7,_,h9⟩:=h.yes hl;exact⟨p,r,k,h1,h2,h3,h4,h5,h6,h7,fun _=>h5 hy,h9⟩⟩
theorem G0.as2(h:G0 Q w1 l m x y z a b e ul um ux uy uz ua ub ue W)(hz:z=true):G0 Q w1 l m x y z a b true ul um ux uy uz ua ub uz W:=
 ⟨h.no,fun hl=>by obtain⟨p,r,k,h1,h2,h3,h4,h5,h6,h7,h8,_⟩:=h.yes hl;exact⟨p,r,k,h1,h2,h3,h4,h5,h6,h7,h8,fun _=>h6 hz⟩⟩
theorem G0.fin(h:G0 Q w1 l m x y z a b e ul um ux uy uz ua ub ue W)(hl:l=true)(ha:a=true)(hb:b=true)(he:e=true):∃vp vr vk,Q W vp vr vk/\ua=vp/\ub=vr/\ue=vk:=by
 obtain⟨p,r,k,h1,_,_,_,_,_,h7,h8,h9⟩:=h.yes hl
 exact⟨p,r,k,h1,h7 ha,h8 hb,h9 he⟩
end
structure Nj(Q:World->Value->Value->Value->Prop)(w1:World)(c m x y z a b e:Bool)(uc um ux uy uz ua ub ue:Value)(W:World):Prop where
 st:G0 Q w1 c m x y z a b e uc um ux uy uz ua ub ue W
 om:m=true->c=true
 ox:x=true->m=true
 oy:y=true->m=true
 oz:z=true->m=true
 oa:a=true->x=true
 ob:b=true->y=true
 oe:e=true->z=true
theorem Gz{a b:Bool}(h:a=true->b=true)(hb:b=false):a=false:=by
 cases a with
 |false=>rfl
 |true=>exact absurd ((h rfl).symm.trans hb) (by decide)
section
variable {Q:World->Value->Value->Value->Prop} {w1 W W':World} {c m x y z a b e:Bool} {uc um ux uy uz ua ub ue vp vr vk:Value}
theorem Nj.start:Nj Q w1 false false false false false false false false uc um ux uy uz ua ub ue w1:=
 ⟨⟨fun _=>rfl,fun h=>Bool.noConfusion h⟩,id,id,id,id,id,id,id⟩
theorem Nj.cells(hQ:∀W vp vr vk,Q W vp vr vk->Below w1.heap.size w1 W)(h:Nj Q w1 c m x y z a b e uc um ux uy uz ua ub ue W):∀b o k,b<w1.heap.size->W.cell? ⟨b,o,k⟩=w1.cell? ⟨b,o,k⟩:=by
 cases c with
 |false=>rw[h.st.no rfl];intros;rfl
 |true=>obtain⟨vp,vr,vk,hq,_⟩:=h.st.yes rfl;exact fun b o k hb=>(hQ _ _ _ _ hq).cell (p:=⟨b,o,k⟩) hb
theorem Nj.call(h:Nj Q w1 c m x y z a b e uc um ux uy uz ua ub ue W)(hc:c=false):W=w1/\∀{W' vp vr vk},Q W' vp vr vk->Nj Q w1 true m x y z a b e (.tuple #[vp,vr,vk]) um ux uy uz ua ub ue W':=by
 have hm:=Gz h.om hc
 have hx:=Gz h.ox hm
 have hy:=Gz h.oy hm
 have hz:=Gz h.oz hm
 exact⟨h.st.no hc,fun hq=>⟨G0.call hm hx hy hz (Gz h.oa hx) (Gz h.ob hy) (Gz h.oe hz) hq,fun _=>rfl,h.ox,h.oy,h.oz,h.oa,h.ob,h.oe⟩⟩
theorem Nj.call2(h:Nj Q w1 c c x y z a b e uc uc ux uy uz ua ub ue W)(hc:c=false):W=w1/\∀{W' vp vr vk},Q W' vp vr vk->Nj Q w1 true true x y z a b e (.tuple #[vp,vr,vk]) (.tuple #[vp,vr,vk]) ux uy uz ua ub ue W':=by
 have hx:=Gz h.ox hc
 have hy:=Gz h.oy hc
 have hz:=Gz h.oz hc
 exact⟨h.st.no hc,fun hq=>⟨G0.call2 hx hy hz (Gz h.oa hx) (Gz h.ob hy) (Gz h.oe hz) hq,fun _=>rfl,fun _=>rfl,fun _=>rfl,fun _=>rfl,h.oa,h.ob,h.oe⟩⟩
theorem Nj.move(h:Nj Q w1 c m x y z a b e uc um ux uy uz ua ub ue W)(hc:c=true):Nj Q w1 c true x y z a b e uc uc ux uy uz ua ub ue W:=
 ⟨h.st.move hc,fun _=>hc,fun _=>rfl,fun _=>rfl,fun _=>rfl,h.oa,h.ob,h.oe⟩
theorem Nj.get(h:Nj Q w1 c m x y z a b e uc um ux uy uz ua ub ue W)(hm:m=true):∃vp vr vk,um=.tuple #[vp,vr,vk]/\Nj Q w1 c m true y z a b e uc um vp uy uz ua ub ue W/\Nj Q w1 c m x true z a b e uc um ux vr uz ua ub ue W/\Nj Q w1 c m x y true a b e uc um ux uy vk ua ub ue W:=by
 obtain⟨vp,vr,vk,e1,h1,h2,h3⟩:=h.st.get (h.om hm) hm
 exact⟨vp,vr,vk,e1,⟨h1,h.om,fun _=>hm,h.oy,h.oz,fun _=>rfl,h.ob,h.oe⟩,⟨h2,h.om,h.ox,fun _=>hm,h.oz,h.oa,fun _=>rfl,h.oe⟩,⟨h3,h.om,h.ox,h.oy,fun _=>hm,h.oa,h.ob,fun _=>rfl⟩⟩
theorem Nj.as0(h:Nj Q w1 c m x y z a b e uc um ux uy uz ua ub ue W)(hx:x=true):Nj Q w1 c m x y z true b e uc um ux uy uz ux ub ue W:=⟨h.st.as0 hx,h.om,h.ox,h.oy,h.oz,fun _=>hx,h.ob,h.oe⟩
theorem Nj.as1(h:Nj Q w1 c m x y z a b e uc um ux uy uz ua ub ue W)(hy:y=true):Nj Q w1 c m x y z a true e uc um ux uy uz ua uy ue W:=⟨h.st.as1 hy,h.om,h.ox,h.oy,h.oz,h.oa,fun _=>hy,h.oe⟩
theorem Nj.as2(h:Nj Q w1 c m x y z a b e uc um ux uy uz ua ub ue W)(hz:z=true):Nj Q w1 c m x y z a b true uc um ux uy uz ua ub uz W:=⟨h.st.as2 hz,h.om,h.ox,h.oy,h.oz,h.oa,h.ob,fun _=>hz⟩
end
def RK(Q:World->Value->Value->Value->Prop)(w1:World)(c m:Nat)(l:Nat->Bool)(u:Nat->Value)(W:World):Prop:=
 Nj Q w1 (l c) (l m) (l (m+1)) (l (m+2)) (l (m+3)) (l (m+4)) (l (m+5)) (l (m+6)) (u c) (u m) (u (m+1)) (u (m+2)) (u (m+3)) (u (m+4)) (u (m+5)) (u (m+6)) W
section
variable {P:Program} {ops:Array Oper} {Q:Exit->Act->World->Prop} {a:Act} {mk:(Nat->Value)->Act} {G:World->Prop} {K:World->Value->Value->Value->Prop} {w1:World} {c m:Nat}
theorem rgT{id:Nat}(K:World->Value->Value->Value->Prop)(c m:Nat){w:World}(hQ:∀W vp vr vk,K W vp vr vk->Below w.drew.heap.size w.drew W)(h:Sq P ops Q a mk (RK K w.drew c m) (Gr w) ops.toList 0 [])
  (hc:(P.follows .mixedOrders && (List.range ops.size).all (fun i=>((ops[i]?).map fun o=>o.after.all fun e=>!Region.binds .any e || decide (e.on<i)).getD true) && Fy a.tmps.size ops.toList (Dx ops.toList))=true:=by kernel_rfl)
  (hmk:∀u,Bp a (Dx ops.toList) u=mk u:=by intro u;dsimp only[Bp,Dx,Bh,List.set,Nat.zero_add,Nat.reduceAdd,List.length_cons,List.length_nil]):(Code.region id ops true).wp P Q a w:=
 rgF (RK K w.drew c m) (Gr w) (fun l u W h b o k hb=>by rw[Nj.cells hQ h b o k (by simpa using hb),World.cell?_drew]) Nj.start h hc hmk
variable {o:Oper} {os:List Oper} {i:Nat} {ps:List (Value->Prop)} {v:Value}
theorem sqS(v:Value){R:(Nat->Bool)->(Nat->Value)->World->Prop}(k:Sq P ops Q a mk R G os (i+1) (ps++[fun x=>x=v]))(h:St P ops Q a mk R G i o ps (fun x=>x=v):=by
  intro l u W hl hp hF hG hi K hK
  first|(simp[Region.binds,Fz]at hp;done)|simp[Region.binds,Fz]at hp|clear hp
  go_simp
  rw[if_pos (by omega)]
  go_simp
  exact hK _ _ _ rfl hF.o (by first|rfl|(simp[Act.put,hp];done)|(simp[Act.put,hp];exact rfl))):Sq P ops Q a mk R G (o::os) i ps:=⟨_,h,k⟩
theorem sqK{C:Prop}(X:C)(k:Sq P ops Q a mk (RK K w1 c m) G os (i+1) (ps++[fun _=>True]))(h:C->St P ops Q a mk (RK K w1 c m) G i o ps (fun _=>True):=by
  intro X l u W hl hp hF hG hi K9 hK
  obtain⟨hW,f⟩:=Nj.call hF.o hl
  first|(simp[Region.binds,Fz]at hp;done)|simp[Region.binds,Fz]at hp|clear hp
  clear hG hi hF
  subst hW
  go_simp
  refine X.mono ?_
  rintro e w5 hp5
  obtain⟨vp,vr,vk,rfl,hq5⟩:=hp5.q
  go_simp
  exact hK _ _ _ True.intro (f hq5) (by first|rfl|(simp[Act.put,hp];done)|(simp[Act.put,hp];exact rfl))):Sq P ops Q a mk (RK K w1 c m) G (o::os) i ps:=⟨_,h X,k⟩
theorem Qkx{C:Prop}(X:C)(k:Sq P ops Q a mk (RK K w1 c m) G os (i+1) (ps++[fun _=>True]))(h:C->St P ops Q a mk (RK K w1 c m) G i o ps (fun _=>True):=by
  intro X l u W hl hp hF hG hi K9 hK
  obtain⟨hW,f⟩:=Nj.call2 hF.o hl
  first|(simp[Region.binds,Fz]at hp;done)|simp[Region.binds,Fz]at hp|clear hp
  clear hG hi hF
  subst hW
  go_simp
  refine X.mono ?_
  rintro e w5 hp5
  obtain⟨vp,vr,vk,rfl,hq5⟩:=hp5.q
  go_simp
  exact hK _ _ _ True.intro (f hq5) (by first|rfl|(simp[Act.put,hp];done)|(simp[Act.put,hp];exact rfl))):Sq P ops Q a mk (RK K w1 c m) G (o::os) i ps:=⟨_,h X,k⟩
theorem sqM(k:Sq P ops Q a mk (RK K w1 c m) G os (i+1) (ps++[fun _=>True]))(h:St P ops Q a mk (RK K w1 c m) G i o ps (fun _=>True):=by
  intro l u W hl hp hF hG hi K9 hK
  simp[Region.binds,Fz]at hp
  have g:=Nj.move hF.o (by simp[hp])
  clear hG hi hF
  go_simp
  exact hK _ _ _ True.intro g (by first|(simp[Act.put,hp];done)|(simp[Act.put,hp];exact rfl))):Sq P ops Q a mk (RK K w1 c m) G (o::os) i ps:=⟨_,h,k⟩
theorem sqP(k:Sq P ops Q a mk (RK K w1 c m) G os (i+1) (ps++[fun _=>True]))(h:St P ops Q a mk (RK K w1 c m) G i o ps (fun _=>True):=by
  intro l u W hl hp hF hG hi K9 hK
  simp[Region.binds,Fz]at hp
  obtain⟨vp,vr,vk,um,g0,g1,g2⟩:=Nj.get hF.o (by simp[hp])
  clear hG hi hF
  try simp only[Nat.reduceAdd]at um
  simp only[um]
  go_simp
  first
   |exact hK _ _ _ True.intro g0 (by first|(simp[Act.put,hp,um];done)|(simp[Act.put,hp,um];exact rfl))
   |exact hK _ _ _ True.intro g1 (by first|(simp[Act.put,hp,um];done)|(simp[Act.put,hp,um];exact rfl))
   |exact hK _ _ _ True.intro g2 (by first|(simp[Act.put,hp,um];done)|(simp[Act.put,hp,um];exact rfl))):Sq P ops Q a mk (RK K w1 c m) G (o::os) i ps:=⟨_,h,k⟩
theorem sqA(k:Sq P ops Q a mk (RK K w1 c m) G os (i+1) (ps++[fun _=>True]))(h:St P ops Q a mk (RK K w1 c m) G i o ps (fun _=>True):=by
  intro l u W hl hp hF hG hi K9 hK
  simp[Region.binds,Fz]at hp
  go_simp
  first
   |exact hK _ _ _ True.intro (Nj.as0 hF.o (by simp[hp];done)) (by first|(simp[Act.put,hp];done)|(simp[Act.put,hp];exact rfl))
   |exact hK _ _ _ True.intro (Nj.as1 hF.o (by simp[hp];done)) (by first|(simp[Act.put,hp];done)|(simp[Act.put,hp];exact rfl))
   |exact hK _ _ _ True.intro (Nj.as2 hF.o (by simp[hp];done)) (by first|(simp[Act.put,hp];done)|(simp[Act.put,hp];exact rfl))):Sq P ops Q a mk (RK K w1 c m) G (o::os) i ps:=⟨_,h,k⟩
theorem RK.fin{l:Nat->Bool}{u:Nat->Value}{W:World}{n:Nat}(h:RK K w1 c m l u W)(hl:∀j,j<n->l j=true)(hn:m+7<=n)(hc:c<n):∃vp vr vk,K W vp vr vk/\u (m+4)=vp/\u (m+5)=vr/\u (m+6)=vk:=
 G0.fin (Nj.st h) (hl _ hc) (hl _ (by omega)) (hl _ (by omega)) (hl _ (by omega))
end
structure Rh(W1:World)(vk vt x3 x5:Value)(l3 l5 l6 l7 l10:Bool)(u3 u5 u6 u7 u10:Value)(W:World):Prop where
 be:Below W1 W1 W
 s3:l3=true->∃B,u3=.slice (some ⟨B,0,none⟩) 1 1/\W1.heap.size<=B/\B<W.heap.size/\W.cell? ⟨B,0,none⟩=some x3
 s5:l5=true->∃B,u5=.slice (some ⟨B,0,none⟩) 1 1/\W1.heap.size<=B/\B<W.heap.size/\W.cell? ⟨B,0,none⟩=some x5
 s6:l6=true->u6=.agg #[vk,vt,u3,u5]/\l3=true/\l5=true
 s7:l7=true->l6=true/\∃B,u7=.pointer (some ⟨B,0,none⟩)/\W1.heap.size<=B/\B<W.heap.size/\W.cell? ⟨B,0,none⟩=some vk/\W.cell? ⟨B,1,none⟩=some vt/\W.cell? ⟨B,2,none⟩=some u3/\W.cell? ⟨B,3,none⟩=some u5
 s10:l10=true->u10=u7/\l7=true
section
variable {W1 W W':World} {vk vt x3 x5 u3 u5 u6 u7 u10:Value} {l3 l5 l6 l7 l10:Bool}
theorem Rh.after(h:Rh W1 vk vt x3 x5 l3 l5 l6 l7 l10 u3 u5 u6 u7 u10 W)(hb:Below W W W'):Rh W1 vk vt x3 x5 l3 l5 l6 l7 l10 u3 u5 u6 u7 u10 W':=by
 have hc:∀b o,b<W.heap.size->W'.cell? ⟨b,o,none⟩=W.cell? ⟨b,o,none⟩:=fun b o hb'=>hb.cell (p:=⟨b,o,none⟩) hb';refine⟨h.be.trans (hb.mono h.be.size),fun e=>?_,fun e=>?_,h.s6,fun e=>?_,h.s10⟩
 ·obtain⟨B,e1,e2,e3,e4⟩:=h.s3 e;exact j7
 ·obtain⟨B,e1,e2,e3,e4⟩:=h.s5 e;exact j7
 obtain⟨e0,B,e1,e2,e3,e4,e5,e6,e7⟩:=h.s7 e;exact⟨e0,B,e1,e2,a8 e3 hb.size,(hc _ _ e3).trans e4,(hc _ _ e3).trans e5,(hc _ _ e3).trans e6,(hc _ _ e3).trans e7⟩
theorem Rh.start:Rh W1 vk vt x3 x5 false false false false false u3 u5 u6 u7 u10 W1.drew:=
 ⟨(Ar _ _).drew,fun h=>Bool.noConfusion h,fun h=>Bool.noConfusion h,fun h=>Bool.noConfusion h,fun h=>Bool.noConfusion h,fun h=>Bool.noConfusion h⟩
theorem Rh.no3(h:Rh W1 vk vt x3 x5 l3 l5 l6 l7 l10 u3 u5 u6 u7 u10 W)(e:l3=false\/l5=false\/l6=false):l6=false/\l7=false:=by
 have h6:l6=false:=by
  cases l6 with
  |false=>rfl
  |true=>
   obtain⟨_,a,b⟩:=h.s6 rfl;subst a b;rcases e with e|e|e<;>cases e
 refine⟨h6,?_⟩;cases l7 with
 |false=>rfl
 |true=>exact absurd (h6.symm.trans (h.s7 rfl).1) aI
theorem Rh.put3(h:Rh W1 vk vt x3 x5 false l5 l6 l7 l10 u3 u5 u6 u7 u10 W)(T:TypeId):Rh W1 vk vt x3 x5 true l5 l6 l7 l10 (.slice (W,0) 1 1) u5 u6 u7 u10 (W.alloc (.cells #[x3] T)):=by
 obtain⟨h6,h7⟩:=h.no3 (.inl rfl);subst h6 h7;have ha:=h.after ((Ar _ _).alloc (Am _) (.cells #[x3] T));exact⟨ha.be,fun _=>⟨_,rfl,h.be.size,by simp,by simp[go_sem]⟩,ha.s5,fun h=>Bool.noConfusion h,fun h=>Bool.noConfusion h,fun e=>absurd (ha.s10 e).2 aI⟩
theorem Rh.put5(h:Rh W1 vk vt x3 x5 l3 false l6 l7 l10 u3 u5 u6 u7 u10 W)(T:TypeId):Rh W1 vk vt x3 x5 l3 true l6 l7 l10 u3 (.slice (W,0) 1 1) u6 u7 u10 (W.alloc (.cells #[x5] T)):=by
 obtain⟨h6,h7⟩:=h.no3 (.inr (.inl rfl));subst h6 h7;have ha:=h.after ((Ar _ _).alloc (Am _) (.cells #[x5] T));exact⟨ha.be,ha.s3,fun _=>⟨_,rfl,h.be.size,by simp,by simp[go_sem]⟩,fun h=>Bool.noConfusion h,fun h=>Bool.noConfusion h,fun e=>absurd (ha.s10 e).2 aI⟩
theorem Rh.put6(h:Rh W1 vk vt x3 x5 l3 l5 false l7 l10 u3 u5 u6 u7 u10 W)(h3:l3=true)(h5:l5=true){v:Value}(hv:Value.agg #[vk,vt,u3,u5]=v):Rh W1 vk vt x3 x5 l3 l5 true l7 l10 u3 u5 v u7 u10 W:=by
 subst hv;obtain⟨_,h7⟩:=h.no3 (.inr (.inr rfl));subst h7;exact⟨h.be,h.s3,h.s5,fun _=>⟨rfl,h3,h5⟩,fun h=>Bool.noConfusion h,h.s10⟩
theorem Rh.put7(h:Rh W1 vk vt x3 x5 l3 l5 l6 false l10 u3 u5 u6 u7 u10 W)(h6:l6=true)(T:TypeId){o:Obj}(ho:Obj.cells #[vk,vt,u3,u5] T=o):Rh W1 vk vt x3 x5 l3 l5 l6 true l10 u3 u5 u6 W.heap.size u10 (W.alloc o):=by
 subst ho;have ha:=h.after ((Ar _ _).alloc (Am _) (.cells #[vk,vt,u3,u5] T));exact⟨ha.be,ha.s3,ha.s5,ha.s6,fun _=>⟨h6,_,rfl,h.be.size,by simp,by simp[go_sem],by simp[go_sem],by simp[go_sem],by simp[go_sem]⟩,fun e=>absurd (ha.s10 e).2 aI⟩
theorem Rh.put10(h:Rh W1 vk vt x3 x5 l3 l5 l6 l7 l10 u3 u5 u6 u7 u10 W)(h7:l7=true):Rh W1 vk vt x3 x5 l3 l5 l6 l7 true u3 u5 u6 u7 u7 W:=⟨h.be,h.s3,h.s5,h.s6,h.s7,fun _=>⟨rfl,h7⟩⟩
theorem Rh.at_{kind text:List UInt8}{g b:Nat}{sv:SV}{P:Nat->Prop}(h:Rh W1 kind text (g:Int) b l3 l5 l6 l7 l10 u3 u5 u6 u7 u10 W)(h10:l10=true)(hP:∀c,W1.heap.size<=c->P c)(hs:Fx P W1 b sv):
  ∃B,u10=.pointer (some ⟨B,0,none⟩)/\Fx P W B (.mk kind text [g] [sv]):=by
 obtain⟨e10,h7⟩:=h.s10 h10;obtain⟨h6,B,e1,e2,e3,e4,e5,e6,e7⟩:=h.s7 h7;obtain⟨_,h3,h5⟩:=h.s6 h6;obtain⟨B3,f1,f2,f3,f4⟩:=h.s3 h3;obtain⟨B5,g1,g2,g3,g4⟩:=h.s5 h5;refine⟨B,e10.trans e1,?_⟩;rw[f1]at e6;rw[g1]at e7;refine .mk kind text [g] (B3,0) (B5,0) 1 1 [(b,sv)] rfl e3 (hP _ e2) e4 e5 e6 e7 ⟨by simp[Er],by simp[maxLen],fun _=>⟨B3,0,rfl,f3,fun j u hu=>?_⟩⟩ ⟨by simp[Et],by simp[maxLen],fun _=>⟨B5,0,rfl,g3,fun j u hu=>?_⟩⟩ aH aH (fun g o _ e=>?_) (fun g o _ e=>?_) (fun x hx=>?_)
 ·match j,hu with
  |0,hu=>simp[Er]at hu;subst hu;simpa using f4
  |j+1,hu=>simp[Er]at hu
 ·match j,hu with
  |0,hu=>simp[Et]at hu;subst hu;simpa using g4
  |j+1,hu=>simp[Et]at hu
 ·injection e with e;injection e with e;subst e;exact hP _ f2
 ·injection e with e;injection e with e;subst e;exact hP _ g2
 simp at hx;subst hx;exact hs.after h.be
end
def RU(w1:World)(kb:List UInt8)(g b:Nat)(l:Nat->Bool)(u:Nat->Value)(W:World):Prop:=Rh w1 kb (.string ⟨#[85]⟩) (g:Int) b (l 3) (l 5) (l 6) (l 7) (l 10) (u 3) (u 5) (u 6) (u 7) (u 10) W
theorem RU.to{w1 W:World}{kb:List UInt8}{g b:Nat}{l:Nat->Bool}{u:Nat->Value}(h:RU w1 kb g b l u W):Rh w1 kb (.string ⟨#[85]⟩) (g:Int) b (l 3) (l 5) (l 6) (l 7) (l 10) (u 3) (u 5) (u 6) (u 7) (u 10) W:=h
section
variable {P:Program} {ops:Array Oper} {Q:Exit->Act->World->Prop} {a:Act} {mk:(Nat->Value)->Act} {G:World->Prop} {w1:World} {kb:List UInt8} {g b:Nat}
theorem rgU{id:Nat}(kb:List UInt8)(g b:Nat){w:World}(h:Sq P ops Q a mk (RU w kb g b) (Gr w) ops.toList 0 [])
  (hc:(P.follows .mixedOrders && (List.range ops.size).all (fun i=>((ops[i]?).map fun o=>o.after.all fun e=>!Region.binds .any e || decide (e.on<i)).getD true) && Fy a.tmps.size ops.toList (Dx ops.toList))=true:=by kernel_rfl)
  (hmk:∀u,Bp a (Dx ops.toList) u=mk u:=by intro u;dsimp only[Bp,Dx,Bh,List.set,aj,Nat.reduceAdd,List.length_cons,List.length_nil]):(Code.region id ops true).wp P Q a w:=
 rgF (RU w kb g b) (Gr w) (fun _ _ _ h=>P8 h.be) Rh.start h hc hmk
variable {o:Oper} {os:List Oper} {i:Nat} {ps:List (Value->Prop)}
theorem Qlu(k:Sq P ops Q a mk (RU w1 kb g b) G os (i+1) (ps++[fun _=>True]))(h:St P ops Q a mk (RU w1 kb g b) G i o ps (fun _=>True):=by
  intro l u W' hl hp hF hG hi K9 hK;have h:=RU.to hF.o;rw[hl]at h;have hn:=Aa (fun T=>h.put3 T);simp[Region.binds,Fz]at hp;clear hG hi hF h;go_simp;exact hK _ _ _ True.intro (hn.o _) fa):Sq P ops Q a mk (RU w1 kb g b) G (o::os) i ps:=⟨_,h,k⟩
theorem Qlm(k:Sq P ops Q a mk (RU w1 kb g b) G os (i+1) (ps++[fun _=>True]))(h:St P ops Q a mk (RU w1 kb g b) G i o ps (fun _=>True):=by
  intro l u W' hl hp hF hG hi K9 hK;have h:=RU.to hF.o;rw[hl]at h;have hn:=Aa (fun T=>h.put5 T);simp[Region.binds,Fz]at hp;clear hG hi hF h;go_simp;exact hK _ _ _ True.intro (hn.o _) fa):Sq P ops Q a mk (RU w1 kb g b) G (o::os) i ps:=⟨_,h,k⟩
theorem Qlq(k:Sq P ops Q a mk (RU w1 kb g b) G os (i+1) (ps++[fun _=>True]))(h:St P ops Q a mk (RU w1 kb g b) G i o ps (fun _=>True):=by
  intro l u W' hl hp hF hG hi K9 hK;have h:=RU.to hF.o;rw[hl]at h;simp[Region.binds,Fz]at hp;obtain⟨B3,e3,_⟩:=h.s3 dG;obtain⟨B5,e5,_⟩:=h.s5 dG;have hn:=h.put6 dG dG (by rw[e3,e5]);have hn:=Aa hn;clear hG hi hF h;go_simp;exact hK _ _ _ True.intro hn.o (by simp[Act.put,hp,e3,e5])):Sq P ops Q a mk (RU w1 kb g b) G (o::os) i ps:=⟨_,h,k⟩
theorem Qlw(k:Sq P ops Q a mk (RU w1 kb g b) G os (i+1) (ps++[fun _=>True]))(h:St P ops Q a mk (RU w1 kb g b) G i o ps (fun _=>True):=by
  intro l u W' hl hp hF hG hi K9 hK;have h:=RU.to hF.o;rw[hl]at h;simp[Region.binds,Fz]at hp;obtain⟨e6,h3,h5⟩:=h.s6 dG;obtain⟨B3,e3,_⟩:=h.s3 h3;obtain⟨B5,e5,_⟩:=h.s5 h5;rw[e3,e5]at e6;have hn:=Aa (fun T=>h.put7 dG T (by rw[e3,e5]));clear hG hi hF h;go_simp;exact hK _ _ _ True.intro (hn.o _) (by simp[Act.put,hp,e6,e3,e5])):Sq P ops Q a mk (RU w1 kb g b) G (o::os) i ps:=⟨_,h,k⟩
theorem Qk6(k:Sq P ops Q a mk (RU w1 kb g b) G os (i+1) (ps++[fun _=>True]))(h:St P ops Q a mk (RU w1 kb g b) G i o ps (fun _=>True):=by
  intro l u W' hl hp hF hG hi K9 hK;have h:=RU.to hF.o;simp[Region.binds,Fz]at hp;have hn:=Aa (h.put10 dG);clear hG hi hF h;go_simp;exact hK _ _ _ True.intro hn.o fa):Sq P ops Q a mk (RU w1 kb g b) G (o::os) i ps:=⟨_,h,k⟩
end
end Go.Proofs.YtgfmljfjgohdcaaGreatDoor
