/- Texts joined. Conditions: as each theorem names them. -/
import Derived.Test.YtpjijpcemejlnaaGreatDoorR32
import Derived.Test.YtpjijpcemejlnaaGreatDoorR38
set_option maxRecDepth 100000
set_option maxHeartbeats 32000000
set_option linter.unusedVariables false
set_option linter.unusedSimpArgs false
namespace Go.Proofs.YtpjijpcemejlnaaGreatDoor
open Go.RowKit Go.Proofs.Tryz
theorem N9{p:List UInt8}:∀{l:List (List UInt8)},p∈l->p.length+1<=Dh l
 |x::xs,h=>by
  rw[D8];rcases aB.1 h with rfl|h
  ·omega
  have:=N9 h;omega
theorem Qar{S:List Ty}(hS:∀t∈S,Ff t):∀(d:Nat) (k:Kd) (v:Vl),Gp S d k v->(Ba v).length<=900000->Bd v:=by
 intro d;induction d with
 |zero=>intro k v h;cases h
 |succ d ih=>
  intro k v h hl;cases h with
  |@n _ _ m hs hb h=>exact .mk aI dT (by simp[Ba,Dz,H6]at hl;omega) aN
  |@t _ _ s hs hb h=>exact .mk aI dT (by simp[Ba,Dz,H6]at hl;omega) aN
  |@f _ _ x hs hb=>exact .mk aI dT (by cases x<;>decide) aN
  |@lst _ _ r ks hs hl2 h=>
   rw[Jj]at hl;simp only[List.length_cons,ai,Bt,List.length_nil]at hl;exact .mk aI aI aN fun x hx=>ih _ x (h x hx) (by have:=N9 (aq (f:=Ba) hx);omega)
  |@non _ _ r hs=>exact .mk aI dT aN aN
  |@som _ _ r x hs h=>
   have hx:(Ba x).length<=900000:=fz;exact .mk aI fi aN fun y hy=>gE
  |@enm _ _ t f hs hb ht h9 hf=>exact .mk (by have:=((hS t (Cq ht).1).2.2.1.1 f (Ax hf).2).2.1;omega) dT aN aN
  |@uni _ _ t f x hs hb ht h5 hf h=>
   have hx:(Ba x).length<=900000:=fz;exact .mk (by have:=(Ml hS ht d9 (Ax hf).2).2;omega) fi aN fun y hy=>gE
  |@rcd _ _ t fs hs hb ht h2 hf h hn hp=>
   rw[Mb]at hl;simp only[List.length_cons,ai,Bt,List.length_nil]at hl;refine .mk aI (by rw[List.map_map];show Dh (fs.map fun p=>Ba (Df p))<=_;omega) aN fun y hy=>?_;obtain⟨p,hp',rfl⟩:=ay.1 hy;have h3:=N9 (aq (f:=fun p=>Ba (Df p)) hp');simp only[Jn]at h3;have h4:=(Ml hS ht cP (Ax (hf p hp')).2).2;exact .mk aI fi aN fun y hy=>by rw[ar]at hy;subst hy;exact ih _ _ (h p hp') aI
theorem Qef(S:List Ty)(K:Kd->Vl->Vl × Bool)(fs:List Fd)(y:Vl):(Kq S K fs y).1.length<=1:=by
 unfold Kq;cases Au fs y.tag with
 |none=>simp
 |some f=>simp only;split<;>simp
theorem Yw{α β:Type}(g:α->List β)(hg:∀x,(g x).length<=1):∀l:List α,(l.flatMap g).length<=l.length
 |[]=>aN
 |x::l=>by have:=Yw g hg l;have:=hg x;simp only[List.flatMap_cons,ai,List.length_cons];omega
theorem Qj4(k:Kd)(c:UInt8)(r:List UInt8)(h:k.signs=c::r):k=⟨c::k.part.signs,k.part.base,k.part.name⟩:=by
 obtain⟨s,b,n⟩:=k;simp only at h;subst h;rfl
theorem Qbx{k:Kd}(h:Cm k):k.signs.length<=12/\(k.base=[64]->k.name.length<=12):=by
 have h3:=h.2.2;unfold Bc Bv at h3;simp only[ai]at h3;refine⟨by omega,fun e=>?_⟩;rw[if_pos e]at h3;simp at h3;omega
theorem Qhp{S T:List Ty}{R:Cl->Cl->Prop}(hR:V6 S T R)(hT:Je T)(hok:Je S)(xs ys:List PT)(hxs:Ag xs=S)(hys:Ag ys=T)(eb:Nat)(p1 p2:Value):∀(d:Nat) (a b:Kd) (v:Vl),Px R a b->Gp T d b v->Cm a->Cm b->(Ba v).length<=900000 ->
  ∀(P:Nat->Prop) (A:Option Addr) (n c:Nat) (w:World),EvW w eb p1 p2 xs ys->Ee P w (.slice A n c) v.kids ->
  Calls prog 74 #[eb,Eh a,Eh b,Ev v (.slice A n c)] w (Mt (Cy S d a v) w):=by
 intro d;induction d with
 |zero=>intro a b v _ h;cases h
 |succ d ih=>
  intro a b v hk hv ha hb' hl P A n c w hev hiv;obtain⟨k1,k2,k3⟩:=hk;have hn:n=v.kids.length:=by
   obtain⟨A',c',e⟩:=hiv.form;injection e
  subst hn;have named:a.signs=[]->a.base=[64]->∀u,Bp T b.name=some u->∃x y pb1 mb1 pb2 mb2,Bp S a.name=some x.ty/\y.ty=u/\x.ty.sort=u.sort/\(∀g∈u.fields,Ns S T R x.ty u.sort g)/\Rl w x/\Rl w y/\x.ty∈S/\p1=.pointer (some ⟨pb1,0,none⟩)/\LkT w eb a.name b.name x.blk y.blk pb1 mb1 pb2 mb2:=by
   intro hs hb u hu;obtain⟨t,u',htS,htT,hsu,hfr⟩:=hR _ _ (k3 hb);rw[hu]at htT;injection htT with htT;subst htT;have hx:∃x,Fa xs a.name=some x/\x.ty=t:=by
    rw[<-hxs,Ji]at htS;cases hx:Fa xs a.name with
    |none=>rw[hx]at htS;cases htS
    |some y=>rw[hx]at htS;injection htS with htS;exact⟨y,rfl,htS⟩
   have hy:∃y,Fa ys b.name=some y/\y.ty=u:=by
    rw[<-hys,Ji]at hu;cases hy:Fa ys b.name with
    |none=>rw[hy]at hu;cases hu
    |some y=>rw[hy]at hu;injection hu with hu;exact⟨y,rfl,hu⟩
   obtain⟨x,hx,rfl⟩:=hx;obtain⟨y,hy,rfl⟩:=hy;obtain⟨pb1,mb1,pb2,mb2,e1,e2,hlk⟩:=Qlm hev hx hy (by have:=(Qbx ha).2 hb;omega) (by have:=(Qbx hb').2 (k2 ▸ hb);omega);have hi1:Rl w x:=by obtain⟨_,_,_,_,_,_,_,_,_,_,hq,_⟩:=hev.s1;exact hq x (Gh hx).1
   have hi2:Rl w y:=by obtain⟨_,_,_,_,_,_,_,_,_,_,hq,_⟩:=hev.s2;exact hq y (Gh hy).1
   exact⟨x,y,pb1,mb1,pb2,mb2,htS,rfl,hsu,hfr,hi1,hi2,(Cq htS).1,e1,hlk⟩
  have lst:∀c0 r,a.signs=c0::r->(∀x∈v.kids,Gp T d b.part x/\(Ba x).length<=900000)->Calls prog 74 #[eb,Eh a,Eh b,Ev v (.slice A v.kids.length c)] w (Mt (Cy S (d+1) a v) w):=by
   intro c0 r hs hkv;have ea:=Qj4 a c0 r hs;have eb':=Qj4 b c0 r (k1 ▸ hs);have hps:b.part.signs=a.part.signs:=by show b.signs.tail=a.signs.tail;rw[k1]
   have h:=Qge P w eb c0 a.part.signs a.part.base a.part.name b.part.base b.part.name (by have:=(Qbx (J0 ha).1).1;omega) v A c hiv (Cy S d a.part) (fun x hx W A' n' c' hW hs2=>by
    have:=ih a.part b.part x (Gy ⟨k1,k2,k3⟩) (hkv x hx).1 (J0 ha).1 (J0 hb').1 (hkv x hx).2 P A' n' c' W (hev.after hW) hs2;rw[<-hps];rw[show Eh ⟨b.part.signs,a.part.base,a.part.name⟩=Eh a.part from by rw[hps]];exact this)
   rw[<-ea,<-hps,<-eb']at h;obtain⟨w0,tx,tg,ks⟩:=v;rw[Bz,if_pos df];exact h
  cases hv with
  |@n _ _ m hs hb h=>
   exact nd
  |@t _ _ s hs hb h=>
   exact nd
  |@f _ _ x hs hb=>
   generalize (if x then Es else M5)=tx at *;exact nd
  |@lst _ _ r ks hs hl2 h=>
   refine lst 91 r (k1.trans hs) fun x hx=>⟨h x hx,?_⟩
   rw[Jj]at hl;simp only[List.length_cons,ai,Bt,List.length_nil]at hl;have:=N9 (aq (f:=Ba) (show x∈ks from hx));omega
  |@non _ _ r hs=>exact lst 63 r (k1.trans hs) fun x hx=>absurd hx (by simp[Vl.kids])
  |@som _ _ r x hs h=>
   refine lst 63 r (k1.trans hs) fun y hy=>?_;rw[show y=x from by simpa [Vl.kids]using hy];exact⟨h,by simp[Ba,Dz,H6,Aw]at hl;omega⟩
  |@enm _ _ u g hs hb ht h9 hf=>
   obtain⟨x,y,pb1,mb1,pb2,mb2,htS,_,_,_,_,_,_,_,hlk⟩:=named (k1.trans hs) (k2.trans hb) u ht;rw[Bz,if_neg br,if_neg cB,htS];simp only;rw[if_neg (show ¬(69:UInt8)=85 by decide),if_neg (show ¬(69:UInt8)=82 by decide)];exact Qim w eb a b (k1.trans hs) (k2.trans hb) (.mk 69 [] g.tag []) (show (69:UInt8)≠85 by decide) (show (69:UInt8)≠82 by decide) rfl A c _ _ _ _ _ _ hlk
  |@uni _ _ u g x hs hb ht h5 hf h=>
   obtain⟨xp,yp,pb1,mb1,pb2,mb2,htS,hyu,hsu,hfr,hi1,hi2,htm,_,hlk⟩:=named (k1.trans hs) (k2.trans hb) u ht;subst hyu;rw[Bz,if_neg br,if_neg cB,htS];simp only;rw[if_pos Ab];have hrel:=hfr g (Ax hf).2;unfold Ns at hrel;have etag:g.tag<=200:=(Ml hT.1.1 ht d9 (Ax hf).2).2;cases hft:Au xp.ty.fields g.tag with
   |none=>rw[hft]at hrel;simp only at hrel;rw[h5]at hrel;exact absurd hrel aL
   |some f=>
    rw[hft]at hrel;simp only at hrel;rw[h5]at hrel;have hkr:Px R f.kind g.kind:=hH;have hkf:=(Ml hok.1.1 htS (by rw[hsu,h5];decide) (Ax hft).2).1;have hkg:=(Ml hT.1.1 ht d9 (Ax hf).2).1;have hres:=Qjq P w eb a b (k1.trans hs) (k2.trans hb) (.mk 85 [] g.tag [x]) x rfl rfl A c hiv xp yp pb1 mb1 pb2 mb2 hlk hi1 hi2 f g (by show g.tag<=_;omega) hft hf (Cy S d f.kind x) (fun W A' n' c' hW hs2=>ih f.kind g.kind x hkr h hkf hkg fz P A' n' c' W (hev.after hW) hs2);simp only[az,List.map_nil,List.any_cons,List.any_nil,Bool.or_false];exact hres
  |@rcd _ _ u ps hs hb ht h2 hf h hn hp=>
   obtain⟨xp,yp,pb1,mb1,pb2,mb2,htS,hyu,hsu,hfr,hi1,hi2,htm,hp1,hlk⟩:=named (k1.trans hs) (k2.trans hb) u ht;subst hyu;rw[Bz,if_neg br,if_neg cB,htS];simp only;rw[if_neg aL,if_pos Ab];have hst:xp.ty.sort≠69:=by rw[hsu,h2];decide
   have hres:=Qjo P w eb a b (k1.trans hs) (k2.trans hb) (.mk 82 [] 0 (ps.map Df)) rfl (ps.map fun p=>(p.1.tag,p.2)) (by simp[Vl.kids,fdV,Df,Function.comp_def]) A c hiv xp yp pb1 mb1 pb2 mb2 hlk hi1 hi2
    (ps.map fun p=>Kq S (Cy S d) xp.ty.fields (Df p)) aN (fun i hi hj=>by
     have hi2:i<ps.length:=ey;have hm:=af hi2;rw[List.getElem_map,List.getElem_map];generalize hpi:ps[i]=p at *;have hl9:(Ba p.2).length<=900000:=by
      rw[Mb]at hl;simp only[List.length_cons,ai,Bt,List.length_nil]at hl;have h3:=N9 (aq (f:=fun p=>Ba (Df p)) hm);simp only[Jn]at h3;omega
     have hrel:=hfr p.1 (Ax (hf p hm)).2;have htg:=(Ml hT.1.1 ht cP (Ax (hf p hm)).2).2;unfold Ns at hrel;refine⟨by show p.1.tag<=_;omega,?_⟩;have e1:Kq S (Cy S d) xp.ty.fields (Df p)=match Au xp.ty.fields p.1.tag with|none=>([],true)|some f=>if Ba (Cy S d f.kind p.2).1=Jf S f then([],true)else([.mk 61 [] p.1.tag [(Cy S d f.kind p.2).1]],(Cy S d f.kind p.2).2):=rfl
     rw[e1];cases hft:Au xp.ty.fields p.1.tag with
     |none=>exact .inl ⟨rfl,rfl⟩
     |some f=>
      rw[hft]at hrel;simp only at hrel;rw[h2]at hrel;have hkr:Px R f.kind p.1.kind:=hH;have hkf:=(Ml hok.1.1 htS hst (Ax hft).2).1;have hkg:=(Ml hT.1.1 ht cP (Ax (hf p hm)).2).1;obtain⟨hok2,hlok⟩:=S4 hR d f.kind p.1.kind p.2 hkr (h p hm);have hB:=Qar hok.1.1 d f.kind _ hok2 (ae hlok.le hl9);refine .inr ⟨f,p.1,Cy S d f.kind p.2,Ba (Cy S d f.kind p.2).1,Jf S f,rfl,hf p hm,fun W A' n' c' hW hs2=>ih f.kind p.1.kind p.2 hkr (h p hm) hkf hkg hl9 P A' n' c' W (hev.after hW) hs2,fun Q W sl hs2=>Sf Q hB sl W hs2,fun W b' o' hW hb' hrg=>?_,?_⟩
      ·have hsc:=hev.s1.below hW;rw[hp1]at hsc;have:=Xq _ xs (by rw[hxs];exact hok) f b' o' W hsc (Ah hrg hb' hW) hkf (by rw[hxs];exact hok.2.1 _ htm hst f (Ax hft).2) (ae (Jb ((hok.1.1 _ htm).2.2.1.1 f (Ax hft).2)) aL);rw[hxs]at this;exact this
      simp only;by_cases hq:Ba (Cy S d f.kind p.2).1=Jf S f
      ·exact .inl ⟨hq,if_pos hq⟩
      exact .inr ⟨hq,if_neg hq⟩) (fun k hk=>by
     have h1:((((ps.map fun p=>Kq S (Cy S d) xp.ty.fields (Df p)).take k).flatMap (·.1))).length<=((ps.map fun p=>Kq S (Cy S d) xp.ty.fields (Df p)).take k).length:=by
      rw[<-List.map_take,List.flatMap_map,List.length_map];exact Yw _ (fun p=>Qef _ _ _ _) _
     rw[List.length_take]at h1;omega)
   have e2:((ps.map fun p=>Kq S (Cy S d) xp.ty.fields (Df p)).flatMap (·.1))=(ps.map Df).flatMap fun y=>(Kq S (Cy S d) xp.ty.fields y).1:=by simp[List.flatMap_map]
   have e3:((ps.map fun p=>Kq S (Cy S d) xp.ty.fields (Df p)).any (·.2))=(ps.map Df).any fun y=>(Kq S (Cy S d) xp.ty.fields y).2:=by simp[List.any_map,Function.comp_def]
   rw[e2,e3]at hres;exact hres
section
attribute [local go_sem] Qm0 Ql8 Qlz Qj6 ByteArray.mk_append_mk
section
variable {P:Program}
theorem Jz{fn:Func}{p q r:Tmp}{ty:TypeId}(h:fn.results=#[.cell p ty,.tmp q,.tmp r])(tmps:Array Value)(w:World)(b:Nat)(cs:List Value)(d:TypeDesc)(x y:Value)
  (hp:tmps.getD p undef=b) (hq:tmps.getD q undef=x) (hr:tmps.getD r undef=y) (hc:w.rangeAt b 0 cs) (hu:P.underlying ty=some d) (hd:d.isRow=true) (hi:(P.info? ty).map (·.size)=some cs.length):
  (results fn tmps).run P w=.ok (.tuple #[.agg cs.toArray,x,y]) w:=by
 have hp':tmps[p]?.getD undef=b:=ez;have hq':tmps[q]?.getD undef=x:=ge;have hr':tmps[r]?.getD undef=y:=eC;simp[results,h,hp',hq',hr',asAddr,run_loadVar_mid w b 0 ty cs d hc hu hd hi]
end
def Zm(o:Option (Vl × Bool))(w:World)(e:Ending)(w':World):Prop:=
 (∃v sl l,e=.returned (.tuple #[Ev v sl,.bool l,.bool o.isSome])/\Ee (fun c=>w.heap.size<=c) w' sl v.kids/\∀r,o=some r->v=r.1/\l=r.2)/\Below w w w'
theorem Zm.no{o:Option (Vl × Bool)}{w w':World}{e:Ending}(ho:o=none)(he:e=.returned (.tuple #[Ev Fk (.slice none 0 0),.bool false,.bool false]))(hb:Below w w w'):Zm o w e w':=by
 subst ho;exact⟨⟨Fk,_,false,he,Ee.nil _ _,by simp⟩,hb⟩
structure Ks(w1:World)(o:Option Vl)(l m x z al st q:Bool)(ul um ux uz ual uq:Value)(W:World):Prop where
 be:Below w1 w1 W
 yes:l=true->∃v A c,(∀y,o=some y->v=y)/\Ee (fun c=>w1.heap.size<=c/\(al=true->ual≠.pointer (some ⟨c,0,none⟩))) W (.slice A v.kids.length c) v.kids/\ul=.tuple #[Ev v (.slice A v.kids.length c),.bool o.isSome] /\
  (m=true->um=.tuple #[Ev v (.slice A v.kids.length c),.bool o.isSome])/\(x=true->ux=Ev v (.slice A v.kids.length c))/\(z=true->uz=.bool o.isSome)/\(q=true->uq=.bool o.isSome)
 al:al=true->∃B,ual=.pointer (some ⟨B,0,none⟩)/\w1.heap.size<=B/\B<W.heap.size/\W.there B 0 4/\(st=true->∃v A c,ux=Ev v (.slice A v.kids.length c)/\W.rangeAt B 0 (Mf (v,.slice A v.kids.length c)))
section
variable {w1 W W':World} {o:Option Vl} {l m x z al st q:Bool} {ul um ux uz ual uq:Value} {v:Vl} {A:Option Addr} {c B:Nat}
theorem Ks.start:Ks w1 o false m x z false st q ul um ux uz ual uq w1:=⟨Am _ _,fun h=>Bool.noConfusion h,fun h=>Bool.noConfusion h⟩
theorem Ks.call(h:Ks w1 o l m x z al st q ul um ux uz ual uq W)(hm:m=false)(hx:x=false)(hz:z=false)(hst:st=false)(hq:q=false)(ho:∀y,o=some y->v=y)(hs:Ee (fun c=>W.heap.size<=c) W' (.slice A v.kids.length c) v.kids)(hb:Below W W W'):
  Ks w1 o true m x z al st q (.tuple #[Ev v (.slice A v.kids.length c),.bool o.isSome]) um ux uz ual uq W':=by
 subst hm hx hz hst hq;refine⟨h.be.trans (hb.mono h.be.size),fun _=>⟨v,A,c,ho,hs.mono fun k hk hl=>⟨ae h.be.size hk,fun ha e=>?_⟩,rfl,fun h=>Bool.noConfusion h,fun h=>Bool.noConfusion h,fun h=>Bool.noConfusion h,fun h=>Bool.noConfusion h⟩,fun ha=>?_⟩
 ·obtain⟨B,h1,h2,h3,_⟩:=h.al ha;rw[h1]at e;injection e with e;injection e with e;injection e with e;have:W.heap.size<=k:=hk;omega
 exact mz
theorem Ks.move(h:Ks w1 o l m x z al st q ul um ux uz ual uq W)(hl:l=true):Ks w1 o l true x z al st q ul ul ux uz ual uq W:=
 ⟨h.be,fun hl=>by obtain⟨v,A,c,h1,h2,h3,_,h4⟩:=h.yes hl;exact⟨v,A,c,h1,h2,h3,fun _=>h3,h4⟩,h.al⟩
theorem Ks.get(h:Ks w1 o l m x z al st q ul um ux uz ual uq W)(hl:l=true)(hm:m=true)(hst:x=false->st=false):∃v A c,um=.tuple #[Ev v (.slice A v.kids.length c),.bool o.isSome] /\
  (x=false->Ks w1 o l m true z al st q ul um (Ev v (.slice A v.kids.length c)) uz ual uq W)/\Ks w1 o l m x true al st q ul um ux (.bool o.isSome) ual uq W:=by
 obtain⟨v,A,c,h1,h2,h3,h4,h5,h6,h7⟩:=h.yes hl;refine⟨v,A,c,h4 hm,fun hx=>⟨h.be,fun _=>⟨v,A,c,h1,h2,h3,h4,fun _=>rfl,h6,h7⟩,fun ha=>?_⟩,⟨h.be,fun _=>⟨v,A,c,h1,h2,h3,h4,h5,fun _=>rfl,h7⟩,h.al⟩⟩;exact mA
theorem Ks.as(h:Ks w1 o l m x z al st q ul um ux uz ual uq W)(hz:z=true):Ks w1 o l m x z al st true ul um ux uz ual uz W:=
 ⟨h.be,fun hl=>by obtain⟨v,A,c,h1,h2,h3,h4,h5,h6,_⟩:=h.yes hl;exact⟨v,A,c,h1,h2,h3,h4,h5,h6,fun _=>h6 hz⟩,h.al⟩
theorem Ks.alloc(h:Ks w1 o l m x z al st q ul um ux uz ual uq W)(hst:st=false)(T:TypeId):Ks w1 o l m x z true st q ul um ux uz W.heap.size uq (W.alloc (.cells #[.int .u8 0,aa,.int .i64 0,.slice none 0 0] T)):=by
 have hb:=(Am W.heap.size W).alloc (Ao _) (.cells #[.int .u8 0,aa,.int .i64 0,.slice none 0 0] T);refine⟨h.be.alloc h.be.size _,fun hl=>?_,fun _=>⟨_,rfl,h.be.size,by simp,B9 W [.int .u8 0,aa,.int .i64 0,.slice none 0 0] T,fun h=>absurd (hst.symm.trans h) aL⟩⟩;obtain⟨v,A,c,h1,h2,h3⟩:=h.yes hl;exact⟨v,A,c,h1,(h2.mono (Q:=fun c=>w1.heap.size<=c/\(true=true->(Value.pointer (W,0))≠c)) fun k hk hl=>⟨hk.1,fun _ e=>by injection e with e;injection e with e;injection e with e;omega⟩).after hb,h3⟩
theorem Ks.store(h:Ks w1 o l m x z al st q ul um ux uz ual uq W)(hl:l=true)(hx:x=true)(ha:al=true):
  ∃v A c B,ux=Ev v (.slice A v.kids.length c)/\ual=.pointer (some ⟨B,0,none⟩)/\W.there B 0 4/\Ks w1 o l m x z al true q ul um ux uz ual uq (W.setCells B 0 (Mf (v,.slice A v.kids.length c))):=by
 obtain⟨v,A,c,h1,h2,h3,h4,h5,h6⟩:=h.yes hl;obtain⟨B,g1,g2,g3,g4,_⟩:=h.al ha;refine⟨v,A,c,B,h5 hx,g1,g4,Aj _ g2 _ _ _ h.be,fun _=>⟨v,A,c,h1,h2.set (fun hP=>hP.2 ha g1) _,h3,h4,h5,h6⟩,fun _=>⟨B,g1,g2,by rw[Cg];exact g3,aj g4 _ _ _,fun _=>⟨v,A,c,h5 hx,ac _ _ _ _ g4⟩⟩⟩
theorem Ks.fin(h:Ks w1 o l m x z al st q ul um ux uz ual uq W)(hl:l=true)(hx:x=true)(ha:al=true)(hs:st=true)(hq:q=true):
  ∃v A c B,(∀y,o=some y->v=y)/\ual=.pointer (some ⟨B,0,none⟩)/\uq=.bool o.isSome/\w1.heap.size<=B/\B<W.heap.size/\W.rangeAt B 0 (Mf (v,.slice A v.kids.length c))/\Ee (fun c=>w1.heap.size<=c) W (.slice A v.kids.length c) v.kids/\Below w1 w1 W:=by
 obtain⟨v,A,c,h1,h2,h3,h4,h5,h6,h7⟩:=h.yes hl;obtain⟨B,g1,g2,g3,g4,g5⟩:=h.al ha;obtain⟨v',A',c',e1,e2⟩:=g5 hs;have e3:=h5 hx;rw[e1]at e3;unfold Ev at e3;injection e3 with e3;simp at e3;refine⟨v,A,c,B,h1,g1,h7 hq,g2,g3,?_,h2.mono fun k hk _=>hk.1,h.be⟩;unfold Mf at e2 ⊢;simp only at e2 ⊢;obtain⟨i1,i2,i3,i4,i5,i6⟩:=e3;rw[i1,i2,i3,i4,i5,i6]at e2;exact e2
end
theorem Qat{S T:List Ty}{a b:Kd}{x:List UInt8}{v:Vl}(hS:Je S)(hT:Je T)(hb:Cm b)(he:Jq S T a b=true)(hv:Jd T b x=some v):∃R,V6 S T R/\Px R a b/\Gp T 12 b v/\Ba v=x/\x.length<=400/\Bd (Cy S 12 a v).1/\LOk v (Cy S 12 a v):=by
 obtain⟨R,hR,hK⟩:=Pi hS.1.2.1 hT.1.2.1 he;obtain⟨h1,h2,h3⟩:=(H8 hT.1.1 hb).1 hv;obtain⟨h4,h5⟩:=S4 hR 12 a b v hK h1;exact⟨R,hR,hK,h1,h2,h3,Qar hS.1.1 12 a _ h4 (ae h5.le (by rw[h2];omega)),h5⟩
theorem Xf(s1 d1 s2 d2 x:List UInt8)(w:World)(h1:s1.length<=4000000)(h2:d1.length<=4000000)(h3:s2.length<=4000000)(h4:d2.length<=4000000)(h5:x.length<=4000000):
  Calls prog 35 #[s1,d1,s2,d2,x] w (Zm (En (Az s1 d1) (Az s2 d2) x) w):=by
 have H1:=Aa (fun W=>Sy s1 d1 s2 d2 W h1 h2 h3 h4);have G1:=Aa (fun S k (h:Az s1 d1=some (S,k))=>Dn h);have G2:=Aa (fun S k (h:Az s2 d2=some (S,k))=>Dn h);generalize Az s1 d1=o1 at *;generalize Az s2 d2=o2 at *;go_enter func35,ntmps35;go_wp2_with fail;obtain⟨W1,hW1⟩:∃W1,W1=w.alloc (.cells #[.int .u8 0,aa,.int .i64 0,.slice none 0 0] 47):=⟨_,rfl⟩
 rw[<-hW1];have hz1:W1.heap.size=w.heap.size+1:=cX;have B1:=Aa (show Below w w W1 by rw[hW1];exact(Am _ _).alloc (Ao _) _);have T1:=Aa (show W1.there w 0 4 by rw[hW1];exact B9 w [.int .u8 0,aa,.int .i64 0,.slice none 0 0] 47);clear hW1;refine(H1.o W1).mono ?_;rintro e W2 ⟨q,a1,b1,c1,a2,b2,c2,rfl,hb2,hev⟩;have Hev:=Aa hev;have hz2:=hb2.size;have B2:=Aa (B1.o.trans (hb2.mono aI));have T2:=Aa (An T1.o aI hb2);have Hb2:=Aa hb2;obtain⟨W3,hW3⟩:∃W3,W3=(W2.alloc (.cells #[.string a1,.string b1,.string c1] 62)).alloc (.cells #[.string a2,.string b2,.string c2] 62):=⟨_,rfl⟩
 have hb3:Below W2 W2 W3:=by rw[hW3];exact((Am _ _).alloc (Ao _) _).alloc aN _
 have B3:=Aa (B2.o.trans (hb3.mono B2.o.size));have T3:=Aa (An T2.o aI hb3);have HW3:=Aa hW3;clear hev hb2 hW3;cases he:Dt o1 o2 with
 |false=>
  have HN:=Aa (Qdt (x:=x) he);clear he;go_wp2_with ((with_reducible refine Af (op:=⟨none,.store 47 _ _,_,_,_,none⟩) rfl 47 _ _ rfl w 0 [.int .u8 0,aa,.int .i64 0,.slice none 0 0] ?_ ?_ ?_ ?_ ?_ ?_);rfl;rfl;(rw[<-HW3.o];exact T3.o);kernel_rfl;(simp[Value.oneCell']);intro w9 HS9)
  have HZ:=(by rw[HS9.o,<-HW3.o];exact ac _ _ _ _ T3.o:w9.rangeAt w 0 (Jx Fk (.slice none 0 0)))
  refine aG (v:=.tuple #[.agg (Jx Fk (.slice none 0 0)).toArray,.bool false,.bool false]) (Jz results35 _ _ w.heap.size _ _ _ _ rfl rfl rfl HZ underlying47 rfl aP) rfl ?_;exact Zm.no HN.o rfl (by rw[HS9.o,<-HW3.o];exact Aj _ aI _ _ _ B3.o)
 |true=>
  obtain⟨S,T,a,b,xs,ys,eb,p1,p2,rfl,rfl,hxs,hys,rfl,rfl,rfl,rfl,rfl,rfl,rfl,e1,e2,e3,e4,e5,e6⟩:=Hev.o he;obtain⟨g1,_,_,ga,_,gra⟩:=G1.o S a rfl;obtain⟨g2,_,_,gb,_,grb⟩:=G2.o T b rfl;have Hev9:=@Aa (EvW W3 eb (.pointer p1) (.pointer p2) xs ys) (EvW.after ⟨e2,e3,e4,e5.isc,e6.isc⟩ hb3);have He:=@Aa (Jq S T a b=true) he;have HS:=Aa g1;have HT:=Aa g2;have Hrd:=Aa (fun W (h:Sw W (.pointer p2) ys)=>Qgr (.pointer p2) ys (by rw[hys];exact g2) b gb (by rw[hys];exact grb) x W h h5);rw[hys]at Hrd;obtain⟨o,ho⟩:∃o,Jd T b x=o:=⟨_,rfl⟩
  rw[ho]at Hrd;have Ho:=Aa ho;have Hga:=Aa ga;have Hgb:=Aa gb;have Hxs:=Aa hxs;have Hys:=Aa hys
  have Hlift:=Aa (show En (some (S,a)) (some (T,b)) x=o.map (Cy S 12 a)from by
   show (if Jq S T a b=true then(Jd T b x).map (Cy S 12 a)else none)=_;rw[if_pos He.o,ho])
  have x0:W3.cell? (W2,0)=a.signs:=dM;have x1:W3.cell? (W2,1)=a.base:=dM;have x2:W3.cell? (W2,2)=a.name:=dM;have x3:W3.cell? (W2,1,0)=b.signs:=dM;have x4:W3.cell? (W2,1,1)=b.base:=dM;have x5:W3.cell? (W2,1,2)=b.name:=dM;have X0:=Aa x0;have X1:=Aa x1;have X2:=Aa x2;have X3:=Aa x3;have X4:=Aa x4;have X5:=Aa x5;have hz3:W3.heap.size=W2.heap.size+2:=by rw[HW3.o];simp
  clear he g1 g2 ga gb gra grb ho hxs hys e3 e4 e5 e6 x0 x1 x2 x3 x4 x5 hb3 Hev G1 G2 Hb2 B1 T1;unfold Eh at Hrd;go_upto_region 4 with fail
  rw[<-HW3.o];have Hy2:=Aa Hev9.o.s2;refine Gd [34,35,36,37,38,39,40,33,41,42,17,999,16]
   (fun ix v W=>match ix with|0=>v=eb|1=>v=eb|2=>v=(eb,1)|3=>v=.pointer p2|4=>v=.agg #[b.signs,b.base,b.name]|5=>v=x|_=>True)
   (fun L U W=>Ks W3.drew o (L 6) (L 7) (L 8) (L 9) (L 10) (L 11) (L 12) (U 6) (U 7) (U 8) (U 9) (U 10) (U 12) W) (Ks.start) ?_ ?_
  ·repeat (first|exact Ai.nil|(refine Ai.cons ?_ ?_;rotate_left))
   all_goals
    rintro L U W hL hpre HR Hdep K hK;have hb4:Below W3 W3 W:=(Am _ _).drew.trans HR.o.be;first|(simp[Region.binds]at hpre;done)|simp[Region.binds]at hpre|clear hpre
   iterate 3
    ·exact ii
   ·have e4:=(hb4.cell (p:=⟨eb,1,none⟩) Hev9.o.lt).trans Hev9.o.c1;exact lR
   ·have y0:=(hb4.cell (p:=⟨W2.heap.size+1,0,none⟩) (show W2.heap.size+1<W3.heap.size by omega)).trans X3.o;have y1:=(hb4.cell (p:=⟨W2.heap.size+1,1,none⟩) (show W2.heap.size+1<W3.heap.size by omega)).trans X4.o;have y2:=(hb4.cell (p:=⟨W2.heap.size+1,2,none⟩) (show W2.heap.size+1<W3.heap.size by omega)).trans X5.o;exact lR
   ·exact ii
   ·have h7:L 7=false:=At Hdep.o 7 6 rfl hL;have h8:L 8=false:=At Hdep.o 8 7 rfl h7;have h9:L 9=false:=At Hdep.o 9 7 rfl h7;have h11:L 11=false:=At Hdep.o 11 8 rfl h8;have h12:L 12=false:=At Hdep.o 12 9 rfl h9;go_simp;refine(Hrd.o _ (Hy2.o.below hb4)).mono ?_;rintro e w5 ⟨⟨v,sl5,rfl,hs5,hx5⟩,hb5⟩;obtain⟨A5,c5,rfl⟩:=hs5.form;go_simp;exact hK (.tuple #[Ev v (.slice A5 v.kids.length c5),.bool o.isSome]) _ _ Ab Ab (HR.o.call h7 h8 h9 h11 h12 hx5 hs5 hb5) eX
   ·have l6:L 6=true:=aM;go_simp;exact hK _ _ _ Ab Ab (HR.o.move l6) aK
   ·have l7:L 7=true:=aM;have l6:L 6=true:=G7 (At Hdep.o 7 6 rfl) l7;have h11:L 11=false:=At Hdep.o 11 8 rfl hL;obtain⟨v,A5,c5,um,g0,g1⟩:=HR.o.get l6 l7 (fun _=>h11);simp only[um];go_simp;exact hK _ _ _ Ab Ab (g0 hL) (by simp[Act.put,hpre,um,Ev])
   ·have l7:L 7=true:=aM;have l6:L 6=true:=G7 (At Hdep.o 7 6 rfl) l7;obtain⟨v,A5,c5,um,g0,g1⟩:=HR.o.get l6 l7 (fun h=>by cases e:L 11 with|false=>rfl|true=>exact absurd ((At Hdep.o 11 8 rfl h).symm.trans e) aL);simp only[um];go_simp;exact hK _ _ _ Ab Ab g1 cr
   ·have h11:L 11=false:=At Hdep.o 11 10 rfl hL;go_simp;exact hK _ _ _ Ab Ab (HR.o.alloc h11 _) rfl
   ·have l8:L 8=true:=ei;have l10:L 10=true:=ej;have l7:L 7=true:=G7 (At Hdep.o 8 7 rfl) l8;have l6:L 6=true:=G7 (At Hdep.o 7 6 rfl) l7;obtain⟨v,A5,c5,B,u8,u10,ht,hn⟩:=HR.o.store l6 l8 l10;unfold Ev at u8;unfold Mf at hn;rw[if_pos cC];refine wp_store_mid 47 _ _ rfl B 0 ([.int .u8 (v.what.toNat:Int),v.text,(v.tag:Int),.slice A5 v.kids.length c5]:List Value).toArray u10 u8 ht aP bu ?_;exact mJ
   ·have l9:L 9=true:=aM;go_simp;exact hK (U 9) _ _ Ab Ab (HR.o.as l9) aK
  rintro L U W hL hφ hR;clear hφ;obtain⟨v,A,c,B,hov,u10,u12,hB1,hB2,hrg,hiv,hbe⟩:=hR.fin (hL 6 aL) (hL 8 aL) (hL 10 aL) (hL 11 aL) (hL 12 aL);simp only[u10,u12];have hb4:Below W3 W3 W:=(Am _ _).drew.trans hbe;have B4:=Aa (B3.o.trans (hb4.mono B3.o.size));have T4:=Aa (An T3.o (show w.heap.size<W3.heap.size by omega) hb4);have Hev4:=Aa (Hev9.o.after hb4);have y0:=(hb4.cell (p:=⟨W2.heap.size,0,none⟩) (show W2.heap.size<W3.heap.size by omega)).trans X0.o;have y1:=(hb4.cell (p:=⟨W2.heap.size,1,none⟩) (show W2.heap.size<W3.heap.size by omega)).trans X1.o;have y2:=(hb4.cell (p:=⟨W2.heap.size,2,none⟩) (show W2.heap.size<W3.heap.size by omega)).trans X2.o;have y3:=(hb4.cell (p:=⟨W2.heap.size+1,0,none⟩) (show W2.heap.size+1<W3.heap.size by omega)).trans X3.o;have y4:=(hb4.cell (p:=⟨W2.heap.size+1,1,none⟩) (show W2.heap.size+1<W3.heap.size by omega)).trans X4.o;have y5:=(hb4.cell (p:=⟨W2.heap.size+1,2,none⟩) (show W2.heap.size+1<W3.heap.size by omega)).trans X5.o;have z0:W.cell? (B,0)=some (.int .u8 (v.what.toNat:Int)):=fP;have z1:W.cell? (B,1)=v.text:=by simpa using Ac hrg 1 rfl
  have z2:W.cell? (B,2)=(v.tag:Int):=by simpa using Ac hrg 2 rfl
  have z3:W.cell? (B,3)=some (.slice A v.kids.length c):=by simpa using Ac hrg 3 rfl
  have Hiv:=Aa hiv;have hz4:=hb4.size;clear hR hL u10 u12 hrg hiv hbe hb4 Hev9 B3 T3;cases o with
  |none=>
   have HN:=@Aa (En (some (S,a)) (some (T,b)) x=none) Hlift.o;simp only[Option.isSome_none];clear y0 y1 y2 y3 y4 y5 z0 z1 z2 z3;go_wp2_with ((with_reducible refine Af (op:=⟨none,.store 47 _ _,_,_,_,none⟩) rfl 47 _ _ rfl w 0 [.int .u8 0,aa,.int .i64 0,.slice none 0 0] ?_ ?_ ?_ ?_ ?_ ?_);rfl;rfl;(exact T4.o);kernel_rfl;(simp[Value.oneCell']);intro w9 HS9)
   have HZ:=(by rw[HS9.o];exact ac _ _ _ _ T4.o:w9.rangeAt w 0 (Jx Fk (.slice none 0 0)))
   refine aG (v:=.tuple #[.agg (Jx Fk (.slice none 0 0)).toArray,.bool false,.bool false]) (Jz results35 _ _ w.heap.size _ _ _ _ rfl rfl rfl HZ underlying47 rfl aP) rfl ?_;exact Zm.no HN.o rfl (by rw[HS9.o];exact Aj _ aI _ _ _ B4.o)
  |some vv=>
   obtain rfl:v=vv:=hov vv rfl;simp only[Option.isSome_some];obtain⟨R,hR,hK,hvok,hpx,hx4,_,_⟩:=Qat HS.o HT.o Hgb.o He.o Ho.o;have HLf:=Aa (Qhp hR HT.o HS.o xs ys Hxs.o Hys.o eb (.pointer p1) (.pointer p2) 12 a b v hK hvok Hga.o Hgb.o (by rw[hpx];omega) _ A v.kids.length c W Hev4.o Hiv.o);unfold Eh Ev at HLf;have HL:=@Aa (En (some (S,a)) (some (T,b)) x=some (Cy S 12 a v)) Hlift.o;generalize Cy S 12 a v=r at *;clear hR hK hvok hpx hx4 hov;go_wp2_with fail;refine HLf.o.mono ?_;rintro e w5 ⟨sl5,rfl,hs5,hb5⟩;obtain⟨A5,c5,rfl⟩:=hs5.form;have B5:=Aa (B4.o.trans (hb5.mono B4.o.size));have T5:=Aa (An T4.o (show w.heap.size<W.heap.size by omega) hb5);have Hs5:=Aa hs5;have hz5:=hb5.size;have T6:=Aa (fun o=>An T5.o (show w.heap.size<w5.heap.size by omega) ((Am w5.heap.size w5).alloc (Ao _) o));clear hs5 hb5 y0 y1 y2 y3 y4 y5 z0 z1 z2 z3;unfold Ev;go_wp2_with ((with_reducible refine Af (op:=⟨none,.store 47 _ _,_,_,_,none⟩) rfl 47 _ _ rfl w 0 [.int .u8 (r.1.what.toNat:Int),r.1.text,(r.1.tag:Int),.slice A5 r.1.kids.length c5] ?_ ?_ ?_ ?_ ?_ ?_);rfl;rfl;(exact T6.o _);kernel_rfl;(simp[Value.oneCell']);intro w9 HS9)
   refine aG (v:=.tuple #[.agg (Mf (r.1,.slice A5 r.1.kids.length c5)).toArray,.bool r.2,.bool true]) (Jz results35 _ _ w.heap.size _ _ _ _ rfl rfl rfl (by rw[HS9.o];exact ac _ _ _ _ (T6.o _)) underlying47 rfl aP) rfl ?_;have hal:=(Am w5.heap.size w5).alloc (Ao _) (.cells #[.int .u8 (r.1.what.toNat:Int),r.1.text,(r.1.tag:Int),.slice A5 r.1.kids.length c5] 47);refine⟨⟨r.1,.slice A5 r.1.kids.length c5,r.2,by rw[HL.o];rfl,?_,fun r' h=>by rw[HL.o]at h;injection h with h;subst h;exact⟨rfl,rfl⟩⟩,by rw[HS9.o];exact Aj _ aI _ _ _ (B5.o.trans (hal.mono B5.o.size))⟩;rw[HS9.o];exact((Hs5.o.after hal).set (B:=w.heap.size) (fun h=>by have h:W.heap.size<=w.heap.size:=h;omega) _).mono fun k hk _=>ae aI hk
theorem Yo{s1 d1 s2 d2 x:List UInt8}{r:Vl × Bool}(h:En (Az s1 d1) (Az s2 d2) x=some r):Bd r.1/\r.2=(Ba r.1 != x):=by
 cases h1:Az s1 d1 with
 |none=>rw[h1]at h;cases h
 |some y1=>
  cases h2:Az s2 d2 with
  |none=>rw[h1,h2]at h;cases h
  |some y2=>
   obtain⟨S,a⟩:=y1;obtain⟨T,b⟩:=y2;rw[h1,h2]at h;have h:(if Jq S T a b=true then(Jd T b x).map (Cy S 12 a)else none)=some r:=h;split at h
   ·rename_i he;cases hv:Jd T b x with
    |none=>rw[hv]at h;cases h
    |some v=>
     rw[hv]at h;injection h with h;subst h;obtain⟨_,_,_,_,hpx,_,hB,hL⟩:=Qat (Dn h1).1 (Dn h2).1 (Dn h2).2.2.2.1 he hv;refine⟨hB,?_⟩;cases e:(Cy S 12 a v).2 with
     |false=>rw[hL.1 e,hpx];simp
     |true=>have:=hL.2 e;rw[hpx]at this;symm;rw[bne_iff_ne];intro e2;rw[e2]at this;omega
   cases h
theorem Kp(s1 d1 s2 d2 x:List UInt8)(w:World)(h1:s1.length<=4000000)(h2:d1.length<=4000000)(h3:s2.length<=4000000)(h4:d2.length<=4000000)(h5:x.length<=4000000):
  Calls prog 13 #[s1,d1,s2,d2,x] w (Sl (En (Az s1 d1) (Az s2 d2) x) w):=by
 have H:=Aa (fun W=>Xf s1 d1 s2 d2 x W h1 h2 h3 h4 h5);have HG:=Aa (fun r (h:En (Az s1 d1) (Az s2 d2) x=some r)=>(Yo h).1);generalize En (Az s1 d1) (Az s2 d2) x=o at *;go_enter func13,ntmps13;go_wp2_with fail;refine(H.o _).mono ?_;rintro e w1 ⟨⟨v,sl,l,rfl,hs1,hr1⟩,hb1⟩;obtain⟨A1,c1,rfl⟩:=hs1.form;have Hb1:=Aa hb1;have Hr1:=Aa hr1;have hal:=(Am w1.heap.size w1).alloc (Ao _) (.cells #[.int .u8 (v.what.toNat:Int),v.text,(v.tag:Int),.slice A1 v.kids.length c1] 47);have Hal:=Aa hal;have Hs1:=Aa (hs1.after hal);clear hb1 hr1 hal hs1;unfold Ev;cases o with
 |none=>
  simp only[Option.isSome_none];go_wp2_with fail;refine aG (v:=.tuple #[aa,.bool false]) (by simp[results,results13,go_sem]) rfl ?_;exact⟨rfl,Hb1.o.trans (Hal.o.mono Hb1.o.size)⟩
 |some r=>
  obtain⟨rfl,rfl⟩:=Hr1.o r rfl;have HP:=Aa (Sf _ (HG.o r rfl) _ _ Hs1.o);unfold Ev at HP;simp only[Option.isSome_some];go_wp2_with fail;refine HP.o.mono ?_;rintro e w4 ⟨rfl,hb4⟩;have Hb4:=Aa ((Hb1.o.trans (Hal.o.mono Hb1.o.size)).trans (hb4.mono (Hb1.o.trans (Hal.o.mono Hb1.o.size)).size));clear hb4;go_wp2_with fail;refine aG (v:=.tuple #[.string ⟨(Ba r.1).toArray⟩,.bool true]) (by simp[results,results13,go_sem]) rfl ?_;exact⟨rfl,Hb4.o⟩
theorem Qd0(s1 d1 s2 d2 x:List UInt8)(w:World)(h1:s1.length<=4000000)(h2:d1.length<=4000000)(h3:s2.length<=4000000)(h4:d2.length<=4000000)(h5:x.length<=4000000):
  Calls prog 17 #[s1,d1,s2,d2,x] w (Q6 (En (Az s1 d1) (Az s2 d2) x) x w):=by
 have H:=Aa (fun W=>Xf s1 d1 s2 d2 x W h1 h2 h3 h4 h5);have HG:=Aa (fun r (h:En (Az s1 d1) (Az s2 d2) x=some r)=>(Yo h).2);generalize En (Az s1 d1) (Az s2 d2) x=o at *;go_enter func17,ntmps17;go_wp2_with fail;refine(H.o _).mono ?_;rintro e w1 ⟨⟨v,sl,l,rfl,hs1,hr1⟩,hb1⟩;obtain⟨A1,c1,rfl⟩:=hs1.form;have Hr1:=Aa hr1;have Hb2:=Aa (hb1.alloc hb1.size (.cells #[.int .u8 (v.what.toNat:Int),v.text,(v.tag:Int),.slice A1 v.kids.length c1] 47));clear hb1 hr1 hs1;unfold Ev;cases o with
 |none=>
  simp only[Option.isSome_none];cases l;all_goals
   go_wp2_with fail;refine aG (v:=.tuple #[.bool false,.bool false]) (by simp[results,results17,go_sem]) rfl ?_;exact⟨rfl,Hb2.o⟩
 |some r=>
  obtain⟨rfl,rfl⟩:=Hr1.o r rfl;have hg:=HG.o r rfl;simp only[Option.isSome_some];obtain⟨r1,r2⟩:=r;simp only at hg;cases r2;all_goals
   have Hg:=Aa hg;clear hg;go_wp2_with fail
  ·refine aG (v:=.tuple #[.bool false,.bool true]) (by simp[results,results17,go_sem]) rfl ?_;exact⟨by simp only[<-Hg.o];rfl,Hb2.o⟩
  refine aG (v:=.tuple #[.bool true,.bool true]) (by simp[results,results17,go_sem]) rfl ?_;exact⟨by simp only[<-Hg.o];rfl,Hb2.o⟩
theorem Xj(s1 d1 s2 d2:List UInt8)(w:World)(h1:s1.length<=4000000)(h2:d1.length<=4000000)(h3:s2.length<=4000000)(h4:d2.length<=4000000):
  Calls prog 15 #[s1,d1,s2,d2] w fun e w'=>e=.returned (.bool (Dt (Az s1 d1) (Az s2 d2) && Dt (Az s2 d2) (Az s1 d1)))/\Below w w w':=by
 have Hr1:=Aa (fun W=>Xb s1 d1 s2 d2 W h1 h2 h3 h4);have Hr2:=Aa (fun W=>Xb s2 d2 s1 d1 W h3 h4 h1 h2);generalize Dt (Az s1 d1) (Az s2 d2)=r1 at *;generalize Dt (Az s2 d2) (Az s1 d1)=r2 at *;go_enter func15,ntmps15;go_wp2_with fail;refine(Hr1.o _).mono ?_;rintro e w1 ⟨rfl,hb1⟩;have Hb1:=Aa hb1;clear hb1;cases r1 with
 |false=>
  go_wp2_with fail;go_ret;exact mw
 |true=>
  go_wp2_with fail;refine(Hr2.o _).mono ?_;rintro e w2 ⟨rfl,hb2⟩;have Hb2:=Aa hb2;clear hb2;go_wp2_with fail;go_ret;exact⟨rfl,Hb1.o.trans (Hb2.o.mono Hb1.o.size)⟩
end
end Go.Proofs.YtpjijpcemejlnaaGreatDoor
