/- Texts joined. Conditions: as each theorem names them. -/
import Derived.Test.YtkgkoicedddkmaaGreatDoorC03
import Derived.Test.YtkgkoicedddkmaaGreatDoorC31
import Derived.Test.YtkgkoicedddkmaaGreatDoorC43
import Derived.Test.YtkgkoicedddkmaaGreatDoorC44
set_option maxRecDepth 100000
set_option maxHeartbeats 32000000
set_option linter.unusedVariables false
set_option linter.unusedSimpArgs false
namespace Go.Proofs.YtkgkoicedddkmaaGreatDoor
open Go.RowKit Go.Proofs.Tryz
theorem Vk{p:List UInt8}:∀{l:List (List UInt8)},p∈l->p.length+1<=Dc l
 |x::xs,h=>by
  rw[D7]
  rcases List.mem_cons.1 h with rfl|h
  ·omega
  have:=Vk h;omega
theorem Qhj{ks:List Vl}{x:Vl}(h:x∈ks):(Bc x).length<=(Bc (.mk 91 [] 0 ks)).length:=by
 rw[Ki]
 have:=Vk (List.mem_map_of_mem (f:=Bc) h)
 simp[Gs,Bu]
 omega
theorem Qht{ps:List (Fd × Vl)}{p:Fd × Vl}(h:p∈ps):(Bc p.2).length<=(Bc (.mk 82 [] 0 (ps.map De))).length:=by
 rw[Ki]
 have:=Vk (List.mem_map_of_mem (f:=Bc) (List.mem_map_of_mem (f:=De) h))
 rw[Jz]at this
 simp[Gs,Bu]at this ⊢
 omega
theorem Qq{S T:List Ty}{R:Cf->Cf->Prop}(hR:Xu S T R)(xs:List (Ty × Value))(xv:Value)(hty:Af xs=S)(hok:Jc S){a:Kd}{bn:Cf}(ha:Cw a)(hsg:a.signs=[])(hb:a.base=[64])(hr:R a.name bn){u:Ty}(hu:Bp T bn=some u)(w:World)(hsc:Jq w xv xs):
  ∃(t:Ty) (A9:Option Addr) (c9:Nat),Bp S a.name=some t/\t.sort=u.sort/\(∀g∈u.fields,M7 S T R t u.sort g)/\Bj a=64::(a.name++[59])/\(a.name++[59]).length<=100/\Er w (.slice A9 t.fields.length c9) t.fields/\(∀f∈t.fields,Sb t.sort f)/\t∈S /\
   ∀W,Below w.heap.size w W->Calls prog 44 #[xv,.string ⟨(64::(a.name++[59]):List UInt8).toArray⟩] W fun e w'=>e=.returned (.tuple #[.agg #[.int .u8 (t.sort.toNat:Int),.string ⟨t.name.toArray⟩,.slice A9 t.fields.length c9],.bool true])/\Below W.heap.size W w':=by
 obtain⟨t,u',htS,htT,hsu,hfr⟩:=hR _ _ hr
 rw[hu]at htT
 injection htT with htT
 subst htT
 have e:Bj a=64::(a.name++[59]):=by unfold Bj Bs;rw[hsg,if_pos hb];rfl
 have hx:∃tv,Dq xs a.name=some (t,tv):=by
  rw[<-hty,G6]at htS
  cases hx:Dq xs a.name with
  |none=>rw[hx]at htS;cases htS
  |some y=>rw[hx]at htS;injection htS with htS;exact⟨y.2,by rw[<-htS]⟩
 obtain⟨tv,hx⟩:=hx
 obtain⟨hm,_,hft2⟩:=Dj hx
 have hfs:Er w tv t.fields:=by obtain⟨_,_,_,_,_,hq⟩:=hsc;exact hq _ hm
 obtain⟨A9,c9,rfl,hl9,hrow⟩:=hfs
 have htm:t∈S:=by rw[<-hty];exact(Cu hft2).1
 refine⟨t,A9,c9,htS,hsu,hfr,e,by have:=ha.2.2;rw[e]at this;simp at this ⊢;omega,⟨A9,c9,rfl,hl9,hrow⟩,(hok.1.1 t htm).2.2.1.1,htm,fun W hW=>?_⟩
 have h:=Fu xv xs a W (hsc.below hW) ha
 rw[show Kz xs a=some (t,.slice A9 t.fields.length c9)from by unfold Kz;rw[if_pos ⟨hsg,hb⟩];exact hx,e]at h
 exact h
theorem Qdn{S T:List Ty}{R:Cf->Cf->Prop}(hR:Xu S T R)(hT:∀t∈T,Ep t)(xs:List (Ty × Value))(xv:Value)(hty:Af xs=S)(hok:Jc S):∀(d:Nat) (a b:Kd) (v:Vl),Py R a b->Nn T d b v->Cw a->(Bc v).length<=1000000->∀(P:Nat->Prop) (bv:Nat) (w:World),Jq w xv xs->Fl P w bv (Cq T b v) ->
  Calls prog 27 #[.pointer (some ⟨bv,0,none⟩),xv,.string ⟨(Bj a).toArray⟩] w (Sc (Cq S a (Cz S d a v).1) w):=by
 intro d
 induction d with
 |zero=>intro a b v _ h;cases h
 |succ d ih=>
  intro a b v hk hv ha hl P bv w hsc hw
  have hxv:xv.oneCell'=true:=by obtain⟨A,c,rfl,_⟩:=hsc;rfl
  have hkl:(Bj a).length<=100:=by have:=ha.2.2;omega
  obtain⟨k1,k2,k3⟩:=hk
  have plain:∀(c0:UInt8) (text:List UInt8),c0≠64->Bj a=[c0]->Fl P w bv (.mk (Bj b) text [] [])->Calls prog 27 #[.pointer (some ⟨bv,0,none⟩),xv,.string ⟨(Bj a).toArray⟩] w (Sc (.mk (Bj a) text [] []) w):=by
   intro c0 text h64 e hs
   rw[e]
   exact Zm P bv xv hxv w c0 [] (by simp) h64 _ text [] [] [] rfl (by simp) hs (fun i hi=>absurd hi (by simp))
  cases hv with
  |@n _ _ m hs hb h=>
   rw[Da,if_neg (by rw[k1,hs];simp),if_pos (by rw[k2,hb];decide),Y8]
   rw[Y8]at hw
   exact plain 110 _ (by decide) (by unfold Bj Bs;rw[k1.trans hs,k2.trans hb];rfl) hw
  |@t _ _ s hs hb h=>
   rw[Da,if_neg (by rw[k1,hs];simp),if_pos (by rw[k2,hb];decide),Vf]
   rw[Vf]at hw
   exact plain 116 _ (by decide) (by unfold Bj Bs;rw[k1.trans hs,k2.trans hb];rfl) hw
  |@f _ _ x hs hb=>
   rw[Da,if_neg (by rw[k1,hs];simp),if_pos (by rw[k2,hb];decide),Vm]
   rw[Vm]at hw
   exact plain 102 _ (by decide) (by unfold Bj Bs;rw[k1.trans hs,k2.trans hb];rfl) hw
  |@lst _ _ r ks hs hl2 h=>
   have e:Bj a=91::Bj a.part:=by unfold Bj Kd.part;rw[k1.trans hs];rfl
   rw[Da,if_pos (by rw[k1,hs];simp),Q5]
   rw[Q5]at hw
   rw[e]at hkl ⊢
   refine Zm P bv xv hxv w 91 (Bj a.part) (by simp at hkl;omega) (by decide) _ [] [] (ks.map (Cq T b.part)) _ (by simp) (by simp;omega) hw fun i hi hj W bx hW hs2=>?_
   have hi2:i<ks.length:=by simpa using hi
   rw[List.getElem_map]at hs2
   rw[List.getElem_map,List.getElem_map]
   exact ih a.part b.part _ (Jm ⟨k1,k2,k3⟩) (h _ (List.getElem_mem hi2)) (Jl ha).1 (Nat.le_trans (Qhj (List.getElem_mem hi2)) hl) P bx W (hsc.below hW) hs2
  |@non _ _ r hs=>
   have e:Bj a=63::Bj a.part:=by unfold Bj Kd.part;rw[k1.trans hs];rfl
   rw[Da,if_pos (by rw[k1,hs];simp),Kr]
   rw[Kr]at hw
   rw[e]at hkl ⊢
   exact Zm P bv xv hxv w 63 (Bj a.part) (by simp at hkl;omega) (by decide) _ [] [] [] _ (by simp) (by simp) hw fun i hi=>absurd hi (by simp)
  |@som _ _ r x hs h=>
   have e:Bj a=63::Bj a.part:=by unfold Bj Kd.part;rw[k1.trans hs];rfl
   rw[Da,if_pos (by rw[k1,hs];simp),Kr]
   rw[Kr]at hw
   rw[e]at hkl ⊢
   refine Zm P bv xv hxv w 63 (Bj a.part) (by simp at hkl;omega) (by decide) _ [] [] [Cq T b.part x] _ (by simp) (by simp) hw fun i hi hj W bx hW hs2=>?_
   have hi0:i=0:=by simp at hi;omega
   subst hi0
   simp only[List.getElem_cons_zero,List.map_cons]at hs2 ⊢
   exact ih a.part b.part x (Jm ⟨k1,k2,k3⟩) h (Jl ha).1 (by have:=hl;simp[Bc,Dz,Gs,Av]at this;omega) P bx W (hsc.below hW) hs2
  |@enm _ _ u f hs hb ht h9 hf=>
   obtain⟨t,A9,c9,htS,hsu,hfr,e,hel,hfs,hfd,htm,hrf⟩:=Qq hR xs xv hty hok ha (k1.trans hs) (k2.trans hb) (k3 (k2.trans hb)) ht w hsc
   rw[Da,if_neg (by rw[k1,hs];simp),if_neg (by rw[k2,hb];simp),htS]
   simp only
   rw[if_neg (by decide),if_neg (by decide),Rh]
   rw[Rh]at hw
   have hrel:=hfr f (As hf).2
   unfold M7 at hrel
   cases hft:Au t.fields f.tag with
   |none=>rw[hft]at hrel;simp only at hrel;rw[h9]at hrel;exact absurd hrel (by decide)
   |some f'=>
    have hf2:=hfd f' (As hft).2
    have etag:f'.tag=f.tag:=(As hft).1
    have hres:=Qby P bv xv hxv w (a.name++[59]) hel (t.sort.toNat:Int) t.name A9 c9 t.fields hfs true S (Bj b) [69] [f.tag] [] (by intro g hg;simp at hg;subst hg;have:=hf2.2.1;omega) hw hrf
     [some (f'.tag,none)] rfl (fun i hi hj=>by
      have hi0:i=0:=by simp at hi;omega
      subst hi0
      have hkf:(Bj f'.kind).length<=100:=by rw[(hf2.2.2.2.1 (hsu.trans h9)).1];decide
      exact .inr ⟨f',hft,hf2.2.1,hkf,.inl ⟨by simp,rfl⟩⟩)
    rw[<-e]at hres
    simpa [etag]using hres
  |@uni _ _ u f x hs hb ht h5 hf h=>
   obtain⟨t,A9,c9,htS,hsu,hfr,e,hel,hfs,hfd,htm,hrf⟩:=Qq hR xs xv hty hok ha (k1.trans hs) (k2.trans hb) (k3 (k2.trans hb)) ht w hsc
   rw[Da,if_neg (by rw[k1,hs];simp),if_neg (by rw[k2,hb];simp),htS]
   simp only
   rw[if_pos Ac]
   rw[Qw,Fs ht hf]at hw
   have hrel:=hfr f (As hf).2
   unfold M7 at hrel
   cases hft:Au t.fields f.tag with
   |none=>rw[hft]at hrel;simp only at hrel;rw[h5]at hrel;exact absurd hrel (by decide)
   |some f'=>
    rw[hft]at hrel
    simp only at hrel
    rw[h5]at hrel
    have hkr:Py R f'.kind f.kind:=by rcases hrel with h|h;exact absurd h (by decide);exact h.1
    have hf2:=hfd f' (As hft).2
    have hst:t.sort≠69:=by rw[hsu,h5];decide
    have hk':=(hf2.2.2.2.2 hst).1
    have etag:f'.tag=f.tag:=(As hft).1
    have hres:=Qby P bv xv hxv w (a.name++[59]) hel (t.sort.toNat:Int) t.name A9 c9 t.fields hfs true S (Bj b) [85] [f.tag] [Cq T f.kind x] (by intro g hg;simp at hg;subst hg;have:=hf2.2.1;omega) hw hrf
     [some (f'.tag,some (Cq S f'.kind (Cz S d f'.kind x).1))] rfl (fun i hi hj=>by
      have hi0:i=0:=by simp at hi;omega
      subst hi0
      exact .inr ⟨f',hft,hf2.2.1,by have:=hk'.2.2;omega,.inr ⟨by simp,Cq S f'.kind (Cz S d f'.kind x).1,fun W bx hW hs2=>ih f'.kind f.kind x hkr h hk' (by have:=hl;simp[Bc,Dz,Gs,Av]at this;omega) P bx W (hsc.below hW) hs2,.inl ⟨by decide,rfl⟩⟩⟩)
    rw[<-e]at hres
    simp only[List.map_cons,List.map_nil]
    rw[Qw,show Qa S a f.tag=f'.kind from by rw[<-etag];exact Fs htS (by rw[etag];exact hft)]
    simpa [etag]using hres
  |@rcd _ _ u ps hs hb ht h2 hf h hn hp=>
   obtain⟨t,A9,c9,htS,hsu,hfr,e,hel,hfs,hfd,htm,hrf⟩:=Qq hR xs xv hty hok ha (k1.trans hs) (k2.trans hb) (k3 (k2.trans hb)) ht w hsc
   rw[Da,if_neg (by rw[k1,hs];simp),if_neg (by rw[k2,hb];simp),htS]
   simp only
   rw[if_neg (by decide),if_pos Ac,Xs]
   have hst:t.sort≠69:=by rw[hsu,h2];decide
   rw[Q4]at hw
   rw[show (ps.map fun p=>Cq T (Qa T b p.1.tag) p.2)=ps.map fun p=>Cq T p.1.kind p.2 from List.map_congr_left fun p hp'=>by rw[Fs ht (hf p hp')]]at hw
   have hres:=Qby P bv xv hxv w (a.name++[59]) hel (t.sort.toNat:Int) t.name A9 c9 t.fields hfs true S (Bj b) [82] (ps.map fun p=>p.1.tag) (ps.map fun p=>Cq T p.1.kind p.2)
    (by
     intro g hg
     obtain⟨p,hp',rfl⟩:=List.mem_map.1 hg
     have:=(Kf hT ht (by rw[h2];decide) (As (hf p hp')).2).2
     omega) hw hrf
    (ps.map fun p=>(Nk S (Cz S d) t.fields p).map fun q=>(q.1.tag,some (Cq S q.1.kind q.2))) (by simp) (fun i hi hj=>by
     have hi2:i<ps.length:=by simpa using hi
     have hm:=List.getElem_mem hi2
     rw[List.getElem_map,List.getElem_map]
     generalize hpi:ps[i]=p at *
     have hrel:=hfr p.1 (As (hf p hm)).2
     unfold M7 at hrel
     cases hft:Au t.fields p.1.tag with
     |none=>exact .inl ⟨hft,by simp[Nk,hft]⟩
     |some f'=>
      rw[hft]at hrel
      simp only at hrel
      rw[h2]at hrel
      have hkr:Py R f'.kind p.1.kind:=by rcases hrel with h|h;exact absurd h (by decide);exact h.1
      have hf2:=hfd f' (As hft).2
      have hk':=(hf2.2.2.2.2 hst).1
      have hpl:(Bc p.2).length<=1000000:=Nat.le_trans (Qht hm) hl
      obtain⟨hok2,hlok⟩:=Tj hR d f'.kind p.1.kind p.2 hkr (h p hm)
      refine .inr ⟨f',hft,hf2.2.1,by have:=hk'.2.2;omega,.inr ⟨by simpa using hi2,Cq S f'.kind (Cz S d f'.kind p.2).1,fun W bx hW hs2=>?_,.inr ⟨rfl,Bc (Cz S d f'.kind p.2).1,fun Q W b' hs2=>?_,fun W hW=>?_,?_⟩⟩⟩
      ·rw[List.getElem_map,hpi]at hs2
       exact ih f'.kind p.1.kind p.2 hkr (h p hm) hk' hpl P bx W (hsc.below hW) hs2
      ·exact Tx hok.1.1 Q d f'.kind _ hok2 hk' b' W hs2 (Nat.le_trans hlok.le hpl)
      ·have:=Nc xv xs (by rw[hty];exact hok) f' W (hsc.below hW) hk' (by rw[hty];exact hok.2.1 t htm hst f' (As hft).2) (Nat.le_trans (Jf hf2) (by decide))
       rw[hty]at this
       exact this
      by_cases hq:Bc (Cz S d f'.kind p.2).1=Jp S f'
      ·exact .inl ⟨hq,by simp[Nk,hft,hq]⟩
      exact .inr ⟨hq,by simp[Nk,hft,hq]⟩)
   rw[<-e]at hres
   rw[Q4]
   have e1:∀qs:List (Fd × Vl),((qs.map fun p=>(Nk S (Cz S d) t.fields p).map fun q=>(q.1.tag,some (Cq S q.1.kind q.2))).filterMap id)=(qs.filterMap (Nk S (Cz S d) t.fields)).map fun q=>(q.1.tag,some (Cq S q.1.kind q.2)):=by
    intro qs
    induction qs with
    |nil=>rfl
    |cons p qs ihp=>
     simp only[List.map_cons,List.filterMap_cons,id]
     cases Nk S (Cz S d) t.fields p<;>simp[ihp]
   rw[e1]at hres
   rw[show ((ps.filterMap (Nk S (Cz S d) t.fields)).map fun p=>Cq S (Qa S a p.1.tag) p.2)=(ps.filterMap (Nk S (Cz S d) t.fields)).map fun p=>Cq S p.1.kind p.2 from List.map_congr_left fun q hq=>by
    obtain⟨p,_,hpq⟩:=List.mem_filterMap.1 hq
    rw[Fs htS (Ka hpq).1]]
   simpa [List.map_map,List.filterMap_map,Function.comp_def]using hres
section
attribute [local go_sem] Qiz Qii Qib Qgw ByteArray.mk_append_mk
def Fj(o1 o2:Option (List Ty × Kd))(x:List UInt8):Option (Vl × Bool):=match o1,o2 with
 |some (S,a),some (T,b)=>if Jv S T a b=true then(G7 T b x).map (Cz S 12 a)else none
 |_,_=>none
def Qhf:Option (Vl × Bool)->List UInt8
 |some r=>Bc r.1
 |none=>[]
theorem Qcr{o1 o2:Option (List Ty × Kd)}{x:List UInt8}{S T:List Ty}{a b:Kd}{v:Vl}(h1:o1=some (S,a))(h2:o2=some (T,b))(hr:Eu o1 o2=true)(hv:G7 T b x=some v):Fj o1 o2 x=some (Cz S 12 a v):=by
 subst h1 h2
 show (if Jv S T a b=true then(G7 T b x).map (Cz S 12 a)else none)=_
 rw[if_pos (show Jv S T a b=true from hr),hv]
 rfl
theorem Z6{o1 o2:Option (List Ty × Kd)}{x:List UInt8}(h:Eu o1 o2=false):Fj o1 o2 x=none:=by
 cases o1 with
 |none=>rfl
 |some y1=>
  cases o2 with
  |none=>rfl
  |some y2=>
   obtain⟨S,a⟩:=y1
   obtain⟨T,b⟩:=y2
   show (if Jv S T a b=true then(G7 T b x).map (Cz S 12 a)else none)=none
   rw[if_neg (by intro e;rw[show Eu (some (S,a)) (some (T,b))=Jv S T a b from rfl,e]at h;cases h)]
theorem Qdk{o1 o2:Option (List Ty × Kd)}{x:List UInt8}(h:∀y,o2=some y->G7 y.1 y.2 x=none):Fj o1 o2 x=none:=by
 unfold Fj
 split
 ·rename_i S a T b
  rw[h _ rfl]
  simp
 rfl
def Yl(o:Option (Vl × Bool))(w:World)(e:Ending)(w':World):Prop:=e=.returned (.tuple #[.string ⟨(Qhf o).toArray⟩,.bool o.isSome])/\Below w.heap.size w w'
theorem Qdg(s1 d1 s2 d2 x:List UInt8)(w:World)(h1:s1.length<=4000000)(h2:d1.length<=4000000)(h3:s2.length<=4000000)(h4:d2.length<=4000000)(h5:x.length<=4000000):
  Calls prog 15 #[.string ⟨s1.toArray⟩,.string ⟨d1.toArray⟩,.string ⟨s2.toArray⟩,.string ⟨d2.toArray⟩,.string ⟨x.toArray⟩] w (Yl (Fj (Bn s1 d1) (Bn s2 d2) x) w):=by
 have H1:=Aa (fun W=>Qcx s1 d1 s2 d2 W h1 h2 h3 h4)
 have H2:=Aa (fun W=>Qio s2 d2 x W h3 h4 h5)
 have G1:=Aa (fun S k (h:Bn s1 d1=some (S,k))=>Du h)
 have G2:=Aa (fun S k (h:Bn s2 d2=some (S,k))=>Du h)
 obtain⟨o1,ho1⟩:∃o1,Bn s1 d1=o1:=⟨_,rfl⟩
 rw[ho1]at H1 G1 ⊢
 obtain⟨o2,ho2⟩:∃o2,Bn s2 d2=o2:=⟨_,rfl⟩
 have Ho2:=Aa ho2
 rw[ho2]at H1 G2 ⊢
 clear ho1 ho2
 go_enter func15,ntmps15
 go_wp2_with fail
 refine(H1.o _).mono ?_
 rintro e w1 ⟨v1,v2,rfl,hb1,⟨A1,n1,c1,rfl⟩,⟨A2,n2,c2,rfl⟩,hm1⟩
 have Hm1:=Aa hm1
 have Hb1:=Aa hb1
 clear hm1 hb1
 go_wp2_with fail
 refine(H2.o _).mono ?_
 rintro e w2 ⟨hb2,hm2⟩
 rw[Ho2.o]at hm2
 obtain⟨v,q,ok2,rfl,hn,hy⟩:∃v q ok2,e=.returned (.tuple #[v,.pointer q,.bool ok2])/\(ok2=false->∀y,o2=some y->G7 y.1 y.2 x=none)/\(ok2=true->∃S k vv b,o2=some (S,k)/\G7 S k x=some vv/\q=some ⟨b,0,none⟩/\Fl (fun c=>w1.heap.size<=c) w2 b (Cq S k vv)):=by
  cases o2 with
  |none=>obtain⟨v,q,rfl⟩:=hm2;exact⟨v,q,false,rfl,fun _ y h=>(by cases h),fun h=>Bool.noConfusion h⟩
  |some y=>
   obtain⟨S,k⟩:=y
   simp only at hm2
   cases hv:G7 S k x with
   |none=>rw[hv]at hm2;obtain⟨v,q,rfl⟩:=hm2;exact⟨v,q,false,rfl,fun _ y h=>(by injection h with h;subst h;exact hv),fun h=>Bool.noConfusion h⟩
   |some vv=>
    rw[hv]at hm2
    obtain⟨xv,xs,b,rfl,_,_,hs⟩:=hm2
    exact⟨xv,some ⟨b,0,none⟩,true,rfl,fun h=>Bool.noConfusion h,fun _=>⟨S,k,vv,b,rfl,hv,rfl,hs⟩⟩
 have Hb2:=Aa (Hb1.o.trans (hb2.mono Hb1.o.size))
 have Hb12:=Aa hb2
 have Hn:=Aa hn
 have Hy:=Aa hy
 clear hm2 hb2 hn hy
 cases hev:Eu o1 o2 with
 |false=>
  have HN:=Aa (Z6 (x:=x) hev)
  clear hev
  go_wp2_with fail
  refine bodyPost_ret (v:=.tuple #[.string ⟨#[]⟩,.bool false]) (by simp[results,results15,go_sem]) rfl ?_
  exact⟨by rw[HN.o];rfl,Hb2.o⟩
 |true=>
  cases ok2 with
  |false=>
   have HN:=Aa (Qdk (o1:=o1) (Hn.o rfl))
   clear hev
   go_wp2_with fail
   refine bodyPost_ret (v:=.tuple #[.string ⟨#[]⟩,.bool false]) (by simp[results,results15,go_sem]) rfl ?_
   exact⟨by rw[HN.o];rfl,Hb2.o⟩
  |true=>
   obtain⟨T,b,vv,bv,rfl,hv,rfl,hs⟩:=Hy.o rfl
   cases o1 with
   |none=>exact absurd hev (by simp[Eu])
   |some y1=>
    obtain⟨S,a⟩:=y1
    obtain⟨xs,ys,hxs,_,hsc,_⟩:=Hm1.o
    simp only at hxs
    obtain⟨g1,_,_,ga,gd,gr⟩:=G1.o S a rfl
    obtain⟨k1,_,_,kb,_,_⟩:=G2.o T b rfl
    obtain⟨hvok,hpx,hx4⟩:=(J4 k1.1.1 kb).1 hv
    obtain⟨R,hR,hK⟩:=Qv g1.1.2.1 k1.1.2.1 (show Jv S T a b=true from hev)
    have HL:=Aa (Qcr (x:=x) rfl rfl hev hv)
    have hpl:(Bc vv).length<=1000000:=by rw[hpx];omega
    obtain⟨hok2,hlok⟩:=Tj hR 12 a b vv hK hvok
    have HLf:=Aa (gd ▸ Qdn hR k1.1.1 xs (.slice A1 n1 c1) hxs g1 12 a b vv hK hvok ga hpl _ bv w2 (hsc.below Hb12.o) hs)
    have HOu:=Aa (fun(Q:Nat->Prop) W b' (h:Fl Q W b' (Cq S a (Cz S 12 a vv).1))=>Tx g1.1.1 Q 12 a _ hok2 ga b' W h (Nat.le_trans hlok.le hpl))
    clear hev hv hs hvok hpx hx4 hR hK hpl hok2 hlok g1 k1 ga gd gr kb hsc
    go_wp2_with fail
    refine HLf.o.mono ?_
    rintro e w3 ⟨B3,rfl,hb3,hs3⟩
    have Hb3:=Aa (Hb2.o.trans (hb3.mono Hb2.o.size))
    have HO3:=Aa (HOu.o _ w3 B3 hs3)
    clear hb3 hs3
    go_wp2_with fail
    refine HO3.o.mono ?_
    rintro e w4 ⟨rfl,hb4⟩
    have Hb4:=Aa (Hb3.o.trans (hb4.mono Hb3.o.size))
    clear hb4
    go_wp2_with fail
    refine bodyPost_ret (v:=.tuple #[.string ⟨(Bc (Cz S 12 a vv).1).toArray⟩,.bool true]) (by simp[results,results15,go_sem]) rfl ?_
    exact⟨by rw[HL.o];rfl,Hb4.o⟩
theorem Qa9(s1 d1 s2 d2 x:List UInt8)(w:World)(h1:s1.length<=4000000)(h2:d1.length<=4000000)(h3:s2.length<=4000000)(h4:d2.length<=4000000)(h5:x.length<=4000000):
  Calls prog 6 #[.string ⟨s1.toArray⟩,.string ⟨d1.toArray⟩,.string ⟨s2.toArray⟩,.string ⟨d2.toArray⟩,.string ⟨x.toArray⟩] w (Yl (Fj (Bn s1 d1) (Bn s2 d2) x) w):=by
 have H:=Aa (fun W=>Qdg s1 d1 s2 d2 x W h1 h2 h3 h4 h5)
 generalize Fj (Bn s1 d1) (Bn s2 d2) x=o at *
 go_enter func6,ntmps6
 go_wp2_with fail
 refine(H.o _).mono ?_
 rintro e w1 ⟨rfl,hb1⟩
 have Hb1:=Aa hb1
 clear hb1
 go_wp2_with fail
 refine bodyPost_ret (v:=.tuple #[.string ⟨(Qhf o).toArray⟩,.bool o.isSome]) (by simp[results,results6,go_sem]) rfl ?_
 exact⟨rfl,Hb1.o⟩
def Pm(o:Option (Vl × Bool))(x:List UInt8)(w:World)(e:Ending)(w':World):Prop:=e=.returned (.tuple #[.bool (match o with|some r=>Bc r.1 != x|none=>false),.bool o.isSome])/\Below w.heap.size w w'
theorem Qaj(s1 d1 s2 d2 x:List UInt8)(w:World)(h1:s1.length<=4000000)(h2:d1.length<=4000000)(h3:s2.length<=4000000)(h4:d2.length<=4000000)(h5:x.length<=4000000):
  Calls prog 8 #[.string ⟨s1.toArray⟩,.string ⟨d1.toArray⟩,.string ⟨s2.toArray⟩,.string ⟨d2.toArray⟩,.string ⟨x.toArray⟩] w (Pm (Fj (Bn s1 d1) (Bn s2 d2) x) x w):=by
 have H:=Aa (fun W=>Qdg s1 d1 s2 d2 x W h1 h2 h3 h4 h5)
 generalize Fj (Bn s1 d1) (Bn s2 d2) x=o at *
 go_enter func8,ntmps8
 go_wp2_with fail
 refine(H.o _).mono ?_
 rintro e w1 ⟨rfl,hb1⟩
 have Hb1:=Aa hb1
 clear hb1
 cases o with
 |none=>
  simp only[Option.isSome_none]
  go_wp2_with fail
  refine bodyPost_ret (v:=.tuple #[.bool false,.bool false]) (by simp[results,results8,go_sem]) rfl ?_
  exact⟨rfl,Hb1.o⟩
 |some r=>
  simp only[Option.isSome_some,Qhf]
  obtain⟨t,ht⟩:∃t,Bc r.1=t:=⟨_,rfl⟩
  have Ht:=Aa ht
  rw[ht]
  clear ht
  go_wp2_with fail
  refine bodyPost_ret (v:=.tuple #[.bool (t != x),.bool true]) (by simp[results,results8,go_sem,bne]) rfl ?_
  exact⟨by simp only[Ht.o];rfl,Hb1.o⟩
end
end Go.Proofs.YtkgkoicedddkmaaGreatDoor
