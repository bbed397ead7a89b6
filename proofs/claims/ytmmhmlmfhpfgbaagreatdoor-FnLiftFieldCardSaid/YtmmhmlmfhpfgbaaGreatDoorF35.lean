/- Texts joined. Conditions: as each theorem names them. -/
import Derived.Test.YtmmhmlmfhpfgbaaGreatDoorF34
set_option maxRecDepth 100000
set_option maxHeartbeats 32000000
set_option linter.unusedVariables false
set_option linter.unusedSimpArgs false
namespace Go.Proofs.YtmmhmlmfhpfgbaaGreatDoor
open Go.RowKit Go.Proofs.Tryz
theorem Zm{p:List UInt8}:∀{l:List (List UInt8)},p∈l->p.length+1<=Dh l
 |x::xs,h=>by
  rw[D7];rcases aA.1 h with rfl|h
  ·omega
  have:=Zm h;omega
theorem Qk5{ks:List Vl}{x:Vl}(h:x∈ks):(Az x).length<=(Az (.mk 91 [] 0 ks)).length:=by
 rw[Mq];have:=Zm (ap (f:=Az) h);simp[H4,Bw];omega
theorem Qk9{ps:List (Fd × Vl)}{p:Fd × Vl}(h:p∈ps):(Az p.2).length<=(Az (.mk 82 [] 0 (ps.map Dk))).length:=by
 rw[Mq];have:=Zm (ap (f:=Az) (ap (f:=Dk) h));rw[Ja]at this;simp[H4,Bw]at this ⊢;omega
theorem Sp{S T:List Ty}{R:Cn->Cn->Prop}(hR:Zs S T R)(xs:List (Ty × Value))(xv:Value)(hty:Ad xs=S)(hok:G7 S){a:Kd}{bn:Cn}(ha:Ck a)(hsg:a.signs=[])(hb:a.base=[64])(hr:R a.name bn){u:Ty}(hu:Bk T bn=some u)(w:World)(hsc:Gb w xv xs):
  ∃(t:Ty) (A9:Option Addr) (c9:Nat),Bk S a.name=some t/\t.sort=u.sort/\(∀g∈u.fields,Nv S T R t u.sort g)/\Ax a=64::(a.name++[59])/\(a.name++[59]).length<=100/\Dq w (.slice A9 t.fields.length c9) t.fields/\(∀f∈t.fields,Tj t.sort f)/\t∈S /\
   ∀W,Below w w W->Calls prog 101 #[xv,.string ⟨(64::(a.name++[59]):List UInt8).toArray⟩] W fun e w'=>e=.returned (.tuple #[.agg #[.int .u8 (t.sort.toNat:Int),t.name,.slice A9 t.fields.length c9],.bool true])/\Below W W w':=by
 obtain⟨t,u',htS,htT,hsu,hfr⟩:=hR _ _ hr;rw[hu]at htT;injection htT with htT;subst htT;have e:Ax a=64::(a.name++[59]):=by unfold Ax Bu;rw[hsg,if_pos hb];rfl
 have hx:∃tv,Dy xs a.name=some (t,tv):=by
  rw[<-hty,G6]at htS;cases hx:Dy xs a.name with
  |none=>rw[hx]at htS;cases htS
  |some y=>rw[hx]at htS;injection htS with htS;exact⟨y.2,by rw[<-htS]⟩
 obtain⟨tv,hx⟩:=hx;obtain⟨hm,_,hft2⟩:=Cp hx;have hfs:Dq w tv t.fields:=by obtain⟨_,_,_,_,_,hq⟩:=hsc;exact hq _ hm
 obtain⟨A9,c9,rfl,hl9,hrow⟩:=hfs;have htm:t∈S:=by rw[<-hty];exact(Cf hft2).1
 refine⟨t,A9,c9,htS,hsu,hfr,e,by have:=ha.2.2;rw[e]at this;simp at this ⊢;omega,⟨A9,c9,rfl,hl9,hrow⟩,(hok.1.1 t htm).2.2.1.1,htm,fun W hW=>?_⟩;have h:=Ey xv xs a W (hsc.below hW) ha;rw[show Jq xs a=some (t,.slice A9 t.fields.length c9)from by unfold Jq;rw[if_pos ⟨hsg,hb⟩];exact hx,e]at h;exact h
theorem Qhs{S T:List Ty}{R:Cn->Cn->Prop}(hR:Zs S T R)(hT:∀t∈T,Fi t)(xs:List (Ty × Value))(xv:Value)(hty:Ad xs=S)(hok:G7 S):∀(d:Nat) (a b:Kd) (v:Vl),Q8 R a b->Ha T d b v->Ck a->(Az v).length<=1000000->∀(P:Nat->Prop) (bv:Nat) (w:World),Gb w xv xs->Fl P w bv (Cd T b v) ->
  Calls prog 117 #[bv,xv,.string ⟨(Ax a).toArray⟩] w (Vz (Cd S a (Dc S d a v).1) w):=by
 intro d;induction d with
 |zero=>intro a b v _ h;cases h
 |succ d ih=>
  intro a b v hk hv ha hl P bv w hsc hw;have hxv:xv.oneCell'=true:=by obtain⟨A,c,rfl,_⟩:=hsc;rfl
  have hkl:(Ax a).length<=100:=by have:=ha.2.2;omega
  obtain⟨k1,k2,k3⟩:=hk;have plain:∀(c0:UInt8) (text:List UInt8),c0≠64->Ax a=[c0]->Fl P w bv (.mk (Ax b) text [] [])->Calls prog 117 #[bv,xv,.string ⟨(Ax a).toArray⟩] w (Vz (.mk (Ax a) text [] []) w):=by
   intro c0 text h64 e hs;rw[e];exact Qcm P bv xv hxv w c0 [] aK h64 _ text [] [] [] rfl aK hs (fun i hi=>absurd hi aK)
  cases hv with
  |@n _ _ m hs hb h=>
   rw[Dg,if_neg bN,if_pos dI,Yk];rw[Yk]at hw;exact plain 110 _ aJ dF hw
  |@t _ _ s hs hb h=>
   rw[Dg,if_neg bN,if_pos dI,Tt];rw[Tt]at hw;exact plain 116 _ aJ dF hw
  |@f _ _ x hs hb=>
   rw[Dg,if_neg bN,if_pos dI,Tz];rw[Tz]at hw;exact plain 102 _ aJ dF hw
  |@lst _ _ r ks hs hl2 h=>
   have e:Ax a=91::Ax a.part:=ej;rw[Dg,if_pos bN,Qn];rw[Qn]at hw;rw[e]at hkl ⊢;refine Qcm P bv xv hxv w 91 (Ax a.part) dB aJ _ [] [] (ks.map (Cd T b.part)) _ aK aM hw fun i hi hj W bx hW hs2=>?_;have hi2:i<ks.length:=eZ;rw[List.getElem_map]at hs2;rw[List.getElem_map,List.getElem_map];exact ih a.part b.part _ (Ko ⟨k1,k2,k3⟩) (h _ (ae hi2)) (Js ha).1 (ad (Qk5 (ae hi2)) hl) P bx W (hsc.below hW) hs2
  |@non _ _ r hs=>
   have e:Ax a=63::Ax a.part:=ej;rw[Dg,if_pos bN,Kq];rw[Kq]at hw;rw[e]at hkl ⊢;exact Qcm P bv xv hxv w 63 (Ax a.part) dB aJ _ [] [] [] _ aK aK hw fun i hi=>absurd hi aK
  |@som _ _ r x hs h=>
   have e:Ax a=63::Ax a.part:=ej;rw[Dg,if_pos bN,Kq];rw[Kq]at hw;rw[e]at hkl ⊢;refine Qcm P bv xv hxv w 63 (Ax a.part) dB aJ _ [] [] [Cd T b.part x] _ aK aK hw fun i hi hj W bx hW hs2=>?_;have hi0:i=0:=gD;subst hi0;simp only[List.getElem_cons_zero,ay]at hs2 ⊢;exact ih a.part b.part x (Ko ⟨k1,k2,k3⟩) h (Js ha).1 dP P bx W (hsc.below hW) hs2
  |@enm _ _ u f hs hb ht h9 hf=>
   obtain⟨t,A9,c9,htS,hsu,hfr,e,hel,hfs,hfd,htm,hrf⟩:=Sp hR xs xv hty hok ha (k1.trans hs) (k2.trans hb) (k3 (k2.trans hb)) ht w hsc;rw[Dg,if_neg bN,if_neg dZ,htS];simp only;rw[if_neg aJ,if_neg aJ,Qq];rw[Qq]at hw;have hrel:=hfr f (At hf).2;unfold Nv at hrel;cases hft:Au t.fields f.tag with
   |none=>rw[hft]at hrel;simp only at hrel;rw[h9]at hrel;exact absurd hrel aJ
   |some f'=>
    have hf2:=hfd f' (At hft).2;have etag:f'.tag=f.tag:=(At hft).1;have hres:=Qez P bv xv hxv w (a.name++[59]) hel (t.sort.toNat:Int) t.name A9 c9 t.fields hfs true S (Ax b) [69] [f.tag] [] fz hw hrf
     [some (f'.tag,none)] rfl (fun i hi hj=>by
      have hi0:i=0:=gD;subst hi0;have hkf:(Ax f'.kind).length<=100:=by rw[(hf2.2.2.2.1 (hsu.trans h9)).1];decide
      exact .inr ⟨f',hft,hf2.2.1,hkf,.inl ⟨by simp,rfl⟩⟩)
    rw[<-e]at hres;simpa [etag]using hres
  |@uni _ _ u f x hs hb ht h5 hf h=>
   obtain⟨t,A9,c9,htS,hsu,hfr,e,hel,hfs,hfd,htm,hrf⟩:=Sp hR xs xv hty hok ha (k1.trans hs) (k2.trans hb) (k3 (k2.trans hb)) ht w hsc;rw[Dg,if_neg bN,if_neg dZ,htS];simp only;rw[if_pos Ac];rw[Pf,Ez ht hf]at hw;have hrel:=hfr f (At hf).2;unfold Nv at hrel;cases hft:Au t.fields f.tag with
   |none=>rw[hft]at hrel;simp only at hrel;rw[h5]at hrel;exact absurd hrel aJ
   |some f'=>
    rw[hft]at hrel;simp only at hrel;rw[h5]at hrel;have hkr:Q8 R f'.kind f.kind:=gZ;have hf2:=hfd f' (At hft).2;have hst:t.sort≠69:=by rw[hsu,h5];decide
    have hk':=(hf2.2.2.2.2 hst).1;have etag:f'.tag=f.tag:=(At hft).1;have hres:=Qez P bv xv hxv w (a.name++[59]) hel (t.sort.toNat:Int) t.name A9 c9 t.fields hfs true S (Ax b) [85] [f.tag] [Cd T f.kind x] fz hw hrf
     [some (f'.tag,some (Cd S f'.kind (Dc S d f'.kind x).1))] rfl (fun i hi hj=>by
      have hi0:i=0:=gD;subst hi0;exact .inr ⟨f',hft,hf2.2.1,by have:=hk'.2.2;omega,.inr ⟨by simp,Cd S f'.kind (Dc S d f'.kind x).1,fun W bx hW hs2=>ih f'.kind f.kind x hkr h hk' dP P bx W (hsc.below hW) hs2,.inl ⟨by decide,rfl⟩⟩⟩)
    rw[<-e]at hres;simp only[ay,List.map_nil];rw[Pf,show Se S a f.tag=f'.kind from by rw[<-etag];exact Ez htS (by rw[etag];exact hft)];simpa [etag]using hres
  |@rcd _ _ u ps hs hb ht h2 hf h hn hp=>
   obtain⟨t,A9,c9,htS,hsu,hfr,e,hel,hfs,hfd,htm,hrf⟩:=Sp hR xs xv hty hok ha (k1.trans hs) (k2.trans hb) (k3 (k2.trans hb)) ht w hsc;rw[Dg,if_neg bN,if_neg dZ,htS];simp only;rw[if_neg aJ,if_pos Ac,Vd];have hst:t.sort≠69:=by rw[hsu,h2];decide
   rw[Qs]at hw;rw[show (ps.map fun p=>Cd T (Se T b p.1.tag) p.2)=ps.map fun p=>Cd T p.1.kind p.2 from List.map_congr_left fun p hp'=>by rw[Ez ht (hf p hp')]]at hw;have hres:=Qez P bv xv hxv w (a.name++[59]) hel (t.sort.toNat:Int) t.name A9 c9 t.fields hfs true S (Ax b) [82] (ps.map fun p=>p.1.tag) (ps.map fun p=>Cd T p.1.kind p.2)
    (by
     intro g hg;obtain⟨p,hp',rfl⟩:=ax.1 hg;have:=(K0 hT ht cW (At (hf p hp')).2).2;omega) hw hrf
    (ps.map fun p=>(Md S (Dc S d) t.fields p).map fun q=>(q.1.tag,some (Cd S q.1.kind q.2))) aK (fun i hi hj=>by
     have hi2:i<ps.length:=eZ;have hm:=ae hi2;rw[List.getElem_map,List.getElem_map];generalize hpi:ps[i]=p at *;have hrel:=hfr p.1 (At (hf p hm)).2;unfold Nv at hrel;cases hft:Au t.fields p.1.tag with
     |none=>exact .inl ⟨hft,by simp[Md,hft]⟩
     |some f'=>
      rw[hft]at hrel;simp only at hrel;rw[h2]at hrel;have hkr:Q8 R f'.kind p.1.kind:=gZ;have hf2:=hfd f' (At hft).2;have hk':=(hf2.2.2.2.2 hst).1;have hpl:(Az p.2).length<=1000000:=ad (Qk9 hm) hl;obtain⟨hok2,hlok⟩:=Te hR d f'.kind p.1.kind p.2 hkr (h p hm);refine .inr ⟨f',hft,hf2.2.1,by have:=hk'.2.2;omega,.inr ⟨by simpa using hi2,Cd S f'.kind (Dc S d f'.kind p.2).1,fun W bx hW hs2=>?_,.inr ⟨rfl,Az (Dc S d f'.kind p.2).1,fun Q W b' hs2=>?_,fun W hW=>?_,?_⟩⟩⟩
      ·rw[List.getElem_map,hpi]at hs2;exact ih f'.kind p.1.kind p.2 hkr (h p hm) hk' hpl P bx W (hsc.below hW) hs2
      ·exact Zn hok.1.1 Q d f'.kind _ hok2 hk' b' W hs2 (ad hlok.le hpl)
      ·have:=Mr xv xs (by rw[hty];exact hok) f' W (hsc.below hW) hk' (by rw[hty];exact hok.2.1 t htm hst f' (At hft).2) (ad (Fq hf2) aJ);rw[hty]at this;exact this
      by_cases hq:Az (Dc S d f'.kind p.2).1=G9 S f'
      ·exact .inl ⟨hq,by simp[Md,hft,hq]⟩
      exact .inr ⟨hq,by simp[Md,hft,hq]⟩)
   rw[<-e]at hres;rw[Qs];have e1:∀qs:List (Fd × Vl),((qs.map fun p=>(Md S (Dc S d) t.fields p).map fun q=>(q.1.tag,some (Cd S q.1.kind q.2))).filterMap id)=(qs.filterMap (Md S (Dc S d) t.fields)).map fun q=>(q.1.tag,some (Cd S q.1.kind q.2)):=by
    intro qs;induction qs with
    |nil=>rfl
    |cons p qs ihp=>
     simp only[ay,List.filterMap_cons,id];cases Md S (Dc S d) t.fields p<;>simp[ihp]
   rw[e1]at hres
   rw[show ((ps.filterMap (Md S (Dc S d) t.fields)).map fun p=>Cd S (Se S a p.1.tag) p.2)=(ps.filterMap (Md S (Dc S d) t.fields)).map fun p=>Cd S p.1.kind p.2 from List.map_congr_left fun q hq=>by
    obtain⟨p,_,hpq⟩:=List.mem_filterMap.1 hq;rw[Ez htS (Kb hpq).1]]
   simpa [List.map_map,List.filterMap_map,Function.comp_def]using hres
section
attribute [local go_sem] Qoe Qnf Qmu Qk2 ByteArray.mk_append_mk
theorem Qkj(w0:World)(v1 v2:Value)(xs ys:List (Ty × Value))(hx:Gb w0 v1 xs)(hy:Gb w0 v2 ys)(hS:G7 (Ad xs))(hT:G7 (Ad ys)):∀(n:Nat) (a b:Kd) (m:List C9) (w:World) (mv:Value),
  Ck a->Ck b->B6 (Ad xs) a->B6 (Ad ys) b->Kt (Ad xs) (Ad ys) m->64<n+m.length->Gp w0 v1 v2 w m mv ->
   Calls prog 170 #[w0.heap.size,.string ⟨(Ax a).toArray⟩,.string ⟨(Ax b).toArray⟩] w (Z7 w0 v1 v2 (J2 (Ad xs) (Ad ys) n a b m) w mv):=by
 have h8:(Ad xs).length*(Ad ys).length<=64:=by
  exact lM
 intro n;induction n with
 |zero=>
  intro a b m w mv _ _ _ _ hm hn _;have:=hm.len;omega
 |succ n ih=>
  intro a b m w mv ha hb hra hrb hm hn hst;have hml:m.length<=64:=ad hm.len h8;refine Qfs w0 v1 v2 xs ys hx hy n a b m w mv ha hb hra hrb hml hst (fun t fv u gv W mv' htm hum hW h1 h2 hnin=>?_);have hm2:Kt (Ad xs) (Ad ys) (m++[(a.name,b.name)]):=hm.snoc (Gi.1 (by rw[h1];rfl)) (Gi.1 (by rw[h2];rfl)) hnin;exact Qgj w0 v1 v2 xs ys hx hy hS hT n t u fv gv htm hum (fun a' b' m' W' mv'' h1 h2 h3 h4 h5 h6 h7=>ih a' b' m' W' mv'' h1 h2 h3 h4 h5 h6 h7) _ hm2 aM W mv' hW
def Qmw(o1 o2:Option (List Ty × Kd))(w:World)(e:Ending)(w':World):Prop:=
 ∃v1 v2,e=.returned (.tuple #[v1,v2,.bool (Ge o1 o2)])/\Below w w w'/\(∃A n c,v1=.slice A n c)/\(∃A n c,v2=.slice A n c) /\
  (match o1,o2 with
  |some x,some y=>∃xs ys,Ad xs=x.1/\Ad ys=y.1/\Gb w' v1 xs/\Gb w' v2 ys
  |_,_=>True)
theorem Qf6(s1 d1 s2 d2:List UInt8)(w:World)(h1:s1.length<=4000000)(h2:d1.length<=4000000)(h3:s2.length<=4000000)(h4:d2.length<=4000000):
  Calls prog 116 #[s1,d1,s2,d2] w (Qmw (Bm s1 d1) (Bm s2 d2) w):=by
 have Hk1:=Aa (fun W=>Pe s1 d1 W h1 h2);have Hk2:=Aa (fun W=>Pe s2 d2 W h3 h4);have Hg1:=Aa (fun S k (h:Bm s1 d1=some (S,k))=>Dd h);have Hg2:=Aa (fun S k (h:Bm s2 d2=some (S,k))=>Dd h);generalize Bm s1 d1=o1 at *;generalize Bm s2 d2=o2 at *;go_enter func116,ntmps116;go_wp2_with fail;refine(Hk1.o _).mono ?_;rintro e w1 ⟨hc1,hb1⟩;have Hb1:=Aa hb1;clear hb1;cases o1 with
 |none=>
  obtain⟨A,n,c,rfl⟩:=hc1;go_wp2_with fail;refine(Hk2.o _).mono ?_;rintro e w2 ⟨hc2,hb2⟩;have Hb2:=Aa (Hb1.o.trans (hb2.mono Hb1.o.size));clear hb2;cases o2 with
  |none=>
   obtain⟨A2,n2,c2,rfl⟩:=hc2;go_wp2_with fail;refine aF (v:=.tuple #[.slice none 0 0,.slice none 0 0,.bool false]) (by simp[results,results116,go_sem]) rfl ?_;exact lN
  |some y=>
   obtain⟨v,ys,rfl,hys,hsc⟩:=hc2;clear hsc;go_wp2_with fail;refine aF (v:=.tuple #[.slice none 0 0,.slice none 0 0,.bool false]) (by simp[results,results116,go_sem]) rfl ?_;exact lN
 |some x=>
  obtain⟨S,k⟩:=x;obtain⟨v,xs,rfl,hxs,hsc⟩:=hc1;simp only at hxs;have Hxs:=Aa hxs;have Hsc:=Aa hsc;clear hsc hxs;go_wp2_with fail;refine(Hk2.o _).mono ?_;rintro e w2 ⟨hc2,hb2⟩;have Hsc2:=Aa (Hsc.o.below hb2);have Hb2:=Aa (Hb1.o.trans (hb2.mono Hb1.o.size));clear hb2;cases o2 with
  |none=>
   obtain⟨A2,n2,c2,rfl⟩:=hc2;go_wp2_with fail;refine aF (v:=.tuple #[.slice none 0 0,.slice none 0 0,.bool false]) (by simp[results,results116,go_sem]) rfl ?_;exact lN
  |some y=>
   obtain⟨T,k2⟩:=y;obtain⟨v2,ys,rfl,hys,hsc2⟩:=hc2;simp only at hys;have Hys:=Aa hys;have Hscy:=Aa hsc2;clear hsc2 hys;obtain⟨A1,c1,rfl,_⟩:=Hsc2.o;obtain⟨A2,c2,rfl,_⟩:=Hscy.o;obtain⟨hS,_,_,hk1,hd1,hr1⟩:=Hg1.o _ _ rfl;obtain⟨hT,_,_,hk2,hd2,hr2⟩:=Hg2.o _ _ rfl;have hfs:=Hxs.o;have hft:=Hys.o;subst hfs hft hd1 hd2;have Hask:=Aa (fun W (h:Gp w2 (.slice A1 xs.length c1) (.slice A2 ys.length c2) W [] (.slice none 0 0))=>Qkj w2 _ _ xs ys Hsc2.o Hscy.o hS hT 65 k k2 [] W _ hk1 hk2 hr1 hr2 (Kt.nil _ _) aK h);have Hev:Hid (Ge (some (Ad xs,k)) (some (Ad ys,k2))=(J2 (Ad xs) (Ad ys) 65 k k2 []).1):=rfl;generalize J2 (Ad xs) (Ad ys) 65 k k2 []=r at *;clear hS hT hk1 hk2 hr1 hr2;go_wp2_with fail;refine(Hask.o _ ?_).mono ?_
   ·refine⟨(Ao _ _).alloc (An _) _,by simp,by simp,by simp,by simp,?_,World.ownsRow_nil _ _ _ _⟩;exact Bz w2 [.slice A1 xs.length c1,.slice A2 ys.length c2,.slice none 0 0] _
   rintro e w3 ⟨rfl,mv,hst,_⟩;have Hb3:=Aa hst.1;clear hst;go_wp2_with fail;refine aF (v:=.tuple #[.slice A1 xs.length c1,.slice A2 ys.length c2,.bool r.1]) (by simp[results,results116,go_sem]) rfl ?_;exact⟨_,_,by rw[Hev.o],Hb2.o.trans (Hb3.o.mono Hb2.o.size),⟨_,_,_,rfl⟩,⟨_,_,_,rfl⟩,⟨xs,ys,rfl,rfl,Hsc2.o.below Hb3.o,Hscy.o.below Hb3.o⟩⟩
def Jw(o1 o2:Option (List Ty × Kd))(x:List UInt8):Option (Vl × Bool):=match o1,o2 with
 |some (S,a),some (T,b)=>if Jk S T a b=true then(Gs T b x).map (Dc S 12 a)else none
 |_,_=>none
def Qma:Option (Vl × Bool)->List UInt8
 |some r=>Az r.1
 |none=>[]
theorem Qfn{o1 o2:Option (List Ty × Kd)}{x:List UInt8}{S T:List Ty}{a b:Kd}{v:Vl}(h1:o1=some (S,a))(h2:o2=some (T,b))(hr:Ge o1 o2=true)(hv:Gs T b x=some v):Jw o1 o2 x=some (Dc S 12 a v):=by
 subst h1 h2;show (if Jk S T a b=true then(Gs T b x).map (Dc S 12 a)else none)=_;rw[if_pos (show Jk S T a b=true from hr),hv];rfl
theorem Qd0{o1 o2:Option (List Ty × Kd)}{x:List UInt8}(h:Ge o1 o2=false):Jw o1 o2 x=none:=by
 cases o1 with
 |none=>rfl
 |some y1=>
  cases o2 with
  |none=>rfl
  |some y2=>
   obtain⟨S,a⟩:=y1;obtain⟨T,b⟩:=y2;show (if Jk S T a b=true then(Gs T b x).map (Dc S 12 a)else none)=none;rw[if_neg (by intro e;rw[show Ge (some (S,a)) (some (T,b))=Jk S T a b from rfl,e]at h;cases h)]
theorem Qhm{o1 o2:Option (List Ty × Kd)}{x:List UInt8}(h:∀y,o2=some y->Gs y.1 y.2 x=none):Jw o1 o2 x=none:=by
 unfold Jw;split
 ·rename_i S a T b;rw[h _ rfl];simp
 rfl
def Qbr(o:Option (Vl × Bool))(w:World)(e:Ending)(w':World):Prop:=e=.returned (.tuple #[.string ⟨(Qma o).toArray⟩,.bool o.isSome])/\Below w w w'
theorem Qlr(s1 d1 s2 d2 x:List UInt8)(w:World)(h1:s1.length<=4000000)(h2:d1.length<=4000000)(h3:s2.length<=4000000)(h4:d2.length<=4000000)(h5:x.length<=4000000):
  Calls prog 54 #[s1,d1,s2,d2,x] w (Qbr (Jw (Bm s1 d1) (Bm s2 d2) x) w):=by
 have H1:=Aa (fun W=>Qf6 s1 d1 s2 d2 W h1 h2 h3 h4);have H2:=Aa (fun W=>Qnu s2 d2 x W h3 h4 h5);have G1:=Aa (fun S k (h:Bm s1 d1=some (S,k))=>Dd h);have G2:=Aa (fun S k (h:Bm s2 d2=some (S,k))=>Dd h);obtain⟨o1,ho1⟩:∃o1,Bm s1 d1=o1:=⟨_,rfl⟩
 rw[ho1]at H1 G1 ⊢;obtain⟨o2,ho2⟩:∃o2,Bm s2 d2=o2:=⟨_,rfl⟩
 have Ho2:=Aa ho2;rw[ho2]at H1 G2 ⊢;clear ho1 ho2;go_enter func54,ntmps54;go_wp2_with fail;refine(H1.o _).mono ?_;rintro e w1 ⟨v1,v2,rfl,hb1,⟨A1,n1,c1,rfl⟩,⟨A2,n2,c2,rfl⟩,hm1⟩;have Hm1:=Aa hm1;have Hb1:=Aa hb1;clear hm1 hb1;go_wp2_with fail;refine(H2.o _).mono ?_;rintro e w2 ⟨hb2,hm2⟩;rw[Ho2.o]at hm2;obtain⟨v,q,ok2,rfl,hn,hy⟩:∃v q ok2,e=.returned (.tuple #[v,.pointer q,.bool ok2])/\(ok2=false->∀y,o2=some y->Gs y.1 y.2 x=none)/\(ok2=true->∃S k vv b,o2=some (S,k)/\Gs S k x=some vv/\q=some ⟨b,0,none⟩/\Fl (fun c=>w1.heap.size<=c) w2 b (Cd S k vv)):=by
  cases o2 with
  |none=>obtain⟨v,q,rfl⟩:=hm2;exact⟨v,q,false,rfl,fun _ y h=>(by cases h),fun h=>Bool.noConfusion h⟩
  |some y=>
   obtain⟨S,k⟩:=y;simp only at hm2;cases hv:Gs S k x with
   |none=>rw[hv]at hm2;obtain⟨v,q,rfl⟩:=hm2;exact⟨v,q,false,rfl,fun _ y h=>(by injection h with h;subst h;exact hv),fun h=>Bool.noConfusion h⟩
   |some vv=>
    rw[hv]at hm2;obtain⟨xv,xs,b,rfl,_,_,hs⟩:=hm2;exact⟨xv,some ⟨b,0,none⟩,true,rfl,fun h=>Bool.noConfusion h,fun _=>⟨S,k,vv,b,rfl,hv,rfl,hs⟩⟩
 have Hb2:=Aa (Hb1.o.trans (hb2.mono Hb1.o.size));have Hb12:=Aa hb2;have Hn:=Aa hn;have Hy:=Aa hy;clear hm2 hb2 hn hy;cases hev:Ge o1 o2 with
 |false=>
  have HN:=Aa (Qd0 (x:=x) hev);clear hev;go_wp2_with fail;refine aF (v:=.tuple #[a6,.bool false]) (by simp[results,results54,go_sem]) rfl ?_;exact⟨by rw[HN.o];rfl,Hb2.o⟩
 |true=>
  cases ok2 with
  |false=>
   have HN:=Aa (Qhm (o1:=o1) (Hn.o rfl));clear hev;go_wp2_with fail;refine aF (v:=.tuple #[a6,.bool false]) (by simp[results,results54,go_sem]) rfl ?_;exact⟨by rw[HN.o];rfl,Hb2.o⟩
  |true=>
   obtain⟨T,b,vv,bv,rfl,hv,rfl,hs⟩:=Hy.o rfl;cases o1 with
   |none=>exact absurd hev (by simp[Ge])
   |some y1=>
    obtain⟨S,a⟩:=y1;obtain⟨xs,ys,hxs,_,hsc,_⟩:=Hm1.o;simp only at hxs;obtain⟨g1,_,_,ga,gd,gr⟩:=G1.o S a rfl;obtain⟨k1,_,_,kb,_,_⟩:=G2.o T b rfl;obtain⟨hvok,hpx,hx4⟩:=(Gk k1.1.1 kb).1 hv;obtain⟨R,hR,hK⟩:=Pk g1.1.2.1 k1.1.2.1 (show Jk S T a b=true from hev);have HL:=Aa (Qfn (x:=x) rfl rfl hev hv);have hpl:(Az vv).length<=1000000:=by rw[hpx];omega
    obtain⟨hok2,hlok⟩:=Te hR 12 a b vv hK hvok;have HLf:=Aa (gd ▸ Qhs hR k1.1.1 xs (.slice A1 n1 c1) hxs g1 12 a b vv hK hvok ga hpl _ bv w2 (hsc.below Hb12.o) hs);have HOu:=Aa (fun(Q:Nat->Prop) W b' (h:Fl Q W b' (Cd S a (Dc S 12 a vv).1))=>Zn g1.1.1 Q 12 a _ hok2 ga b' W h (ad hlok.le hpl));clear hev hv hs hvok hpx hx4 hR hK hpl hok2 hlok g1 k1 ga gd gr kb hsc;go_wp2_with fail;refine HLf.o.mono ?_;rintro e w3 ⟨B3,rfl,hb3,hs3⟩;have Hb3:=Aa (Hb2.o.trans (hb3.mono Hb2.o.size));have HO3:=Aa (HOu.o _ w3 B3 hs3);clear hb3 hs3;go_wp2_with fail;refine HO3.o.mono ?_;rintro e w4 ⟨rfl,hb4⟩;have Hb4:=Aa (Hb3.o.trans (hb4.mono Hb3.o.size));clear hb4;go_wp2_with fail;refine aF (v:=.tuple #[.string ⟨(Az (Dc S 12 a vv).1).toArray⟩,.bool true]) (by simp[results,results54,go_sem]) rfl ?_;exact⟨by rw[HL.o];rfl,Hb4.o⟩
theorem Qem(s1 d1 s2 d2 x:List UInt8)(w:World)(h1:s1.length<=4000000)(h2:d1.length<=4000000)(h3:s2.length<=4000000)(h4:d2.length<=4000000)(h5:x.length<=4000000):
  Calls prog 17 #[s1,d1,s2,d2,x] w (Qbr (Jw (Bm s1 d1) (Bm s2 d2) x) w):=by
 have H:=Aa (fun W=>Qlr s1 d1 s2 d2 x W h1 h2 h3 h4 h5);generalize Jw (Bm s1 d1) (Bm s2 d2) x=o at *;go_enter func17,ntmps17;go_wp2_with fail;refine(H.o _).mono ?_;rintro e w1 ⟨rfl,hb1⟩;have Hb1:=Aa hb1;clear hb1;go_wp2_with fail;refine aF (v:=.tuple #[.string ⟨(Qma o).toArray⟩,.bool o.isSome]) (by simp[results,results17,go_sem]) rfl ?_;exact⟨rfl,Hb1.o⟩
end
end Go.Proofs.YtmmhmlmfhpfgbaaGreatDoor
