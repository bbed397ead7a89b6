/- Texts joined. Conditions: as each theorem names them. -/
import Derived.Test.YtbdibdghphdcdaaGreatDoorJ33
set_option maxRecDepth 100000
set_option maxHeartbeats 32000000
set_option linter.unusedVariables false
set_option linter.unusedSimpArgs false
namespace Go.Proofs.YtbdibdghphdcdaaGreatDoor
open Go.RowKit Go.Proofs.Tryz
theorem Zw{p:List UInt8}:∀{l:List (List UInt8)},p∈l->p.length+1<=Dq l
 |x::xs,h=>by
  rw[El];rcases aA.1 h with rfl|h
  ·omega
  have:=Zw h;omega
theorem Qmn{ks:List Vl}{x:Vl}(h:x∈ks):(Bc x).length<=(Bc (.mk 91 [] 0 ks)).length:=by
 rw[Np];have:=Zw (ap (f:=Bc) h);simp[Jg,Bz];omega
theorem Qna{ps:List (Fd × Vl)}{p:Fd × Vl}(h:p∈ps):(Bc p.2).length<=(Bc (.mk 82 [] 0 (ps.map Dr))).length:=by
 rw[Np];have:=Zw (ap (f:=Bc) (ap (f:=Dr) h));rw[Jv]at this;simp[Jg,Bz]at this ⊢;omega
theorem Tq{S T:List Ty}{R:Cw->Cw->Prop}(hR:Y6 S T R)(xs:List (Ty × Value))(xv:Value)(hty:Af xs=S)(hok:Gy S){a:Kd}{bn:Cw}(ha:Cq a)(hsg:a.signs=[])(hb:a.base=[64])(hr:R a.name bn){u:Ty}(hu:Bt T bn=some u)(w:World)(hsc:Gl w xv xs):
  ∃(t:Ty) (A9:Option Addr) (c9:Nat),Bt S a.name=some t/\t.sort=u.sort/\(∀g∈u.fields,P6 S T R t u.sort g)/\Be a=64::(a.name++[59])/\(a.name++[59]).length<=100/\Dv w (.slice A9 t.fields.length c9) t.fields/\(∀f∈t.fields,Tu t.sort f)/\t∈S /\
   ∀W,Below w w W->Calls prog 75 #[xv,.string ⟨(64::(a.name++[59]):List UInt8).toArray⟩] W fun e w'=>e=.returned (.tuple #[.agg #[.int .u8 (t.sort.toNat:Int),t.name,.slice A9 t.fields.length c9],.bool true])/\Below W W w':=by
 obtain⟨t,u',htS,htT,hsu,hfr⟩:=hR _ _ hr;rw[hu]at htT;injection htT with htT;subst htT;have e:Be a=64::(a.name++[59]):=by unfold Be B6;rw[hsg,if_pos hb];rfl
 have hx:∃tv,D8 xs a.name=some (t,tv):=by
  rw[<-hty,Jc]at htS;cases hx:D8 xs a.name with
  |none=>rw[hx]at htS;cases htS
  |some y=>rw[hx]at htS;injection htS with htS;exact⟨y.2,by rw[<-htS]⟩
 obtain⟨tv,hx⟩:=hx;obtain⟨hm,_,hft2⟩:=Cu hx;have hfs:Dv w tv t.fields:=by obtain⟨_,_,_,_,_,hq⟩:=hsc;exact hq _ hm
 obtain⟨A9,c9,rfl,hl9,hrow⟩:=hfs;have htm:t∈S:=by rw[<-hty];exact(Cp hft2).1
 refine⟨t,A9,c9,htS,hsu,hfr,e,by have:=ha.2.2;rw[e]at this;simp at this ⊢;omega,⟨A9,c9,rfl,hl9,hrow⟩,(hok.1.1 t htm).2.2.1.1,htm,fun W hW=>?_⟩;have h:=Fb xv xs a W (hsc.below hW) ha;rw[show J6 xs a=some (t,.slice A9 t.fields.length c9)from by unfold J6;rw[if_pos ⟨hsg,hb⟩];exact hx,e]at h;exact h
theorem Qii{S T:List Ty}{R:Cw->Cw->Prop}(hR:Y6 S T R)(hT:∀t∈T,Ft t)(xs:List (Ty × Value))(xv:Value)(hty:Af xs=S)(hok:Gy S):∀(d:Nat) (a b:Kd) (v:Vl),Qz R a b->Jf T d b v->Cq a->(Bc v).length<=1000000->∀(P:Nat->Prop) (bv:Nat) (w:World),Gl w xv xs->Fv P w bv (Ci T b v) ->
  Calls prog 53 #[bv,xv,.string ⟨(Be a).toArray⟩] w (Xh (Ci S a (Dj S d a v).1) w):=by
 intro d;induction d with
 |zero=>intro a b v _ h;cases h
 |succ d ih=>
  intro a b v hk hv ha hl P bv w hsc hw;have hxv:xv.oneCell'=true:=by obtain⟨A,c,rfl,_⟩:=hsc;rfl
  have hkl:(Be a).length<=100:=by have:=ha.2.2;omega
  obtain⟨k1,k2,k3⟩:=hk;have plain:∀(c0:UInt8) (text:List UInt8),c0≠64->Be a=[c0]->Fv P w bv (.mk (Be b) text [] [])->Calls prog 53 #[bv,xv,.string ⟨(Be a).toArray⟩] w (Xh (.mk (Be a) text [] []) w):=by
   intro c0 text h64 e hs;rw[e];exact Qdl P bv xv hxv w c0 [] aK h64 _ text [] [] [] rfl aK hs (fun i hi=>absurd hi aK)
  cases hv with
  |@n _ _ m hs hb h=>
   rw[C7,if_neg bR,if_pos dT,Qac];rw[Qac]at hw;exact plain 110 _ aJ dQ hw
  |@t _ _ s hs hb h=>
   rw[C7,if_neg bR,if_pos dT,Vt];rw[Vt]at hw;exact plain 116 _ aJ dQ hw
  |@f _ _ x hs hb=>
   rw[C7,if_neg bR,if_pos dT,Xf];rw[Xf]at hw;exact plain 102 _ aJ dQ hw
  |@lst _ _ r ks hs hl2 h=>
   have e:Be a=91::Be a.part:=eG;rw[C7,if_pos bR,Rq];rw[Rq]at hw;rw[e]at hkl ⊢;refine Qdl P bv xv hxv w 91 (Be a.part) dM aJ _ [] [] (ks.map (Ci T b.part)) _ aK aM hw fun i hi hj W bx hW hs2=>?_;have hi2:i<ks.length:=fj;rw[List.getElem_map]at hs2;rw[List.getElem_map,List.getElem_map];exact ih a.part b.part _ (Mb ⟨k1,k2,k3⟩) (h _ (ae hi2)) (Kc ha).1 (ad (Qmn (ae hi2)) hl) P bx W (hsc.below hW) hs2
  |@non _ _ r hs=>
   have e:Be a=63::Be a.part:=eG;rw[C7,if_pos bR,Md];rw[Md]at hw;rw[e]at hkl ⊢;exact Qdl P bv xv hxv w 63 (Be a.part) dM aJ _ [] [] [] _ aK aK hw fun i hi=>absurd hi aK
  |@som _ _ r x hs h=>
   have e:Be a=63::Be a.part:=eG;rw[C7,if_pos bR,Md];rw[Md]at hw;rw[e]at hkl ⊢;refine Qdl P bv xv hxv w 63 (Be a.part) dM aJ _ [] [] [Ci T b.part x] _ aK aK hw fun i hi hj W bx hW hs2=>?_;have hi0:i=0:=gS;subst hi0;simp only[List.getElem_cons_zero,ay]at hs2 ⊢;exact ih a.part b.part x (Mb ⟨k1,k2,k3⟩) h (Kc ha).1 ef P bx W (hsc.below hW) hs2
  |@enm _ _ u f hs hb ht h9 hf=>
   obtain⟨t,A9,c9,htS,hsu,hfr,e,hel,hfs,hfd,htm,hrf⟩:=Tq hR xs xv hty hok ha (k1.trans hs) (k2.trans hb) (k3 (k2.trans hb)) ht w hsc;rw[C7,if_neg bR,if_neg ez,htS];simp only;rw[if_neg aJ,if_neg aJ,Re];rw[Re]at hw;have hrel:=hfr f (Ax hf).2;unfold P6 at hrel;cases hft:Av t.fields f.tag with
   |none=>rw[hft]at hrel;simp only at hrel;rw[h9]at hrel;exact absurd hrel aJ
   |some f'=>
    have hf2:=hfd f' (Ax hft).2;have etag:f'.tag=f.tag:=(Ax hft).1;have hres:=Qf1 P bv xv hxv w (a.name++[59]) hel (t.sort.toNat:Int) t.name A9 c9 t.fields hfs true S (Be b) [69] [f.tag] [] fK hw hrf
     [some (f'.tag,none)] rfl (fun i hi hj=>by
      have hi0:i=0:=gS;subst hi0;have hkf:(Be f'.kind).length<=100:=by rw[(hf2.2.2.2.1 (hsu.trans h9)).1];decide
      exact .inr ⟨f',hft,hf2.2.1,hkf,.inl ⟨by simp,rfl⟩⟩)
    rw[<-e]at hres;simpa [etag]using hres
  |@uni _ _ u f x hs hb ht h5 hf h=>
   obtain⟨t,A9,c9,htS,hsu,hfr,e,hel,hfs,hfd,htm,hrf⟩:=Tq hR xs xv hty hok ha (k1.trans hs) (k2.trans hb) (k3 (k2.trans hb)) ht w hsc;rw[C7,if_neg bR,if_neg ez,htS];simp only;rw[if_pos Ac];rw[Py,Fc ht hf]at hw;have hrel:=hfr f (Ax hf).2;unfold P6 at hrel;cases hft:Av t.fields f.tag with
   |none=>rw[hft]at hrel;simp only at hrel;rw[h5]at hrel;exact absurd hrel aJ
   |some f'=>
    rw[hft]at hrel;simp only at hrel;rw[h5]at hrel;have hkr:Qz R f'.kind f.kind:=io;have hf2:=hfd f' (Ax hft).2;have hst:t.sort≠69:=by rw[hsu,h5];decide
    have hk':=(hf2.2.2.2.2 hst).1;have etag:f'.tag=f.tag:=(Ax hft).1;have hres:=Qf1 P bv xv hxv w (a.name++[59]) hel (t.sort.toNat:Int) t.name A9 c9 t.fields hfs true S (Be b) [85] [f.tag] [Ci T f.kind x] fK hw hrf
     [some (f'.tag,some (Ci S f'.kind (Dj S d f'.kind x).1))] rfl (fun i hi hj=>by
      have hi0:i=0:=gS;subst hi0;exact .inr ⟨f',hft,hf2.2.1,by have:=hk'.2.2;omega,.inr ⟨by simp,Ci S f'.kind (Dj S d f'.kind x).1,fun W bx hW hs2=>ih f'.kind f.kind x hkr h hk' ef P bx W (hsc.below hW) hs2,.inl ⟨by decide,rfl⟩⟩⟩)
    rw[<-e]at hres;simp only[ay,List.map_nil];rw[Py,show Su S a f.tag=f'.kind from by rw[<-etag];exact Fc htS (by rw[etag];exact hft)];simpa [etag]using hres
  |@rcd _ _ u ps hs hb ht h2 hf h hn hp=>
   obtain⟨t,A9,c9,htS,hsu,hfr,e,hel,hfs,hfd,htm,hrf⟩:=Tq hR xs xv hty hok ha (k1.trans hs) (k2.trans hb) (k3 (k2.trans hb)) ht w hsc;rw[C7,if_neg bR,if_neg ez,htS];simp only;rw[if_neg aJ,if_pos Ac,Qbq];have hst:t.sort≠69:=by rw[hsu,h2];decide
   rw[Rm]at hw;rw[show (ps.map fun p=>Ci T (Su T b p.1.tag) p.2)=ps.map fun p=>Ci T p.1.kind p.2 from List.map_congr_left fun p hp'=>by rw[Fc ht (hf p hp')]]at hw;have hres:=Qf1 P bv xv hxv w (a.name++[59]) hel (t.sort.toNat:Int) t.name A9 c9 t.fields hfs true S (Be b) [82] (ps.map fun p=>p.1.tag) (ps.map fun p=>Ci T p.1.kind p.2)
    (by
     intro g hg;obtain⟨p,hp',rfl⟩:=ax.1 hg;have:=(Nl hT ht da (Ax (hf p hp')).2).2;omega) hw hrf
    (ps.map fun p=>(P8 S (Dj S d) t.fields p).map fun q=>(q.1.tag,some (Ci S q.1.kind q.2))) aK (fun i hi hj=>by
     have hi2:i<ps.length:=fj;have hm:=ae hi2;rw[List.getElem_map,List.getElem_map];generalize hpi:ps[i]=p at *;have hrel:=hfr p.1 (Ax (hf p hm)).2;unfold P6 at hrel;cases hft:Av t.fields p.1.tag with
     |none=>exact .inl ⟨hft,by simp[P8,hft]⟩
     |some f'=>
      rw[hft]at hrel;simp only at hrel;rw[h2]at hrel;have hkr:Qz R f'.kind p.1.kind:=io;have hf2:=hfd f' (Ax hft).2;have hk':=(hf2.2.2.2.2 hst).1;have hpl:(Bc p.2).length<=1000000:=ad (Qna hm) hl;obtain⟨hok2,hlok⟩:=Sk hR d f'.kind p.1.kind p.2 hkr (h p hm);refine .inr ⟨f',hft,hf2.2.1,by have:=hk'.2.2;omega,.inr ⟨by simpa using hi2,Ci S f'.kind (Dj S d f'.kind p.2).1,fun W bx hW hs2=>?_,.inr ⟨rfl,Bc (Dj S d f'.kind p.2).1,fun Q W b' hs2=>?_,fun W hW=>?_,?_⟩⟩⟩
      ·rw[List.getElem_map,hpi]at hs2;exact ih f'.kind p.1.kind p.2 hkr (h p hm) hk' hpl P bx W (hsc.below hW) hs2
      ·exact Zh hok.1.1 Q d f'.kind _ hok2 hk' b' W hs2 (ad hlok.le hpl)
      ·have:=Nh xv xs (by rw[hty];exact hok) f' W (hsc.below hW) hk' (by rw[hty];exact hok.2.1 t htm hst f' (Ax hft).2) (ad (Jm hf2) aJ);rw[hty]at this;exact this
      by_cases hq:Bc (Dj S d f'.kind p.2).1=J4 S f'
      ·exact .inl ⟨hq,by simp[P8,hft,hq]⟩
      exact .inr ⟨hq,by simp[P8,hft,hq]⟩)
   rw[<-e]at hres;rw[Rm];have e1:∀qs:List (Fd × Vl),((qs.map fun p=>(P8 S (Dj S d) t.fields p).map fun q=>(q.1.tag,some (Ci S q.1.kind q.2))).filterMap id)=(qs.filterMap (P8 S (Dj S d) t.fields)).map fun q=>(q.1.tag,some (Ci S q.1.kind q.2)):=by
    intro qs;induction qs with
    |nil=>rfl
    |cons p qs ihp=>
     simp only[ay,List.filterMap_cons,id];cases P8 S (Dj S d) t.fields p<;>simp[ihp]
   rw[e1]at hres
   rw[show ((ps.filterMap (P8 S (Dj S d) t.fields)).map fun p=>Ci S (Su S a p.1.tag) p.2)=(ps.filterMap (P8 S (Dj S d) t.fields)).map fun p=>Ci S p.1.kind p.2 from List.map_congr_left fun q hq=>by
    obtain⟨p,_,hpq⟩:=List.mem_filterMap.1 hq;rw[Fc htS (M4 hpq).1]]
   simpa [List.map_map,List.filterMap_map,Function.comp_def]using hres
section
attribute [local go_sem] Qo7 Qok Qoa Ql9 ByteArray.mk_append_mk
def Fz(o1 o2:Option (List Ty × Kd))(x:List UInt8):Option (Vl × Bool):=match o1,o2 with
 |some (S,a),some (T,b)=>if H8 S T a b=true then(Gd T b x).map (Dj S 12 a)else none
 |_,_=>none
def Qgk:Option (Vl × Bool)->List UInt8
 |some r=>Bc r.1
 |none=>[]
theorem Z4{o1 o2:Option (List Ty × Kd)}{x:List UInt8}{S T:List Ty}{a b:Kd}{v:Vl}(h1:o1=some (S,a))(h2:o2=some (T,b))(hr:Ef o1 o2=true)(hv:Gd T b x=some v):Fz o1 o2 x=some (Dj S 12 a v):=by
 subst h1 h2;show (if H8 S T a b=true then(Gd T b x).map (Dj S 12 a)else none)=_;rw[if_pos (show H8 S T a b=true from hr),hv];rfl
theorem Qfp{o1 o2:Option (List Ty × Kd)}{x:List UInt8}(h:Ef o1 o2=false):Fz o1 o2 x=none:=by
 cases o1 with
 |none=>rfl
 |some y1=>
  cases o2 with
  |none=>rfl
  |some y2=>
   obtain⟨S,a⟩:=y1;obtain⟨T,b⟩:=y2;show (if H8 S T a b=true then(Gd T b x).map (Dj S 12 a)else none)=none;rw[if_neg (by intro e;rw[show Ef (some (S,a)) (some (T,b))=H8 S T a b from rfl,e]at h;cases h)]
theorem Qik{o1 o2:Option (List Ty × Kd)}{x:List UInt8}(h:∀y,o2=some y->Gd y.1 y.2 x=none):Fz o1 o2 x=none:=by
 unfold Fz;split
 ·rename_i S a T b;rw[h _ rfl];simp
 rfl
def Qdf(o:Option (Vl × Bool))(w:World)(e:Ending)(w':World):Prop:=e=.returned (.tuple #[.string ⟨(Qgk o).toArray⟩,.bool o.isSome])/\Below w w w'
theorem Qm4(s1 d1 s2 d2 x:List UInt8)(w:World)(h1:s1.length<=4000000)(h2:d1.length<=4000000)(h3:s2.length<=4000000)(h4:d2.length<=4000000)(h5:x.length<=4000000):
  Calls prog 28 #[s1,d1,s2,d2,x] w (Qdf (Fz (At s1 d1) (At s2 d2) x) w):=by
 have H1:=Aa (fun W=>Z9 s1 d1 s2 d2 W h1 h2 h3 h4);have H2:=Aa (fun W=>Qnq s2 d2 x W h3 h4 h5);have G1:=Aa (fun S k (h:At s1 d1=some (S,k))=>Cs h);have G2:=Aa (fun S k (h:At s2 d2=some (S,k))=>Cs h);obtain⟨o1,ho1⟩:∃o1,At s1 d1=o1:=⟨_,rfl⟩
 rw[ho1]at H1 G1 ⊢;obtain⟨o2,ho2⟩:∃o2,At s2 d2=o2:=⟨_,rfl⟩
 have Ho2:=Aa ho2;rw[ho2]at H1 G2 ⊢;clear ho1 ho2;go_enter func28,ntmps28;go_wp2_with fail;refine(H1.o _).mono ?_;rintro e w1 ⟨v1,v2,rfl,hb1,⟨A1,n1,c1,rfl⟩,⟨A2,n2,c2,rfl⟩,hm1⟩;have Hm1:=Aa hm1;have Hb1:=Aa hb1;clear hm1 hb1;go_wp2_with fail;refine(H2.o _).mono ?_;rintro e w2 ⟨hb2,hm2⟩;rw[Ho2.o]at hm2;obtain⟨v,q,ok2,rfl,hn,hy⟩:∃v q ok2,e=.returned (.tuple #[v,.pointer q,.bool ok2])/\(ok2=false->∀y,o2=some y->Gd y.1 y.2 x=none)/\(ok2=true->∃S k vv b,o2=some (S,k)/\Gd S k x=some vv/\q=some ⟨b,0,none⟩/\Fv (fun c=>w1.heap.size<=c) w2 b (Ci S k vv)):=by
  cases o2 with
  |none=>obtain⟨v,q,rfl⟩:=hm2;exact⟨v,q,false,rfl,fun _ y h=>(by cases h),fun h=>Bool.noConfusion h⟩
  |some y=>
   obtain⟨S,k⟩:=y;simp only at hm2;cases hv:Gd S k x with
   |none=>rw[hv]at hm2;obtain⟨v,q,rfl⟩:=hm2;exact⟨v,q,false,rfl,fun _ y h=>(by injection h with h;subst h;exact hv),fun h=>Bool.noConfusion h⟩
   |some vv=>
    rw[hv]at hm2;obtain⟨xv,xs,b,rfl,_,_,hs⟩:=hm2;exact⟨xv,some ⟨b,0,none⟩,true,rfl,fun h=>Bool.noConfusion h,fun _=>⟨S,k,vv,b,rfl,hv,rfl,hs⟩⟩
 have Hb2:=Aa (Hb1.o.trans (hb2.mono Hb1.o.size));have Hb12:=Aa hb2;have Hn:=Aa hn;have Hy:=Aa hy;clear hm2 hb2 hn hy;cases hev:Ef o1 o2 with
 |false=>
  have HN:=Aa (Qfp (x:=x) hev);clear hev;go_wp2_with fail;refine aF (v:=.tuple #[a6,.bool false]) (by simp[results,results28,go_sem]) rfl ?_;exact⟨by rw[HN.o];rfl,Hb2.o⟩
 |true=>
  cases ok2 with
  |false=>
   have HN:=Aa (Qik (o1:=o1) (Hn.o rfl));clear hev;go_wp2_with fail;refine aF (v:=.tuple #[a6,.bool false]) (by simp[results,results28,go_sem]) rfl ?_;exact⟨by rw[HN.o];rfl,Hb2.o⟩
  |true=>
   obtain⟨T,b,vv,bv,rfl,hv,rfl,hs⟩:=Hy.o rfl;cases o1 with
   |none=>exact absurd hev (by simp[Ef])
   |some y1=>
    obtain⟨S,a⟩:=y1;obtain⟨xs,ys,hxs,_,hsc,_⟩:=Hm1.o;simp only at hxs;obtain⟨g1,_,_,ga,gd,gr⟩:=G1.o S a rfl;obtain⟨k1,_,_,kb,_,_⟩:=G2.o T b rfl;obtain⟨hvok,hpx,hx4⟩:=(Eb k1.1.1 kb).1 hv;obtain⟨R,hR,hK⟩:=Mt g1.1.2.1 k1.1.2.1 (show H8 S T a b=true from hev);have HL:=Aa (Z4 (x:=x) rfl rfl hev hv);have hpl:(Bc vv).length<=1000000:=by rw[hpx];omega
    obtain⟨hok2,hlok⟩:=Sk hR 12 a b vv hK hvok;have HLf:=Aa (gd ▸ Qii hR k1.1.1 xs (.slice A1 n1 c1) hxs g1 12 a b vv hK hvok ga hpl _ bv w2 (hsc.below Hb12.o) hs);have HOu:=Aa (fun(Q:Nat->Prop) W b' (h:Fv Q W b' (Ci S a (Dj S 12 a vv).1))=>Zh g1.1.1 Q 12 a _ hok2 ga b' W h (ad hlok.le hpl));clear hev hv hs hvok hpx hx4 hR hK hpl hok2 hlok g1 k1 ga gd gr kb hsc;go_wp2_with fail;refine HLf.o.mono ?_;rintro e w3 ⟨B3,rfl,hb3,hs3⟩;have Hb3:=Aa (Hb2.o.trans (hb3.mono Hb2.o.size));have HO3:=Aa (HOu.o _ w3 B3 hs3);clear hb3 hs3;go_wp2_with fail;refine HO3.o.mono ?_;rintro e w4 ⟨rfl,hb4⟩;have Hb4:=Aa (Hb3.o.trans (hb4.mono Hb3.o.size));clear hb4;go_wp2_with fail;refine aF (v:=.tuple #[.string ⟨(Bc (Dj S 12 a vv).1).toArray⟩,.bool true]) (by simp[results,results28,go_sem]) rfl ?_;exact⟨by rw[HL.o];rfl,Hb4.o⟩
theorem Qen(s1 d1 s2 d2 x:List UInt8)(w:World)(h1:s1.length<=4000000)(h2:d1.length<=4000000)(h3:s2.length<=4000000)(h4:d2.length<=4000000)(h5:x.length<=4000000):
  Calls prog 16 #[s1,d1,s2,d2,x] w (Qdf (Fz (At s1 d1) (At s2 d2) x) w):=by
 have H:=Aa (fun W=>Qm4 s1 d1 s2 d2 x W h1 h2 h3 h4 h5);generalize Fz (At s1 d1) (At s2 d2) x=o at *;go_enter func16,ntmps16;go_wp2_with fail;refine(H.o _).mono ?_;rintro e w1 ⟨rfl,hb1⟩;have Hb1:=Aa hb1;clear hb1;go_wp2_with fail;refine aF (v:=.tuple #[.string ⟨(Qgk o).toArray⟩,.bool o.isSome]) (by simp[results,results16,go_sem]) rfl ?_;exact mt
end
end Go.Proofs.YtbdibdghphdcdaaGreatDoor
