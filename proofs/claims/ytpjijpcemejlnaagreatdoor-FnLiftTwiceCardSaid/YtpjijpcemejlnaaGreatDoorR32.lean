/- Texts joined. Conditions: as each theorem names them. -/
import Derived.Test.YtpjijpcemejlnaaGreatDoorR31
set_option maxRecDepth 100000
set_option maxHeartbeats 32000000
set_option linter.unusedVariables false
set_option linter.unusedSimpArgs false
namespace Go.Proofs.YtpjijpcemejlnaaGreatDoor
open Go.RowKit Go.Proofs.Tryz
section
attribute [local go_sem] Qm0 Ql8 Qlz Qj6 ByteArray.mk_append_mk
def En(o1 o2:Option (List Ty × Kd))(x:List UInt8):Option (Vl × Bool):=match o1,o2 with
 |some (S,a),some (T,b)=>if Jq S T a b=true then(Jd T b x).map (Cy S 12 a)else none
 |_,_=>none
def Qac:Option (Vl × Bool)->List UInt8
 |some r=>Ba r.1
 |none=>[]
theorem Ry{o1 o2:Option (List Ty × Kd)}{x:List UInt8}{S T:List Ty}{a b:Kd}{v:Vl}(h1:o1=some (S,a))(h2:o2=some (T,b))(hr:Dt o1 o2=true)(hv:Jd T b x=some v):En o1 o2 x=some (Cy S 12 a v):=by
 subst h1 h2;show (if Jq S T a b=true then(Jd T b x).map (Cy S 12 a)else none)=_;rw[if_pos (show Jq S T a b=true from hr),hv];rfl
theorem Qdt{o1 o2:Option (List Ty × Kd)}{x:List UInt8}(h:Dt o1 o2=false):En o1 o2 x=none:=by
 cases o1 with
 |none=>rfl
 |some y1=>
  cases o2 with
  |none=>rfl
  |some y2=>
   obtain⟨S,a⟩:=y1;obtain⟨T,b⟩:=y2;show (if Jq S T a b=true then(Jd T b x).map (Cy S 12 a)else none)=none;rw[if_neg (by intro e;rw[show Dt (some (S,a)) (some (T,b))=Jq S T a b from rfl,e]at h;cases h)]
theorem Qhr{o1 o2:Option (List Ty × Kd)}{x:List UInt8}(h:∀y,o2=some y->Jd y.1 y.2 x=none):En o1 o2 x=none:=by
 unfold En;split
 ·rename_i S a T b;rw[h _ rfl];simp
 rfl
def Sl(o:Option (Vl × Bool))(w:World)(e:Ending)(w':World):Prop:=e=.returned (.tuple #[.string ⟨(Qac o).toArray⟩,.bool o.isSome])/\Below w w w'
theorem Qfs(s1 d1 s2 d2 x:List UInt8)(w:World)(h1:s1.length<=4000000)(h2:d1.length<=4000000)(h3:s2.length<=4000000)(h4:d2.length<=4000000)(h5:x.length<=4000000):
  Calls prog 37 #[s1,d1,s2,d2,x] w (Sl (En (Az s1 d1) (Az s2 d2) x) w):=by
 have H1:=Aa (fun W=>Qfl s1 d1 s2 d2 W h1 h2 h3 h4);have H2:=Aa (fun W=>Qmj s2 d2 x W h3 h4 h5);have G1:=Aa (fun S k (h:Az s1 d1=some (S,k))=>Dn h);have G2:=Aa (fun S k (h:Az s2 d2=some (S,k))=>Dn h);obtain⟨o1,ho1⟩:∃o1,Az s1 d1=o1:=⟨_,rfl⟩
 rw[ho1]at H1 G1 ⊢;obtain⟨o2,ho2⟩:∃o2,Az s2 d2=o2:=⟨_,rfl⟩
 have Ho2:=Aa ho2;rw[ho2]at H1 G2 ⊢;clear ho1 ho2;go_enter func37,ntmps37;go_wp2_with fail;refine(H1.o _).mono ?_;rintro e w1 ⟨v1,v2,rfl,hb1,⟨A1,n1,c1,rfl⟩,⟨A2,n2,c2,rfl⟩,hm1⟩;have Hm1:=Aa hm1;have Hb1:=Aa hb1;clear hm1 hb1;go_wp2_with fail;refine(H2.o _).mono ?_;rintro e w2 ⟨hb2,hm2⟩;rw[Ho2.o]at hm2;obtain⟨v,q,ok2,rfl,hn,hy⟩:∃v q ok2,e=.returned (.tuple #[v,.pointer q,.bool ok2])/\(ok2=false->∀y,o2=some y->Jd y.1 y.2 x=none)/\(ok2=true->∃S k vv b,o2=some (S,k)/\Jd S k x=some vv/\q=some ⟨b,0,none⟩/\Fl (fun c=>w1.heap.size<=c) w2 b (By S k vv)):=by
  cases o2 with
  |none=>obtain⟨v,q,rfl⟩:=hm2;exact⟨v,q,false,rfl,fun _ y h=>(by cases h),fun h=>Bool.noConfusion h⟩
  |some y=>
   obtain⟨S,k⟩:=y;simp only at hm2;cases hv:Jd S k x with
   |none=>rw[hv]at hm2;obtain⟨v,q,rfl⟩:=hm2;exact⟨v,q,false,rfl,fun _ y h=>(by injection h with h;subst h;exact hv),fun h=>Bool.noConfusion h⟩
   |some vv=>
    rw[hv]at hm2;obtain⟨xv,xs,b,rfl,_,_,hs⟩:=hm2;exact⟨xv,some ⟨b,0,none⟩,true,rfl,fun h=>Bool.noConfusion h,fun _=>⟨S,k,vv,b,rfl,hv,rfl,hs⟩⟩
 have Hb2:=Aa (Hb1.o.trans (hb2.mono Hb1.o.size));have Hb12:=Aa hb2;have Hn:=Aa hn;have Hy:=Aa hy;clear hm2 hb2 hn hy;cases hev:Dt o1 o2 with
 |false=>
  have HN:=Aa (Qdt (x:=x) hev);clear hev;go_wp2_with fail;refine aG (v:=.tuple #[aa,.bool false]) (by simp[results,results37,go_sem]) rfl ?_;exact⟨by rw[HN.o];rfl,Hb2.o⟩
 |true=>
  cases ok2 with
  |false=>
   have HN:=Aa (Qhr (o1:=o1) (Hn.o rfl));clear hev;go_wp2_with fail;refine aG (v:=.tuple #[aa,.bool false]) (by simp[results,results37,go_sem]) rfl ?_;exact⟨by rw[HN.o];rfl,Hb2.o⟩
  |true=>
   obtain⟨T,b,vv,bv,rfl,hv,rfl,hs⟩:=Hy.o rfl;cases o1 with
   |none=>exact absurd hev (by simp[Dt])
   |some y1=>
    obtain⟨S,a⟩:=y1;obtain⟨xs,ys,hxs,_,hsc,_⟩:=Hm1.o;simp only at hxs;obtain⟨g1,_,_,ga,gd,gr⟩:=G1.o S a rfl;obtain⟨k1,_,_,kb,_,_⟩:=G2.o T b rfl;obtain⟨hvok,hpx,hx4⟩:=(H8 k1.1.1 kb).1 hv;obtain⟨R,hR,hK⟩:=Pi g1.1.2.1 k1.1.2.1 (show Jq S T a b=true from hev);have HL:=Aa (Ry (x:=x) rfl rfl hev hv);have hpl:(Ba vv).length<=1000000:=by rw[hpx];omega
    obtain⟨hok2,hlok⟩:=S4 hR 12 a b vv hK hvok;have HLf:=Aa (gd ▸ Qhd hR k1.1.1 xs (.slice A1 n1 c1) hxs g1 12 a b vv hK hvok ga hpl _ bv w2 (hsc.below Hb12.o) hs);have HOu:=Aa (fun(Q:Nat->Prop) W b' (h:Fl Q W b' (By S a (Cy S 12 a vv).1))=>Zk g1.1.1 Q 12 a _ hok2 ga b' W h (ae hlok.le hpl));clear hev hv hs hvok hpx hx4 hR hK hpl hok2 hlok g1 k1 ga gd gr kb hsc;go_wp2_with fail;refine HLf.o.mono ?_;rintro e w3 ⟨B3,rfl,hb3,hs3⟩;have Hb3:=Aa (Hb2.o.trans (hb3.mono Hb2.o.size));have HO3:=Aa (HOu.o _ w3 B3 hs3);clear hb3 hs3;go_wp2_with fail;refine HO3.o.mono ?_;rintro e w4 ⟨rfl,hb4⟩;have Hb4:=Aa (Hb3.o.trans (hb4.mono Hb3.o.size));clear hb4;go_wp2_with fail;refine aG (v:=.tuple #[.string ⟨(Ba (Cy S 12 a vv).1).toArray⟩,.bool true]) (by simp[results,results37,go_sem]) rfl ?_;exact⟨by rw[HL.o];rfl,Hb4.o⟩
theorem Qd2(s1 d1 s2 d2 x:List UInt8)(w:World)(h1:s1.length<=4000000)(h2:d1.length<=4000000)(h3:s2.length<=4000000)(h4:d2.length<=4000000)(h5:x.length<=4000000):
  Calls prog 14 #[s1,d1,s2,d2,x] w (Sl (En (Az s1 d1) (Az s2 d2) x) w):=by
 have H:=Aa (fun W=>Qfs s1 d1 s2 d2 x W h1 h2 h3 h4 h5);generalize En (Az s1 d1) (Az s2 d2) x=o at *;go_enter func14,ntmps14;go_wp2_with fail;refine(H.o _).mono ?_;rintro e w1 ⟨rfl,hb1⟩;have Hb1:=Aa hb1;clear hb1;go_wp2_with fail;refine aG (v:=.tuple #[.string ⟨(Qac o).toArray⟩,.bool o.isSome]) (by simp[results,results14,go_sem]) rfl ?_;exact mw
def Q6(o:Option (Vl × Bool))(x:List UInt8)(w:World)(e:Ending)(w':World):Prop:=e=.returned (.tuple #[.bool (match o with|some r=>Ba r.1 != x|none=>false),.bool o.isSome])/\Below w w w'
theorem Qck(s1 d1 s2 d2 x:List UInt8)(w:World)(h1:s1.length<=4000000)(h2:d1.length<=4000000)(h3:s2.length<=4000000)(h4:d2.length<=4000000)(h5:x.length<=4000000):
  Calls prog 18 #[s1,d1,s2,d2,x] w (Q6 (En (Az s1 d1) (Az s2 d2) x) x w):=by
 have H:=Aa (fun W=>Qfs s1 d1 s2 d2 x W h1 h2 h3 h4 h5);generalize En (Az s1 d1) (Az s2 d2) x=o at *;go_enter func18,ntmps18;go_wp2_with fail;refine(H.o _).mono ?_;rintro e w1 ⟨rfl,hb1⟩;have Hb1:=Aa hb1;clear hb1;cases o with
 |none=>
  simp only[Option.isSome_none];go_wp2_with fail;refine aG (v:=.tuple #[.bool false,.bool false]) (by simp[results,results18,go_sem]) rfl ?_;exact mw
 |some r=>
  simp only[Option.isSome_some,Qac];obtain⟨t,ht⟩:∃t,Ba r.1=t:=⟨_,rfl⟩
  have Ht:=Aa ht;rw[ht];clear ht;go_wp2_with fail;refine aG (v:=.tuple #[.bool (t != x),.bool true]) (by simp[results,results18,go_sem,bne]) rfl ?_;exact⟨by simp only[Ht.o];rfl,Hb1.o⟩
end
end Go.Proofs.YtpjijpcemejlnaaGreatDoor
