/- Texts joined. Conditions: as each theorem names them. -/
import Derived.Test.YtmmhmlmfhpfgbaaGreatDoorB21
set_option maxRecDepth 100000
set_option maxHeartbeats 32000000
set_option linter.unusedVariables false
set_option linter.unusedSimpArgs false
namespace Go.Proofs.YtmmhmlmfhpfgbaaGreatDoor
open Go.RowKit Go.Proofs.Tryz
theorem Ql0(w0:World)(xs:List (Ty × Value))(A:Option Addr)(c:Nat)(hsc:Gj w0 (.slice A xs.length c) xs)(hok:Kt (Af xs))(k:Kd)(t:Ty)(tv:Value)(hx:D9 xs k.name=some (t,tv))(h2:t.sort=82)(d:Nat)
  (H:∀k',Cw k'->SrC w0 (Af xs) (.slice A xs.length c) k' d):Qqk w0 (.slice A xs.length c) (Af xs) k (Am (Af xs) 20 d) (.int .u8 82) t.name tv t.fields (d:Int):=by
 obtain⟨hm,_,hft⟩:=Cl hx;have htS:t∈Af xs:=(Bj hft).1;have hty:=hok.1.1 t htS;have h9:t.sort≠69:=cJ;have hfs:D8 w0 tv t.fields:=eR;have hfo:∀f∈t.fields,Su t.sort f:=hty.2.2.1.1;refine⟨fun s W hW hs=>?_,fun s f r h=>?_,fun k' s W hk' hW hs=>H k' hk' s W hW hs,fun k' s v r hk' h=>?_,fun k' s v r P b W hk' h hs hsv=>?_,fun s f r W h hW=>?_,fun ps hp=>?_⟩
 ·exact Zl _ _ _ _ rfl rfl rfl t.fields s W (hfs.below hW) (fun f hf=>(hfo f hf).2.1) aI
 ·have hf:=(Rr (Kc h).2.1).1;have h1:=hfo f hf;have hk:=(h1.2.2.2.2 h9).1;exact⟨hk,by have:=hk.2.2;omega,h1.1,h1.2.1⟩
 ·have:=(Gq hok.1.1 20 d k' s v r hk' h).2;rw[this];simp
 ·obtain⟨h1,h3⟩:=Gq hok.1.1 20 d k' s v r hk' h;exact Za hok.1.1 P d k' v h1 hk' b W hsv (by rw[h3]at hs;simp at hs;omega)
 ·have hf:=(Rr (Kc h).2.1).1;have h1:=hfo f hf;exact Ry _ xs hok f W (hsc.below hW) (h1.2.2.2.2 h9).1 (hok.2.1 t htS h9 f hf) (ad (Vp h1) aL)
 rw[P2];congr 1
 refine List.map_congr_left fun p hp'=>?_;rw[E5 hft (hp p hp')]
theorem Qhq(w0:World)(xs:List (Ty × Value))(xv:Value)(hsc:Gj w0 xv xs)(hok:Kt (Af xs)):NmC w0 (Af xs) xv:=by
 obtain⟨A,c,rfl,h1000,_⟩:=hsc;have hsc:Gj w0 (.slice A xs.length c) xs:=⟨A,c,rfl,h1000,by assumption⟩
 intro d hd H k hk hsg hb s hs W hW hne;cases s with
 |nil=>exact absurd rfl hne
 |cons c0 z=>
  have hz:z.length<=1000000:=fl;have hkl:(Be k).length<=100:=bR;have hq:Am (Af xs) 20 (d+1) k (c0::z)=match B9 (Af xs) k.name with|none=>none|some t=>Kp (Af xs) (Am (Af xs) 20 d) t (c0::z):=by
   conv=>lhs;unfold Am
   rw[hsg];simp[hb];rfl
  have hrf:Jn xs k=D9 xs k.name:=if_pos ⟨hsg,hb⟩;cases hx:D9 xs k.name with
  |none=>
   rw[hq,Qgo hx];refine Qod (Af xs) k w0 (.slice A xs.length c) rfl (Be k) hkl 0 ⟨#[]⟩ none 0 0 false c0 z _ W hW hz (fun W' hW'=>?_) (.inr (.inr (.inr ⟨rfl,rfl,rfl⟩)));exact jp
  |some x=>
   obtain⟨t,tv⟩:=x;obtain⟨hm,_,hft⟩:=Cl hx;have htS:t∈Af xs:=(Bj hft).1;have hty:=hok.1.1 t htS;have hfs:D8 w0 tv t.fields:=eR;have hfo:∀f∈t.fields,Su t.sort f:=hty.2.2.1.1;have htg:∀f∈t.fields,f.tag<=200:=fun f hf=>(hfo f hf).2.1;rw[hq,hft];simp only;have hX:∀(h:(((t.sort.toNat:Int) == 82)=true/\((c0.toNat:Int) == 123)=false/\((t.sort.toNat:Int) == 69)=false/\((t.sort.toNat:Int) == 85)=false)\/(((t.sort.toNat:Int) == 82)=false/\((t.sort.toNat:Int) == 69)=true/\((c0.toNat:Int) == 35)=false/\((t.sort.toNat:Int) == 85)=false)\/(((t.sort.toNat:Int) == 82)=false/\((t.sort.toNat:Int) == 69)=false/\((t.sort.toNat:Int) == 85)=true/\((c0.toNat:Int) == 60)=false)\/(((t.sort.toNat:Int) == 82)=false/\((t.sort.toNat:Int) == 69)=false/\((t.sort.toNat:Int) == 85)=false)),Calls prog 160 #[.agg #[.slice A xs.length c],(c0::z:List UInt8),.string ⟨(Be k).toArray⟩,.int .i64 ((d+1:Nat):Int)] W (Bc (Af xs) k none W):=fun h=>by
    obtain⟨A5,c5,rfl,_⟩:=hfs;refine Qod (Af xs) k w0 (.slice A xs.length c) rfl (Be k) hkl (t.sort.toNat:Int) ⟨t.name.toArray⟩ A5 t.fields.length c5 true c0 z _ W hW hz (fun W' hW'=>?_) h;exact jp
   have hbn:∀{c1:UInt8},c0≠c1->((c0.toNat:Int) == (c1.toNat:Int))=false:=fun h=>by have:=At h;simpa using this
   rcases hty.1 with h9|h9|h9
   ·by_cases hc:c0=123
    ·subst hc;have e:Kp (Af xs) (Am (Af xs) 20 d) t (123::z)=Qi1 (Af xs) (Am (Af xs) 20 d) t.fields z:=by unfold Kp Qi1;rw[h9];simp[As];rfl
     rw[e];refine Qpy w0 xs (.slice A xs.length c) rfl hsc k hk hsg hb t.name t.fields tv (by rw[hx,<-h9]) hfs htg d hd z W hW hz _ rfl _ fun W' hW'=>?_;have hR:=Ql0 w0 xs A c hsc hok k t tv hx h9 d H;obtain⟨A5,c5,rfl,_⟩:=hfs;exact sRec_walk w0 (.slice A xs.length c) rfl (Af xs) k hkl (Am (Af xs) 20 d) t.name A5 c5 t.fields d hd hR z W' hW' hz _ rfl
    have e:Kp (Af xs) (Am (Af xs) 20 d) t (c0::z)=none:=eh;rw[e];exact hX (.inl (by rw[h9];exact⟨rfl,hbn hc,rfl,rfl⟩))
   ·by_cases hc:c0=60
    ·subst hc;have h69:t.sort≠69:=by rw[h9];decide
     have e:Kp (Af xs) (Am (Af xs) 20 d) t (60::z)=unL (Am (Af xs) 20 d) (Gs t.fields z):=by
      unfold Kp Dh unL;rw[h9,if_neg aL,if_pos rfl,Bp];simp only;cases Gs t.fields z with
      |none=>rfl
      |some y=>
       obtain⟨f,r⟩:=y;simp only;cases As 61 r with
       |none=>rfl
       |some q=>
        simp only;cases Am (Af xs) 20 d f.kind q with
        |none=>rfl
        |some y=>rfl
     rw[e];exact Qqe w0 xs (.slice A xs.length c) rfl hsc k hk hsg hb t.name t.fields tv (by rw[hx,<-h9]) hfs htg d hd z W hW hz _ rfl H (fun f hf=>((hfo f hf).2.2.2.2 h69).1) (by rw[hft,<-h9]) _ rfl
    have e:Kp (Af xs) (Am (Af xs) 20 d) t (c0::z)=none:=eh;rw[e];exact hX (.inr (.inr (.inl (by rw[h9];exact⟨rfl,rfl,rfl,hbn hc⟩))))
   by_cases hc:c0=35
   ·subst hc;have e:Kp (Af xs) (Am (Af xs) 20 d) t (35::z)=enL (Gs t.fields z):=by
     unfold Kp enL;rw[h9,if_pos rfl,Bp];simp only;cases Gs t.fields z<;>rfl
    rw[e];exact Qqd w0 xs (.slice A xs.length c) rfl hsc k hk hsg hb t.name t.fields tv (by rw[hx,<-h9]) hfs htg d hd z W hW hz _ rfl
   have e:Kp (Af xs) (Am (Af xs) 20 d) t (c0::z)=none:=eh;rw[e];exact hX (.inr (.inl (by rw[h9];exact⟨rfl,rfl,hbn hc,rfl⟩)))
theorem Qqf(s d x:List UInt8)(w:World)(hs:s.length<=4000000)(hd:d.length<=4000000)(hx:x.length<=4000000):
  Calls prog 79 #[s,d,x] w (Nd s d x w):=Ql4 (fun w0 xs xv h hok=>Qhq w0 xs xv h hok) s d x w hs hd hx
section
attribute [local go_sem] Qra Qpu Qo3 Qmi ByteArray.mk_append_mk
def rfB(S:List Ty)(k:Kd)(s:List UInt8):Option Vl:=
 if 600<s.length then none else(Cg (E9 S 12 k) s).bind fun v=>if (Aw v).length<=400 then some v else none
def rfL(o:Option (List Ty × Kd))(s:List UInt8):Option Vl:=o.bind fun x=>rfB x.1 x.2 s
def Qmn(s d x:List UInt8)(w:World)(e:Ending)(w':World):Prop:=Below w.heap.size w w'/\((rfL (Bq s d) x=none/\∃(v:Value) (q:Option Addr),e=.returned (.tuple #[v,.pointer q,.bool false])) \/
  ∃S k v xv xs b,Bq s d=some (S,k)/\rfL (Bq s d) x=some v/\e=.returned (.tuple #[xv,.pointer (some ⟨b,0,none⟩),.bool true])/\Af xs=S/\Gj w' xv xs/\En (fun c=>w.heap.size<=c) w' b (Bt S k v))
theorem Qjt(s d x:List UInt8)(w:World)(hs:s.length<=4000000)(hd:d.length<=4000000)(hx:x.length<=4000000):
  Calls prog 72 #[.string ⟨s.toArray⟩,.string ⟨d.toArray⟩,.string ⟨x.toArray⟩] w (Qmn s d x w):=by
 have Hk:=Aa (fun W=>Qv s d W hs hd)
 obtain⟨oq,hoq⟩:∃oq,rfL (Bq s d) x=oq:=⟨_,rfl⟩
 have HOQ:=Aa hoq
 go_enter func72,ntmps72
 go_wp2_with fail
 refine(Hk.o _).mono ?_
 rintro e w1 ⟨hm,hb1⟩
 have Hb1:=Aa hb1
 clear hb1
 cases hbo:Bq s d with
 |none=>
  have HQ:=Aa (show none=oq by rw[<-hoq,hbo];rfl)
  rw[hbo]at hm
  obtain⟨A,n,c,rfl⟩:=hm
  clear hbo hoq
  go_wp2_with fail
  refine bodyPost_ret (v:=.tuple #[.slice none 0 0,.pointer none,.bool false]) (by simp[results,results72,go_sem]) rfl ?_
  exact⟨Hb1.o,.inl ⟨HOQ.o.trans HQ.o.symm,_,_,rfl⟩⟩
 |some y=>
  obtain⟨S,k⟩:=y
  have HBO:=Aa hbo
  rw[hbo]at hm hoq
  obtain⟨xv,xs,rfl,hty,hsc⟩:=hm
  obtain⟨g1,_,_,g4,g5,g6⟩:=Ec hbo
  obtain⟨A9,c9,rfl,hl9,_⟩:=hsc
  have Hsc:=Aa (show Gj w1 (.slice A9 xs.length c9) xs from⟨A9,c9,rfl,hl9,by assumption⟩)
  clear hbo
  by_cases h600:600<x.length
  ·have t5:(600:Int)<(x.length:Int):=by omega
   have HQ:=Aa (show none=oq by rw[<-hoq];unfold rfL rfB;simp[h600])
   clear h600 g1 g4 g5 g6 hoq
   go_wp2_with fail
   refine bodyPost_ret (v:=.tuple #[.slice none 0 0,.pointer none,.bool false]) (by simp[results,results72,go_sem]) rfl ?_
   exact⟨Hb1.o,.inl ⟨HOQ.o.trans HQ.o.symm,_,_,rfl⟩⟩
  have t5:¬((600:Int)<(x.length:Int)):=by omega
  subst hty
  have hr:Calls prog 126 #[.agg #[.slice A9 xs.length c9],.string ⟨x.toArray⟩,.string ⟨(Be k).toArray⟩,.int .i64 ((12:Nat):Int)] w1 (Qcn (Af xs) k (Cg (E9 (Af xs) 12 k) x) w1):=
   Se w1 (Af xs) _ rfl k 12 (Qiy w1 xs _ Hsc.o g1 12 (by omega) k g4 g6) x w1 (Aq _ _) (by omega) _ rfl
  rw[g5,show (((12:Nat)):Int)=12 from rfl]at hr
  have HR:=Aa hr
  have HQ:=Aa (show ((Cg (E9 (Af xs) 12 k) x).bind fun v=>if (Aw v).length<=400 then some v else none)=oq by rw[<-hoq];unfold rfL rfB;simp[h600])
  have HL:=Aa (fun v h=>(And.intro (Mc g1.1.1 12 k x v [] g4 (D3 h)) (show (Aw v).length<=12000 by have:=Sw 12 k x v [] (D3 h);omega)))
  have HB:=Aa (fun(W:World) (hW:Below w1.heap.size w1 W) (y:List UInt8) (hy:y.length<=4000000)=>Qle (Af xs) k d y A9 xs.length c9 W hy fun h4=>by
   have:=Qb0 w1 (Af xs) g1.1.1 (.slice A9 xs.length c9) rfl (Qhq w1 xs _ Hsc.o g1) 12 (by omega) k g4 y W hW (by omega)
   rw[g5]at this
   exact this)
  have HO:=Aa (fun(P:Nat->Prop) v (h:Ge (Af xs) 12 k v) b W hW (hl:(Aw v).length<=1000000)=>Za g1.1.1 P 12 k v h g4 b W hW hl)
  have HV:=Aa (fun v (h:Ge (Af xs) 12 k v)=>(show (Jv (Af xs) k (Aw v)).isSome=decide ((Aw v).length<=400)by
   by_cases h4:(Aw v).length<=400
   ·rw[(Jg g1.1.1 g4).2 ⟨h,rfl,h4⟩,decide_eq_true h4];rfl
   rw[decide_eq_false h4]
   unfold Jv
   rw[if_pos (by omega)]
   rfl))
  generalize Cg (E9 (Af xs) 12 k) x=o at *
  clear h600 g1 g4 g5 g6 hr hoq
  go_wp2_with fail
  refine HR.o.mono ?_
  rintro e w2 ⟨hm,hb2⟩
  have Hb2:=Aa (Hb1.o.trans (hb2.mono Hb1.o.size))
  have Hbb:=Aa hb2
  clear hb2 HR
  cases o with
  |none=>
   obtain⟨qa,rfl⟩:=hm
   have HQ:=Aa (show none=oq from HQ.o)
   clear HB HO HV HL
   go_wp2_with fail
   refine bodyPost_ret (v:=.tuple #[.slice none 0 0,.pointer none,.bool false]) (by simp[results,results72,go_sem]) rfl ?_
   exact⟨Hb2.o,.inl ⟨HOQ.o.trans HQ.o.symm,_,_,rfl⟩⟩
  |some v=>
   obtain⟨b,rfl,hv⟩:=hm
   obtain⟨hvo,hvl⟩:=HL.o v rfl
   have HQ:=Aa (show (if (Aw v).length<=400 then some v else none)=oq from HQ.o)
   have HO:=Aa (fun W hW=>HO.o (fun c=>w1.heap.size<=c) v hvo b W hW (by omega))
   have HV:=Aa (HV.o v hvo)
   have HB:=Aa (fun W hW=>HB.o W hW (Aw v) (by omega))
   have Hv:=Aa hv
   clear hv hvo HL
   rw[HV.o]at HB
   go_wp2_with fail
   refine(HO.o _ Hv.o).mono ?_
   rintro e w3 ⟨rfl,hb3⟩
   have Hb3:=Aa (Hb2.o.trans (hb3.mono Hb2.o.size))
   have Hbb3:=Aa (Hbb.o.trans (hb3.mono Hbb.o.size))
   have Hv3:=Aa (Hv.o.after hb3)
   clear hb3 Hv HO Hb2 Hbb
   generalize Aw v=pv at *
   go_wp2_with fail
   refine(HB.o _ Hbb3.o).mono ?_
   rintro e w4 ⟨rfl,hb4⟩
   have Hb4:=Aa (Hb3.o.trans (hb4.mono Hb3.o.size))
   have Hv4:=Aa (Hv3.o.after hb4)
   have Hsc4:=Aa (Hsc.o.below (Hbb3.o.trans (hb4.mono Hbb3.o.size)))
   clear hb4 HB Hv3
   by_cases h4:pv.length<=400
   ·have HQ:=Aa (show some v=oq by rw[<-HQ.o,if_pos h4])
    rw[decide_eq_true h4]
    simp only[if_true,Option.isSome_some,Option.getD_some]
    clear h4 HV hvl
    go_wp2_with fail
    refine bodyPost_ret (v:=.tuple #[.slice A9 xs.length c9,.pointer (some ⟨b,0,none⟩),.bool true]) (by simp[results,results72,go_sem]) rfl ?_
    exact⟨Hb4.o,.inr ⟨_,k,v,_,xs,b,HBO.o,HOQ.o.trans HQ.o.symm,rfl,rfl,Hsc4.o,Hv4.o.mono fun c hc _=>Nat.le_trans Hb1.o.size hc⟩⟩
   have HQ:=Aa (show none=oq by rw[<-HQ.o,if_neg h4])
   rw[decide_eq_false h4]
   simp only[Bool.false_eq_true,if_false,Option.isSome_none,Option.getD_none]
   clear h4 HV hvl
   go_wp2_with fail
   refine bodyPost_ret (v:=.tuple #[.slice A9 xs.length c9,.pointer (some ⟨b,0,none⟩),.bool false]) (by simp[results,results72,go_sem]) rfl ?_
   exact⟨Hb4.o,.inl ⟨HOQ.o.trans HQ.o.symm,_,_,rfl⟩⟩
theorem Qbv(l:List UInt8)(w:World)(hn:l.length<2097152):Calls prog 128 #[l] w (Dz (Qr l) w):=by
 have h3:=Cz l.length;have HN:=Aa (fun W=>Qp l.length W hn);go_enter func128,ntmps128;go_wp2_with fail;refine(HN.o _).mono ?_;rintro e w1 ⟨rfl,hb⟩;have Hb:=Aa hb;clear hb;go_wp2_with fail;go_ret;exact⟨rfl,Hb.o⟩
theorem Qpw(P:Nat->Prop)(b m:Nat)(w:World)(hm:m<=999999)(h:En P w b (.mk [110] (Az m) [] [])):Calls prog 73 #[b] w (Dz (D1 m) w):=by
 obtain⟨_,_,_,_,_,hb,_,h0,h1,_⟩:=h.open_;have hd:Cx (Az m)=some m:=Bw.2 ⟨by omega,rfl⟩;have hl:=C9 6 m fe;have HL:=Aa (fun W=>Dv (Az m) 999999 W aI aL);have HN:=Aa (fun W=>Qp m W aI);have HD:=Aa hd;clear hd h;generalize Az m=tx at *;go_enter func73,ntmps73;go_wp2_with fail;refine(HL.o _).mono ?_;rintro e w1 ⟨n,hn,rfl,hn2,hb1⟩;obtain rfl:=hn2 m HD.o;have Hb1:=Aa hb1;clear hb1 hn2;generalize Ef tx 999999=ok;go_wp2_with fail;refine(HN.o _).mono ?_;rintro e w2 ⟨rfl,hb2⟩;have Hb2:=Aa (Hb1.o.trans (hb2.mono Hb1.o.size));clear hb2;go_wp2_with fail;exact jq
theorem Qql(P:Nat->Prop)(b:Nat)(tx:List UInt8)(w:World)(ht:tx.length<=1000000)(h:En P w b (.mk [116] (39::(tx++[39])) [] [])):Calls prog 73 #[b] w (Dz (Qr tx) w):=by
 obtain⟨_,_,_,_,_,hb,_,h0,h1,_⟩:=h.open_;have HL:=Aa (fun W (_:Below w w W)=>Qbv tx W aI);obtain⟨tt,htt⟩:∃tt:List UInt8,tt=39::(tx++[39]):=⟨_,rfl⟩
 have hl:tt.length=tx.length+2:=by rw[htt];simp
 have hc:List.take tx.length tt.tail=tx:=by rw[htt];simp
 have z1:IntKind.i64.wrap ((tx.length:Int)+2 - 1)=(tx.length:Int)+1:=fO;have z2:(0:Int)<=(tx.length:Int)+1:=aI;have z3:(tx.length:Int)+1<=(tx.length:Int)+2:=aI;have z4:(1:Int)<=(tx.length:Int)+1:=aI;have z5:((tx.length:Int)+1).toNat - 1=tx.length:=aI;rw[<-htt]at h1;clear htt h;go_enter func73,ntmps73;go_wp2_with fail;refine rgB ?_;iterate 11 refine sq ?_
 refine sqC HL.o ?_;refine sq ?_;refine dnB fun w1 Hb1=>?_;go_wp2_with fail;exact ja
theorem Qp5(P:Nat->Prop)(b:Nat)(x:Bool)(w:World)(h:En P w b (.mk [102] (if x then Dk else H7) [] [])):Calls prog 73 #[b] w (Dz [if x then 1 else 0] w):=by
 obtain⟨_,_,_,_,_,hb,_,h0,h1,_⟩:=h.open_;have hcv0:=fun W g (h:W.cell? (g,0)=some (.int .u8 0))=>Jh W g 1 0 h;have hcv1:=fun W g (h:W.cell? (g,0)=some (.int .u8 1))=>Jh W g 1 1 h;cases x<;>
 ·have h1':=h1;simp only[Dk,H7,an,if_true,if_false]at h1';clear h h1;go_enter func73,ntmps73;go_wp2_with fail;exact iM
theorem Qm2(P:Nat->Prop)(b:Nat)(kr:List UInt8)(kids:List SV)(ks:List Vl)(w:World)(h:En P w b (.mk (91::kr) [] [] kids))(hkr:kr.length<=100)(hl:(Dg (.mk 91 [] 0 ks)).length<=1000000)(hkl:kids.length=ks.length)
  (ih:∀(i:Nat) (hi:i<kids.length) (hi2:i<ks.length) b W,En P W b kids[i]->(Dg ks[i]).length<=1000000->Calls prog 73 #[b] W (Dz (Dg ks[i]) W)):
  Calls prog 73 #[b] w (Dz (Dg (.mk 91 [] 0 ks)) w):=by
 obtain⟨A1,A2,c1,c2,xs,hb,_,h0,_,_,h3,_,hr2,_,hxl,rfl,hk⟩:=h.open_;rw[Yj]at hl ⊢;have hkl2:ks.length=xs.length:=by simpa using hkl.symm
 have Ih:=Aa ih;have Hr:=Aa hr2;have Hk:=Aa hk;have Hkl:=Aa hkl2;have HN:=Aa (fun W=>Qp xs.length W aI);rw[hkl2]at hl ⊢;obtain⟨T,hT⟩:∃T,T=D1 xs.length++(ks.map Dg).flatten:=⟨_,rfl⟩
 rw[<-hT]at hl ⊢;have HT:=@Aa (D1 xs.length++((ks.drop 0).map Dg).flatten=T) hT.symm;clear hkl hkl2 ih hr2 hk h hT;go_enter func73,ntmps73;go_wp2_with fail;refine(HN.o _).mono ?_;rintro e w1 ⟨rfl,hb1⟩;have Hb1:=Aa hb1;clear hb1;go_wp2_with fail;go_loopw [6,5] (fun i s wr=>∃(m:Nat) (acc:List UInt8),i=.int .i64 m/\m<=xs.length/\s=acc/\Hid (acc++((ks.drop m).map Dg).flatten=T)/\Hid (Below w w wr)) (fun i _ _=>xs.length - (intOf i).toNat)
 case atStart=>exact⟨0,_,rfl,ag _,rfl,HT.o,Hb1.o⟩
 case round=>
  obtain⟨m,acc,rfl,hm,rfl,Hacc,Hbr⟩:=hrel;have m1:(0:Int)<=(m:Int):=aI;have g3:=(Hbr.o.cell (p:=⟨b,3,none⟩) hb).trans h3;have hbw:b<wr.heap.size:=de;have hal:acc.length+(((ks.drop m).map Dg).flatten).length<=1000000:=by have:=congrArg List.length Hacc.o;rw[ah]at this;omega
  by_cases hlt:m<xs.length
  ·have m2:(m:Int)<(xs.length:Int):=aI;have hltk:m<ks.length:=cD;obtain⟨b8,o8,rfl,hb8,hc8⟩:=(Hr.o.below Hbr.o).at_ hlt;rw[Pl hlt]at hc8;have hdr:=List.drop_eq_getElem_cons hltk;rw[hdr,az,List.flatten_cons,ah]at hal;have HX:=Aa (fun W (hW:Below w w W)=>Ih.o m eF hltk xs[m].1 W cU aI);have HA:=@Aa ((acc++Dg ks[m])++((ks.drop (m+1)).map Dg).flatten=T) (by have:=Hacc.o;rw[hdr,az,List.flatten_cons,<-List.append_assoc]at this;exact this);have hal2:acc.length+(Dg ks[m]).length<=1000000:=aI;clear hdr hal;generalize Dg ks[m]=pm at *;generalize xs[m].1=bm at *;go_wp2_with fail;refine(HX.o _ Hbr.o).mono ?_;rintro e w3 ⟨rfl,hb3⟩;have Hb3:=Aa (Hbr.o.trans (hb3.mono Hbr.o.size));clear hb3;go_wp2_with fail;go_roundw
   case rel=>exact⟨m+1,_,by go_num,by omega,rfl,HA.o,Hb3.o⟩
   case measure=>simp[intOf];omega
  ·have HE:=@Aa (acc=T) (by have:=Hacc.o;rwa [List.drop_eq_nil_of_le cD,List.map_nil,List.flatten_nil,List.append_nil]at this);go_wp2_with fail;go_ret;exact⟨by rw[HE.o];rfl,Hbr.o⟩
def ByR(w:World)(la lc:Bool)(ua:Value)(W:World):Prop:=Below w w W/\(la=true->lc=false->∃g,ua=.slice (some ⟨g,0,none⟩) 1 1/\g<W.heap.size/\W.cell? ⟨g,0,none⟩=some (.int .u8 1))
theorem ByR.below{w W W':World}{la lc:Bool}{ua:Value}(h:ByR w la lc ua W)(hb:Below W W W'):ByR w la lc ua W':=by
 refine⟨h.1.trans (hb.mono h.1.size),fun h1 h2=>?_⟩;obtain⟨g,e,h3,h4⟩:=h.2 h1 h2;exact⟨g,e,ac h3 hb.size,(hb.cell (p:=⟨g,0,none⟩) h3).trans h4⟩
theorem Qhe(P:Nat->Prop)(b:Nat)(kr:List UInt8)(kids:List SV)(o:Option Vl)(w:World)(h:En P w b (.mk (63::kr) [] [] kids))(hkr:kr.length<=100)(hl:(Dg (.mk 63 [] 0 o.toList)).length<=1000000)(hkl:kids.length=o.toList.length)
  (ih:∀x,o=some x->∀b W y,y∈kids->En P W b y->Calls prog 73 #[.pointer (some ⟨b,0,none⟩)] W (Dz (Dg x) W)):
  Calls prog 73 #[.pointer (some ⟨b,0,none⟩)] w (Dz (Dg (.mk 63 [] 0 o.toList)) w):=by
 obtain⟨A1,A2,c1,c2,xs,hb,_,h0,_,_,h3,_,hr2,_,hxl,rfl,hk⟩:=h.open_;cases o with
 |none=>
  have hx0:xs=[]:=eE;subst hx0;have hcv0:=fun W g (h:W.cell? ⟨g,0,none⟩=some (.int .u8 0))=>Jh W g 1 0 h;simp only[Option.toList];rw[Ye];clear hk hr2 ih h hl;go_enter func73,ntmps73;go_wp2_with fail;exact iM
 |some x=>
  obtain⟨⟨bx,y⟩,rfl⟩:∃a,xs=[a]:=by
   cases xs with
   |nil=>simp at hkl
   |cons a l=>cases l with
    |nil=>exact⟨a,rfl⟩
    |cons b l=>simp at hkl
  simp only[Option.toList]at hl ⊢;rw[Ra]at hl ⊢;simp only[List.length_cons]at hl;have q1:¬(9223372036854775807<1+(Dg x).length):=aI;obtain⟨b8,o8,rfl,hb8,hc8⟩:=hr2.at_ (show 0<1 by decide);simp[Dr]at hc8;have HX:=Aa (fun W (hW:Below w w W)=>ih x rfl bx W y aK ((hk (bx,y) aK).after hW));simp only[List.length_singleton]at h3;clear hk hr2 ih h hkl;generalize Dg x=px at *;go_enter func73,ntmps73;go_wp2_with fail;refine rgF (fun l u W=>ByR w (l 0) (l 1) (u 0) W) (Gz w) (fun _ _ _ h=>Sa h.1) ⟨(Aq _ _).drew,fun h=>Bool.noConfusion h⟩ ?_
  refine Ju (fun v=>∃g,v=.slice (some ⟨g,0,none⟩) 1 1) (by
   intro l u W hl hp hF hG hi K hK;have h:ByR w (l 0) (l 1) (u 0) W:=hF.o;clear hp hG hi;go_simp;exact hK _ _ _ ⟨_,rfl⟩ ⟨h.1.alloc h.1.size _,fun _ _=>⟨W.heap.size,rfl,by simp,by simp⟩⟩ rfl) ?_
  refine Ju (fun v=>v=.string ⟨#[1]⟩) (by
   intro l u W hl hp hF hG hi K hK;have h:ByR w (l 0) (l 1) (u 0) W:=hF.o;simp[Region.binds,Co]at hp;obtain⟨g,e,_,h4⟩:=h.2 hp.1 hl;have hcv:=Jh W g 1 1 h4;clear hG hi hp h4;go_simp;exact hK _ _ _ rfl ⟨h.1,fun _ h=>by simp at h⟩ (by simp[Act.put,e])) ?_
  iterate 6 refine sq ?_
  refine sqB (fun _ _ _ h=>h.1) (fun _ _ _ _ h hb=>h.below hb) HX.o ?_;iterate 2 refine sq ?_
  intro l u W _ hu hR;simp only[N6,List.nil_append,aw,am,Nat.reduceAdd]at hu;obtain⟨⟨g,e0⟩,hu⟩:=hu;simp only[e0,hu];have Hb3:=Aa hR.1;clear hR hu e0;go_wp2_with fail;exact jc
def tgB:List Nat->List (List UInt8)->List UInt8
 |[],_=>[]
 |g::gs,[]=>D1 g++tgB gs []
 |g::gs,b::bs=>D1 g++(Qr b++tgB gs bs)
theorem Qlw{gs:List Nat}{bs:List (List UInt8)}{m:Nat}(h:m<gs.length):tgB (gs.drop m) (bs.drop m)=D1 gs[m]++((if h2:m<bs.length then Qr bs[m]else[])++tgB (gs.drop (m+1)) (bs.drop (m+1))):=by
 rw[List.drop_eq_getElem_cons h];by_cases h2:m<bs.length
 ·rw[dif_pos h2,List.drop_eq_getElem_cons h2];rfl
 rw[dif_neg h2,show bs.drop m=[]from List.drop_eq_nil_of_le aI,show bs.drop (m+1)=[]from List.drop_eq_nil_of_le aI];simp[tgB]
theorem Qc1(P:Nat->Prop)(b:Nat)(kr tx:List UInt8)(tags:List Nat)(kids:List SV)(bs:List (List UInt8))(w:World)(h:En P w b (.mk (64::kr) tx tags kids))(hkr:kr.length<=100)(ht:tx=[69]\/tx=[85]\/tx=[82])(htg:∀g∈tags,g<=200)(hkl:kids.length=bs.length)
  (hl:(tgB tags bs).length<=1000000)
  (ih:∀(i:Nat) (hi:i<kids.length) (hi2:i<bs.length) b W,En P W b kids[i]->bs[i].length<=1000000->Calls prog 73 #[b] W (Dz bs[i] W)):
  Calls prog 73 #[b] w (Dz (tgB tags bs++if tx=[82]then[0]else[]) w):=by
 obtain⟨A1,A2,c1,c2,xs,hb,_,h0,h1,h2,h3,hr1,hr2,hgl,hxl,rfl,hk⟩:=h.open_;have hkl2:bs.length=xs.length:=by simpa using hkl.symm
 have Ih:=Aa ih;have Hr1:=Aa hr1;have Hr:=Aa hr2;have Hk:=Aa hk;have Hkl:=Aa hkl2;have Htg:=Aa htg;have hcv0:=fun W g (h:W.cell? (g,0)=some (.int .u8 0))=>Jh W g 1 0 h;obtain⟨T,hT⟩:∃T,T=tgB tags bs:=⟨_,rfl⟩
 rw[<-hT]at hl ⊢;have HT:=@Aa (tgB (tags.drop 0) (bs.drop 0)=T) hT.symm;have H1:=Aa h1;obtain⟨z,hz⟩:∃z:List UInt8,z=if tx=[82]then[0]else[]:=⟨_,rfl⟩
 rw[<-hz];have HZ:=Aa hz;clear hz hkl hkl2 ih hr1 hr2 hk h hT htg h1;go_enter func73,ntmps73;go_wp2_with fail;go_loopw [8,7] (fun i s wr=>∃(m:Nat) (acc:List UInt8),i=.int .i64 m/\m<=tags.length/\s=acc/\Hid (acc++tgB (tags.drop m) (bs.drop m)=T)/\Hid (Below w w wr)) (fun i _ _=>tags.length - (intOf i).toNat)
 case atStart=>exact⟨0,[],rfl,ag _,rfl,HT.o,Aq _ _⟩
 case round=>
  obtain⟨m,acc,rfl,hm,rfl,Hacc,Hbr⟩:=hrel;have m1:(0:Int)<=(m:Int):=aI;have g2:=(Hbr.o.cell (p:=⟨b,2,none⟩) hb).trans h2;have g3:=(Hbr.o.cell (p:=⟨b,3,none⟩) hb).trans h3;have hbw:b<wr.heap.size:=de;by_cases hlt:m<tags.length
  ·have m2:(m:Int)<(tags.length:Int):=aI;obtain⟨b6,o6,rfl,hb6,hc6⟩:=(Hr1.o.below Hbr.o).at_ hlt;rw[Qae hlt]at hc6;have hgt:=Htg.o _ (ae hlt);have HN:=Aa (fun W=>Qp tags[m] W aI);have hst:=Hacc.o;rw[Qlw hlt]at hst;have hal:=congrArg List.length hst;simp only[ah]at hal;generalize tags[m]=g at *;by_cases hlx:m<xs.length
   ·have m3:(m:Int)<(xs.length:Int):=aI;have hltk:m<bs.length:=cD;obtain⟨b8,o8,rfl,hb8,hc8⟩:=(Hr.o.below Hbr.o).at_ hlx;rw[Pl hlx]at hc8;rw[dif_pos hltk]at hal hst;have hsz:bs[m].length<=(Qr bs[m]).length:=by simp[Qr]
    have HX:=Aa (fun W (hW:Below w w W)=>Ih.o m (by simpa using hlx) hltk xs[m].1 W (by rw[List.getElem_map];exact(Hk.o _ (ae hlx)).after hW) aI);have HA:=@Aa ((acc++(D1 g++Qr bs[m]))++tgB (tags.drop (m+1)) (bs.drop (m+1))=T) (by rw[<-hst];simp);have HL:=Aa (fun W=>Qbv bs[m] W aI);clear hst;generalize bs[m]=pm at *;generalize xs[m].1=bm at *;have hal2:acc.length+(D1 g).length+(Qr pm).length<=1000000:=aI;clear hal;go_wp2_with fail;refine(HN.o _).mono ?_;rintro e w2 ⟨rfl,hb2⟩;have Hb2:=Aa (Hbr.o.trans (hb2.mono Hbr.o.size));replace g2:=(hb2.cell (p:=⟨b,2,none⟩) hbw).trans g2
    replace g3:=(hb2.cell (p:=⟨b,3,none⟩) hbw).trans g3
    replace hc8:=(hb2.cell (p:=⟨b8,o8+m,none⟩) hb8).trans hc8
    have hbw2:b<w2.heap.size:=eV;clear hb2 hc6;go_wp2_with fail;refine(HX.o _ Hb2.o).mono ?_;rintro e w3 ⟨rfl,hb3⟩;have Hb3:=Aa (Hb2.o.trans (hb3.mono Hb2.o.size));replace g2:=(hb3.cell (p:=⟨b,2,none⟩) hbw2).trans g2
    clear hb3;go_wp2_with fail;refine(HL.o _).mono ?_;rintro e w4 ⟨rfl,hb4⟩;have Hb4:=Aa (Hb3.o.trans (hb4.mono Hb3.o.size));clear hb4;go_wp2_with fail;go_roundw
    case rel=>exact⟨m+1,_,by go_num,by omega,rfl,HA.o,Hb4.o⟩
    case measure=>simp[intOf];omega
   have m3:¬((m:Int)<(xs.length:Int)):=aI;rw[dif_neg cD]at hal hst;have HA:=@Aa ((acc++D1 g)++tgB (tags.drop (m+1)) (bs.drop (m+1))=T) (by rw[<-hst];simp);have hal2:acc.length+(D1 g).length<=1000000:=aI;clear hst hal;go_wp2_with fail;refine(HN.o _).mono ?_;rintro e w2 ⟨rfl,hb2⟩;have Hb2:=Aa (Hbr.o.trans (hb2.mono Hbr.o.size));replace g2:=(hb2.cell (p:=⟨b,2,none⟩) hbw).trans g2
   replace g3:=(hb2.cell (p:=⟨b,3,none⟩) hbw).trans g3
   clear hb2 hc6;go_wp2_with fail;go_roundw
   case rel=>exact⟨m+1,_,by go_num,by omega,rfl,HA.o,Hb2.o⟩
   case measure=>simp[intOf];omega
  ·have HE:=@Aa (acc=T) (by have:=Hacc.o;rwa [List.drop_eq_nil_of_le aI,tgB,List.append_nil]at this);have hal:acc.length<=1000000:=by rw[HE.o];exact hl
   have g1:=(Hbr.o.cell (p:=⟨b,1,none⟩) hb).trans H1.o;rcases ht with rfl|rfl|rfl
   ·exact hZ
   ·exact hZ
   go_wp2_with fail;go_ret;exact⟨by rw[HE.o,HZ.o];rfl,Hbr.o.alloc Hbr.o.size _⟩
theorem Qcc:∀ps:List (Fd × Vl),tgB (ps.map fun p=>p.1.tag) (ps.map fun p=>Dg p.2)=(ps.map fun p=>D1 p.1.tag++Qr (Dg p.2)).flatten
 |[]=>rfl
 |p::ps=>by simp[tgB,Qcc ps]
theorem Qhr{S:List Ty}(hT:∀t∈S,Ek t)(P:Nat->Prop):∀(d:Nat) (k:Kd) (v:Vl),Ge S d k v->Cw k->∀(b:Nat) (w:World),En P w b (Bt S k v)->(Dg v).length<=1000000->Calls prog 73 #[b] w (Dz (Dg v) w):=by
 intro d
 induction d with
 |zero=>intro k v h;cases h
 |succ d ih=>
  intro k v h hk b w hw hl
  have hkl:=hk.2.2
  cases h with
  |@n _ _ m hs hb h=>
   rw[Z8,show Be k=[110]by unfold Be Cj;rw[hs,hb];rfl]at hw
   rw[Qhn h]
   exact Qpw P b m w h hw
  |@t _ _ s hs hb h=>
   rw[Vk,show Be k=[116]by unfold Be Cj;rw[hs,hb];rfl]at hw
   rw[Qdx]at hl ⊢
   exact Qql P b s w (by simp[Qr]at hl;omega) hw
  |@f _ _ x hs hb=>
   rw[Vu,show Be k=[102]by unfold Be Cj;rw[hs,hb];rfl]at hw
   rw[Qho]
   exact Qp5 P b x w hw
  |@lst _ _ r ks hs hl2 h=>
   have e:Be k=91::(r++Cj k):=ct
   rw[P9,e]at hw
   rw[e]at hkl
   refine Qm2 P b _ _ ks w hw bJ hl aK fun i hi hi2 b W hW hl3=>?_
   rw[List.getElem_map]at hW
   exact ih _ _ (h _ (ae hi2)) (Jk hk).1 b W hW hl3
  |@non _ _ r hs=>
   have e:Be k=63::(r++Cj k):=ct
   rw[Mg,e]at hw
   rw[e]at hkl
   exact Qhe P b _ _ none w hw bJ hl rfl aK
  |@som _ _ r x hs h=>
   have e:Be k=63::(r++Cj k):=ct
   rw[Mg,e]at hw
   rw[e]at hkl
   have hl3:(Dg x).length<=1000000:=by have:=hl;rw[Ra]at this;simp at this;omega
   refine Qhe P b _ _ (some x) w hw bJ hl rfl fun y hy b W z hz hW=>?_
   injection hy with hy
   subst hy
   simp at hz
   subst hz
   exact ih _ _ h (Jk hk).1 b W hW hl3
  |@enm _ _ t f hs hb ht h9 hf=>
   have e:Be k=64::(k.name++[59]):=bT
   rw[Qa,e]at hw
   rw[e]at hkl
   have:=Qc1 P b _ [69] [f.tag] [] [] w hw bJ (.inl rfl) (by simpa using((hT t (Bj ht).1).2.2.1.1 f (Ay hf).2).2.1) rfl (by have:=Cz f.tag;simp[tgB];omega) aK
   rw[Yc]
   simpa [tgB]using this
  |@uni _ _ t f x hs hb ht h5 hf h=>
   have e:Be k=64::(k.name++[59]):=bT
   rw[Nr,e,E5 ht hf]at hw
   rw[e]at hkl
   have hkf:=Na hT ht dk (Ay hf).2
   rw[Yp]at hl ⊢
   have:=Qc1 P b _ [85] [f.tag] _ [Dg x] w hw bJ (.inr (.inl rfl)) (by simpa using hkf.2) rfl (by simpa [tgB]using hl) fun i hi hi2 b W hW hl3=>(by
    have e0:i=0:=by simp at hi;exact hi
    subst e0
    exact ih _ _ h hkf.1 b W hW hl3)
   simpa [tgB]using this
  |@rcd _ _ t fs hs hb ht h2 hf h hn hp=>
   have e:Be k=64::(k.name++[59]):=bT
   rw[P2,e]at hw
   rw[e]at hkl
   rw[Q6]at hl ⊢
   have hkf:=fun p (hp:p∈fs)=>Na hT ht cJ (Ay (hf p hp)).2
   have:=Qc1 P b _ [82] _ _ (fs.map fun p=>Dg p.2) w hw bJ (.inr (.inr rfl)) (by
    intro g hg
    obtain⟨p,hp,rfl⟩:=ay.1 hg
    exact(hkf p hp).2) aK (by rw[Qcc];rw[ah]at hl;omega) fun i hi hi2 b W hW hl3=>(by
    have hi3:i<fs.length:=by simpa using hi2
    have hm:=ae hi3
    rw[List.getElem_map]at hl3 ⊢
    rw[List.getElem_map,E5 ht (hf _ hm)]at hW
    exact ih _ _ (h _ hm) (hkf _ hm).1 b W hW hl3)
   rw[Qcc]at this
   simpa using this
def Qea(p:Gm):List Value:=[p.1,p.2]
def Rn(w0:World)(v1 v2:Value)(w:World)(m:List Gm)(mv:Value):Prop:=
 Below w0 w0 w/\w0.heap.size+1<=w.heap.size/\w.cell? (w0,0)=some v1/\w.cell? (w0,1)=some v2/\w.cell? (w0,2)=some mv/\w.there w0 0 3 /\
  w.ownsRow (w0.heap.size+1) 247 2 mv m.length (m.flatMap Qea)
structure Z9(ab:Nat)(mv:Value)(w w':World)(mv':Value):Prop where
 size:w.heap.size<=w'.heap.size
 block:∀b,b<w.heap.size->b≠ab->some b≠mv.ownBlock->w'.heap[b]?=w.heap[b]?
 own:mv'.ownBlock=mv.ownBlock\/∃k,mv'.ownBlock=some k/\w.heap.size<=k
theorem Z9.refl(ab:Nat)(mv:Value)(w:World):Z9 ab mv w w mv:=⟨Al _,fun _ _ _ _=>rfl,.inl rfl⟩
theorem Z9.trans{ab:Nat}{v1 v2 v3:Value}{a b c:World}(h:Z9 ab v1 a b v2)(k:Z9 ab v2 b c v3):Z9 ab v1 a c v3:=by
 refine⟨ad h.size k.size,fun x hx h1 h2=>(k.block x (ac hx h.size) h1 ?_).trans (h.block x hx h1 h2),?_⟩
 ·rcases h.own with e|⟨y,e,hy⟩
  ·rw[e];exact h2
  rw[e];intro he;injection he with he;omega
 rcases k.own with e|⟨y,e,hy⟩
 ·rw[e];exact h.own
 exact .inr ⟨y,e,ad h.size hy⟩
theorem Z9.cell{ab:Nat}{mv mv':Value}{w w':World}(h:Z9 ab mv w w' mv'){b o:Nat}(hb:b<w.heap.size)(h1:b≠ab)(h2:some b≠mv.ownBlock):w'.cell? ⟨b,o,none⟩=w.cell? ⟨b,o,none⟩:=World.cell?_of_block (h.block b hb h1 h2)
theorem Z9.range{ab:Nat}{mv mv':Value}{w w':World}(h:Z9 ab mv w w' mv'){b o:Nat}{cs:List Value}(hr:w.rangeAt b o cs)(hb:b<w.heap.size)(h1:b≠ab)(h2:some b≠mv.ownBlock):w'.rangeAt b o cs:=fun j v hv=>(h.cell hb h1 h2).trans (hr j v hv)
theorem Rn.size{w0 w:World}{v1 v2 mv:Value}{m:List Gm}(h:Rn w0 v1 v2 w m mv):w0.heap.size<w.heap.size:=h.2.1
theorem Rn.far{w0 w:World}{v1 v2 mv:Value}{m:List Gm}(h:Rn w0 v1 v2 w m mv):∀b,w.heap.size<=b->some b≠mv.ownBlock:=fun b hb e=>by
 have:=(h.2.2.2.2.2.2.lt b e.symm).2;omega
theorem Rn.below{w0 w w':World}{v1 v2 mv:Value}{m:List Gm}(h:Rn w0 v1 v2 w m mv)(hb:Below w w w'):Rn w0 v1 v2 w' m mv:=by
 obtain⟨h1,h2,h3,h4,h5,h6,h7⟩:=h
 exact⟨h1.trans (hb.mono aI),ad h2 hb.size,(hb.cell (p:=⟨w0.heap.size,0,none⟩) (show w0.heap.size<_ by omega)).trans h3,(hb.cell (p:=⟨w0.heap.size,1,none⟩) (show w0.heap.size<_ by omega)).trans h4,
  (hb.cell (p:=⟨w0.heap.size,2,none⟩) (show w0.heap.size<_ by omega)).trans h5,An h6 aI hb,Cr h7 hb⟩
theorem Rn.push{w0 w w5:World}{v1 v2 mv mv5:Value}{m:List Gm}{p:Gm}(h:Rn w0 v1 v2 w m mv)(hown:w5.ownsRow (w0.heap.size+1) 247 2 mv5 (m.length+1) (m.flatMap Qea++Qea p))(hg:w.grownBy w5 mv.ownBlock)
  (hwh:mv5.ownBlock=mv.ownBlock\/∃k,mv5.ownBlock=some k/\w.heap.size<=k):
  Rn w0 v1 v2 (w5.setCell ⟨w0.heap.size,2,none⟩ mv5) (m++[p]) mv5/\Z9 w0.heap.size mv w (w5.setCell ⟨w0.heap.size,2,none⟩ mv5) mv5:=by
 obtain⟨h1,h2,h3,h4,h5,h6,h7⟩:=h;have hb:Below (w0.heap.size+1) w w5:=(Aq _ _).grown hg h2 (fun k hk=>(h7.lt k hk).1);have h6':w5.there w0 0 3:=An h6 (show w0.heap.size<w0.heap.size+1 by omega) hb;have hc:∀j,j≠2->(w5.setCell ⟨w0.heap.size,2,none⟩ mv5).cell? ⟨w0.heap.size,j,none⟩=w.cell? ⟨w0.heap.size,j,none⟩:=fun j hj=>by
  rw[World.cell?_setCell_other _ _ _ _ (by intro e;injection e with e1 e2;omega)];exact hb.cell (p:=⟨w0.heap.size,j,none⟩) (show w0.heap.size<_ by omega)
 refine⟨⟨(h1.trans (hb.mono aI)).setCell (Al _) _,by simp;exact ad h2 hb.size,(hc 0 aL).trans h3,(hc 1 aL).trans h4,?_,ai h6' w0.heap.size 2 [_],?_⟩,?_⟩
 ·have:=aa w5 w0 2 [mv5] (Kz h6' 2 1 aL aL);exact(by simpa using Ab this 0 rfl:(w5.setCells w0 2 [mv5]).cell? (w0,2)=some mv5)
 ·rw[ah,List.flatMap_append];refine World.ownsRow.kept (show w5.ownsRow (w0.heap.size+1) 247 2 mv5 (m.length+[p].length) (m.flatMap Qea++[p].flatMap Qea)from by simpa using hown) (Q8 w5 _ _) (.inr (fun e=>absurd (show w0.heap.size+1<=w0.heap.size from(hown.lt _ e).1) aI))
 refine⟨by simp;exact hg.size,fun b hb h1 h2=>?_,hwh⟩;rw[Below.heap_setCell _ _ _ _ h1];exact hg.block b hb h2
theorem Eg.kid{base B:Nat}{W W':World}{h0 h1 tu tv ku kv:Value}{gs:List Nat}{xs:List (Nat × SV)}(h:Eg base B W h0 h1 tu tv ku kv gs xs){b:Nat}{y:SV}(hy:En (fun c=>W.heap.size<=c) W' b y):Pq base tv kv W' (b,y):=
 hy.mono fun c hc _=>⟨ad h.bs hc,fun e=>by have:=(h.row.lt c e).2;omega,fun e=>by have:=(h.tags.lt c e).2;omega⟩
structure Qmo(base B:Nat)(W1:World)(h0 h1 tu:Value)(A:Option Addr)(n c:Nat)(gs:List Nat)(xs:List (Nat × SV))(z:SV)(l15 l16 l17 l20:Bool)(u15 u16 u17:Value)(W:World):Prop where
 s0:l15=false->W=W1
 s1:l15=true->l16=false->∃bx,u15=.pointer (some ⟨bx,0,none⟩)/\Below W1 W1 W/\En (fun c=>W1.heap.size<=c) W bx z
 s2:l16=true->l17=false->∃W7 bx,W=W7.alloc (.cells [.pointer (some ⟨bx,0,none⟩)].toArray 76)/\u16=.slice (some ⟨W7.heap.size,0,none⟩) 1 1/\Below W1 W1 W7/\En (fun c=>W1.heap.size<=c) W7 bx z
 s3:l17=true->l20=false->∃bx A6 c6,u17=.slice A6 (xs.length+1) c6/\Eg base B W h0 h1 tu tu (.slice A n c) u17 gs (xs++[(bx,z)])/\Below base W1 W
 s4:l20=true->∃bx A6 c6,Eg base B W h0 h1 tu tu (.slice A6 (xs.length+1) c6) (.slice A6 (xs.length+1) c6) gs (xs++[(bx,z)])/\Below B W1 W/\∀b o,b<base->b≠B->W.cell? ⟨b,o,none⟩=W1.cell? ⟨b,o,none⟩
section
variable {base B n c:Nat} {W1 W W':World} {h0 h1 tu u15 u16 u17:Value} {A:Option Addr} {gs:List Nat} {xs:List (Nat × SV)} {z:SV} {l15 l16 l17 l20:Bool} {b:Nat}
theorem Qmo.start:Qmo base B W1 h0 h1 tu A n c gs xs z false false false false u15 u16 u17 W1:=
 ⟨fun _=>rfl,fun h=>Bool.noConfusion h,fun h=>Bool.noConfusion h,fun h=>Bool.noConfusion h,fun h=>Bool.noConfusion h⟩
theorem Qmo.be(h:Qmo base B W1 h0 h1 tu A n c gs xs z l15 l16 l17 l20 u15 u16 u17 W)(h17:l17=false)(hi:l16=true->l15=true):Below W1 W1 W:=by
 cases h15:l15 with
 |false=>rw[h.s0 h15];exact Aq _ _
 |true=>
  cases h16:l16 with
  |false=>exact(h.s1 h15 h16).choose_spec.2.1
  |true=>
   obtain⟨W7,bx,rfl,_,hb,_⟩:=h.s2 h16 h17;exact hb.alloc hb.size _
end
end
end Go.Proofs.YtmmhmlmfhpfgbaaGreatDoor
