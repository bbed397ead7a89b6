/- Texts joined. Conditions: as each theorem names them. -/
import Derived.Test.YtbdibdghphdcdaaGreatDoorJ35
set_option maxRecDepth 100000
set_option maxHeartbeats 32000000
set_option linter.unusedVariables false
set_option linter.unusedSimpArgs false
namespace Go.Proofs.YtbdibdghphdcdaaGreatDoor
open Go.RowKit Go.Proofs.Tryz
section
attribute [local go_sem] Qo7 Qok Qoa Ql9 ByteArray.mk_append_mk
theorem Qih(u:Value)(vs:List Fw)(n:Int)(w:World)(h:Gz w u vs)(hn:vs.length<=1048577)(hl:∀x∈vs,x.1.length<=4000000/\x.2.length<=4000000)(hlo:-9223372036854775808<=n)(hhi:n<=9223372036854775807):
  Calls prog 14 #[.agg #[u],.int .i64 n] w (Kk vs n w):=by
 have Hv:=Aa h;have Hl:=Aa hl;obtain⟨A,c,rfl,hcap,hvm,hr⟩:=h;have Hr:=Aa hr;clear hl hr;go_enter func14,ntmps14;go_wp2_with fail;obtain⟨W1,hW1⟩:∃W1,W1=(w.alloc (.cells #[.slice A vs.length c] 25)).alloc (.cells #[a6,a6] 31):=⟨_,rfl⟩
 rw[<-hW1];have hz1:W1.heap.size=w.heap.size+2:=cm;have B1:=Aa (show Below w w W1 by rw[hW1];exact((Ap _ _).alloc (An _) _).alloc aK _);have C1:=Aa (show W1.cell? (w,0)=some (.slice A vs.length c)by rw[hW1];simp[go_sem]);have T1:=Aa (show W1.there (w.heap.size+1) 0 2 by rw[hW1];have:=Bu (w.alloc (.cells #[.slice A vs.length c] 25)) [a6,a6] 31;simpa using this);clear hW1;refine(Zs _ vs _ (Hv.o.below B1.o) hn Hl.o).mono ?_;rintro e w1 ⟨rfl,hb1⟩;have hz2:=hb1.size;have C2:=Aa ((hb1.cell (p:=⟨w.heap.size,0,none⟩) (show w.heap.size<W1.heap.size by omega)).trans C1.o);have T2:=Aa (Aj T1.o aH hb1);have B2:=Aa (B1.o.trans (hb1.mono aH));clear hb1;have c2:=C2.o;cases hok:N4 vs with
 |false=>
  have HN:=Aa (Qh5 (n:=n) hok);clear hok;go_wp2_with ((with_reducible refine Ad (op:=⟨none,.store 31 _ _,_,_,_,none⟩) rfl 31 _ _ rfl (w.heap.size+1) 0 [a6,a6] ?_ ?_ ?_ ?_ ?_ ?_);rfl;rfl;(exact T2.o);kernel_rfl;(simp[Value.oneCell']);intro w9 HS9)
  have HZ:=(by rw[HS9.o];exact aa _ _ _ _ T2.o:w9.rangeAt (w.heap.size+1) 0 [a6,a6])
  refine aF (v:=.tuple #[.agg ([a6,a6]:List Value).toArray,.bool false]) (Am results14 _ _ (w.heap.size+1) _ _ _ rfl rfl HZ underlying31 rfl aL) rfl ?_;exact mz
 |true=>
  have HOK:=Aa hok;clear hok;go_wp2_with fail;refine(Qd1 _ _ _ _).mono ?_;rintro e w7 ⟨rfl,rfl⟩;by_cases hin:1<=n/\n<=(vs.length:Int)
  ·obtain⟨k,rfl,hk⟩:∃k:Nat,n=(k:Int)+1/\k<vs.length:=⟨(n - 1).toNat,by omega,by omega⟩
   have HA:=Aa (Qkg HOK.o hk);obtain⟨b,off,rfl,hbl,x0,x1⟩:=Gz.at_ (Hr.o.below B2.o) hk;have Hxv:=@Aa (Cf vs k=vs[k]) (Eg hk);generalize vs[k]=x at x0 x1 Hxv;have t1:(decide ((1:Int)<=(k:Int)+1) && decide ((k:Int)+1<=(vs.length:Int)))=true:=aM;have hcap2:(k:Int)<(c:Int):=aH;go_wp2_with ((with_reducible refine Ad (op:=⟨none,.store 31 _ _,_,_,_,none⟩) rfl 31 _ _ rfl (w.heap.size+1) 0 [x.1,x.2] ?_ ?_ ?_ ?_ ?_ ?_);rfl;rfl;(exact T2.o);kernel_rfl;(simp[Value.oneCell']);intro w9 HS9)
   have HZ:=(by rw[HS9.o];exact aa _ _ _ _ T2.o:w9.rangeAt (w.heap.size+1) 0 [x.1,x.2])
   refine aF (v:=.tuple #[.agg ([x.1,x.2]:List Value).toArray,.bool true]) (Am results14 _ _ (w.heap.size+1) _ _ _ rfl rfl HZ underlying31 rfl aL) rfl ?_;exact mA
  have HN:=Aa (Qhm hin);have t1:(decide ((1:Int)<=n) && decide (n<=(vs.length:Int)))=false:=aM;go_wp2_with ((with_reducible refine Ad (op:=⟨none,.store 31 _ _,_,_,_,none⟩) rfl 31 _ _ rfl (w.heap.size+1) 0 [a6,a6] ?_ ?_ ?_ ?_ ?_ ?_);rfl;rfl;(exact T2.o);kernel_rfl;(simp[Value.oneCell']);intro w9 HS9)
  have HZ:=(by rw[HS9.o];exact aa _ _ _ _ T2.o:w9.rangeAt (w.heap.size+1) 0 [a6,a6])
  refine aF (v:=.tuple #[.agg ([a6,a6]:List Value).toArray,.bool false]) (Am results14 _ _ (w.heap.size+1) _ _ _ rfl rfl HZ underlying31 rfl aL) rfl ?_;exact mz
theorem Qdq(s d x:List UInt8)(w:World)(hs:s.length<=4000000)(hd:d.length<=4000000)(hx:x.length<=4000000):
  Calls prog 15 #[s,d,x] w (fun e w'=>e=.returned (.bool (No (At s d) x).isSome)/\Below w w w'):=by
 have H:=Aa (fun W=>Qnq s d x W hs hd hx)
 have H2:=Aa (show ∀W,Calls prog 27 #[s,d,x] W fun e w'=>(∃v q,e=.returned (.tuple #[v,.pointer q,.bool (No (At s d) x).isSome]))/\Below W W w' from fun W=>(H.o W).mono fun e w1 ⟨hb1,hm⟩=>⟨by
  unfold No;cases hb:At s d with
  |none=>rw[hb]at hm;exact hm
  |some y=>
   rw[hb]at hm;simp only at hm ⊢;cases hv:Gd y.1 y.2 x with
   |none=>rw[hv]at hm;exact hm
   |some z=>rw[hv]at hm;obtain⟨xv,_,b,he,_⟩:=hm;exact⟨xv,_,he⟩,hb1⟩)
 clear H;generalize (No (At s d) x).isSome=ok at *;go_enter func15,ntmps15;go_wp2_with fail;refine(H2.o _).mono ?_;rintro e w1 ⟨⟨v,q,rfl⟩,hb1⟩;have Hb1:=Aa hb1;clear hb1;go_wp2_with fail;exact lk
theorem Qjd(u:Value)(vs:List Fw)(n:Int)(x:List UInt8)(w:World)(h:Gz w u vs)(hn:vs.length<=1048577)(hl:∀y∈vs,y.1.length<=4000000/\y.2.length<=4000000)(hlo:-9223372036854775808<=n)(hhi:n<=9223372036854775807)(hx:x.length<=4000000):
  Calls prog 6 #[.agg #[u],.int .i64 n,x] w (Qhi (J2 vs n x) w):=by
 have Hv:=Aa h;have Hl:=Aa hl;have Ha:=Aa (fun W (hW:Gz W u vs)=>Qih u vs n W hW hn hl hlo hhi);obtain⟨A,c,rfl,hcap,hvm,hr⟩:=h;have Hr:=Aa hr;clear hl hr;go_enter func6,ntmps6;go_wp2_with fail;obtain⟨W1,hW1⟩:∃W1,W1=w.alloc (.cells #[.slice A vs.length c] 25):=⟨_,rfl⟩
 rw[<-hW1];have hz1:W1.heap.size=w.heap.size+1:=cm;have B1:=Aa (show Below w w W1 by rw[hW1];exact(Ap _ _).alloc (An _) _);have C1:=Aa (show W1.cell? (w,0)=some (.slice A vs.length c)by rw[hW1];simp[go_sem]);clear hW1;refine(Ha.o W1 (Hv.o.below B1.o)).mono ?_;rintro e w2 ⟨a,b,rfl,hab,hb2⟩;have hz2:=hb2.size;have C2:=Aa ((hb2.cell (p:=⟨w.heap.size,0,none⟩) (show w.heap.size<W1.heap.size by omega)).trans C1.o);have B2:=Aa (B1.o.trans (hb2.mono aH));clear hb2;obtain⟨W3,hW3⟩:∃W3,W3=w2.alloc (.cells #[.string a,.string b] 31):=⟨_,rfl⟩
 have hz3:W3.heap.size=w2.heap.size+1:=ee;have b3:Below w2 w2 W3:=dg;have B3:=Aa (B2.o.trans (b3.mono B2.o.size));have C3:=Aa ((b3.cell (p:=⟨w.heap.size,0,none⟩) (show w.heap.size<w2.heap.size by omega)).trans C2.o);have T3:=Aa (show W3.there w2 0 2 by rw[hW3];exact Bu w2 [.string a,.string b] 31);have R3:=Aa (show W3.rangeAt w2 0 [.string a,.string b]by rw[hW3];exact Bk w2 [.string a,.string b] 31);have HW3:=Aa hW3;clear b3 hW3;cases hat:atL vs n with
 |none=>
  have HN:=Aa (show J2 vs n x=none by unfold J2;rw[hat]);clear hat hab;go_wp2_with fail;rw[<-HW3.o];refine aF (v:=.tuple #[a6,.bool false]) (by simp[results,results6,go_sem]) rfl ?_;exact⟨by rw[HN.o];rfl,B3.o⟩
 |some v=>
  obtain⟨rfl,rfl⟩:=hab v hat;have HP:=Aa (show J2 vs n x=if (No (At v.1 v.2) x).isSome=true then goP v (vs.drop n.toNat) x else none by unfold J2;rw[hat]);obtain⟨_,k0,rfl,hk0,hv0⟩:=Ze hat;have hlv:v.1.length<=4000000/\v.2.length<=4000000:=Hl.o v (by rw[hv0,Eg hk0];exact ae hk0);have Hvo:=Aa (fun W=>Qdq v.1 v.2 x W hlv.1 hlv.2 hx);have HV0:=Aa hv0;clear hat hab hlv hv0;generalize (No (At v.1 v.2) x).isSome=ok at *;go_wp2_with fail;rw[<-HW3.o];refine(Hvo.o W3).mono ?_;rintro e w4 ⟨rfl,hb4⟩;have hz4:=hb4.size;have B4:=Aa (B3.o.trans (hb4.mono B3.o.size));have C4:=Aa ((hb4.cell (p:=⟨w.heap.size,0,none⟩) (show w.heap.size<W3.heap.size by omega)).trans C3.o);have T4:=Aa (Aj T3.o aH hb4);have R4:=Aa (Ah R3.o aH hb4);clear hb4 R3 T3 C3 HW3;cases ok with
  |false=>
   have HN:=@Aa (J2 vs ((k0:Int)+1) x=none) HP.o;go_wp2_with fail;refine aF (v:=.tuple #[a6,.bool false]) (by simp[results,results6,go_sem]) rfl ?_;exact⟨by rw[HN.o];rfl,B4.o⟩
  |true=>
   have HN:=@Aa (J2 vs ((k0:Int)+1) x=goP v (vs.drop (k0+1)) x) (HP.o.trans (by rw[if_pos rfl];rfl));clear HP;generalize J2 vs ((k0:Int)+1) x=res at *;have c4:=C4.o;have hcap0:(k0:Int)+1<=(c:Int):=aH;have hcap1:(k0:Int)+1<=(vs.length:Int):=aH;have hlc:(vs.length:Int)<=(c:Int):=aH;go_wp2_with fail;go_loopw [2,10] (fun q1 q2 wr=>∃(i:Nat) (s:List UInt8),q1=s/\q2=(i:Int)/\k0+1<=i/\i<=vs.length/\s.length<=4000000/\Hid (res=goP (Cf vs (i - 1)) (vs.drop (i)) s)/\Hid (Below w w wr)/\w2.heap.size<wr.heap.size/\Hid (wr.cell? (w,0)=some (.slice A vs.length c))/\Hid (wr.there w2 0 2)/\Hid (wr.rangeAt w2 0 [.string ⟨(Cf vs (i - 1)).1.toArray⟩,.string ⟨(Cf vs (i - 1)).2.toArray⟩])) (fun _ q _=>vs.length - (intOf q).toNat)
   case atStart=>
    exact⟨k0+1,x,rfl,by go_num,An _,hk0,hx,by rw[Nat.add_sub_cancel,<-HV0.o];exact HN.o,B4.o,by omega,C4.o,T4.o,by rw[Nat.add_sub_cancel,<-HV0.o];exact R4.o⟩
   case round=>
    obtain⟨i,s,rfl,rfl,hik,hi,hsl,hinv,hb,hszr,hc,hT,hR⟩:=hrel;have i1:(0:Int)<=(i:Int):=aH;have hc0:=hc.o;by_cases hlt:i<vs.length
    ·have i2:(i:Int)<(vs.length:Int):=aH;obtain⟨bb,off,eA,hbl,x0,x1⟩:=Gz.at_ (Hr.o.below hb.o) hlt;have Hx:=@Aa (Cf vs (i)=vs[i]) (Eg hlt);have hxl:=Hl.o _ (ae hlt);have hyl:(Cf vs (i - 1)).1.length<=4000000/\(Cf vs (i - 1)).2.length<=4000000:=Hl.o _ gK;have Hgo':=Aa (Qfj (v:=Cf vs (i - 1)) (s:=s) hlt);rw[Hx.o]at Hgo';generalize vs[i]=y at x0 x1 hxl Hx Hgo';generalize hz:Cf vs (i - 1)=z at hyl hR Hgo' hinv;have Hlf:=Aa (fun W=>Qen y.1 y.2 z.1 z.2 s W hxl.1 hxl.2 hyl.1 hyl.2 hsl);have Hgood:=Aa (fun r (h:Fz (At y.1 y.2) (At z.1 z.2) s=some r)=>V7 h);generalize Fz (At y.1 y.2) (At z.1 z.2) s=o at *;have z0:=Ab hR.o 0 rfl;have z1:=Ab hR.o 1 rfl;simp only[am]at z0 z1;subst eA;have hz8:w2.heap.size<wr.heap.size:=hszr;have hz8n:¬(w2.heap.size=wr.heap.size):=aH;clear hxl hyl hz;go_wp2_with fail;refine(Hlf.o _).mono ?_;rintro e w5 ⟨rfl,hb5⟩;have hz5:=hb5.size;simp at hz5;have b5:Below wr wr w5:=((Ap _ _).alloc (An _) _).trans (hb5.mono aK);have B5:=Aa (hb.o.trans (b5.mono hb.o.size));have C5:=Aa ((b5.cell (p:=⟨w.heap.size,0,none⟩) (show w.heap.size<wr.heap.size by omega)).trans hc.o);have T5:=Aa (Aj hT.o hszr b5);have Y5:=Aa (Ah (Bk wr [y.1,y.2] 31) aK hb5);have y0:=Ab Y5.o 0 rfl;have y1:=Ab Y5.o 1 rfl;simp only[am]at y0 y1;clear hb5 b5 x0 x1 z0 z1 hc0;cases o with
     |none=>
      have HE:=Aa (show res=none by rw[hinv.o];exact Hgo'.out);simp only[Qgk,Option.isSome_none];go_wp2_with fail;refine aF (v:=.tuple #[a6,.bool false]) (by simp[results,results6,go_sem]) rfl ?_;exact⟨by rw[HE.o];rfl,B5.o⟩
     |some r=>
      have HE:=Aa (show res=goP y (vs.drop (i+1)) (Bc r.1)by rw[hinv.o];exact Hgo'.out);have hrl:(Bc r.1).length<=4000000:=ad (Hgood.o r rfl) aH;simp only[Qgk,Option.isSome_some];generalize Bc r.1=s2 at *;go_wp2_with ((with_reducible refine Ad (op:=⟨none,.store 31 _ _,_,_,_,none⟩) rfl 31 _ _ rfl w2 0 [y.1,y.2] ?_ ?_ ?_ ?_ ?_ ?_);rfl;rfl;(exact T5.o);kernel_rfl;(simp[Value.oneCell']);intro w9 HS9)
      go_roundw
      case rel=>
       refine⟨i+1,s2,rfl,by go_num,by omega,by omega,hrl,?_,?_,?_,?_,?_,?_⟩
       ·rw[show i+1 - 1=i by omega,Hx.o];exact HE.o
       ·rw[HS9.o];exact Ai _ aH _ _ _ B5.o
       ·rw[HS9.o,Ce];omega
       ·rw[HS9.o];exact Zy C5.o aH
       ·rw[HS9.o];exact ai T5.o _ _ _
       ·rw[HS9.o,show i+1 - 1=i by omega,Hx.o];exact aa _ _ _ _ T5.o
      case measure=>simp[intOf];omega
    ·have i2:¬(i:Int)<(vs.length:Int):=aH;have HE:=Aa (show res=some s by rw[hinv.o];exact Qcn aH);go_wp2_with fail;refine aF (v:=.tuple #[s,.bool true]) (by simp[results,results6,go_sem]) rfl ?_;exact⟨by rw[HE.o];rfl,hb.o⟩
end
end Go.Proofs.YtbdibdghphdcdaaGreatDoor
