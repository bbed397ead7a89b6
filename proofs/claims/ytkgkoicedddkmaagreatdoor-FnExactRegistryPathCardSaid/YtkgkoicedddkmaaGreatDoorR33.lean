/- Texts joined. Conditions: as each theorem names them. -/
import Derived.Test.YtkgkoicedddkmaaGreatDoorR32
set_option maxRecDepth 100000
set_option maxHeartbeats 32000000
set_option linter.unusedVariables false
set_option linter.unusedSimpArgs false
namespace Go.Proofs.YtkgkoicedddkmaaGreatDoor
open Go.RowKit Go.Proofs.Tryz
section
attribute [local go_sem] Qiz Qii Qib Qgw ByteArray.mk_append_mk
theorem Qj9(u:Value)(vs:List Ver)(n:Int)(w:World)(h:Qhb w u vs)(hn:vs.length<=1048577)(hl:∀x∈vs,x.1.length<=4000000/\x.2.length<=4000000)(hlo:-9223372036854775808<=n)(hhi:n<=9223372036854775807):
  Calls prog 19 #[.agg #[u],.int .i64 n] w (Qh6 vs n w):=by
 have Hv:=Aa h;have Hl:=Aa hl;obtain⟨A,c,rfl,hcap,hvm,hr⟩:=h;have Hr:=Aa hr;clear hl hr;go_enter func19,ntmps19;go_wp2_with fail;obtain⟨W1,hW1⟩:∃W1,W1=(w.alloc (.cells #[.slice A vs.length c] 34)).alloc (.cells #[a8,a8] 46):=⟨_,rfl⟩
 rw[<-hW1];have hz1:W1.heap.size=w.heap.size+2:=cS;have B1:=Aa (show Below w w W1 by rw[hW1];exact((Aq _ _).alloc (Ap _) _).alloc aL _);have C1:=Aa (show W1.cell? (w,0)=some (.slice A vs.length c)by rw[hW1];simp[go_sem]);have T1:=Aa (show W1.there (w.heap.size+1) 0 2 by rw[hW1];have:=Cc (w.alloc (.cells #[.slice A vs.length c] 34)) [a8,a8] 46;simpa using this);clear hW1;refine(Qjy _ vs _ (Hv.o.below B1.o) hn Hl.o).mono ?_;rintro e w1 ⟨rfl,hb1⟩;have hz2:=hb1.size;have C2:=Aa ((hb1.cell (p:=⟨w.heap.size,0,none⟩) (show w.heap.size<W1.heap.size by omega)).trans C1.o);have T2:=Aa (Al T1.o aH hb1);have B2:=Aa (B1.o.trans (hb1.mono aH));clear hb1;have c2:=C2.o;cases hok:Qij vs with
 |false=>
  have HN:=Aa (Qj2 (n:=n) hok);clear hok;go_wp2_with ((with_reducible refine Ad (op:=⟨none,.store 46 _ _,_,_,_,none⟩) rfl 46 _ _ rfl (w.heap.size+1) 0 [a8,a8] ?_ ?_ ?_ ?_ ?_ ?_);rfl;rfl;(exact T2.o);kernel_rfl;(simp[Value.oneCell']);intro w9 HS9)
  have HZ:=(by rw[HS9.o];exact aa _ _ _ _ T2.o:w9.rangeAt (w.heap.size+1) 0 [a8,a8])
  refine aF (v:=.tuple #[.agg ([a8,a8]:List Value).toArray,.bool false]) (Ao results19 _ _ (w.heap.size+1) _ _ _ rfl rfl HZ underlying46 rfl aO) rfl ?_;exact Qh6.no HN.o rfl bN
 |true=>
  have HOK:=Aa hok;clear hok;go_wp2_with fail;refine(Qfs _ _ _ _).mono ?_;rintro e w7 ⟨rfl,rfl⟩;by_cases hin:1<=n/\n<=(vs.length:Int)
  ·obtain⟨k,rfl,hk⟩:∃k:Nat,n=(k:Int)+1/\k<vs.length:=⟨(n - 1).toNat,by omega,by omega⟩
   have HA:=Aa (Qkc HOK.o hk);obtain⟨b,off,rfl,hbl,x0,x1⟩:=Qhb.at_ (Hr.o.below B2.o) hk;have Hxv:=@Aa (Qca vs k=vs[k]) (Qgx hk);generalize vs[k]=x at x0 x1 Hxv;have t1:(decide ((1:Int)<=(k:Int)+1) && decide ((k:Int)+1<=(vs.length:Int)))=true:=aM;have hcap2:(k:Int)<(c:Int):=aH;go_wp2_with ((with_reducible refine Ad (op:=⟨none,.store 46 _ _,_,_,_,none⟩) rfl 46 _ _ rfl (w.heap.size+1) 0 [x.1,x.2] ?_ ?_ ?_ ?_ ?_ ?_);rfl;rfl;(exact T2.o);kernel_rfl;(simp[Value.oneCell']);intro w9 HS9)
   have HZ:=(by rw[HS9.o];exact aa _ _ _ _ T2.o:w9.rangeAt (w.heap.size+1) 0 [x.1,x.2])
   refine aF (v:=.tuple #[.agg ([x.1,x.2]:List Value).toArray,.bool true]) (Ao results19 _ _ (w.heap.size+1) _ _ _ rfl rfl HZ underlying46 rfl aO) rfl ?_;exact Qh6.yes (HA.o.trans (congrArg some Hxv.o)) rfl bN
  have HN:=Aa (Qj1 hin);have t1:(decide ((1:Int)<=n) && decide (n<=(vs.length:Int)))=false:=aM;go_wp2_with ((with_reducible refine Ad (op:=⟨none,.store 46 _ _,_,_,_,none⟩) rfl 46 _ _ rfl (w.heap.size+1) 0 [a8,a8] ?_ ?_ ?_ ?_ ?_ ?_);rfl;rfl;(exact T2.o);kernel_rfl;(simp[Value.oneCell']);intro w9 HS9)
  have HZ:=(by rw[HS9.o];exact aa _ _ _ _ T2.o:w9.rangeAt (w.heap.size+1) 0 [a8,a8])
  refine aF (v:=.tuple #[.agg ([a8,a8]:List Value).toArray,.bool false]) (Ao results19 _ _ (w.heap.size+1) _ _ _ rfl rfl HZ underlying46 rfl aO) rfl ?_;exact Qh6.no HN.o rfl bN
theorem Qjj(s d x:List UInt8)(w:World)(hs:s.length<=4000000)(hd:d.length<=4000000)(hx:x.length<=4000000):
  Calls prog 20 #[s,d,x] w (fun e w'=>e=.returned (.bool (Qiq (Bn s d) x).isSome)/\Below w w w'):=by
 have H:=Aa (fun W=>Qio s d x W hs hd hx)
 have H2:=Aa (show ∀W,Calls prog 26 #[s,d,x] W fun e w'=>(∃v q,e=.returned (.tuple #[v,.pointer q,.bool (Qiq (Bn s d) x).isSome]))/\Below W W w' from fun W=>(H.o W).mono fun e w1 ⟨hb1,hm⟩=>⟨by
  unfold Qiq;cases hb:Bn s d with
  |none=>rw[hb]at hm;exact hm
  |some y=>
   rw[hb]at hm;simp only at hm ⊢;cases hv:G7 y.1 y.2 x with
   |none=>rw[hv]at hm;exact hm
   |some z=>rw[hv]at hm;obtain⟨xv,_,b,he,_⟩:=hm;exact⟨xv,_,he⟩,hb1⟩)
 clear H;generalize (Qiq (Bn s d) x).isSome=ok at *;go_enter func20,ntmps20;go_wp2_with fail;refine(H2.o _).mono ?_;rintro e w1 ⟨⟨v,q,rfl⟩,hb1⟩;have Hb1:=Aa hb1;clear hb1;go_wp2_with fail;go_ret;exact⟨rfl,Hb1.o⟩
theorem Qj7(u:Value)(vs:List Ver)(n:Int)(x:List UInt8)(w:World)(h:Qhb w u vs)(hn:vs.length<=1048577)(hl:∀y∈vs,y.1.length<=4000000/\y.2.length<=4000000)(hlo:-9223372036854775808<=n)(hhi:n<=9223372036854775807)(hx:x.length<=4000000):
  Calls prog 11 #[.agg #[u],.int .i64 n,x] w (Qkf (Qhy vs n x) w):=by
 have Hv:=Aa h;have Hl:=Aa hl;have Ha:=Aa (fun W (hW:Qhb W u vs)=>Qj9 u vs n W hW hn hl hlo hhi);obtain⟨A,c,rfl,hcap,hvm,hr⟩:=h;have Hr:=Aa hr;clear hl hr;go_enter func11,ntmps11;go_wp2_with fail;obtain⟨W1,hW1⟩:∃W1,W1=w.alloc (.cells #[.slice A vs.length c] 34):=⟨_,rfl⟩
 rw[<-hW1];have hz1:W1.heap.size=w.heap.size+1:=cS;have B1:=Aa (show Below w w W1 by rw[hW1];exact(Aq _ _).alloc (Ap _) _);have C1:=Aa (show W1.cell? (w,0)=some (.slice A vs.length c)by rw[hW1];simp[go_sem]);clear hW1;refine(Ha.o W1 (Hv.o.below B1.o)).mono ?_;rintro e w2 ⟨a,b,rfl,hab,hb2⟩;have hz2:=hb2.size;have C2:=Aa ((hb2.cell (p:=⟨w.heap.size,0,none⟩) (show w.heap.size<W1.heap.size by omega)).trans C1.o);have B2:=Aa (B1.o.trans (hb2.mono aH));clear hb2;obtain⟨W3,hW3⟩:∃W3,W3=w2.alloc (.cells #[.string a,.string b] 46):=⟨_,rfl⟩
 have hz3:W3.heap.size=w2.heap.size+1:=by rw[hW3];simp
 have b3:Below w2 w2 W3:=cX;have B3:=Aa (B2.o.trans (b3.mono B2.o.size));have C3:=Aa ((b3.cell (p:=⟨w.heap.size,0,none⟩) (show w.heap.size<w2.heap.size by omega)).trans C2.o);have T3:=Aa (show W3.there w2 0 2 by rw[hW3];exact Cc w2 [.string a,.string b] 46);have R3:=Aa (show W3.rangeAt w2 0 [.string a,.string b]by rw[hW3];exact Bw w2 [.string a,.string b] 46);have HW3:=Aa hW3;clear b3 hW3;cases hat:atL vs n with
 |none=>
  have HN:=Aa (show Qhy vs n x=none by unfold Qhy;rw[hat]);clear hat hab;go_wp2_with fail;rw[<-HW3.o];refine aF (v:=.tuple #[a8,.bool false]) (by simp[results,results11,go_sem]) rfl ?_;exact⟨by rw[HN.o];rfl,B3.o⟩
 |some v=>
  obtain⟨rfl,rfl⟩:=hab v hat;have HP:=Aa (show Qhy vs n x=if (Qiq (Bn v.1 v.2) x).isSome=true then goP v (vs.drop n.toNat) x else none by unfold Qhy;rw[hat]);obtain⟨_,k0,rfl,hk0,hv0⟩:=Qjp hat;have hlv:v.1.length<=4000000/\v.2.length<=4000000:=Hl.o v (by rw[hv0,Qgx hk0];exact ae hk0);have Hvo:=Aa (fun W=>Qjj v.1 v.2 x W hlv.1 hlv.2 hx);have HV0:=Aa hv0;clear hat hab hlv hv0;generalize (Qiq (Bn v.1 v.2) x).isSome=ok at *;go_wp2_with fail;rw[<-HW3.o];refine(Hvo.o W3).mono ?_;rintro e w4 ⟨rfl,hb4⟩;have hz4:=hb4.size;have B4:=Aa (B3.o.trans (hb4.mono B3.o.size));have C4:=Aa ((hb4.cell (p:=⟨w.heap.size,0,none⟩) (show w.heap.size<W3.heap.size by omega)).trans C3.o);have T4:=Aa (Al T3.o aH hb4);have R4:=Aa (Aj R3.o aH hb4);clear hb4 R3 T3 C3 HW3;cases ok with
  |false=>
   have HN:=@Aa (Qhy vs ((k0:Int)+1) x=none) HP.o;go_wp2_with fail;refine aF (v:=.tuple #[a8,.bool false]) (by simp[results,results11,go_sem]) rfl ?_;exact⟨by rw[HN.o];rfl,B4.o⟩
  |true=>
   have HN:=@Aa (Qhy vs ((k0:Int)+1) x=goP v (vs.drop (k0+1)) x) (HP.o.trans (by rw[if_pos rfl];rfl));clear HP;generalize Qhy vs ((k0:Int)+1) x=res at *;have c4:=C4.o;have hcap0:(k0:Int)+1<=(c:Int):=aH;have hcap1:(k0:Int)+1<=(vs.length:Int):=aH;have hlc:(vs.length:Int)<=(c:Int):=aH;go_wp2_with fail;go_loopw [2,10] (fun q1 q2 wr=>∃(i:Nat) (s:List UInt8),q1=s/\q2=(i:Int)/\k0+1<=i/\i<=vs.length/\s.length<=4000000/\Hid (res=goP (Qca vs (i - 1)) (vs.drop (i)) s)/\Hid (Below w w wr)/\w2.heap.size<wr.heap.size/\Hid (wr.cell? (w,0)=some (.slice A vs.length c))/\Hid (wr.there w2 0 2)/\Hid (wr.rangeAt w2 0 [.string ⟨(Qca vs (i - 1)).1.toArray⟩,.string ⟨(Qca vs (i - 1)).2.toArray⟩])) (fun _ q _=>vs.length - (intOf q).toNat)
   case atStart=>
    exact⟨k0+1,x,rfl,by go_num,Ap _,hk0,hx,by rw[Nat.add_sub_cancel,<-HV0.o];exact HN.o,B4.o,by omega,C4.o,T4.o,by rw[Nat.add_sub_cancel,<-HV0.o];exact R4.o⟩
   case round=>
    obtain⟨i,s,rfl,rfl,hik,hi,hsl,hinv,hb,hszr,hc,hT,hR⟩:=hrel;have i1:(0:Int)<=(i:Int):=aH;have hc0:=hc.o;by_cases hlt:i<vs.length
    ·have i2:(i:Int)<(vs.length:Int):=aH;obtain⟨bb,off,eA,hbl,x0,x1⟩:=Qhb.at_ (Hr.o.below hb.o) hlt;have Hx:=@Aa (Qca vs (i)=vs[i]) (Qgx hlt);have hxl:=Hl.o _ (ae hlt);have hyl:(Qca vs (i - 1)).1.length<=4000000/\(Qca vs (i - 1)).2.length<=4000000:=Hl.o _ ge;have Hgo':=Aa (Qjo (v:=Qca vs (i - 1)) (s:=s) hlt);rw[Hx.o]at Hgo';generalize vs[i]=y at x0 x1 hxl Hx Hgo';generalize hz:Qca vs (i - 1)=z at hyl hR Hgo' hinv;have Hlf:=Aa (fun W=>Qa9 y.1 y.2 z.1 z.2 s W hxl.1 hxl.2 hyl.1 hyl.2 hsl);have Hgood:=Aa (fun r (h:Fj (Bn y.1 y.2) (Bn z.1 z.2) s=some r)=>Qjf h);generalize Fj (Bn y.1 y.2) (Bn z.1 z.2) s=o at *;have z0:=Ab hR.o 0 rfl;have z1:=Ab hR.o 1 rfl;simp only[am]at z0 z1;subst eA;have hz8:w2.heap.size<wr.heap.size:=hszr;have hz8n:¬(w2.heap.size=wr.heap.size):=aH;clear hxl hyl hz;go_wp2_with fail;refine(Hlf.o _).mono ?_;rintro e w5 ⟨rfl,hb5⟩;have hz5:=hb5.size;simp at hz5;have b5:Below wr wr w5:=((Aq _ _).alloc (Ap _) _).trans (hb5.mono aL);have B5:=Aa (hb.o.trans (b5.mono hb.o.size));have C5:=Aa ((b5.cell (p:=⟨w.heap.size,0,none⟩) (show w.heap.size<wr.heap.size by omega)).trans hc.o);have T5:=Aa (Al hT.o hszr b5);have Y5:=Aa (Aj (Bw wr [y.1,y.2] 46) aL hb5);have y0:=Ab Y5.o 0 rfl;have y1:=Ab Y5.o 1 rfl;simp only[am]at y0 y1;clear hb5 b5 x0 x1 z0 z1 hc0;cases o with
     |none=>
      have HE:=Aa (show res=none by rw[hinv.o];exact Hgo'.out);simp only[Qhf,Option.isSome_none];go_wp2_with fail;refine aF (v:=.tuple #[a8,.bool false]) (by simp[results,results11,go_sem]) rfl ?_;exact⟨by rw[HE.o];rfl,B5.o⟩
     |some r=>
      have HE:=Aa (show res=goP y (vs.drop (i+1)) (Bc r.1)by rw[hinv.o];exact Hgo'.out);have hrl:(Bc r.1).length<=4000000:=ad (Hgood.o r rfl) aH;simp only[Qhf,Option.isSome_some];generalize Bc r.1=s2 at *;go_wp2_with ((with_reducible refine Ad (op:=⟨none,.store 46 _ _,_,_,_,none⟩) rfl 46 _ _ rfl w2 0 [y.1,y.2] ?_ ?_ ?_ ?_ ?_ ?_);rfl;rfl;(exact T5.o);kernel_rfl;(simp[Value.oneCell']);intro w9 HS9)
      go_roundw
      case rel=>
       refine⟨i+1,s2,rfl,by go_num,by omega,by omega,hrl,?_,?_,?_,?_,?_,?_⟩
       ·rw[show i+1 - 1=i by omega,Hx.o];exact HE.o
       ·rw[HS9.o];exact Ag _ aH _ _ _ B5.o
       ·rw[HS9.o,B6];omega
       ·rw[HS9.o];exact Qi5 C5.o aH
       ·rw[HS9.o];exact ai T5.o _ _ _
       ·rw[HS9.o,show i+1 - 1=i by omega,Hx.o];exact aa _ _ _ _ T5.o
      case measure=>simp[intOf];omega
    ·have i2:¬(i:Int)<(vs.length:Int):=aH;have HE:=Aa (show res=some s by rw[hinv.o];exact Qjk aH);go_wp2_with fail;refine aF (v:=.tuple #[s,.bool true]) (by simp[results,results11,go_sem]) rfl ?_;exact⟨by rw[HE.o];rfl,hb.o⟩
end
end Go.Proofs.YtkgkoicedddkmaaGreatDoor
