/- Texts joined. Conditions: as each theorem names them. -/
import Derived.Test.YtkigmebejmmikaaGreatDoorG05
set_option maxRecDepth 100000
set_option maxHeartbeats 32000000
set_option linter.unusedVariables false
set_option linter.unusedSimpArgs false
namespace Go.Proofs.YtkigmebejmmikaaGreatDoor
open Go.RowKit Go.Proofs.Tryz
section
attribute [local go_sem] Qjy Qiu Qil Qgp ByteArray.mk_append_mk
def sfR:Option Fd->Value
 |some f=>.tuple #[sfV f,.bool true]
 |none=>.tuple #[sf0,.bool false]
theorem Qb5(st nm fv:Value)(fs:List Fd)(n:Nat)(w:World)(h:Fc w fv fs)(hn:n<=1000000000):
  Calls prog 68 #[.agg #[st,nm,fv],.int .i64 n] w fun e w'=>e=.returned (sfR (Bp fs n))/\Below w w w':=by
 obtain⟨A,c,rfl,hl,hr⟩:=h;have Hr:=Aa hr;clear hr;go_enter func68,ntmps68;go_wp2_with fail;go_loopw [6] (fun i wr=>∃k:Nat,i=.int .i64 k/\k<=fs.length/\wr=(w.alloc (.cells #[st,nm,.slice A fs.length c] 95)).alloc (.cells #[.int .i64 0,a8,a8,a8] 118)/\Hid (∀f∈fs.take k,decide (f.tag=n)=false)) (fun i _=>fs.length - (intOf i).toNat)
 case atStart=>exact⟨0,rfl,af _,rfl,by intro f hf;simp at hf⟩
 case round=>
  obtain⟨k,rfl,hk,rfl,hin⟩:=hrel;by_cases hlt:k<fs.length
  ·obtain⟨b,off,rfl,hb,c0,c1,c2,c3⟩:=Fc.at_ Hr.o hlt;have Hts:=Aa (Bx fs k hlt);have Hft:=Aa (Pk (p:=fun f=>decide (f.tag=n)) hlt hin.o);generalize fs[k]=f at c0 c1 c2 c3 Hts Hft;have k1:(0:Int)<=(k:Int):=aE;have k2:(k:Int)<(fs.length:Int):=aE;by_cases he:f.tag=n
   ·have t1:((f.tag:Int) == (n:Int))=true:=by simp[he]
    have Hfin:=Aa (show Bp fs n=some f by unfold Bp;rw[Hft.o,if_pos cu]);clear he;go_wp2_with fail;exact aC (v:=.tuple #[sfV f,.bool true]) (by simp[results,results68,go_sem,sfV]) rfl ⟨by rw[Hfin.o];rfl,((Ay _ _).alloc (As _) _).alloc aI _⟩
   have t1:((f.tag:Int) == (n:Int))=false:=bK
   have Hin:=Aa (show ∀g∈fs.take (k+1),decide (g.tag=n)=false by
    intro g hg;rw[Hts.o]at hg;rcases ae.1 hg with hg|hg
    ·exact gZ
    simp at hg;subst hg;simpa using he)
   clear he;go_wp2_with fail;go_roundw
   case rel=>exact⟨k+1,by go_num,by omega,Ad,Hin.o⟩
   case measure=>simp[intOf];omega
  ·have Hfin:=@Aa (Bp fs n=none) (Ji (fun f hf=>hin.o f cv));go_wp2_with fail;exact aC (v:=.tuple #[sf0,.bool false]) (by simp[results,results68,go_sem,sf0]) rfl ⟨by rw[Hfin.o];rfl,((Ay _ _).alloc (As _) _).alloc aI _⟩
def Sv:Option (Ty × Value)->Value
 |some x=>.tuple #[Qd x.1 x.2,.bool true]
 |none=>.tuple #[Nn,.bool false]
theorem Rg(v:Value)(xs:List (Ty × Value))(n:List UInt8)(w:World)(h:Mc w v xs):
  Calls prog 45 #[v,n] w fun e w'=>e=.returned (Sv (E0 xs n))/\Below w w w':=by
 obtain⟨A,c,rfl,hl,hr,hf⟩:=h;have Hr:=Aa hr;have Hf:=Aa hf;clear hr hf;go_enter func45,ntmps45;go_wp2_with fail;go_loopw [6] (fun i wr=>∃k:Nat,i=.int .i64 k/\k<=xs.length/\wr=w.alloc (.cells #[.int .u8 0,a8,.slice none 0 0] 95)/\Hid (∀x∈xs.take k,decide (x.1.name=n)=false)) (fun i _=>xs.length - (intOf i).toNat)
 case atStart=>exact⟨0,rfl,af _,rfl,by intro f hf;simp at hf⟩
 case round=>
  obtain⟨k,rfl,hk,rfl,hin⟩:=hrel;by_cases hlt:k<xs.length
  ·obtain⟨b,off,rfl,hb,c0,c1,c2⟩:=Mc.at_ Hr.o hlt;have Hts:=Aa (Bx xs k hlt);have Hft:=Aa (Pk (p:=fun x=>decide (x.1.name=n)) hlt hin.o);have hfx:=Hf.o _ (ad hlt);generalize xs[k]=x at c0 c1 c2 Hts Hft hfx;obtain⟨t,fv⟩:=x;simp only[]at c0 c1 c2 hfx;obtain⟨A2,d2,hfv,_⟩:=hfx;subst hfv;have k1:(0:Int)<=(k:Int):=aE;have k2:(k:Int)<(xs.length:Int):=aE;by_cases he:t.name=n
   ·have t1:(t.name == n)=true:=by simp[he]
    have Hfin:=Aa (show E0 xs n=some (t,.slice A2 t.fields.length d2)by unfold E0;rw[Hft.o,if_pos cu]);clear he;go_wp2_with fail;refine aC (v:=.tuple #[Qd t (.slice A2 t.fields.length d2),.bool true]) (by simp[results,results45,go_sem,Qd]) rfl ?_;exact iq
   have t1:(t.name == n)=false:=cu
   have Hin:=Aa (show ∀g∈xs.take (k+1),decide (g.1.name=n)=false by
    intro g hg;rw[Hts.o]at hg;rcases ae.1 hg with hg|hg
    ·exact gZ
    simp at hg;subst hg;simpa using he)
   clear he;go_wp2_with fail;go_roundw
   case rel=>exact⟨k+1,by go_num,by omega,Ad,Hin.o⟩
   case measure=>simp[intOf];omega
  ·have Hfin:=@Aa (E0 xs n=none) (Ji (fun f hf=>hin.o f cv));go_wp2_with fail;refine aC (v:=.tuple #[Nn,.bool false]) (by simp[results,results45,go_sem,Nn]) rfl ?_;exact iq
theorem Qgw{k:Kd}(h:C0 k):(k.signs=[]/\k.base=[64]/\Bi k=64::(k.name++[59])/\k.name.length<=3)\/(¬(k.signs=[]/\k.base=[64])/\∃c t,Bi k=c::t/\c≠64/\t.length<=12):=by
 obtain⟨h1,h2,h3⟩:=h;cases hs:k.signs with
 |cons c t=>
  refine .inr ⟨by simp,c,t++Ca k,by unfold Bi;rw[hs];rfl,?_,?_⟩
  ·rw[hs]at h1;simp only[List.all_cons,ar]at h1;rintro rfl;exact absurd h1.1 aH
  unfold Bi at h3;rw[hs]at h3;simp at h3 ⊢;omega
 |nil=>
  rcases h2 with⟨hb,hn⟩|⟨hb,_⟩
  ·exact .inl ⟨rfl,hb,by unfold Bi Ca;rw[hs,if_pos hb];rfl,(Ep.1 hn).2.1⟩
  refine .inr ⟨?_,?_⟩
  ·rintro⟨_,h⟩;rcases hb with hb|hb|hb<;>· rw[hb]at h;revert h;decide
  have hc:Bi k=k.base:=by
   unfold Bi Ca;rw[hs,if_neg (by rcases hb with hb|hb|hb<;>· rw[hb];decide)];rfl
  rw[hc];rcases hb with hb|hb|hb<;>· rw[hb];exact⟨_,_,rfl,by decide,by simp⟩
theorem G6(v:Value)(xs:List (Ty × Value))(k:Kd)(w:World)(h:Mc w v xs)(hk:C0 k):
  Calls prog 47 #[v,.string ⟨(Bi k).toArray⟩] w fun e w'=>e=.returned (Sv (M1 xs k))/\Below w w w':=by
 have H:=Aa h;clear h;rcases Qgw hk with⟨h1,h2,h3,h4⟩|⟨h1,c,t,h3,h4,h5⟩
 ·have Hr:=@Aa (M1 xs k=E0 xs k.name) (if_pos ⟨h1,h2⟩);rw[h3];clear h1 h2 h3;go_enter func47,ntmps47;go_wp2_with fail;refine(Xk k.name _ aE).mono ?_;rintro e w' ⟨rfl,rfl⟩;go_wp2_with fail;refine(Rg v xs k.name _ (H.o.below ((Ay _ _).alloc (As _) _))).mono ?_;rintro e w2 ⟨rfl,hb⟩;cases hf:E0 xs k.name with
  |none=>
   rw[hf]at Hr;obtain⟨hc,hfz,hz⟩:=B4 hb;have Hb:=Aa (((Ay w.heap.size w).alloc (As _) _).trans (hb.mono aI));clear hb hf;unfold Sv Nn;go_wp2_with fail;refine aC (v:=.tuple #[Nn,.bool false]) (by simp[results,results47,go_sem,Nn,hc]) rfl ?_;exact ir
  |some x=>
   obtain⟨t,fv⟩:=x;have hm:=(Ek hf).1;obtain⟨A,c,_,_,_,hfs⟩:=H.o;obtain⟨A2,d2,e2,_⟩:=hfs _ hm;simp only at e2;subst e2;rw[hf]at Hr;obtain⟨hc,hfz,hz⟩:=B4 hb;have Hb:=Aa (((Ay w.heap.size w).alloc (As _) _).trans (hb.mono aI));clear hb hf hm hfs;unfold Sv Qd;go_wp2_with fail;refine aC (v:=.tuple #[Qd t (.slice A2 t.fields.length d2),.bool true]) (by simp[results,results47,go_sem,Qd,hc]) rfl ?_;exact ir
 have Hr:=@Aa (M1 xs k=none) (if_neg h1);rw[h3];clear h1 h3;go_enter func47,ntmps47;go_wp2_with fail;refine(Qat c t _ h4 aE).mono ?_;rintro e w' ⟨rfl,rfl⟩;go_wp2_with fail;refine aC (v:=.tuple #[Nn,.bool false]) (by simp[results,results47,go_sem,Nn]) rfl ?_;exact⟨by rw[Hr.o];rfl,(Ay _ _).alloc (As _) _⟩
theorem Qg8(S:List Ty)(n:Nat)(t:Ty)(h:t.sort≠85):Bu S (n+1) t=true:=by
 simp only[Bu,Fk,if_neg h]
theorem Qga(xs:List (Ty × Value))(n:Nat)(t:Ty)(f:Fd)(fs:List Fd)(h:t.sort=85)(hf:t.fields=f::fs):
  Bu (Ah xs) (n+1) t=(match M1 xs f.kind with|none=>true|some u=>Bu (Ah xs) n u.1):=by
 simp only[Bu,Fk,if_pos h,hf,M1];by_cases hk:f.kind.signs=[]/\f.kind.base=[64]
 ·rw[if_pos hk,if_pos hk,Ki];cases E0 xs f.kind.name<;>rfl
 rw[if_neg hk,if_neg hk]
theorem Qb2{t:Ty}(h:Ed t)(hs:t.sort=85):∃f fs,t.fields=f::fs/\C0 f.kind:=by
 obtain⟨h1,h2,h3,h4,h5⟩:=h;cases hf:t.fields with
 |nil=>have:=h5 hf;rw[hs]at this;exact absurd this aH
 |cons f fs=>
  refine⟨f,fs,rfl,?_⟩;have:=h3.1 f dz;exact(this.2.2.2.2 dD).1
theorem Qez{xs:List (Ty × Value)}{k:Kd}{x:Ty × Value}(h:M1 xs k=some x):x∈xs:=by
 unfold M1 at h;split at h
 ·exact(Ek h).1
 cases h
theorem Qeq(v fv:Value)(xs:List (Ty × Value))(t:Ty)(w:World)(h:Mc w v xs)(ht:Ed t)(hft:Fc w fv t.fields)(hok:∀x∈xs,Ed x.1):
  Calls prog 115 #[v,Qd t fv] w fun e w'=>e=.returned (.bool (Bu (Ah xs) (xs.length+1) t))/\Below w w w':=by
 have H:=Aa h;have Hok:=Aa hok;obtain⟨A,c,rfl,hxl,_⟩:=h;obtain⟨A1,c1,rfl,hfl,hr1⟩:=hft;have Hr1:=Aa hr1;have Ht:=Aa ht;clear hok hr1 ht;unfold Qd;go_enter func115,ntmps115;go_wp2_with fail
 go_loopw [5] (fun i wr=>∃(n:Nat) (cur:Ty) (A2:Option Addr) (c2:Nat),i=.int .i64 n/\n<=xs.length+1/\Hid (Ed cur)/\Hid (B8 w A2 (cur.fields.length*4) (cur.fields.flatMap sfc)) /\
   Hid (Bu (Ah xs) (xs.length+1) t=Bu (Ah xs) (xs.length+1 - n) cur)/\Hid (Below w w wr)/\w.heap.size<wr.heap.size /\
   wr.cell? (w,0)=some (.int .u8 (cur.sort.toNat:Int))/\wr.cell? (w,1)=cur.name/\wr.cell? (w,2)=some (.slice A2 cur.fields.length c2) /\
   (∀j,wr.frozen? ⟨w.heap.size,j,none⟩=false)) (fun i _=>xs.length+1 - (intOf i).toNat)
 case atStart=>exact⟨0,t,A1,c1,rfl,af _,Ht.o,Hr1.o,rfl,(Ay _ _).alloc (As _) _,by simp,by simp,by simp,by simp,by simp⟩
 case round=>
  obtain⟨n,cur,A2,c2,rfl,hn,hcu,hrow,heq,hb,hsz,u0,u1,u2,f1⟩:=hrel;by_cases hlt:n<=xs.length
  ·have k1:(n:Int)<=(xs.length:Int):=aE;obtain⟨m,hm⟩:∃m,xs.length+1 - n=m+1:=⟨xs.length - n,by omega⟩
   have hm2:xs.length+1 - (n+1)=m:=aE;rw[hm]at heq;have hcl:=cur.sort.toNat_lt;by_cases hs:cur.sort=85
   ·have t1:((cur.sort.toNat:Int) != 85)=false:=by have:=Bs hs;simpa using this
    have t2:((cur.sort.toNat:Int) == 85)=true:=Bs hs;obtain⟨f,fs,hfs,hkd⟩:=Qb2 hcu.o hs;have Heq:=Aa (show Bu (Ah xs) (xs.length+1) t=(match M1 xs f.kind with|none=>true|some u=>Bu (Ah xs) m u.1)by rw[heq.o];exact Qga xs m cur f fs hs hfs);have hlf:0<cur.fields.length:=cz;have hf0:cur.fields[0]=f:=by simp[hfs]
    obtain⟨b,off,rfl,hbl,g0,g1,g2,g3⟩:=Fc.at_ (hrow.o.below hb.o) hlf;rw[hf0]at g0 g1 g2 g3;simp only[Nat.zero_mul,Nat.add_zero]at g0 g1 g2 g3;have Hkd:=Aa hkd;have l1:(0:Int)<(cur.fields.length:Int):=aE;clear hs heq hkd hf0 hfs;go_wp2_with fail;refine(G6 (.slice A xs.length c) xs f.kind _ (H.o.below hb.o) Hkd.o).mono ?_;rintro e w4 ⟨rfl,hb4⟩;obtain⟨hc4,hfz4,hz4⟩:=B4 hb4;have Hb5:=Aa (hb.o.trans (hb4.mono (Nat.le_of_lt hsz)));rw[<-hc4 _ _ hsz]at u0 u1 u2;have f1':∀j,w4.frozen? ⟨w.heap.size,j,none⟩=false:=fun j=>(hfz4 _ j hsz).trans (f1 j);have hsz4:=hz4 _ hsz;have Hrow':=Aa (fun(x:Ty × Value) (hx:x∈xs)=>((show ∀x∈xs,Fc w x.2 x.1.fields from(by obtain⟨_,_,_,_,_,hf⟩:=H.o;exact hf)) x hx));have hn1:¬(w4.heap.size=w.heap.size):=aE;have hn2:¬(w.heap.size=w4.heap.size):=aE;clear hb4 hc4 hfz4 hz4 f1 hb;cases hr:M1 xs f.kind with
    |none=>
     rw[hr]at Heq;unfold Sv Nn;go_wp2_with fail;go_ret;exact⟨by rw[Heq.o];first|rfl|trivial,bM⟩
    |some x=>
     rw[hr]at Heq;obtain⟨u,uv⟩:=x;have Hm:=Aa (Qez hr);obtain⟨A5,c5,e5,_,hr5⟩:=Hrow'.out _ Hm.o;simp only[]at e5 hr5;subst e5;have Hr5:=Aa hr5;clear hr hr5;unfold Sv Qd;go_wp2_with fail;go_roundw
     case rel=>
      refine⟨n+1,u,A5,c5,by go_num,by omega,Hok.o _ Hm.o,Hr5.o,by rw[hm2];exact Heq.o,bM,by simp;omega,by simp[go_sem,u0,u1,u2,f1',hn1,hn2,hsz4],by simp[go_sem,u0,u1,u2,f1',hn1,hn2,hsz4],by simp[go_sem,u0,u1,u2,f1',hn1,hn2,hsz4],by intro j;simp[go_sem,f1',hn1,hn2,hsz4]⟩
     case measure=>simp[intOf];omega
   have t1:((cur.sort.toNat:Int) != 85)=true:=by have:=Am hs;simpa using this
   have t2:((cur.sort.toNat:Int) == 85)=false:=Am hs;have Hend:=Aa (show Bu (Ah xs) (xs.length+1) t=true by rw[heq.o];exact Qg8 _ m cur hs);clear hs heq;go_wp2_with fail;exact iu
  ·have k1:¬(n:Int)<=(xs.length:Int):=aE;have Hend:=Aa (show Bu (Ah xs) (xs.length+1) t=false by rw[heq.o,show xs.length+1 - n=0 by omega];rfl);clear heq;go_wp2_with fail;exact iu
theorem Pz(S:List Ty)(hT:∀t∈S,Ed t):∀(n:Nat) (k:Kd),(C4 S n k).length<=6*n
 |0,_=>by simp[C4]
 |n+1,k=>by
  unfold C4;split
  ·simp;omega
  split
  ·simp;omega
  split
  ·simp;omega
  split
  ·simp;omega
  split
  ·simp;omega
  cases hf:B0 S k.name with
  |none=>simp
  |some t=>
   simp only;split
   ·simp;omega
   cases hfs:t.fields with
   |nil=>simp
   |cons f fs=>
    have h1:=((hT t (Bq hf).1).2.2.1.1 f cz).2.1;have h2:=Df 2 f.tag bZ;have ih:=Pz S hT n f.kind;simp only;split
    ·simp;omega
    simp;omega
def Tf(b:List UInt8):List UInt8:=if b=[110]then[48]else if b=[116]then[39,39]else[110,111]
theorem Yg(b:List UInt8)(w:World)(hb:b=[110]\/b=[116]\/b=[102]):
  Calls prog 151 #[b] w fun e w'=>e=.returned (.string ⟨(Tf b).toArray⟩)/\w=w':=by
 rcases hb with rfl|rfl|rfl
 ·exact gJ
 ·exact gJ
 go_enter func151,ntmps151;go_wp2_with fail;exact ia
def Qcz(c:UInt8):List UInt8:=if c=91 then[91,93]else[45]
theorem Qq(v:Value)(c:UInt8)(t:List UInt8)(w:World)(hc:c=91\/c=63)(hl:t.length<=1000):
  Calls prog 117 #[v,.string ⟨(c::t).toArray⟩] w fun e w'=>e=.returned (.string ⟨(Qcz c).toArray⟩)/\w=w':=by
 rcases hc with rfl|rfl
 ·go_enter func117,ntmps117;go_wp2_with fail;exact ia
 go_enter func117,ntmps117;go_wp2_with fail;exact ia
theorem Mo{k:Kd}(h:C0 k)(hs:k.signs=[])(hb:k.base≠[64]):Bi k=k.base/\(k.base=[110]\/k.base=[116]\/k.base=[102]):=by
 refine⟨by unfold Bi Ca;rw[hs,if_neg hb];rfl,?_⟩;rcases h.2.1 with h|h
 ·exact absurd h.1 hb
 exact h.1
theorem N5(v:Value)(xs:List (Ty × Value))(k:Kd)(w:World)(hsc:Mc w v xs)(hk:C0 k)(hs:k.signs=[])(hb:k.base≠[64]):
  Calls prog 117 #[v,.string ⟨(Bi k).toArray⟩] w fun e w'=>e=.returned (.string ⟨(Tf k.base).toArray⟩)/\Below w w w':=by
 have Hr:=Aa (fun W h=>G6 v xs k W h hk);have hx:M1 xs k=none:=if_neg (fun h=>hb h.2);rw[hx]at Hr;obtain⟨e1,e2⟩:=Mo hk hs hb;rw[e1]at Hr ⊢;have Hsc:=Aa hsc;have Hp:=Aa (fun W=>Yg k.base W e2);have He2:=Aa e2;unfold Sv Nn at Hr;generalize k.base=b at *;clear hs hb e1 hsc hx;obtain⟨c,hc,t1,t2⟩:∃c,b=[c]/\((c.toNat:Int) == 91)=false/\((c.toNat:Int) == 63)=false:=by
  rcases e2 with rfl|rfl|rfl
  ·exact⟨110,rfl,by decide,by decide⟩
  ·exact⟨116,rfl,by decide,by decide⟩
  exact⟨102,rfl,by decide,by decide⟩
 clear e2;subst hc;go_enter func117,ntmps117;go_wp2_with fail;refine(Hr.o _ Hsc.o).mono ?_;rintro e w1 ⟨rfl,hb1⟩;go_wp2_with fail;refine(Hp.o _).mono ?_;rintro e w2 ⟨rfl,rfl⟩;go_wp2_with fail;go_ret;exact⟨rfl,hb1.alloc hb1.size _⟩
def Fp(l:List UInt8)(w:World)(e:Ending)(w':World):Prop:=e=.returned l/\Below w w w'
theorem Yf(xv:Value)(xs:List (Ty × Value))(hok:∀x∈xs,Ed x.1)(n:Nat)(k:Kd)(w:World)(hsc:Mc w xv xs)(hk:C0 k)(hs:k.signs=[])(hb:k.base=[64])(t:Ty)(fv:Value)(hx:E0 xs k.name=some (t,fv))
  (hn:n<=9) (ih:t.sort=85->∀f fs,t.fields=f::fs->∀W,Mc W xv xs->Calls prog 117 #[xv,.string ⟨(Bi f.kind).toArray⟩] W (Fp (C4 (Ah xs) n f.kind) W)):
  Calls prog 117 #[xv,.string ⟨(Bi k).toArray⟩] w (Fp (C4 (Ah xs) (n+1) k) w):=by
 have Hr:=Aa (fun W h=>G6 xv xs k W h hk);have Hlen:=Aa (Pz (Ah xs) (fun t ht=>by obtain⟨x,hx,rfl⟩:=au.1 ht;exact hok x hx));have hrx:M1 xs k=some (t,fv):=(if_pos ⟨hs,hb⟩).trans hx
 have HF:=Aa (show C4 (Ah xs) (n+1) k=if t.sort=82 then[123,125]else match t.fields with|[]=>[]|f::_=>if t.sort=69 then 35::Az f.tag else 60::(Az f.tag++61::(C4 (Ah xs) n f.kind++[62]))from by
  rw[C4,if_neg dD,if_neg dD,if_neg bC,if_neg bC,if_neg bC,Ki,hx];rfl)
 have hto:=hok _ (Ek hx).1;have hkb:Bi k=64::(k.name++[59]):=cT;have hnl:k.name.length<=3:=by
  rcases hk.2.1 with h|h
  ·exact(Ep.1 h.2).2.1
  rw[hb]at h;exact absurd h.1 aH
 have hfd:Fc w fv t.fields:=by obtain⟨_,_,_,_,_,hf⟩:=hsc;exact hf _ (Ek hx).1
 rw[hrx]at Hr;rw[hkb]at Hr ⊢;obtain⟨A,c,rfl,hfl,hrow⟩:=hfd;have Hsc:=Aa hsc;have Hrow:=Aa hrow;have Hto:=Aa hto;have Ih:=Aa ih;unfold Sv Qd at Hr;simp only[]at hto;clear hsc hk hs hb hx hkb hrow hto hrx ih hok;by_cases h82:t.sort=82
 ·have t82:((t.sort.toNat:Int) == 82)=true:=Bs (d:=82) h82;have HF2:=Aa (HF.o.trans (if_pos h82));clear h82 HF;go_enter func117,ntmps117;go_wp2_with fail;refine(Hr.o _ Hsc.o).mono ?_;rintro e w1 ⟨rfl,hb1⟩;go_wp2_with fail;go_ret;exact⟨by rw[HF2.o];rfl,hb1.alloc hb1.size _⟩
 have t82:((t.sort.toNat:Int) == 82)=false:=Am (d:=82) h82;have HF2:=Aa (HF.o.trans (if_neg h82));have hne:t.fields≠[]:=fun h=>h82 (Hto.o.2.2.2.2 h);obtain⟨f,fs,hfs⟩:∃f fs,t.fields=f::fs:=by
  cases h:t.fields with
  |nil=>exact absurd h hne
  |cons f fs=>exact⟨f,fs,rfl⟩
 have hf0:0<t.fields.length:=cz;have hge:t.fields[0]=f:=by simp[hfs]
 have hft:=Hto.o.2.2.1.1 f cz;have htag:f.tag<=200:=hft.2.1;have hdl:=Df 2 f.tag bZ;have Hd:=Aa (fun W=>H6 f.tag f.tag W (As _) aE);have hi0:(0:Int)<(t.fields.length:Int):=aE;have HF3:=@Aa (C4 (Ah xs) (n+1) k=if t.sort=69 then 35::Az f.tag else 60::(Az f.tag++61::(C4 (Ah xs) n f.kind++[62]))) (by rw[HF2.o,hfs]);have Hfs:=Aa hfs;have Hge:=Aa hge;obtain⟨b,off,rfl,hbl,g0,g1,g2,g3⟩:=Fc.at_ Hrow.o hf0;rw[hge]at g0 g1 g2 g3;simp only[Nat.zero_mul,Nat.add_zero]at g0 g1 g2 g3;have H82:=Aa h82;clear HF2 HF h82 hne hfs hge hft g1 g3;by_cases h69:t.sort=69
 ·have t69:((t.sort.toNat:Int) == 69)=true:=Bs (d:=69) h69;have HF4:=Aa (HF3.o.trans (if_pos h69));clear h69 HF3;go_enter func117,ntmps117;go_wp2_with fail;refine(Hr.o _ Hsc.o).mono ?_;rintro e w1 ⟨rfl,hb1⟩;have g0':=(hb1.cell (p:=⟨b,off,none⟩) hbl).trans g0;have hbl1:b<w1.heap.size:=ab hbl hb1.size;have hbn:¬(b=w1.heap.size):=aE;have Hb1:=Aa hb1;clear hb1 g0 g2;go_wp2_with fail;refine(Hd.o _).mono ?_;rintro e w2 ⟨rfl,hb2⟩;go_wp2_with fail;go_ret;exact⟨by rw[HF4.o];simp,(Hb1.o.alloc Hb1.o.size _).trans (hb2.mono (by have:=Hb1.o.size;simp;omega))⟩
 have t69:((t.sort.toNat:Int) == 69)=false:=Am (d:=69) h69;have HF4:=Aa (HF3.o.trans (if_neg h69));have h85:t.sort=85:=by
  rcases Hto.o.1 with h|h|h
  ·exact absurd h H82.o
  ·exact h
  exact absurd h h69
 have Ih2:=Aa (Ih.o h85 f fs Hfs.o);have hsl:=Hlen.o n f.kind;generalize C4 (Ah xs) n f.kind=sl at *;generalize Bi f.kind=kd at *;clear h69 HF3 h85 Ih;go_enter func117,ntmps117;go_wp2_with fail;refine(Hr.o _ Hsc.o).mono ?_;rintro e w1 ⟨rfl,hb1⟩;have g0':=(hb1.cell (p:=⟨b,off,none⟩) hbl).trans g0;have g2':=(hb1.cell (p:=⟨b,off+2,none⟩) hbl).trans g2;have hbl1:b<w1.heap.size:=ab hbl hb1.size;have hbn:¬(b=w1.heap.size):=aE;have Hb1:=Aa hb1;clear hb1 g0 g2;go_wp2_with fail;obtain⟨W0,hW0⟩:∃W0,W0=w1.alloc (.cells #[.int .u8 (t.sort.toNat:Int),t.name,.slice (some ⟨b,off,none⟩) t.fields.length c] 95):=⟨_,rfl⟩
 rw[<-hW0];have y2:W0.cell? (w1,2)=some (.slice (some ⟨b,off,none⟩) t.fields.length c):=by rw[hW0];simp
 have y0:W0.cell? ⟨b,off,none⟩=(f.tag:Int):=by rw[hW0,World.cell?_alloc_old _ _ _ hbn];exact g0'
 have y3:W0.cell? ⟨b,off+2,none⟩=kd:=by rw[hW0,World.cell?_alloc_old _ _ _ hbn];exact g2'
 have hz0:W0.heap.size=w1.heap.size+1:=by rw[hW0];simp
 have hB5:w1.heap.size<W0.heap.size:=aE;have hb5:b<W0.heap.size:=aE;have Hb0:=@Aa (Below w w W0) (by rw[hW0];exact Hb1.o.alloc Hb1.o.size _);have Hsc0:=Aa (Hsc.o.below Hb0.o);generalize w1.heap.size=B5 at *;clear hW0 hz0 g0' g2';refine Sy [39,40,41,42,43,44,45,46,47,48,49,50,51,52,53,54,55,4]
  (fun i v W=>match i with|0=>v=(B5,2)|1=>v=.slice (some ⟨b,off,none⟩) t.fields.length c|2=>v=.pointer (some ⟨b,off,none⟩)|3=>v=.pointer (some ⟨b,off,none⟩)|4=>v=(f.tag:Int)|5=>v=.string ⟨(Az f.tag).toArray⟩|6=>v=.string ⟨(60::Az f.tag).toArray⟩|7=>v=.string ⟨(60::(Az f.tag++[61])).toArray⟩|8=>v=xv|9=>v=(B5,2)|10=>v=.slice (some ⟨b,off,none⟩) t.fields.length c|11=>v=.pointer (some ⟨b,off,none⟩)|12=>v=.pointer (some ⟨b,off+2,none⟩)|13=>v=kd|14=>v=sl|15=>v=.string ⟨(60::(Az f.tag++61::sl)).toArray⟩|16=>v=.string ⟨(60::(Az f.tag++61::(sl++[62]))).toArray⟩|17=>v=.string ⟨(60::(Az f.tag++61::(sl++[62]))).toArray⟩|_=>True)
  (fun L U W=>Below W0 W0 W) ((Ay _ _).drew) ?_ ?_
 ·repeat (first|exact Ba.nil|(refine Ba.cons ?_ ?_;rotate_left))
  all_goals
   rintro L U W hL hpre HR Hdep K hK;have hB:=HR.o;have c2:=(hB.cell (p:=⟨B5,2,none⟩) hB5).trans y2;have c0:=(hB.cell (p:=⟨b,off,none⟩) hb5).trans y0;have c3:=(hB.cell (p:=⟨b,off+2,none⟩) hb5).trans y3;first|(simp[Region.binds]at hpre;done)|simp[Region.binds]at hpre|clear hpre
  iterate 5
   ·exact fG
  ·exact gB
  ·exact fM
  ·exact fM
  iterate 6
   ·exact fG
  ·exact gw
  ·exact fM
  ·exact fM
  ·exact fG
 rintro L U W hL hφ hR;have e17:U 17=.string ⟨(60::(Az f.tag++61::(sl++[62]))).toArray⟩:=hφ 17 aH;simp only[e17];clear hφ;have Hb9:=Aa (Hb0.o.trans (hR.mono Hb0.o.size));clear hR;go_wp2_with fail;go_ret;exact⟨by rw[HF4.o];rfl,Hb9.o⟩
theorem N0(S:List Ty)(n:Nat)(k:Kd)(c:UInt8)(t:List UInt8)(h:k.signs=c::t)(hc:c=91\/c=63):C4 S (n+1) k=Qcz c:=by
 unfold C4 Qcz;rw[h];rcases hc with rfl|rfl
 ·rfl
 rfl
theorem Md(S:List Ty)(n:Nat)(k:Kd)(h:k.signs=[])(hb:k.base=[110]\/k.base=[116]\/k.base=[102]):C4 S (n+1) k=Tf k.base:=by
 unfold C4 Tf;rw[h];rcases hb with hb|hb|hb<;>rw[hb]<;>rfl
theorem Qg{k:Kd}(h:C0 k){c:UInt8}{t:List UInt8}(hs:k.signs=c::t):c=91\/c=63:=by
 have:=h.1;rw[hs,List.all_cons,ar]at this;have:=this.1;unfold Bo at this;simpa using this
theorem Qaq(xv:Value)(xs:List (Ty × Value))(hok:∀x∈xs,Ed x.1)(hS:Gg (Ah xs)):∀(n:Nat),n<=9->∀(k:Kd) (w:World),Mc w xv xs->C0 k->B9 (Ah xs) k->Tp (Ah xs) n k ->
  Calls prog 117 #[xv,.string ⟨(Bi k).toArray⟩] w (Fp (C4 (Ah xs) (n+1) k) w):=by
 intro n;induction n with
 |zero=>
  intro _ k w hsc hk hr he;cases hs:k.signs with
  |cons c t=>
   have hc:=Qg hk hs;have hkb:Bi k=c::(t++Ca k):=de;have hl:=hk.2.2;rw[hkb]at hl ⊢;rw[N0 _ _ k c t hs hc];refine(Qq xv c (t++Ca k) w hc eO).mono ?_;rintro e w' ⟨rfl,rfl⟩;exact im
  |nil=>
   by_cases hb:k.base=[64]
   ·obtain⟨t,_,h⟩:=he hs hb;exact absurd h (by simp[Bu])
   exact iv
 |succ n ih=>
  intro hn k w hsc hk hr he;cases hs:k.signs with
  |cons c t=>
   have hc:=Qg hk hs;have hkb:Bi k=c::(t++Ca k):=de;have hl:=hk.2.2;rw[hkb]at hl ⊢;rw[N0 _ _ k c t hs hc];refine(Qq xv c (t++Ca k) w hc eO).mono ?_;rintro e w' ⟨rfl,rfl⟩;exact im
  |nil=>
   by_cases hb:k.base=[64]
   ·have h1:=hr hb;rw[Ki]at h1;cases hx:E0 xs k.name with
    |none=>rw[hx]at h1;cases h1
    |some x=>
     obtain⟨t,fv⟩:=x;have hft:B0 (Ah xs) k.name=some t:=(Ek hx).2.2;have hto:Ed t:=hok _ (Ek hx).1;refine Yf xv xs hok (n+1) k w hsc hk hs hb t fv hx hn (fun h85 f fs hfs W hW=>?_);have hrf:B9 (Ah xs) f.kind:=hS t (Bq hft).1 dt f cz;exact iw
   exact iv
theorem Vy{S:List Ty}(h:No S){k:Kd}(hr:B9 S k):Tp S 9 k:=by
 intro hs hb;have h1:=hr hb;cases hf:B0 S k.name with
 |none=>rw[hf]at h1;cases h1
 |some t=>exact⟨t,rfl,h.2.2 t (Bq hf).1⟩
theorem Qaz(xv:Value)(xs:List (Ty × Value))(h:No (Ah xs))(k:Kd)(w:World)(hsc:Mc w xv xs)(hk:C0 k)(hr:B9 (Ah xs) k):
  Calls prog 117 #[xv,.string ⟨(Bi k).toArray⟩] w (Fp (Ri (Ah xs) k) w):=
 Qaq xv xs (fun x hx=>h.1.1 x.1 (am hx)) h.2.1 9 (As _) k w hsc hk hr (Vy h hr)
theorem Tk(xv:Value)(xs:List (Ty × Value))(h:No (Ah xs))(f:Fd)(w:World)(hsc:Mc w xv xs)(hk:C0 f.kind)(hr:B9 (Ah xs) f.kind)(hl:f.given.length<=1000):
  Calls prog 83 #[xv,sfV f] w (Fp (Kn (Ah xs) f) w):=by
 have HF:=@Aa (Kn (Ah xs) f=if f.given=[]then Ri (Ah xs) f.kind else f.given) rfl;have Hs:=Aa (fun W (h1:Mc W xv xs)=>Qaz xv xs h f.kind W h1 hk hr);have Hsc:=Aa hsc;unfold sfV;generalize Bi f.kind=kd at *;clear h hk hr hsc;by_cases hg:f.given=[]
 ·have HF2:=Aa (HF.o.trans (if_pos hg));rw[hg];clear hg HF;go_enter func83,ntmps83;go_wp2_with fail;refine(Hs.o _ (Hsc.o.below ((Ay _ _).alloc (As _) _))).mono ?_;rintro e w1 ⟨rfl,hb1⟩;go_wp2_with fail;go_ret;exact⟨by rw[HF2.o];rfl,((Ay _ _).alloc (As _) _).trans (hb1.mono aI)⟩
 have HF2:=Aa (HF.o.trans (if_neg hg));have t1:f.given.isEmpty=false:=by simpa using hg
 have t2:(!f.given.isEmpty)=true:=by simp[t1]
 clear hg HF;go_enter func83,ntmps83;go_wp2_with fail;go_ret;exact⟨by rw[HF2.o];rfl,(Ay _ _).alloc (As _) _⟩
theorem T3(s:List UInt8)(f k:Nat)(hf:f<=k)(hk:k<s.length):(s.drop f).take (k+1 - f)=(s.drop f).take (k - f)++[s[k]]:=by
 have h1:k - f<(s.drop f).length:=aM;rw[show k+1 - f=(k - f)+1 by omega,Bx _ _ h1];simp[show f+(k - f)=k by omega]
theorem Zj(s:List UInt8)(f k:Nat)(hf:f<=k)(hk:k<s.length):s.drop f=(s.drop f).take (k - f)++s[k]::s.drop (k+1):=by
 have e1:(s.drop f).drop (k - f)=s[k]::s.drop (k+1):=by
  rw[List.drop_drop,show f+(k - f)=k by omega];exact List.drop_eq_getElem_cons hk
 rw[<-e1,List.take_append_drop]
theorem Cl(s:List UInt8)(c:UInt8)(m:Int)(hm:m=(c.toNat:Int))(w:World)(hs:s.length<=4000000):
  Calls prog 77 #[s,.int .u8 m] w fun e w'=>
   ∃v,e=.returned v/\w'.ownsRow w 9 1 v (Ai c s).length (Br (Ai c s))/\Below w w w':=by
 have Hm:=Aa hm;have Hlen:=Aa (Gn c s);clear hm;go_enter func77,ntmps77;go_wp2_with fail
 go_loopw [5,6,7] (fun v y i wr=>∃(ps:List (List UInt8)) (f k:Nat),i=.int .i64 k/\k<=s.length/\y=.int .i64 f/\f<=k/\ps.length<=k/\Hid (Ai c s=ps++Ai c (s.drop f))/\Hid (c∉(s.drop f).take (k - f)) /\
   Hid (wr.ownsRow w 9 1 v ps.length (Br ps))/\Hid (Below w w wr)) (fun _ _ i _=>s.length - (intOf i).toNat)
 case atStart=>exact⟨[],0,0,rfl,af _,rfl,As _,by simp,rfl,by simp[Hid],World.ownsRow_lit (base:=w.heap.size) (e:=9) (size:=1) w #[] 0 (As _) (af _) rfl,(Ay _ _).alloc (As _) _⟩
 case round=>
  obtain⟨ps,f,k,rfl,hk,rfl,hf,hps,hsp,hno,hown,hb⟩:=hrel;by_cases hlt:k<s.length
  ·have hc:=(s[k]).toNat_lt;by_cases he:s[k]=c
   ·have t1:(((s[k]).toNat:Int) == m)=true:=by rw[Hm.o];exact Bs he
    have Hsp:=Aa (show Ai c s=(ps++[(s.drop f).take (k - f)])++Ai c (s.drop (k+1))by
     rw[hsp.o,Zj s f k hf hlt,he,J5 c _ _ hno.o];simp only[List.append_assoc,List.singleton_append];have e2:=Zj s f k hf hlt;rw[he]at e2;rw[<-e2])
    have Hz:=Aa hb.o.size;clear he;have k1:(0:Int)<=(f:Int):=aE;have k2:(f:Int)<=(k:Int):=aE;have k3:(k:Int)<=(s.length:Int):=aE;go_wp2_with (at_builtin;refine N8 _ rfl _ _ 63 rfl w 9 a8 16 underlying63 Q7 rfl wr _ rfl rfl _ _ _ rfl rfl hown.o aW aE Hz.o ?_;intro v' w' hown' hb';have Ho:=Aa (show w'.ownsRow w 9 1 v' (ps++[(s.drop f).take (k - f)]).length (Br (ps++[(s.drop f).take (k - f)]))by rw[N9,ag];exact hown');have Hb:=Aa (hb.o.trans hb');clear hown' hb')
    go_roundw
    case rel=>exact⟨ps++[(s.drop f).take (k - f)],k+1,k+1,by go_num,by omega,by go_num,As _,by rw[ag];simp;omega,Hsp.o,by simp[Hid],Ho.o,Hb.o⟩
    case measure=>simp[intOf];omega
   have t1:(((s[k]).toNat:Int) == m)=false:=by rw[Hm.o];exact Am he
   have Hno:=Aa (show c∉(s.drop f).take (k+1 - f)by
    rw[T3 s f k hf hlt];simp only[ae,an,not_or];exact⟨hno.o,fun h=>he h.symm⟩)
   clear he;go_wp2_with fail;go_roundw
   case rel=>exact⟨ps,f,k+1,by go_num,by omega,rfl,by omega,by omega,hsp.o,Hno.o,hown.o,hb.o⟩
   case measure=>simp[intOf];omega
  ·obtain rfl:k=s.length:=aE
   have Hsp:=Aa (show Ai c s=ps++[s.drop f]by
    have h:=hno.o;rw[ap aI]at h;rw[hsp.o,Gc c _ h])
   have Hz:=Aa hb.o.size;have k1:(0:Int)<=(f:Int):=aE;have k2:(f:Int)<=(s.length:Int):=aE;go_wp2_with (at_builtin;refine N8 _ rfl _ _ 63 rfl w 9 a8 16 underlying63 Q7 rfl wr _ rfl rfl _ _ _ rfl rfl hown.o aW aE Hz.o ?_;intro v' w' hown' hb';have Ho:=Aa (show w'.ownsRow w 9 1 v' (ps++[s.drop f]).length (Br (ps++[s.drop f]))by rw[N9,ag];exact hown');have Hb:=Aa (hb.o.trans hb');clear hown' hb')
   go_ret;refine⟨_,rfl,?_,Hb.o⟩;rw[Hsp.o];exact Ho.o
theorem Vs{b s:List UInt8}(h1:b≠[110])(h2:b≠[116])(h3:b≠[102]):Bw b s=false:=by
 unfold Bw;rw[if_neg h1,if_neg h2,if_neg h3]
theorem Qin(s:List UInt8):Bw [116] s=(Fm s && !(s == [39,39])):=by
 show (decide (2<s.length) && decide (s.head?=some 39) && decide (s.getLast?=some 39) && Dq (s.drop 1).dropLast)=((decide (2<=s.length) && decide (s.head?=some 39) && decide (s.getLast?=some 39) && Dq (s.drop 1).dropLast) && !(s == [39,39]));rcases aD 2 s.length with h|h
 ·have e1:decide (2<s.length)=true:=bg;have e2:decide (2<=s.length)=true:=aM;have e3:(s == [39,39])=false:=by
   rw[beq_eq_false_iff_ne];rintro rfl;simp at h
  rw[e1,e2,e3];simp
 have e1:decide (2<s.length)=false:=aM;rw[e1];match s,h with
 |[],_=>rfl
 |[_],_=>rfl
 |[a,b],_=>
  by_cases ha:a=39
  ·by_cases hb:b=39
   ·subst ha;subst hb;rfl
   simp[hb]
  simp[ha]
theorem Sa(b s:List UInt8)(w:World)(hs:s.length<=4000000):
  Calls prog 150 #[b,s] w fun e w'=>e=.returned (.bool (Bw b s))/\Below w w w':=by
 by_cases h1:b=[110]
 ·subst h1;have Hp:=Aa (fun W=>Dn s 999999 W hs aE);have hf:Bw [110] s=(match Cn s with|some n=>decide (0<n)|none=>false):=rfl;have hv:(Dy s 999999 && (s != [48]))=Bw [110] s:=by
   rw[hf];cases hd:Cn s with
   |none=>rw[Mm hd];rfl
   |some n=>
    obtain⟨h9,e⟩:=Cb.1 hd;rw[Mt hd];have e1:decide (n<=999999)=true:=by simpa using h9
    rw[e1,Bool.true_and];by_cases h0:n=0
    ·subst h0;rw[e,Eg aE];decide
    have hne:s≠[48]:=by
     intro h;rw[e]at h;have:Az n=Az 0:=by rw[h,Eg (n:=0) aE];decide
     exact h0 (Qf5 this)
    have e2:(s != [48])=true:=by simpa using hne
    rw[e2];simp;omega
  have Hv:=Aa hv;clear hf hv;go_enter func150,ntmps150;go_wp2_with fail;refine(Hp.o _).mono ?_;rintro e w' ⟨n,hn,rfl,_,hb⟩;have Hb:=Aa hb;clear hb;rcases Bool.eq_false_or_eq_true (Dy s 999999)with ho|ho
  ·have Ho:=Aa ho;rw[ho];clear ho;go_wp2_with fail;exact iz
  have Ho:=Aa ho;rw[ho];clear ho;go_wp2_with fail;exact iz
 by_cases h2:b=[116]
 ·subst h2;have Hp:=Aa (fun W=>Th s W hs);have Hv:=Aa (Qin s);clear h1;go_enter func150,ntmps150;go_wp2_with fail;refine(Hp.o _).mono ?_;rintro e w' ⟨rfl,rfl⟩;rcases Bool.eq_false_or_eq_true (Fm s)with ho|ho
  ·have Ho:=Aa ho;rw[ho];clear ho;rcases Bool.eq_false_or_eq_true (s == [39,39])with hq|hq
   ·have Hq:=Aa hq;have hq2:(s != [39,39])=false:=by simp[bne,hq]
    go_wp2_with fail;exact iA
   have Hq:=Aa hq;have hq2:(s != [39,39])=true:=by simp[bne,hq]
   go_wp2_with fail;exact iA
  have Ho:=Aa ho;rw[ho];clear ho;go_wp2_with fail;go_ret;exact⟨Eh (Cr (by rw[Hv.o,Ho.o];rfl)),Ay _ _⟩
 by_cases h3:b=[102]
 ·subst h3;have Hv:=Aa (show Bw [102] s=(s == [121,101,115])by show decide (s=[121,101,115])=_;by_cases h:s=[121,101,115]<;>simp[h]);clear h1 h2;go_enter func150,ntmps150;go_wp2_with fail;go_ret;exact⟨Eh (Cr Hv.o.symm),Ay _ _⟩
 have Hv:=Aa (Vs (s:=s) h1 h2 h3);have q1:(b == [110])=false:=dT;have q2:(b == [116])=false:=dU;have q3:(b == [102])=false:=by simpa using h3
 clear h1 h2 h3;go_enter func150,ntmps150;go_wp2_with fail;go_ret;exact⟨Eh (Cr Hv.o.symm),Ay _ _⟩
def Cz(o:Option Fd)(w:World)(e:Ending)(w':World):Prop:=
 (match o with
  |some f=>e=.returned (.tuple #[sfV f,.bool true])
  |none=>∃(x:Int) (a b c:ByteArray),e=.returned (.tuple #[.agg #[.int .i64 x,.string a,.string b,.string c],.bool false]))/\Below w w w'
theorem Cz.no{w w':World}{e:Ending}{o:Option Fd}(ho:o=none){x:Int}{a b c:ByteArray}(he:e=.returned (.tuple #[.agg #[.int .i64 x,.string a,.string b,.string c],.bool false]))(hb:Below w w w'):Cz o w e w':=by
 rw[ho];exact⟨⟨x,a,b,c,he⟩,hb⟩
theorem Cz.yes{w w':World}{e:Ending}{o:Option Fd}{f:Fd}(ho:o=some f)(he:e=.returned (.tuple #[sfV f,.bool true]))(hb:Below w w w'):Cz o w e w':=by
 rw[ho];exact⟨he,hb⟩
theorem M4{w:World}{base:Nat}{v:Value}{a b:List UInt8}(h:w.ownsRow base 9 1 v [a,b].length (Br [a,b])):
  ∃g c,v=.slice (some ⟨g,0,none⟩) 2 c/\base<=g/\g<w.heap.size/\w.cell? ⟨g,0,none⟩=a/\w.cell? ⟨g,1,none⟩=b:=by
 rcases h.2 with⟨_,h0⟩|⟨g,cap,cur,rfl,hb,hh,_⟩
 ·simp at h0
 have hc:=fun j u hu=>h.cells (g:=g) rfl j u hu;have e1:∀j,(⟨g,0,none⟩:Addr).add j=⟨g,j,none⟩:=fun j=>bj;refine⟨g,cap,rfl,hb,(h.lt g rfl).2,?_,?_⟩
 ·have:=hc 0 _ rfl;rwa [e1]at this
 have:=hc 1 _ rfl;rwa [e1]at this
theorem Ge{w:World}{base:Nat}{v:Value}{a b d:List UInt8}(h:w.ownsRow base 9 1 v [a,b,d].length (Br [a,b,d])):
  ∃g c,v=.slice (some ⟨g,0,none⟩) 3 c/\base<=g/\g<w.heap.size/\w.cell? ⟨g,0,none⟩=a/\w.cell? ⟨g,1,none⟩=b/\w.cell? ⟨g,2,none⟩=d:=by
 rcases h.2 with⟨_,h0⟩|⟨g,cap,cur,rfl,hb,hh,_⟩
 ·simp at h0
 have hc:=fun j u hu=>h.cells (g:=g) rfl j u hu;have e1:∀j,(⟨g,0,none⟩:Addr).add j=⟨g,j,none⟩:=fun j=>bj;refine⟨g,cap,rfl,hb,(h.lt g rfl).2,?_,?_,?_⟩
 ·have:=hc 0 _ rfl;rwa [e1]at this
 ·have:=hc 1 _ rfl;rwa [e1]at this
 have:=hc 2 _ rfl;rwa [e1]at this
theorem Rh(st:UInt8)(s:List UInt8)(w:World)(hs:s.length<=1000)(hp:(Ai 58 s).length≠(if st=69 then 2 else 3)):
  Calls prog 114 #[s,.int .u8 (st.toNat:Int)] w (Cz (By st s) w):=by
 have hno:By st s=none:=by
  unfold By;by_cases h:st=69
  ·rw[if_pos h]at hp ⊢;have:Jv (Ai 58 s)=none:=by
    cases hh:Jv (Ai 58 s)with
    |none=>rfl
    |some x=>rw[(Je (n:=x.1) (b:=x.2)).1 hh |>.1]at hp;simp at hp
   rw[this]
  rw[if_neg h]at hp ⊢;have:Km (Ai 58 s)=none:=by
   cases hh:Km (Ai 58 s)with
   |none=>rfl
   |some x=>rw[(Gi (n:=x.1) (b:=x.2.1) (c:=x.2.2)).1 hh |>.1]at hp;simp at hp
  rw[this]
 have Hno:=Aa hno;have Hl:=Aa (Gn 58 s);have hst:=st.toNat_lt;clear hno;have Hcut:=Aa (fun W=>Cl s 58 58 rfl W aE);generalize Ai 58 s=ps at hp Hl Hcut;by_cases h69:st=69
 ·rw[if_pos h69]at hp;have t1:((st.toNat:Int) != 69)=false:=by have:=Bs h69;simpa using this
  have t2:((st.toNat:Int) == 69)=true:=Bs h69;have t3:((ps.length:Int) != 2)=true:=dP;clear h69 hp;go_enter func114,ntmps114;go_wp2_with fail;refine(Hcut.o _).mono ?_;rintro e w1 ⟨v,rfl,ho,hb⟩;obtain⟨A,c,rfl,_⟩:=B8.own ho;obtain⟨hc,hfz,hz⟩:=B4 hb;have Hb:=Aa (((Ay w.heap.size w).alloc (As _) _).trans (hb.mono aI));clear hb ho;go_wp2_with fail;all_goals
   refine aC (v:=.tuple #[sf0,.bool false]) (by simp[results,results114,go_sem,sf0,hc]) rfl ?_;exact iB
 rw[if_neg h69]at hp;have t1:((st.toNat:Int) != 69)=true:=by have:=Am h69;simpa using this
 have t2:((st.toNat:Int) == 69)=false:=Am h69;have t3:((ps.length:Int) != 3)=true:=dP;clear h69 hp;go_enter func114,ntmps114;go_wp2_with fail;refine(Hcut.o _).mono ?_;rintro e w1 ⟨v,rfl,ho,hb⟩;obtain⟨A,c,rfl,_⟩:=B8.own ho;obtain⟨hc,hfz,hz⟩:=B4 hb;have Hb:=Aa (((Ay w.heap.size w).alloc (As _) _).trans (hb.mono aI));clear hb ho;go_wp2_with fail;all_goals
  refine aC (v:=.tuple #[sf0,.bool false]) (by simp[results,results114,go_sem,sf0,hc]) rfl ?_;exact iB
theorem Sr(a b:List UInt8):Dy a 200=false\/(Dy a 200=true/\Cn a=some 0)\/(∃n,Dy a 200=true/\Cn a=some n/\1<=n/\n<=200/\Bb b=false)\/(∃n,Dy a 200=true/\Cn a=some n/\1<=n/\n<=200/\Bb b=true):=by
 cases hd:Cn a with
 |none=>exact .inl (Mm hd)
 |some n=>
  rw[Mt hd];by_cases h:n<=200
  ·have e:decide (n<=200)=true:=bg;rw[e];by_cases h0:n=0
   ·subst h0;exact .inr (.inl ⟨rfl,rfl⟩)
   rcases Bool.eq_false_or_eq_true (Bb b)with hb|hb
   ·exact .inr (.inr (.inr ⟨n,rfl,rfl,by omega,h,hb⟩))
   exact .inr (.inr (.inl ⟨n,rfl,rfl,by omega,h,hb⟩))
  left;simpa using h
theorem Tr{a b:List UInt8}(h:Dy a 200=false\/Cn a=some 0\/Bb b=false):Jv [a,b]=none:=by
 cases hh:Jv [a,b]with
 |none=>rfl
 |some x=>
  obtain⟨n,c⟩:=x;obtain⟨e,h1,h2,h3⟩:=Je.1 hh;simp at e;obtain⟨rfl,rfl⟩:=e;have hd:Cn (Az n)=some n:=Cb.2 ⟨by omega,rfl⟩;rcases h with h|h|h
  ·rw[Mt hd]at h;simp at h;omega
  ·rw[hd]at h;injection h with h;omega
  rw[h3]at h;cases h
theorem Td{a b c:List UInt8}(h:Dy a 200=false\/Cn a=some 0\/Bb b=false):Km [a,b,c]=none:=by
 cases hh:Km [a,b,c]with
 |none=>rfl
 |some x=>
  obtain⟨n,d,f⟩:=x;obtain⟨e,h1,h2,h3⟩:=Gi.1 hh;simp at e;obtain⟨rfl,rfl,rfl⟩:=e;have hd:Cn (Az n)=some n:=Cb.2 ⟨by omega,rfl⟩;rcases h with h|h|h
  ·rw[Mt hd]at h;simp at h;omega
  ·rw[hd]at h;injection h with h;omega
  rw[h3]at h;cases h
theorem Qdk{a b:List UInt8}{n:Nat}(hd:Cn a=some n)(h1:1<=n)(h2:n<=200)(hb:Bb b=true):Jv [a,b]=some (n,b):=Je.2 ⟨by rw[(Cb.1 hd).2],h1,h2,hb⟩
theorem Jz{a b c:List UInt8}{n:Nat}(hd:Cn a=some n)(h1:1<=n)(h2:n<=200)(hb:Bb b=true):Km [a,b,c]=some (n,b,c):=Gi.2 ⟨by rw[(Cb.1 hd).2],h1,h2,hb⟩
theorem Qfx(s a b:List UInt8)(w:World)(hs:s.length<=1000)(hp:Ai 58 s=[a,b])(ho:Dy a 200=false):
  Calls prog 114 #[s,.int .u8 69] w (Cz (By 69 s) w):=by
 have hal:=Al 58 s a bi;have hbl:=Al 58 s b bi;have hF:By 69 s=(match Jv [a,b]with|some (n,b)=>some ⟨n,b,Kd.nil,[]⟩|none=>none):=co;have Hcut:=Aa (fun W=>Cl s 58 58 rfl W aE);rw[hp]at Hcut;have Hnum:=Aa (fun W=>Dn a 200 W aE aE);have Hname:=Aa (fun W=>Cj b W aE);clear hp;rw[Tr (.inl ho)]at hF;have HF:=Aa hF;have Ho:=Aa ho;clear hF ho;go_enter func114,ntmps114;go_wp2_with fail;refine(Hcut.o _).mono ?_;rintro e w1 ⟨v,rfl,ho,hb⟩;obtain⟨g,c,rfl,hg1,hg2,c0,c1⟩:=M4 ho;simp at hg1;obtain⟨hc,hfz,hz⟩:=B4 hb;have Hb:=Aa (((Ay w.heap.size w).alloc (As _) _).trans (hb.mono aI));have hzz:=hz w.heap.size aI;clear hb ho;go_wp2_with fail;refine(Hnum.o _).mono ?_;rintro e w2 ⟨n,hn,rfl,hdn,hb2⟩;rw[Ho.o];obtain⟨hc2,hfz2,hz2⟩:=B4 hb2;have Hb2:=Aa (Hb.o.trans (hb2.mono Hb.o.size));have hsz:=Hb2.o.size;have hz3:=hz2 _ hzz;clear hb2;go_wp2_with fail;refine aC (v:=.tuple #[.agg #[.int .i64 n,b,a8,a8],.bool false]) (by simp[results,results114,go_sem,hc,hc2,hzz,hz3]) rfl ?_;exact iC
theorem Qe5(s a b:List UInt8)(w:World)(hs:s.length<=1000)(hp:Ai 58 s=[a,b])(ho:Dy a 200=true)(hd:Cn a=some 0):
  Calls prog 114 #[s,.int .u8 69] w (Cz (By 69 s) w):=by
 have hal:=Al 58 s a bi;have hbl:=Al 58 s b bi;have hF:By 69 s=(match Jv [a,b]with|some (n,b)=>some ⟨n,b,Kd.nil,[]⟩|none=>none):=co;have Hcut:=Aa (fun W=>Cl s 58 58 rfl W aE);rw[hp]at Hcut;have Hnum:=Aa (fun W=>Dn a 200 W aE aE);have Hname:=Aa (fun W=>Cj b W aE);clear hp;rw[Tr (.inr (.inl hd))]at hF;have HF:=Aa hF;have Ho:=Aa ho;have Hd:=Aa hd;clear hF ho hd;go_enter func114,ntmps114;go_wp2_with fail;refine(Hcut.o _).mono ?_;rintro e w1 ⟨v,rfl,ho,hb⟩;obtain⟨g,c,rfl,hg1,hg2,c0,c1⟩:=M4 ho;simp at hg1;obtain⟨hc,hfz,hz⟩:=B4 hb;have Hb:=Aa (((Ay w.heap.size w).alloc (As _) _).trans (hb.mono aI));have hzz:=hz w.heap.size aI;clear hb ho;go_wp2_with fail;refine(Hnum.o _).mono ?_;rintro e w2 ⟨n,hn,rfl,hdn,hb2⟩;rw[Ho.o];obtain⟨hc2,hfz2,hz2⟩:=B4 hb2;have Hb2:=Aa (Hb.o.trans (hb2.mono Hb.o.size));have hsz:=Hb2.o.size;have hz3:=hz2 _ hzz;clear hb2;obtain rfl:=hdn 0 Hd.o;clear hdn;go_wp2_with fail;refine aC (v:=.tuple #[.agg #[.int .i64 0,b,a8,a8],.bool false]) (by simp[results,results114,go_sem,hc,hc2,hzz,hz3]) rfl ?_;exact iC
theorem Qev(s a b:List UInt8)(w:World)(hs:s.length<=1000)(hp:Ai 58 s=[a,b])(n0:Nat)(ho:Dy a 200=true)(hd:Cn a=some n0)(h1:1<=n0)(h2:n0<=200)(hnm:Bb b=false):
  Calls prog 114 #[s,.int .u8 69] w (Cz (By 69 s) w):=by
 have hal:=Al 58 s a bi;have hbl:=Al 58 s b bi;have hF:By 69 s=(match Jv [a,b]with|some (n,b)=>some ⟨n,b,Kd.nil,[]⟩|none=>none):=co;have Hcut:=Aa (fun W=>Cl s 58 58 rfl W aE);rw[hp]at Hcut;have Hnum:=Aa (fun W=>Dn a 200 W aE aE);have Hname:=Aa (fun W=>Cj b W aE);clear hp;rw[Tr (.inr (.inr hnm))]at hF;have HF:=Aa hF;have Ho:=Aa ho;have Hd:=Aa hd;have Hnm:=Aa hnm;clear hF ho hd hnm;go_enter func114,ntmps114;go_wp2_with fail;refine(Hcut.o _).mono ?_;rintro e w1 ⟨v,rfl,ho,hb⟩;obtain⟨g,c,rfl,hg1,hg2,c0,c1⟩:=M4 ho;simp at hg1;obtain⟨hc,hfz,hz⟩:=B4 hb;have Hb:=Aa (((Ay w.heap.size w).alloc (As _) _).trans (hb.mono aI));have hzz:=hz w.heap.size aI;clear hb ho;go_wp2_with fail;refine(Hnum.o _).mono ?_;rintro e w2 ⟨n,hn,rfl,hdn,hb2⟩;rw[Ho.o];obtain⟨hc2,hfz2,hz2⟩:=B4 hb2;have Hb2:=Aa (Hb.o.trans (hb2.mono Hb.o.size));have hsz:=Hb2.o.size;have hz3:=hz2 _ hzz;clear hb2;obtain rfl:=hdn n0 Hd.o;clear hdn;go_wp2_with fail;refine(Hname.o _).mono ?_;rintro e w3 ⟨rfl,rfl⟩;rw[Hnm.o];go_wp2_with fail;refine aC (v:=.tuple #[.agg #[.int .i64 n0,b,a8,a8],.bool false]) (by simp[results,results114,go_sem,hc,hc2,hzz,hz3]) rfl ?_;exact iC
theorem Qf1(s a b:List UInt8)(w:World)(hs:s.length<=1000)(hp:Ai 58 s=[a,b])(n0:Nat)(ho:Dy a 200=true)(hd:Cn a=some n0)(h1:1<=n0)(h2:n0<=200)(hnm:Bb b=true):
  Calls prog 114 #[s,.int .u8 69] w (Cz (By 69 s) w):=by
 have hal:=Al 58 s a bi;have hbl:=Al 58 s b bi;have hF:By 69 s=(match Jv [a,b]with|some (n,b)=>some ⟨n,b,Kd.nil,[]⟩|none=>none):=co;have Hcut:=Aa (fun W=>Cl s 58 58 rfl W aE);rw[hp]at Hcut;have Hnum:=Aa (fun W=>Dn a 200 W aE aE);have Hname:=Aa (fun W=>Cj b W aE);clear hp;rw[Qdk hd h1 h2 hnm]at hF;have HF:=Aa hF;have Ho:=Aa ho;have Hd:=Aa hd;have Hnm:=Aa hnm;clear hF ho hd hnm;go_enter func114,ntmps114;go_wp2_with fail;refine(Hcut.o _).mono ?_;rintro e w1 ⟨v,rfl,ho,hb⟩;obtain⟨g,c,rfl,hg1,hg2,c0,c1⟩:=M4 ho;simp at hg1;obtain⟨hc,hfz,hz⟩:=B4 hb;have Hb:=Aa (((Ay w.heap.size w).alloc (As _) _).trans (hb.mono aI));have hzz:=hz w.heap.size aI;clear hb ho;go_wp2_with fail;refine(Hnum.o _).mono ?_;rintro e w2 ⟨n,hn,rfl,hdn,hb2⟩;rw[Ho.o];obtain⟨hc2,hfz2,hz2⟩:=B4 hb2;have Hb2:=Aa (Hb.o.trans (hb2.mono Hb.o.size));have hsz:=Hb2.o.size;have hz3:=hz2 _ hzz;clear hb2;obtain rfl:=hdn n0 Hd.o;clear hdn;go_wp2_with fail;refine(Hname.o _).mono ?_;rintro e w3 ⟨rfl,rfl⟩;rw[Hnm.o];go_wp2_with fail;refine aC (v:=.tuple #[sfV ⟨n0,b,Kd.nil,[]⟩,.bool true]) (by simp[results,results114,go_sem,sfV,Kd.nil,Bi,Ca,hc,hc2,hzz,hz3]) rfl ?_;exact Cz.yes HF.o rfl aO
theorem S4(s a b:List UInt8)(w:World)(hs:s.length<=1000)(hp:Ai 58 s=[a,b]):
  Calls prog 114 #[s,.int .u8 69] w (Cz (By 69 s) w):=by
 rcases Sr a b with ho|⟨ho,hd⟩|⟨n0,ho,hd,h1,h2,hnm⟩|⟨n0,ho,hd,h1,h2,hnm⟩
 ·exact Qfx s a b w hs hp ho
 ·exact Qe5 s a b w hs hp ho hd
 ·exact Qev s a b w hs hp n0 ho hd h1 h2 hnm
 exact Qf1 s a b w hs hp n0 ho hd h1 h2 hnm
theorem Qcj{w:World}{base:Nat}{v:Value}{a:List UInt8}(h:w.ownsRow base 9 1 v [a].length (Br [a])):
  ∃g c,v=.slice (some ⟨g,0,none⟩) 1 c/\base<=g/\g<w.heap.size/\w.cell? ⟨g,0,none⟩=a:=by
 rcases h.2 with⟨_,h0⟩|⟨g,cap,cur,rfl,hb,hh,_⟩
 ·simp at h0
 have hc:=fun j u hu=>h.cells (g:=g) rfl j u hu;have e1:∀j,(⟨g,0,none⟩:Addr).add j=⟨g,j,none⟩:=fun j=>bj;refine⟨g,cap,rfl,hb,(h.lt g rfl).2,?_⟩;have:=hc 0 _ rfl;rwa [e1]at this
def Ea(st:UInt8)(a b d:List UInt8):Option Fd:=
 match Km [a,b,d]with
 |some (n,b,c)=>(match Ai 61 c with
  |[k]=>(match Co k with|some k=>some ⟨n,b,k,[]⟩|none=>none)
  |[k,v]=>if st=82/\Bw k v=true then some ⟨n,b,⟨[],k,[]⟩,v⟩else none
  |_=>none)
 |none=>none
theorem Eb{st:UInt8}{s a b d:List UInt8}(hst:st≠69)(hp:Ai 58 s=[a,b,d]):By st s=Ea st a b d:=by
 unfold By Ea;rw[if_neg hst,hp];cases Km [a,b,d]with
 |none=>rfl
 |some x=>
  obtain⟨n,b',c⟩:=x;simp only;match Ai 61 c with
  |[]=>rfl
  |[k]=>simp only;cases Co k<;>rfl
  |[k,v]=>rfl
  |_::_::_::_=>rfl
theorem Rr{st:UInt8}{a b d:List UInt8}(h:Km [a,b,d]=none):Ea st a b d=none:=by unfold Ea;rw[h]
theorem Xf{st:UInt8}{a b d k:List UInt8}{n:Nat}(h:Km [a,b,d]=some (n,b,d))(hq:Ai 61 d=[k]):Ea st a b d=(Co k).map fun k=>⟨n,b,k,[]⟩:=by
 unfold Ea;rw[h];simp only;rw[hq];simp only;cases Co k<;>rfl
theorem Rl{st:UInt8}{a b d k v:List UInt8}{n:Nat}(h:Km [a,b,d]=some (n,b,d))(hq:Ai 61 d=[k,v]):Ea st a b d=if st=82/\Bw k v=true then some ⟨n,b,⟨[],k,[]⟩,v⟩else none:=by
 unfold Ea;rw[h];simp only;rw[hq]
theorem Qbv{st:UInt8}{a b d k v x:List UInt8}{l:List (List UInt8)}{n:Nat}(h:Km [a,b,d]=some (n,b,d))(hq:Ai 61 d=k::v::x::l):Ea st a b d=none:=by
 unfold Ea;rw[h];simp only;rw[hq]
theorem Qfi(st:UInt8)(hst:st≠69)(s a b d:List UInt8)(w:World)(hs:s.length<=1000)(hp:Ai 58 s=[a,b,d])(ho:Dy a 200=false):
  Calls prog 114 #[s,.int .u8 (st.toNat:Int)] w (Cz (By st s) w):=by
 have hal:=Al 58 s a bi;have hbl:=Al 58 s b bi;have hdl:=Al 58 s d bi;have hF:By st s=Ea st a b d:=Eb hst hp;have Hcut:=Aa (fun W=>Cl s 58 58 rfl W aE);rw[hp]at Hcut;have Hnum:=Aa (fun W=>Dn a 200 W aE aE);have Hname:=Aa (fun W=>Cj b W aE);have hsl:=st.toNat_lt;have t1:((st.toNat:Int) != 69)=true:=cm;have t2:((st.toNat:Int) == 69)=false:=Am hst;clear hp hst;rw[Rr (Td (.inl ho))]at hF;have HF:=Aa hF;have Ho:=Aa ho;clear hF ho;go_enter func114,ntmps114;go_wp2_with fail;refine(Hcut.o _).mono ?_;rintro e w1 ⟨v,rfl,ho,hb⟩;obtain⟨g,c,rfl,hg1,hg2,c0,c1,c2⟩:=Ge ho;simp at hg1;obtain⟨hc,hfz,hz⟩:=B4 hb;have Hb:=Aa (((Ay w.heap.size w).alloc (As _) _).trans (hb.mono aI));have hzz:=hz w.heap.size aI;clear hb ho;go_wp2_with fail;refine(Hnum.o _).mono ?_;rintro e w2 ⟨n,hn,rfl,hdn,hb2⟩;rw[Ho.o];obtain⟨hc2,hfz2,hz2⟩:=B4 hb2;have Hb2:=Aa (Hb.o.trans (hb2.mono Hb.o.size));have hsz:=Hb2.o.size;have hz3:=hz2 _ hzz;clear hb2;go_wp2_with fail;refine aC (v:=.tuple #[.agg #[.int .i64 n,b,a8,a8],.bool false]) (by simp[results,results114,go_sem,hc,hc2,hzz,hz3]) rfl ?_;exact iC
theorem Qfn(st:UInt8)(hst:st≠69)(s a b d:List UInt8)(w:World)(hs:s.length<=1000)(hp:Ai 58 s=[a,b,d])(ho:Dy a 200=true)(hd:Cn a=some 0):
  Calls prog 114 #[s,.int .u8 (st.toNat:Int)] w (Cz (By st s) w):=by
 have hal:=Al 58 s a bi;have hbl:=Al 58 s b bi;have hdl:=Al 58 s d bi;have hF:By st s=Ea st a b d:=Eb hst hp;have Hcut:=Aa (fun W=>Cl s 58 58 rfl W aE);rw[hp]at Hcut;have Hnum:=Aa (fun W=>Dn a 200 W aE aE);have Hname:=Aa (fun W=>Cj b W aE);have hsl:=st.toNat_lt;have t1:((st.toNat:Int) != 69)=true:=cm;have t2:((st.toNat:Int) == 69)=false:=Am hst;clear hp hst;rw[Rr (Td (.inr (.inl hd)))]at hF;have HF:=Aa hF;have Ho:=Aa ho;have Hd:=Aa hd;clear hF ho hd;go_enter func114,ntmps114;go_wp2_with fail;refine(Hcut.o _).mono ?_;rintro e w1 ⟨v,rfl,ho,hb⟩;obtain⟨g,c,rfl,hg1,hg2,c0,c1,c2⟩:=Ge ho;simp at hg1;obtain⟨hc,hfz,hz⟩:=B4 hb;have Hb:=Aa (((Ay w.heap.size w).alloc (As _) _).trans (hb.mono aI));have hzz:=hz w.heap.size aI;clear hb ho;go_wp2_with fail;refine(Hnum.o _).mono ?_;rintro e w2 ⟨n,hn,rfl,hdn,hb2⟩;rw[Ho.o];obtain⟨hc2,hfz2,hz2⟩:=B4 hb2;have Hb2:=Aa (Hb.o.trans (hb2.mono Hb.o.size));have hsz:=Hb2.o.size;have hz3:=hz2 _ hzz;clear hb2;obtain rfl:=hdn 0 Hd.o;clear hdn;go_wp2_with fail;refine aC (v:=.tuple #[.agg #[.int .i64 0,b,a8,a8],.bool false]) (by simp[results,results114,go_sem,hc,hc2,hzz,hz3]) rfl ?_;exact iC
theorem Qgn(st:UInt8)(hst:st≠69)(s a b d:List UInt8)(w:World)(hs:s.length<=1000)(hp:Ai 58 s=[a,b,d])(n0:Nat)(ho:Dy a 200=true)(hd:Cn a=some n0)(h1:1<=n0)(h2:n0<=200)(hnm:Bb b=false):
  Calls prog 114 #[s,.int .u8 (st.toNat:Int)] w (Cz (By st s) w):=by
 have hal:=Al 58 s a bi;have hbl:=Al 58 s b bi;have hdl:=Al 58 s d bi;have hF:By st s=Ea st a b d:=Eb hst hp;have Hcut:=Aa (fun W=>Cl s 58 58 rfl W aE);rw[hp]at Hcut;have Hnum:=Aa (fun W=>Dn a 200 W aE aE);have Hname:=Aa (fun W=>Cj b W aE);have hsl:=st.toNat_lt;have t1:((st.toNat:Int) != 69)=true:=cm;have t2:((st.toNat:Int) == 69)=false:=Am hst;clear hp hst;rw[Rr (Td (.inr (.inr hnm)))]at hF;have HF:=Aa hF;have Ho:=Aa ho;have Hd:=Aa hd;have Hnm:=Aa hnm;clear hF ho hd hnm;go_enter func114,ntmps114;go_wp2_with fail;refine(Hcut.o _).mono ?_;rintro e w1 ⟨v,rfl,ho,hb⟩;obtain⟨g,c,rfl,hg1,hg2,c0,c1,c2⟩:=Ge ho;simp at hg1;obtain⟨hc,hfz,hz⟩:=B4 hb;have Hb:=Aa (((Ay w.heap.size w).alloc (As _) _).trans (hb.mono aI));have hzz:=hz w.heap.size aI;clear hb ho;go_wp2_with fail;refine(Hnum.o _).mono ?_;rintro e w2 ⟨n,hn,rfl,hdn,hb2⟩;rw[Ho.o];obtain⟨hc2,hfz2,hz2⟩:=B4 hb2;have Hb2:=Aa (Hb.o.trans (hb2.mono Hb.o.size));have hsz:=Hb2.o.size;have hz3:=hz2 _ hzz;clear hb2;obtain rfl:=hdn n0 Hd.o;clear hdn;go_wp2_with fail;refine(Hname.o _).mono ?_;rintro e w3 ⟨rfl,rfl⟩;rw[Hnm.o];go_wp2_with fail;refine aC (v:=.tuple #[.agg #[.int .i64 n0,b,a8,a8],.bool false]) (by simp[results,results114,go_sem,hc,hc2,hzz,hz3]) rfl ?_;exact iC
theorem Qej(st:UInt8)(hst:st≠69)(s a b d:List UInt8)(w:World)(hs:s.length<=1000)(hp:Ai 58 s=[a,b,d])(n0:Nat)(ho:Dy a 200=true)(hd:Cn a=some n0)(h1:1<=n0)(h2:n0<=200)(hnm:Bb b=true)(k:List UInt8)(hq:Ai 61 d=[k])(hk:Co k=none):
  Calls prog 114 #[s,.int .u8 (st.toNat:Int)] w (Cz (By st s) w):=by
 have hal:=Al 58 s a bi;have hbl:=Al 58 s b bi;have hdl:=Al 58 s d bi;have hF:By st s=Ea st a b d:=Eb hst hp;have Hcut:=Aa (fun W=>Cl s 58 58 rfl W aE);rw[hp]at Hcut;have Hnum:=Aa (fun W=>Dn a 200 W aE aE);have Hname:=Aa (fun W=>Cj b W aE);have hsl:=st.toNat_lt;have t1:((st.toNat:Int) != 69)=true:=cm;have t2:((st.toNat:Int) == 69)=false:=Am hst;clear hp hst;have hkl:=Al 61 d k da;rw[Xf (Jz hd h1 h2 hnm) hq,hk]at hF;have HF:=Aa hF;have Ho:=Aa ho;have Hd:=Aa hd;have Hnm:=Aa hnm;have Hcut2:=Aa (fun W=>Cl d 61 61 rfl W aE);rw[hq]at Hcut2;clear hF ho hd hnm hq;have hkk:=fun W=>M8 k.length k W (As _) aE;rw[hk]at hkk;have Hk:=Aa hkk;clear hkk hk;go_enter func114,ntmps114;go_wp2_with fail;refine(Hcut.o _).mono ?_;rintro e w1 ⟨v,rfl,ho,hb⟩;obtain⟨g,c,rfl,hg1,hg2,c0,c1,c2⟩:=Ge ho;simp at hg1;obtain⟨hc,hfz,hz⟩:=B4 hb;have Hb:=Aa (((Ay w.heap.size w).alloc (As _) _).trans (hb.mono aI));have hzz:=hz w.heap.size aI;clear hb ho;go_wp2_with fail;refine(Hnum.o _).mono ?_;rintro e w2 ⟨n,hn,rfl,hdn,hb2⟩;rw[Ho.o];obtain⟨hc2,hfz2,hz2⟩:=B4 hb2;have Hb2:=Aa (Hb.o.trans (hb2.mono Hb.o.size));have hsz:=Hb2.o.size;have hz3:=hz2 _ hzz;clear hb2;obtain rfl:=hdn n0 Hd.o;clear hdn;go_wp2_with fail;refine(Hname.o _).mono ?_;rintro e w3 ⟨rfl,rfl⟩;rw[Hnm.o];go_wp2_with fail;refine(Hcut2.o _).mono ?_;rintro e w4 ⟨v4,rfl,ho4,hb4⟩;obtain⟨g4,c4,rfl,hg4,hg5,c40⟩:=Qcj ho4;obtain⟨hc4,hfz4,hz4⟩:=B4 hb4;have hzb:=hz4 w.heap.size (Nat.lt_trans hz3 aI);have hzf:=hz4 w2.heap.size aI;have Hb4:=Aa ((Hb2.o.alloc hsz _).trans (hb4.mono (ac hsz aI)));have u0:w4.cell? (w,0)=some (.int .i64 0):=fl;have u1:w4.cell? (w,1)=a8:=fm;have u2:w4.cell? (w,2)=a8:=fq;have u3:w4.cell? (w,3)=a8:=fr;have d0:w4.cell? (w2,0)=(n0:Int):=fB;have d1:w4.cell? (w2,1)=b:=fC;have d2:w4.cell? (w2,2)=a8:=fD;have d3:w4.cell? (w2,3)=a8:=fE;have f1:∀j,w4.frozen? ⟨w.heap.size,j,none⟩=false:=fun j=>fj;have f2:∀j,w4.frozen? ⟨w2.heap.size,j,none⟩=false:=fun j=>fw;clear hb4 ho4 hc hc2 hc4 hfz hfz2 hfz4 hz hz2 hz4;have hn1:¬(w2.heap.size=w.heap.size):=aE;have hn2:¬(w.heap.size=w2.heap.size):=aE;have hn3:¬(w4.heap.size=w.heap.size):=aE;have hn4:¬(w.heap.size=w4.heap.size):=aE;go_wp2_with fail;generalize hW0:w4.setCell ⟨w2.heap.size,2,none⟩ k=W0;have e0:W0.cell? (w2,0)=(n0:Int):=dj;have e1:W0.cell? (w2,1)=b:=dk;have e2:W0.cell? (w2,2)=k:=cW;have e3:W0.cell? (w2,3)=a8:=cX;have v0:W0.cell? (w,0)=some (.int .i64 0):=cO;have v1:W0.cell? (w,1)=a8:=cP;have v2:W0.cell? (w,2)=a8:=cQ;have v3:W0.cell? (w,3)=a8:=cR;have g1:∀j,W0.frozen? ⟨w.heap.size,j,none⟩=false:=fun j=>dm;have y1:w.heap.size<W0.heap.size:=dg;have Hb5:Below w w W0:=by
  rw[<-hW0];(repeat (first|exact Hb4.o|refine Below.setCell ?_ aK _|refine Below.alloc ?_ aK _|refine Below.drew ?_))
 have Hb5:=Aa Hb5;clear hW0 u0 u1 u2 u3 d0 d1 d2 d3 f1 f2 Hb4 hzb hzf;refine Gm [83,84,85,86,87,88,89,90,91,999,5] aJ aJ aJ (fun u=>by dsimp only[Bn,Bk,List.set])
  (fun i x W=>x=[.agg #[.int .i64 n0,.string ⟨b.toArray⟩,.string ⟨k.toArray⟩,.string ⟨#[]⟩],.slice (some ⟨g4,0,none⟩) 1 c4,.int .i64 1,.bool true,.bool true,.pointer (some ⟨w2.heap.size,2,none⟩),.string ⟨k.toArray⟩,.bool false,.bool false,undef,.bool false][i]?.getD undef)
  (fun L W=>W=if L 9=true then(((W0.drew.setCell ⟨w.heap.size,0,none⟩ (.int .i64 n0)).setCell ⟨w.heap.size,1,none⟩ b).setCell ⟨w.heap.size,2,none⟩ k).setCell ⟨w.heap.size,3,none⟩ a8 else W0.drew) (fun _ _=>True) (fun _ _ _ _ _ h=>h) rfl ?_ ?_
 ·exact fU
 rintro L u W hL hφ hR;have c10:=hφ 10 aH;simp at c10;simp only[c10];rw[if_pos (hL 9 aH)]at hR;subst hR;go_wp2_with fail;refine aC (v:=.tuple #[.agg #[.int .i64 n0,b,k,a8],.bool false]) (by simp[results,results114,go_sem,g1,y1,v0,v1,v2,v3]) rfl ?_;exact Cz.no HF.o rfl aV
theorem Qds(st:UInt8)(hst:st≠69)(s a b d:List UInt8)(w:World)(hs:s.length<=1000)(hp:Ai 58 s=[a,b,d])(n0:Nat)(ho:Dy a 200=true)(hd:Cn a=some n0)(h1:1<=n0)(h2:n0<=200)(hnm:Bb b=true)(k:List UInt8)(hq:Ai 61 d=[k])(kk:Kd)(hk:Co k=some kk):
  Calls prog 114 #[s,.int .u8 (st.toNat:Int)] w (Cz (By st s) w):=by
 have hal:=Al 58 s a bi;have hbl:=Al 58 s b bi;have hdl:=Al 58 s d bi;have hF:By st s=Ea st a b d:=Eb hst hp;have Hcut:=Aa (fun W=>Cl s 58 58 rfl W aE);rw[hp]at Hcut;have Hnum:=Aa (fun W=>Dn a 200 W aE aE);have Hname:=Aa (fun W=>Cj b W aE);have hsl:=st.toNat_lt;have t1:((st.toNat:Int) != 69)=true:=cm;have t2:((st.toNat:Int) == 69)=false:=Am hst;clear hp hst;have hkl:=Al 61 d k da;rw[Xf (Jz hd h1 h2 hnm) hq,hk]at hF;have Hkb:=Aa (Er.1 hk).2;have HF:=Aa hF;have Ho:=Aa ho;have Hd:=Aa hd;have Hnm:=Aa hnm;have Hcut2:=Aa (fun W=>Cl d 61 61 rfl W aE);rw[hq]at Hcut2;clear hF ho hd hnm hq;have hkk:=fun W=>M8 k.length k W (As _) aE;rw[hk]at hkk;have Hk:=Aa hkk;clear hkk hk;go_enter func114,ntmps114;go_wp2_with fail;refine(Hcut.o _).mono ?_;rintro e w1 ⟨v,rfl,ho,hb⟩;obtain⟨g,c,rfl,hg1,hg2,c0,c1,c2⟩:=Ge ho;simp at hg1;obtain⟨hc,hfz,hz⟩:=B4 hb;have Hb:=Aa (((Ay w.heap.size w).alloc (As _) _).trans (hb.mono aI));have hzz:=hz w.heap.size aI;clear hb ho;go_wp2_with fail;refine(Hnum.o _).mono ?_;rintro e w2 ⟨n,hn,rfl,hdn,hb2⟩;rw[Ho.o];obtain⟨hc2,hfz2,hz2⟩:=B4 hb2;have Hb2:=Aa (Hb.o.trans (hb2.mono Hb.o.size));have hsz:=Hb2.o.size;have hz3:=hz2 _ hzz;clear hb2;obtain rfl:=hdn n0 Hd.o;clear hdn;go_wp2_with fail;refine(Hname.o _).mono ?_;rintro e w3 ⟨rfl,rfl⟩;rw[Hnm.o];go_wp2_with fail;refine(Hcut2.o _).mono ?_;rintro e w4 ⟨v4,rfl,ho4,hb4⟩;obtain⟨g4,c4,rfl,hg4,hg5,c40⟩:=Qcj ho4;obtain⟨hc4,hfz4,hz4⟩:=B4 hb4;have hzb:=hz4 w.heap.size (Nat.lt_trans hz3 aI);have hzf:=hz4 w2.heap.size aI;have Hb4:=Aa ((Hb2.o.alloc hsz _).trans (hb4.mono (ac hsz aI)));have u0:w4.cell? (w,0)=some (.int .i64 0):=fl;have u1:w4.cell? (w,1)=a8:=fm;have u2:w4.cell? (w,2)=a8:=fq;have u3:w4.cell? (w,3)=a8:=fr;have d0:w4.cell? (w2,0)=(n0:Int):=fB;have d1:w4.cell? (w2,1)=b:=fC;have d2:w4.cell? (w2,2)=a8:=fD;have d3:w4.cell? (w2,3)=a8:=fE;have f1:∀j,w4.frozen? ⟨w.heap.size,j,none⟩=false:=fun j=>fj;have f2:∀j,w4.frozen? ⟨w2.heap.size,j,none⟩=false:=fun j=>fw;clear hb4 ho4 hc hc2 hc4 hfz hfz2 hfz4 hz hz2 hz4;have hn1:¬(w2.heap.size=w.heap.size):=aE;have hn2:¬(w.heap.size=w2.heap.size):=aE;have hn3:¬(w4.heap.size=w.heap.size):=aE;have hn4:¬(w.heap.size=w4.heap.size):=aE;go_wp2_with fail;generalize hW0:w4.setCell ⟨w2.heap.size,2,none⟩ k=W0;have e0:W0.cell? (w2,0)=(n0:Int):=dj;have e1:W0.cell? (w2,1)=b:=dk;have e2:W0.cell? (w2,2)=k:=cW;have e3:W0.cell? (w2,3)=a8:=cX;have v0:W0.cell? (w,0)=some (.int .i64 0):=cO;have v1:W0.cell? (w,1)=a8:=cP;have v2:W0.cell? (w,2)=a8:=cQ;have v3:W0.cell? (w,3)=a8:=cR;have g1:∀j,W0.frozen? ⟨w.heap.size,j,none⟩=false:=fun j=>dm;have y1:w.heap.size<W0.heap.size:=dg;have Hb5:Below w w W0:=by
  rw[<-hW0];(repeat (first|exact Hb4.o|refine Below.setCell ?_ aK _|refine Below.alloc ?_ aK _|refine Below.drew ?_))
 have Hb5:=Aa Hb5;clear hW0 u0 u1 u2 u3 d0 d1 d2 d3 f1 f2 Hb4 hzb hzf;refine Gm [83,84,85,86,87,88,89,90,91,999,5] aJ aJ aJ (fun u=>by dsimp only[Bn,Bk,List.set])
  (fun i x W=>x=[.agg #[.int .i64 n0,.string ⟨b.toArray⟩,.string ⟨k.toArray⟩,.string ⟨#[]⟩],.slice (some ⟨g4,0,none⟩) 1 c4,.int .i64 1,.bool true,.bool true,.pointer (some ⟨w2.heap.size,2,none⟩),.string ⟨k.toArray⟩,.bool true,.bool true,undef,.bool true][i]?.getD undef)
  (fun L W=>W=if L 9=true then(((W0.drew.setCell ⟨w.heap.size,0,none⟩ (.int .i64 n0)).setCell ⟨w.heap.size,1,none⟩ b).setCell ⟨w.heap.size,2,none⟩ k).setCell ⟨w.heap.size,3,none⟩ a8 else W0.drew) (fun _ _=>True) (fun _ _ _ _ _ h=>h) rfl ?_ ?_
 ·exact fU
 rintro L u W hL hφ hR;have c10:=hφ 10 aH;simp at c10;simp only[c10];rw[if_pos (hL 9 aH)]at hR;subst hR;go_wp2_with fail;refine aC (v:=.tuple #[.agg #[.int .i64 n0,b,k,a8],.bool true]) (by simp[results,results114,go_sem,g1,y1,v0,v1,v2,v3]) rfl ?_;exact Cz.yes HF.o (by unfold sfV;rw[Hkb.o]) aV
end
end Go.Proofs.YtkigmebejmmikaaGreatDoor
