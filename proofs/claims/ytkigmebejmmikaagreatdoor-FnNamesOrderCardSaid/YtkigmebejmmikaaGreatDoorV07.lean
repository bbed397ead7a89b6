/- Texts joined. Conditions: as each theorem names them. -/
import Derived.Test.YtkigmebejmmikaaGreatDoorV05
set_option maxRecDepth 100000
set_option maxHeartbeats 32000000
set_option linter.unusedVariables false
set_option linter.unusedSimpArgs false
namespace Go.Proofs.YtkigmebejmmikaaGreatDoor
open Go.RowKit Go.Proofs.Tryz
section
attribute [local go_sem] Qo1 Qof Qnv Qlx ByteArray.mk_append_mk
def sfR:Option Fd->Value
 |some f=>.tuple #[sfV f,.bool true]
 |none=>.tuple #[sf0,.bool false]
theorem Yv(st nm fv:Value)(fs:List Fd)(n:Nat)(w:World)(h:Ef w fv fs)(hn:n<=1000000000):
  Calls prog 68 #[.agg #[st,nm,fv],.int .i64 n] w fun e w'=>e=.returned (sfR (Bj fs n))/\Below w w w':=by
 obtain⟨A,c,rfl,hl,hr⟩:=h;have Hr:=Aa hr;clear hr;go_enter func68,ntmps68;go_wp2_with fail;go_loopw [6] (fun i wr=>∃k:Nat,i=.int .i64 k/\k<=fs.length/\wr=(w.alloc (.cells #[st,nm,.slice A fs.length c] 95)).alloc (.cells #[.int .i64 0,aa,aa,aa] 118)/\Hid (∀f∈fs.take k,decide (f.tag=n)=false)) (fun i _=>fs.length - (intOf i).toNat)
 case atStart=>exact⟨0,rfl,ag _,rfl,by intro f hf;simp at hf⟩
 case round=>
  obtain⟨k,rfl,hk,rfl,hin⟩:=hrel;by_cases hlt:k<fs.length
  ·obtain⟨b,off,rfl,hb,c0,c1,c2,c3⟩:=Ef.at_ Hr.o hlt;have Hts:=Aa (Bx fs k hlt);have Hft:=Aa (Tr (p:=fun f=>decide (f.tag=n)) hlt hin.o);generalize fs[k]=f at c0 c1 c2 c3 Hts Hft;have k1:(0:Int)<=(k:Int):=aG;have k2:(k:Int)<(fs.length:Int):=aG;by_cases he:f.tag=n
   ·have t1:((f.tag:Int) == (n:Int))=true:=by simp[he]
    have Hfin:=Aa (show Bj fs n=some f by unfold Bj;rw[Hft.o,if_pos cM]);clear he;go_wp2_with fail;exact aE (v:=.tuple #[sfV f,.bool true]) (by simp[results,results68,go_sem,sfV]) rfl ⟨by rw[Hfin.o];rfl,((Aw _ _).alloc (Ar _) _).alloc aL _⟩
   have t1:((f.tag:Int) == (n:Int))=false:=bY
   have Hin:=Aa (show ∀g∈fs.take (k+1),decide (g.tag=n)=false by
    intro g hg;rw[Hts.o]at hg;rcases af.1 hg with hg|hg
    ·exact kx
    simp at hg;subst hg;simpa using he)
   clear he;go_wp2_with fail;go_roundw
   case rel=>exact⟨k+1,by go_num,by omega,Ac,Hin.o⟩
   case measure=>simp[intOf];omega
  ·have Hfin:=@Aa (Bj fs n=none) (Ny (fun f hf=>hin.o f cN));go_wp2_with fail;exact aE (v:=.tuple #[sf0,.bool false]) (by simp[results,results68,go_sem,sf0]) rfl ⟨by rw[Hfin.o];rfl,((Aw _ _).alloc (Ar _) _).alloc aL _⟩
def T6:Option (Ty × Value)->Value
 |some x=>.tuple #[Rm x.1 x.2,.bool true]
 |none=>.tuple #[P2,.bool false]
theorem Tp(v:Value)(xs:List (Ty × Value))(n:List UInt8)(w:World)(h:G8 w v xs):
  Calls prog 45 #[v,n] w fun e w'=>e=.returned (T6 (E3 xs n))/\Below w w w':=by
 obtain⟨A,c,rfl,hl,hr,hf⟩:=h;have Hr:=Aa hr;have Hf:=Aa hf;clear hr hf;go_enter func45,ntmps45;go_wp2_with fail;go_loopw [6] (fun i wr=>∃k:Nat,i=.int .i64 k/\k<=xs.length/\wr=w.alloc (.cells #[.int .u8 0,aa,.slice none 0 0] 95)/\Hid (∀x∈xs.take k,decide (x.1.name=n)=false)) (fun i _=>xs.length - (intOf i).toNat)
 case atStart=>exact⟨0,rfl,ag _,rfl,by intro f hf;simp at hf⟩
 case round=>
  obtain⟨k,rfl,hk,rfl,hin⟩:=hrel;by_cases hlt:k<xs.length
  ·obtain⟨b,off,rfl,hb,c0,c1,c2⟩:=G8.at_ Hr.o hlt;have Hts:=Aa (Bx xs k hlt);have Hft:=Aa (Tr (p:=fun x=>decide (x.1.name=n)) hlt hin.o);have hfx:=Hf.o _ (ae hlt);generalize xs[k]=x at c0 c1 c2 Hts Hft hfx;obtain⟨t,fv⟩:=x;simp only[]at c0 c1 c2 hfx;obtain⟨A2,d2,hfv,_⟩:=hfx;subst hfv;have k1:(0:Int)<=(k:Int):=aG;have k2:(k:Int)<(xs.length:Int):=aG;by_cases he:t.name=n
   ·have t1:(t.name == n)=true:=by simp[he]
    have Hfin:=Aa (show E3 xs n=some (t,.slice A2 t.fields.length d2)by unfold E3;rw[Hft.o,if_pos cM]);clear he;go_wp2_with fail;refine aE (v:=.tuple #[Rm t (.slice A2 t.fields.length d2),.bool true]) (by simp[results,results45,go_sem,Rm]) rfl ?_;exact kX
   have t1:(t.name == n)=false:=cM
   have Hin:=Aa (show ∀g∈xs.take (k+1),decide (g.1.name=n)=false by
    intro g hg;rw[Hts.o]at hg;rcases af.1 hg with hg|hg
    ·exact kx
    simp at hg;subst hg;simpa using he)
   clear he;go_wp2_with fail;go_roundw
   case rel=>exact⟨k+1,by go_num,by omega,Ac,Hin.o⟩
   case measure=>simp[intOf];omega
  ·have Hfin:=@Aa (E3 xs n=none) (Ny (fun f hf=>hin.o f cN));go_wp2_with fail;refine aE (v:=.tuple #[P2,.bool false]) (by simp[results,results45,go_sem,P2]) rfl ?_;exact kX
theorem Qmg{k:Kd}(h:Ch k):(k.signs=[]/\k.base=[64]/\Bt k=64::(k.name++[59])/\k.name.length<=3)\/(¬(k.signs=[]/\k.base=[64])/\∃c t,Bt k=c::t/\c≠64/\t.length<=12):=by
 obtain⟨h1,h2,h3⟩:=h;cases hs:k.signs with
 |cons c t=>
  refine .inr ⟨by simp,c,t++Cr k,by unfold Bt;rw[hs];rfl,?_,?_⟩
  ·rw[hs]at h1;simp only[List.all_cons,av]at h1;rintro rfl;exact absurd h1.1 aJ
  unfold Bt at h3;rw[hs]at h3;simp at h3 ⊢;omega
 |nil=>
  rcases h2 with⟨hb,hn⟩|⟨hb,_⟩
  ·exact .inl ⟨rfl,hb,by unfold Bt Cr;rw[hs,if_pos hb];rfl,(C7.1 hn).2.1⟩
  refine .inr ⟨?_,?_⟩
  ·rintro⟨_,h⟩;rcases hb with hb|hb|hb<;>· rw[hb]at h;revert h;decide
  have hc:Bt k=k.base:=by
   unfold Bt Cr;rw[hs,if_neg (by rcases hb with hb|hb|hb<;>· rw[hb];decide)];rfl
  rw[hc];rcases hb with hb|hb|hb<;>· rw[hb];exact⟨_,_,rfl,by decide,by simp⟩
theorem Gf(v:Value)(xs:List (Ty × Value))(k:Kd)(w:World)(h:G8 w v xs)(hk:Ch k):
  Calls prog 47 #[v,.string ⟨(Bt k).toArray⟩] w fun e w'=>e=.returned (T6 (J3 xs k))/\Below w w w':=by
 have H:=Aa h;clear h;rcases Qmg hk with⟨h1,h2,h3,h4⟩|⟨h1,c,t,h3,h4,h5⟩
 ·have Hr:=@Aa (J3 xs k=E3 xs k.name) (if_pos ⟨h1,h2⟩);rw[h3];clear h1 h2 h3;go_enter func47,ntmps47;go_wp2_with fail;refine(Qbe k.name _ aG).mono ?_;rintro e w' ⟨rfl,rfl⟩;go_wp2_with fail;refine(Tp v xs k.name _ (H.o.below ((Aw _ _).alloc (Ar _) _))).mono ?_;rintro e w2 ⟨rfl,hb⟩;cases hf:E3 xs k.name with
  |none=>
   rw[hf]at Hr;obtain⟨hc,hfz,hz⟩:=Ck hb;have Hb:=Aa (((Aw w.heap.size w).alloc (Ar _) _).trans (hb.mono aL));clear hb hf;unfold T6 P2;go_wp2_with fail;refine aE (v:=.tuple #[P2,.bool false]) (by simp[results,results47,go_sem,P2,hc]) rfl ?_;exact kY
  |some x=>
   obtain⟨t,fv⟩:=x;have hm:=(Db hf).1;obtain⟨A,c,_,_,_,hfs⟩:=H.o;obtain⟨A2,d2,e2,_⟩:=hfs _ hm;simp only at e2;subst e2;rw[hf]at Hr;obtain⟨hc,hfz,hz⟩:=Ck hb;have Hb:=Aa (((Aw w.heap.size w).alloc (Ar _) _).trans (hb.mono aL));clear hb hf hm hfs;unfold T6 Rm;go_wp2_with fail;refine aE (v:=.tuple #[Rm t (.slice A2 t.fields.length d2),.bool true]) (by simp[results,results47,go_sem,Rm,hc]) rfl ?_;exact kY
 have Hr:=@Aa (J3 xs k=none) (if_neg h1);rw[h3];clear h1 h3;go_enter func47,ntmps47;go_wp2_with fail;refine(Qe2 c t _ h4 aG).mono ?_;rintro e w' ⟨rfl,rfl⟩;go_wp2_with fail;refine aE (v:=.tuple #[P2,.bool false]) (by simp[results,results47,go_sem,P2]) rfl ?_;exact⟨by rw[Hr.o];rfl,(Aw _ _).alloc (Ar _) _⟩
theorem Qmc(S:List Ty)(n:Nat)(t:Ty)(h:t.sort≠85):Cb S (n+1) t=true:=by
 simp only[Cb,Gl,if_neg h]
theorem Qkl(xs:List (Ty × Value))(n:Nat)(t:Ty)(f:Fd)(fs:List Fd)(h:t.sort=85)(hf:t.fields=f::fs):
  Cb (Ag xs) (n+1) t=(match J3 xs f.kind with|none=>true|some u=>Cb (Ag xs) n u.1):=by
 simp only[Cb,Gl,if_pos h,hf,J3];by_cases hk:f.kind.signs=[]/\f.kind.base=[64]
 ·rw[if_pos hk,if_pos hk,J9];cases E3 xs f.kind.name<;>rfl
 rw[if_neg hk,if_neg hk]
theorem Qgo{t:Ty}(h:Do t)(hs:t.sort=85):∃f fs,t.fields=f::fs/\Ch f.kind:=by
 obtain⟨h1,h2,h3,h4,h5⟩:=h;cases hf:t.fields with
 |nil=>have:=h5 hf;rw[hs]at this;exact absurd this aJ
 |cons f fs=>
  refine⟨f,fs,rfl,?_⟩;have:=h3.1 f eL;exact(this.2.2.2.2 eQ).1
theorem Qk3{xs:List (Ty × Value)}{k:Kd}{x:Ty × Value}(h:J3 xs k=some x):x∈xs:=by
 unfold J3 at h;split at h
 ·exact(Db h).1
 cases h
theorem Qh1(v fv:Value)(xs:List (Ty × Value))(t:Ty)(w:World)(h:G8 w v xs)(ht:Do t)(hft:Ef w fv t.fields)(hok:∀x∈xs,Do x.1):
  Calls prog 115 #[v,Rm t fv] w fun e w'=>e=.returned (.bool (Cb (Ag xs) (xs.length+1) t))/\Below w w w':=by
 have H:=Aa h;have Hok:=Aa hok;obtain⟨A,c,rfl,hxl,_⟩:=h;obtain⟨A1,c1,rfl,hfl,hr1⟩:=hft;have Hr1:=Aa hr1;have Ht:=Aa ht;clear hok hr1 ht;unfold Rm;go_enter func115,ntmps115;go_wp2_with fail
 go_loopw [5] (fun i wr=>∃(n:Nat) (cur:Ty) (A2:Option Addr) (c2:Nat),i=.int .i64 n/\n<=xs.length+1/\Hid (Do cur)/\Hid (Bh w A2 (cur.fields.length*4) (cur.fields.flatMap Xh)) /\
   Hid (Cb (Ag xs) (xs.length+1) t=Cb (Ag xs) (xs.length+1 - n) cur)/\Hid (Below w w wr)/\w.heap.size<wr.heap.size /\
   wr.cell? (w,0)=some (.int .u8 (cur.sort.toNat:Int))/\wr.cell? (w,1)=cur.name/\wr.cell? (w,2)=some (.slice A2 cur.fields.length c2) /\
   (∀j,wr.frozen? ⟨w.heap.size,j,none⟩=false)) (fun i _=>xs.length+1 - (intOf i).toNat)
 case atStart=>exact⟨0,t,A1,c1,rfl,ag _,Ht.o,Hr1.o,rfl,(Aw _ _).alloc (Ar _) _,by simp,by simp,by simp,by simp,by simp⟩
 case round=>
  obtain⟨n,cur,A2,c2,rfl,hn,hcu,hrow,heq,hb,hsz,u0,u1,u2,f1⟩:=hrel;by_cases hlt:n<=xs.length
  ·have k1:(n:Int)<=(xs.length:Int):=aG;obtain⟨m,hm⟩:∃m,xs.length+1 - n=m+1:=⟨xs.length - n,by omega⟩
   have hm2:xs.length+1 - (n+1)=m:=aG;rw[hm]at heq;have hcl:=cur.sort.toNat_lt;by_cases hs:cur.sort=85
   ·have t1:((cur.sort.toNat:Int) != 85)=false:=by have:=Bs hs;simpa using this
    have t2:((cur.sort.toNat:Int) == 85)=true:=Bs hs;obtain⟨f,fs,hfs,hkd⟩:=Qgo hcu.o hs;have Heq:=Aa (show Cb (Ag xs) (xs.length+1) t=(match J3 xs f.kind with|none=>true|some u=>Cb (Ag xs) m u.1)by rw[heq.o];exact Qkl xs m cur f fs hs hfs);have hlf:0<cur.fields.length:=cT;have hf0:cur.fields[0]=f:=by simp[hfs]
    obtain⟨b,off,rfl,hbl,g0,g1,g2,g3⟩:=Ef.at_ (hrow.o.below hb.o) hlf;rw[hf0]at g0 g1 g2 g3;simp only[Nat.zero_mul,Nat.add_zero]at g0 g1 g2 g3;have Hkd:=Aa hkd;have l1:(0:Int)<(cur.fields.length:Int):=aG;clear hs heq hkd hf0 hfs;go_wp2_with fail;refine(Gf (.slice A xs.length c) xs f.kind _ (H.o.below hb.o) Hkd.o).mono ?_;rintro e w4 ⟨rfl,hb4⟩;obtain⟨hc4,hfz4,hz4⟩:=Ck hb4;have Hb5:=Aa (hb.o.trans (hb4.mono (Nat.le_of_lt hsz)));rw[<-hc4 _ _ hsz]at u0 u1 u2;have f1':∀j,w4.frozen? ⟨w.heap.size,j,none⟩=false:=fun j=>(hfz4 _ j hsz).trans (f1 j);have hsz4:=hz4 _ hsz;have Hrow':=Aa (fun(x:Ty × Value) (hx:x∈xs)=>((show ∀x∈xs,Ef w x.2 x.1.fields from(by obtain⟨_,_,_,_,_,hf⟩:=H.o;exact hf)) x hx));have hn1:¬(w4.heap.size=w.heap.size):=aG;have hn2:¬(w.heap.size=w4.heap.size):=aG;clear hb4 hc4 hfz4 hz4 f1 hb;cases hr:J3 xs f.kind with
    |none=>
     rw[hr]at Heq;unfold T6 P2;go_wp2_with fail;go_ret;exact⟨by rw[Heq.o];first|rfl|trivial,ce⟩
    |some x=>
     rw[hr]at Heq;obtain⟨u,uv⟩:=x;have Hm:=Aa (Qk3 hr);obtain⟨A5,c5,e5,_,hr5⟩:=Hrow'.out _ Hm.o;simp only[]at e5 hr5;subst e5;have Hr5:=Aa hr5;clear hr hr5;unfold T6 Rm;go_wp2_with fail;go_roundw
     case rel=>
      refine⟨n+1,u,A5,c5,by go_num,by omega,Hok.o _ Hm.o,Hr5.o,by rw[hm2];exact Heq.o,ce,by simp;omega,by simp[go_sem,u0,u1,u2,f1',hn1,hn2,hsz4],by simp[go_sem,u0,u1,u2,f1',hn1,hn2,hsz4],by simp[go_sem,u0,u1,u2,f1',hn1,hn2,hsz4],by intro j;simp[go_sem,f1',hn1,hn2,hsz4]⟩
     case measure=>simp[intOf];omega
   have t1:((cur.sort.toNat:Int) != 85)=true:=by have:=At hs;simpa using this
   have t2:((cur.sort.toNat:Int) == 85)=false:=At hs;have Hend:=Aa (show Cb (Ag xs) (xs.length+1) t=true by rw[heq.o];exact Qmc _ m cur hs);clear hs heq;go_wp2_with fail;exact kZ
  ·have k1:¬(n:Int)<=(xs.length:Int):=aG;have Hend:=Aa (show Cb (Ag xs) (xs.length+1) t=false by rw[heq.o,show xs.length+1 - n=0 by omega];rfl);clear heq;go_wp2_with fail;exact kZ
theorem Sa(S:List Ty)(hT:∀t∈S,Do t):∀(n:Nat) (k:Kd),(Dv S n k).length<=6*n
 |0,_=>by simp[Dv]
 |n+1,k=>by
  unfold Dv;split
  ·simp;omega
  split
  ·simp;omega
  split
  ·simp;omega
  split
  ·simp;omega
  split
  ·simp;omega
  cases hf:B6 S k.name with
  |none=>simp
  |some t=>
   simp only;split
   ·simp;omega
   cases hfs:t.fields with
   |nil=>simp
   |cons f fs=>
    have h1:=((hT t (Be hf).1).2.2.1.1 f cT).2.1;have h2:=C0 2 f.tag cq;have ih:=Sa S hT n f.kind;simp only;split
    ·simp;omega
    simp;omega
def Ye(b:List UInt8):List UInt8:=if b=[110]then[48]else if b=[116]then[39,39]else[110,111]
theorem Qcz(b:List UInt8)(w:World)(hb:b=[110]\/b=[116]\/b=[102]):
  Calls prog 151 #[b] w fun e w'=>e=.returned (.string ⟨(Ye b).toArray⟩)/\w=w':=by
 rcases hb with rfl|rfl|rfl
 ·exact jQ
 ·exact jQ
 go_enter func151,ntmps151;go_wp2_with fail;exact kL
def Qhf(c:UInt8):List UInt8:=if c=91 then[91,93]else[45]
theorem S6(v:Value)(c:UInt8)(t:List UInt8)(w:World)(hc:c=91\/c=63)(hl:t.length<=1000):
  Calls prog 117 #[v,.string ⟨(c::t).toArray⟩] w fun e w'=>e=.returned (.string ⟨(Qhf c).toArray⟩)/\w=w':=by
 rcases hc with rfl|rfl
 ·go_enter func117,ntmps117;go_wp2_with fail;exact kL
 go_enter func117,ntmps117;go_wp2_with fail;exact kL
theorem Pf{k:Kd}(h:Ch k)(hs:k.signs=[])(hb:k.base≠[64]):Bt k=k.base/\(k.base=[110]\/k.base=[116]\/k.base=[102]):=by
 refine⟨by unfold Bt Cr;rw[hs,if_neg hb];rfl,?_⟩;rcases h.2.1 with h|h
 ·exact absurd h.1 hb
 exact h.1
theorem Qt(v:Value)(xs:List (Ty × Value))(k:Kd)(w:World)(hsc:G8 w v xs)(hk:Ch k)(hs:k.signs=[])(hb:k.base≠[64]):
  Calls prog 117 #[v,.string ⟨(Bt k).toArray⟩] w fun e w'=>e=.returned (.string ⟨(Ye k.base).toArray⟩)/\Below w w w':=by
 have Hr:=Aa (fun W h=>Gf v xs k W h hk);have hx:J3 xs k=none:=if_neg (fun h=>hb h.2);rw[hx]at Hr;obtain⟨e1,e2⟩:=Pf hk hs hb;rw[e1]at Hr ⊢;have Hsc:=Aa hsc;have Hp:=Aa (fun W=>Qcz k.base W e2);have He2:=Aa e2;unfold T6 P2 at Hr;generalize k.base=b at *;clear hs hb e1 hsc hx;obtain⟨c,hc,t1,t2⟩:∃c,b=[c]/\((c.toNat:Int) == 91)=false/\((c.toNat:Int) == 63)=false:=by
  rcases e2 with rfl|rfl|rfl
  ·exact⟨110,rfl,by decide,by decide⟩
  ·exact⟨116,rfl,by decide,by decide⟩
  exact⟨102,rfl,by decide,by decide⟩
 clear e2;subst hc;go_enter func117,ntmps117;go_wp2_with fail;refine(Hr.o _ Hsc.o).mono ?_;rintro e w1 ⟨rfl,hb1⟩;go_wp2_with fail;refine(Hp.o _).mono ?_;rintro e w2 ⟨rfl,rfl⟩;go_wp2_with fail;go_ret;exact⟨rfl,hb1.alloc hb1.size _⟩
def Jv(l:List UInt8)(w:World)(e:Ending)(w':World):Prop:=e=.returned l/\Below w w w'
theorem Qcj(xv:Value)(xs:List (Ty × Value))(hok:∀x∈xs,Do x.1)(n:Nat)(k:Kd)(w:World)(hsc:G8 w xv xs)(hk:Ch k)(hs:k.signs=[])(hb:k.base=[64])(t:Ty)(fv:Value)(hx:E3 xs k.name=some (t,fv))
  (hn:n<=9) (ih:t.sort=85->∀f fs,t.fields=f::fs->∀W,G8 W xv xs->Calls prog 117 #[xv,.string ⟨(Bt f.kind).toArray⟩] W (Jv (Dv (Ag xs) n f.kind) W)):
  Calls prog 117 #[xv,.string ⟨(Bt k).toArray⟩] w (Jv (Dv (Ag xs) (n+1) k) w):=by
 have Hr:=Aa (fun W h=>Gf xv xs k W h hk);have Hlen:=Aa (Sa (Ag xs) (fun t ht=>by obtain⟨x,hx,rfl⟩:=aw.1 ht;exact hok x hx));have hrx:J3 xs k=some (t,fv):=(if_pos ⟨hs,hb⟩).trans hx
 have HF:=Aa (show Dv (Ag xs) (n+1) k=if t.sort=82 then[123,125]else match t.fields with|[]=>[]|f::_=>if t.sort=69 then 35::Bb f.tag else 60::(Bb f.tag++61::(Dv (Ag xs) n f.kind++[62]))from by
  rw[Dv,if_neg eQ,if_neg eQ,if_neg bE,if_neg bE,if_neg bE,J9,hx];rfl)
 have hto:=hok _ (Db hx).1;have hkb:Bt k=64::(k.name++[59]):=dE;have hnl:k.name.length<=3:=by
  rcases hk.2.1 with h|h
  ·exact(C7.1 h.2).2.1
  rw[hb]at h;exact absurd h.1 aJ
 have hfd:Ef w fv t.fields:=by obtain⟨_,_,_,_,_,hf⟩:=hsc;exact hf _ (Db hx).1
 rw[hrx]at Hr;rw[hkb]at Hr ⊢;obtain⟨A,c,rfl,hfl,hrow⟩:=hfd;have Hsc:=Aa hsc;have Hrow:=Aa hrow;have Hto:=Aa hto;have Ih:=Aa ih;unfold T6 Rm at Hr;simp only[]at hto;clear hsc hk hs hb hx hkb hrow hto hrx ih hok;by_cases h82:t.sort=82
 ·have t82:((t.sort.toNat:Int) == 82)=true:=Bs (d:=82) h82;have HF2:=Aa (HF.o.trans (if_pos h82));clear h82 HF;go_enter func117,ntmps117;go_wp2_with fail;refine(Hr.o _ Hsc.o).mono ?_;rintro e w1 ⟨rfl,hb1⟩;go_wp2_with fail;go_ret;exact⟨by rw[HF2.o];rfl,hb1.alloc hb1.size _⟩
 have t82:((t.sort.toNat:Int) == 82)=false:=At (d:=82) h82;have HF2:=Aa (HF.o.trans (if_neg h82));have hne:t.fields≠[]:=fun h=>h82 (Hto.o.2.2.2.2 h);obtain⟨f,fs,hfs⟩:∃f fs,t.fields=f::fs:=by
  cases h:t.fields with
  |nil=>exact absurd h hne
  |cons f fs=>exact⟨f,fs,rfl⟩
 have hf0:0<t.fields.length:=cT;have hge:t.fields[0]=f:=by simp[hfs]
 have hft:=Hto.o.2.2.1.1 f cT;have htag:f.tag<=200:=hft.2.1;have hdl:=C0 2 f.tag cq;have Hd:=Aa (fun W=>Jd f.tag f.tag W (Ar _) aG);have hi0:(0:Int)<(t.fields.length:Int):=aG;have HF3:=@Aa (Dv (Ag xs) (n+1) k=if t.sort=69 then 35::Bb f.tag else 60::(Bb f.tag++61::(Dv (Ag xs) n f.kind++[62]))) (by rw[HF2.o,hfs]);have Hfs:=Aa hfs;have Hge:=Aa hge;obtain⟨b,off,rfl,hbl,g0,g1,g2,g3⟩:=Ef.at_ Hrow.o hf0;rw[hge]at g0 g1 g2 g3;simp only[Nat.zero_mul,Nat.add_zero]at g0 g1 g2 g3;have H82:=Aa h82;clear HF2 HF h82 hne hfs hge hft g1 g3;by_cases h69:t.sort=69
 ·have t69:((t.sort.toNat:Int) == 69)=true:=Bs (d:=69) h69;have HF4:=Aa (HF3.o.trans (if_pos h69));clear h69 HF3;go_enter func117,ntmps117;go_wp2_with fail;refine(Hr.o _ Hsc.o).mono ?_;rintro e w1 ⟨rfl,hb1⟩;have g0':=(hb1.cell (p:=⟨b,off,none⟩) hbl).trans g0;have hbl1:b<w1.heap.size:=ac hbl hb1.size;have hbn:¬(b=w1.heap.size):=aG;have Hb1:=Aa hb1;clear hb1 g0 g2;go_wp2_with fail;refine(Hd.o _).mono ?_;rintro e w2 ⟨rfl,hb2⟩;go_wp2_with fail;go_ret;exact⟨by rw[HF4.o];simp,(Hb1.o.alloc Hb1.o.size _).trans (hb2.mono (by have:=Hb1.o.size;simp;omega))⟩
 have t69:((t.sort.toNat:Int) == 69)=false:=At (d:=69) h69;have HF4:=Aa (HF3.o.trans (if_neg h69));have h85:t.sort=85:=by
  rcases Hto.o.1 with h|h|h
  ·exact absurd h H82.o
  ·exact h
  exact absurd h h69
 have Ih2:=Aa (Ih.o h85 f fs Hfs.o);have hsl:=Hlen.o n f.kind;generalize Dv (Ag xs) n f.kind=sl at *;generalize Bt f.kind=kd at *;clear h69 HF3 h85 Ih;go_enter func117,ntmps117;go_wp2_with fail;refine(Hr.o _ Hsc.o).mono ?_;rintro e w1 ⟨rfl,hb1⟩;have g0':=(hb1.cell (p:=⟨b,off,none⟩) hbl).trans g0;have g2':=(hb1.cell (p:=⟨b,off+2,none⟩) hbl).trans g2;have hbl1:b<w1.heap.size:=ac hbl hb1.size;have hbn:¬(b=w1.heap.size):=aG;have Hb1:=Aa hb1;clear hb1 g0 g2;go_wp2_with fail;obtain⟨W0,hW0⟩:∃W0,W0=w1.alloc (.cells #[.int .u8 (t.sort.toNat:Int),t.name,.slice (some ⟨b,off,none⟩) t.fields.length c] 95):=⟨_,rfl⟩
 rw[<-hW0];have y2:W0.cell? (w1,2)=some (.slice (some ⟨b,off,none⟩) t.fields.length c):=by rw[hW0];simp
 have y0:W0.cell? ⟨b,off,none⟩=(f.tag:Int):=by rw[hW0,World.cell?_alloc_old _ _ _ hbn];exact g0'
 have y3:W0.cell? ⟨b,off+2,none⟩=kd:=by rw[hW0,World.cell?_alloc_old _ _ _ hbn];exact g2'
 have hz0:W0.heap.size=w1.heap.size+1:=by rw[hW0];simp
 have hB5:w1.heap.size<W0.heap.size:=aG;have hb5:b<W0.heap.size:=aG;have Hb0:=@Aa (Below w w W0) (by rw[hW0];exact Hb1.o.alloc Hb1.o.size _);have Hsc0:=Aa (Hsc.o.below Hb0.o);generalize w1.heap.size=B5 at *;clear hW0 hz0 g0' g2';refine Qr [39,40,41,42,43,44,45,46,47,48,49,50,51,52,53,54,55,4]
  (fun i v W=>match i with|0=>v=(B5,2)|1=>v=.slice (some ⟨b,off,none⟩) t.fields.length c|2=>v=.pointer (some ⟨b,off,none⟩)|3=>v=.pointer (some ⟨b,off,none⟩)|4=>v=(f.tag:Int)|5=>v=.string ⟨(Bb f.tag).toArray⟩|6=>v=.string ⟨(60::Bb f.tag).toArray⟩|7=>v=.string ⟨(60::(Bb f.tag++[61])).toArray⟩|8=>v=xv|9=>v=(B5,2)|10=>v=.slice (some ⟨b,off,none⟩) t.fields.length c|11=>v=.pointer (some ⟨b,off,none⟩)|12=>v=.pointer (some ⟨b,off+2,none⟩)|13=>v=kd|14=>v=sl|15=>v=.string ⟨(60::(Bb f.tag++61::sl)).toArray⟩|16=>v=.string ⟨(60::(Bb f.tag++61::(sl++[62]))).toArray⟩|17=>v=.string ⟨(60::(Bb f.tag++61::(sl++[62]))).toArray⟩|_=>True)
  (fun L U W=>Below W0 W0 W) ((Aw _ _).drew) ?_ ?_
 ·repeat (first|exact Av.nil|(refine Av.cons ?_ ?_;rotate_left))
  all_goals
   rintro L U W hL hpre HR Hdep K hK;have hB:=HR.o;have c2:=(hB.cell (p:=⟨B5,2,none⟩) hB5).trans y2;have c0:=(hB.cell (p:=⟨b,off,none⟩) hb5).trans y0;have c3:=(hB.cell (p:=⟨b,off+2,none⟩) hb5).trans y3;first|(simp[Region.binds]at hpre;done)|simp[Region.binds]at hpre|clear hpre
  iterate 5
   ·exact ir
  ·exact jE
  ·exact iD
  ·exact iD
  iterate 6
   ·exact ir
  ·exact jz
  ·exact iD
  ·exact iD
  ·exact ir
 rintro L U W hL hφ hR;have e17:U 17=.string ⟨(60::(Bb f.tag++61::(sl++[62]))).toArray⟩:=hφ 17 aJ;simp only[e17];clear hφ;have Hb9:=Aa (Hb0.o.trans (hR.mono Hb0.o.size));clear hR;go_wp2_with fail;go_ret;exact⟨by rw[HF4.o];rfl,Hb9.o⟩
theorem P7(S:List Ty)(n:Nat)(k:Kd)(c:UInt8)(t:List UInt8)(h:k.signs=c::t)(hc:c=91\/c=63):Dv S (n+1) k=Qhf c:=by
 unfold Dv Qhf;rw[h];rcases hc with rfl|rfl
 ·rfl
 rfl
theorem Nw(S:List Ty)(n:Nat)(k:Kd)(h:k.signs=[])(hb:k.base=[110]\/k.base=[116]\/k.base=[102]):Dv S (n+1) k=Ye k.base:=by
 unfold Dv Ye;rw[h];rcases hb with hb|hb|hb<;>rw[hb]<;>rfl
theorem Sr{k:Kd}(h:Ch k){c:UInt8}{t:List UInt8}(hs:k.signs=c::t):c=91\/c=63:=by
 have:=h.1;rw[hs,List.all_cons,av]at this;have:=this.1;unfold Bo at this;simpa using this
theorem Qeq(xv:Value)(xs:List (Ty × Value))(hok:∀x∈xs,Do x.1)(hS:Ji (Ag xs)):∀(n:Nat),n<=9->∀(k:Kd) (w:World),G8 w xv xs->Ch k->Ce (Ag xs) k->Vd (Ag xs) n k ->
  Calls prog 117 #[xv,.string ⟨(Bt k).toArray⟩] w (Jv (Dv (Ag xs) (n+1) k) w):=by
 intro n;induction n with
 |zero=>
  intro _ k w hsc hk hr he;cases hs:k.signs with
  |cons c t=>
   have hc:=Sr hk hs;have hkb:Bt k=c::(t++Cr k):=dW;have hl:=hk.2.2;rw[hkb]at hl ⊢;rw[P7 _ _ k c t hs hc];refine(S6 xv c (t++Cr k) w hc dU).mono ?_;rintro e w' ⟨rfl,rfl⟩;exact lg
  |nil=>
   by_cases hb:k.base=[64]
   ·obtain⟨t,_,h⟩:=he hs hb;exact absurd h (by simp[Cb])
   exact lh
 |succ n ih=>
  intro hn k w hsc hk hr he;cases hs:k.signs with
  |cons c t=>
   have hc:=Sr hk hs;have hkb:Bt k=c::(t++Cr k):=dW;have hl:=hk.2.2;rw[hkb]at hl ⊢;rw[P7 _ _ k c t hs hc];refine(S6 xv c (t++Cr k) w hc dU).mono ?_;rintro e w' ⟨rfl,rfl⟩;exact lg
  |nil=>
   by_cases hb:k.base=[64]
   ·have h1:=hr hb;rw[J9]at h1;cases hx:E3 xs k.name with
    |none=>rw[hx]at h1;cases h1
    |some x=>
     obtain⟨t,fv⟩:=x;have hft:B6 (Ag xs) k.name=some t:=(Db hx).2.2;have hto:Do t:=hok _ (Db hx).1;refine Qcj xv xs hok (n+1) k w hsc hk hs hb t fv hx hn (fun h85 f fs hfs W hW=>?_);have hrf:Ce (Ag xs) f.kind:=hS t (Be hft).1 eD f cT;exact li
   exact lh
theorem T0{S:List Ty}(h:Nv S){k:Kd}(hr:Ce S k):Vd S 9 k:=by
 intro hs hb;have h1:=hr hb;cases hf:B6 S k.name with
 |none=>rw[hf]at h1;cases h1
 |some t=>exact⟨t,rfl,h.2.2 t (Be hf).1⟩
theorem Qey(xv:Value)(xs:List (Ty × Value))(h:Nv (Ag xs))(k:Kd)(w:World)(hsc:G8 w xv xs)(hk:Ch k)(hr:Ce (Ag xs) k):
  Calls prog 117 #[xv,.string ⟨(Bt k).toArray⟩] w (Jv (T2 (Ag xs) k) w):=
 Qeq xv xs (fun x hx=>h.1.1 x.1 (ao hx)) h.2.1 9 (Ar _) k w hsc hk hr (T0 h hr)
theorem Yf(xv:Value)(xs:List (Ty × Value))(h:Nv (Ag xs))(f:Fd)(w:World)(hsc:G8 w xv xs)(hk:Ch f.kind)(hr:Ce (Ag xs) f.kind)(hl:f.given.length<=1000):
  Calls prog 83 #[xv,sfV f] w (Jv (Mh (Ag xs) f) w):=by
 have HF:=@Aa (Mh (Ag xs) f=if f.given=[]then T2 (Ag xs) f.kind else f.given) rfl;have Hs:=Aa (fun W (h1:G8 W xv xs)=>Qey xv xs h f.kind W h1 hk hr);have Hsc:=Aa hsc;unfold sfV;generalize Bt f.kind=kd at *;clear h hk hr hsc;by_cases hg:f.given=[]
 ·have HF2:=Aa (HF.o.trans (if_pos hg));rw[hg];clear hg HF;go_enter func83,ntmps83;go_wp2_with fail;refine(Hs.o _ (Hsc.o.below ((Aw _ _).alloc (Ar _) _))).mono ?_;rintro e w1 ⟨rfl,hb1⟩;go_wp2_with fail;go_ret;exact⟨by rw[HF2.o];rfl,((Aw _ _).alloc (Ar _) _).trans (hb1.mono aL)⟩
 have HF2:=Aa (HF.o.trans (if_neg hg));have t1:f.given.isEmpty=false:=by simpa using hg
 have t2:(!f.given.isEmpty)=true:=by simp[t1]
 clear hg HF;go_enter func83,ntmps83;go_wp2_with fail;go_ret;exact⟨by rw[HF2.o];rfl,(Aw _ _).alloc (Ar _) _⟩
theorem Yl(s:List UInt8)(f k:Nat)(hf:f<=k)(hk:k<s.length):(s.drop f).take (k+1 - f)=(s.drop f).take (k - f)++[s[k]]:=by
 have h1:k - f<(s.drop f).length:=aO;rw[show k+1 - f=(k - f)+1 by omega,Bx _ _ h1];simp[show f+(k - f)=k by omega]
theorem Qdc(s:List UInt8)(f k:Nat)(hf:f<=k)(hk:k<s.length):s.drop f=(s.drop f).take (k - f)++s[k]::s.drop (k+1):=by
 have e1:(s.drop f).drop (k - f)=s[k]::s.drop (k+1):=by
  rw[List.drop_drop,show f+(k - f)=k by omega];exact List.drop_eq_getElem_cons hk
 rw[<-e1,List.take_append_drop]
theorem Ct(s:List UInt8)(c:UInt8)(m:Int)(hm:m=(c.toNat:Int))(w:World)(hs:s.length<=4000000):
  Calls prog 77 #[s,.int .u8 m] w fun e w'=>
   ∃v,e=.returned v/\w'.ownsRow w 9 1 v (Ak c s).length (Ah (Ak c s))/\Below w w w':=by
 have Hm:=Aa hm;have Hlen:=Aa (Jw c s);clear hm;go_enter func77,ntmps77;go_wp2_with fail
 go_loopw [5,6,7] (fun v y i wr=>∃(ps:List (List UInt8)) (f k:Nat),i=.int .i64 k/\k<=s.length/\y=.int .i64 f/\f<=k/\ps.length<=k/\Hid (Ak c s=ps++Ak c (s.drop f))/\Hid (c∉(s.drop f).take (k - f)) /\
   Hid (wr.ownsRow w 9 1 v ps.length (Ah ps))/\Hid (Below w w wr)) (fun _ _ i _=>s.length - (intOf i).toNat)
 case atStart=>exact⟨[],0,0,rfl,ag _,rfl,Ar _,by simp,rfl,by simp[Hid],World.ownsRow_lit (base:=w.heap.size) (e:=9) (size:=1) w #[] 0 (Ar _) (ag _) rfl,(Aw _ _).alloc (Ar _) _⟩
 case round=>
  obtain⟨ps,f,k,rfl,hk,rfl,hf,hps,hsp,hno,hown,hb⟩:=hrel;by_cases hlt:k<s.length
  ·have hc:=(s[k]).toNat_lt;by_cases he:s[k]=c
   ·have t1:(((s[k]).toNat:Int) == m)=true:=by rw[Hm.o];exact Bs he
    have Hsp:=Aa (show Ak c s=(ps++[(s.drop f).take (k - f)])++Ak c (s.drop (k+1))by
     rw[hsp.o,Qdc s f k hf hlt,he,M0 c _ _ hno.o];simp only[List.append_assoc,List.singleton_append];have e2:=Qdc s f k hf hlt;rw[he]at e2;rw[<-e2])
    have Hz:=Aa hb.o.size;clear he;have k1:(0:Int)<=(f:Int):=aG;have k2:(f:Int)<=(k:Int):=aG;have k3:(k:Int)<=(s.length:Int):=aG;go_wp2_with (at_builtin;refine J2 _ rfl _ _ 63 rfl w 9 aa 16 underlying63 Ej rfl wr _ rfl rfl _ _ _ rfl rfl hown.o aU aG Hz.o ?_;intro v' w' hown' hb';have Ho:=Aa (show w'.ownsRow w 9 1 v' (ps++[(s.drop f).take (k - f)]).length (Ah (ps++[(s.drop f).take (k - f)]))by rw[Qd,ah];exact hown');have Hb:=Aa (hb.o.trans hb');clear hown' hb')
    go_roundw
    case rel=>exact⟨ps++[(s.drop f).take (k - f)],k+1,k+1,by go_num,by omega,by go_num,Ar _,by rw[ah];simp;omega,Hsp.o,by simp[Hid],Ho.o,Hb.o⟩
    case measure=>simp[intOf];omega
   have t1:(((s[k]).toNat:Int) == m)=false:=by rw[Hm.o];exact At he
   have Hno:=Aa (show c∉(s.drop f).take (k+1 - f)by
    rw[Yl s f k hf hlt];simp only[af,ap,not_or];exact⟨hno.o,fun h=>he h.symm⟩)
   clear he;go_wp2_with fail;go_roundw
   case rel=>exact⟨ps,f,k+1,by go_num,by omega,rfl,by omega,by omega,hsp.o,Hno.o,hown.o,hb.o⟩
   case measure=>simp[intOf];omega
  ·obtain rfl:k=s.length:=aG
   have Hsp:=Aa (show Ak c s=ps++[s.drop f]by
    have h:=hno.o;rw[ar aL]at h;rw[hsp.o,Jj c _ h])
   have Hz:=Aa hb.o.size;have k1:(0:Int)<=(f:Int):=aG;have k2:(f:Int)<=(s.length:Int):=aG;go_wp2_with (at_builtin;refine J2 _ rfl _ _ 63 rfl w 9 aa 16 underlying63 Ej rfl wr _ rfl rfl _ _ _ rfl rfl hown.o aU aG Hz.o ?_;intro v' w' hown' hb';have Ho:=Aa (show w'.ownsRow w 9 1 v' (ps++[s.drop f]).length (Ah (ps++[s.drop f]))by rw[Qd,ah];exact hown');have Hb:=Aa (hb.o.trans hb');clear hown' hb')
   go_ret;refine⟨_,rfl,?_,Hb.o⟩;rw[Hsp.o];exact Ho.o
theorem Qaa{b s:List UInt8}(h1:b≠[110])(h2:b≠[116])(h3:b≠[102]):Cf b s=false:=by
 unfold Cf;rw[if_neg h1,if_neg h2,if_neg h3]
theorem Qnx(s:List UInt8):Cf [116] s=(G1 s && !(s == [39,39])):=by
 show (decide (2<s.length) && decide (s.head?=some 39) && decide (s.getLast?=some 39) && Du (s.drop 1).dropLast)=((decide (2<=s.length) && decide (s.head?=some 39) && decide (s.getLast?=some 39) && Du (s.drop 1).dropLast) && !(s == [39,39]));rcases aF 2 s.length with h|h
 ·have e1:decide (2<s.length)=true:=aR;have e2:decide (2<=s.length)=true:=aO;have e3:(s == [39,39])=false:=by
   rw[beq_eq_false_iff_ne];rintro rfl;simp at h
  rw[e1,e2,e3];simp
 have e1:decide (2<s.length)=false:=aO;rw[e1];match s,h with
 |[],_=>rfl
 |[_],_=>rfl
 |[a,b],_=>
  by_cases ha:a=39
  ·by_cases hb:b=39
   ·subst ha;subst hb;rfl
   simp[hb]
  simp[ha]
theorem Vw(b s:List UInt8)(w:World)(hs:s.length<=4000000):
  Calls prog 150 #[b,s] w fun e w'=>e=.returned (.bool (Cf b s))/\Below w w w':=by
 by_cases h1:b=[110]
 ·subst h1;have Hp:=Aa (fun W=>D7 s 999999 W hs aG);have hf:Cf [110] s=(match Cz s with|some n=>decide (0<n)|none=>false):=rfl;have hv:(Ei s 999999 && (s != [48]))=Cf [110] s:=by
   rw[hf];cases hd:Cz s with
   |none=>rw[Pb hd];rfl
   |some n=>
    obtain⟨h9,e⟩:=Cm.1 hd;rw[N6 hd];have e1:decide (n<=999999)=true:=by simpa using h9
    rw[e1,Bool.true_and];by_cases h0:n=0
    ·subst h0;rw[e,Fe aG];decide
    have hne:s≠[48]:=by
     intro h;rw[e]at h;have:Bb n=Bb 0:=by rw[h,Fe (n:=0) aG];decide
     exact h0 (Qkh this)
    have e2:(s != [48])=true:=by simpa using hne
    rw[e2];simp;omega
  have Hv:=Aa hv;clear hf hv;go_enter func150,ntmps150;go_wp2_with fail;refine(Hp.o _).mono ?_;rintro e w' ⟨n,hn,rfl,_,hb⟩;have Hb:=Aa hb;clear hb;rcases Bool.eq_false_or_eq_true (Ei s 999999)with ho|ho
  ·have Ho:=Aa ho;rw[ho];clear ho;go_wp2_with fail;exact ll
  have Ho:=Aa ho;rw[ho];clear ho;go_wp2_with fail;exact ll
 by_cases h2:b=[116]
 ·subst h2;have Hp:=Aa (fun W=>Zp s W hs);have Hv:=Aa (Qnx s);clear h1;go_enter func150,ntmps150;go_wp2_with fail;refine(Hp.o _).mono ?_;rintro e w' ⟨rfl,rfl⟩;rcases Bool.eq_false_or_eq_true (G1 s)with ho|ho
  ·have Ho:=Aa ho;rw[ho];clear ho;rcases Bool.eq_false_or_eq_true (s == [39,39])with hq|hq
   ·have Hq:=Aa hq;have hq2:(s != [39,39])=false:=by simp[bne,hq]
    go_wp2_with fail;exact lm
   have Hq:=Aa hq;have hq2:(s != [39,39])=true:=by simp[bne,hq]
   go_wp2_with fail;exact lm
  have Ho:=Aa ho;rw[ho];clear ho;go_wp2_with fail;go_ret;exact⟨Eu (Da (by rw[Hv.o,Ho.o];rfl)),Aw _ _⟩
 by_cases h3:b=[102]
 ·subst h3;have Hv:=Aa (show Cf [102] s=(s == [121,101,115])by show decide (s=[121,101,115])=_;by_cases h:s=[121,101,115]<;>simp[h]);clear h1 h2;go_enter func150,ntmps150;go_wp2_with fail;go_ret;exact⟨Eu (Da Hv.o.symm),Aw _ _⟩
 have Hv:=Aa (Qaa (s:=s) h1 h2 h3);have q1:(b == [110])=false:=dM;have q2:(b == [116])=false:=eH;have q3:(b == [102])=false:=by simpa using h3
 clear h1 h2 h3;go_enter func150,ntmps150;go_wp2_with fail;go_ret;exact⟨Eu (Da Hv.o.symm),Aw _ _⟩
def Dd(o:Option Fd)(w:World)(e:Ending)(w':World):Prop:=
 (match o with
  |some f=>e=.returned (.tuple #[sfV f,.bool true])
  |none=>∃(x:Int) (a b c:ByteArray),e=.returned (.tuple #[.agg #[.int .i64 x,.string a,.string b,.string c],.bool false]))/\Below w w w'
theorem Dd.no{w w':World}{e:Ending}{o:Option Fd}(ho:o=none){x:Int}{a b c:ByteArray}(he:e=.returned (.tuple #[.agg #[.int .i64 x,.string a,.string b,.string c],.bool false]))(hb:Below w w w'):Dd o w e w':=by
 rw[ho];exact⟨⟨x,a,b,c,he⟩,hb⟩
theorem Dd.yes{w w':World}{e:Ending}{o:Option Fd}{f:Fd}(ho:o=some f)(he:e=.returned (.tuple #[sfV f,.bool true]))(hb:Below w w w'):Dd o w e w':=by
 rw[ho];exact⟨he,hb⟩
theorem Pv{w:World}{base:Nat}{v:Value}{a b:List UInt8}(h:w.ownsRow base 9 1 v [a,b].length (Ah [a,b])):
  ∃g c,v=.slice (some ⟨g,0,none⟩) 2 c/\base<=g/\g<w.heap.size/\w.cell? ⟨g,0,none⟩=a/\w.cell? ⟨g,1,none⟩=b:=by
 rcases h.2 with⟨_,h0⟩|⟨g,cap,cur,rfl,hb,hh,_⟩
 ·simp at h0
 have hc:=fun j u hu=>h.cells (g:=g) rfl j u hu;have e1:∀j,(⟨g,0,none⟩:Addr).add j=⟨g,j,none⟩:=fun j=>bi;refine⟨g,cap,rfl,hb,(h.lt g rfl).2,?_,?_⟩
 ·have:=hc 0 _ rfl;rwa [e1]at this
 have:=hc 1 _ rfl;rwa [e1]at this
theorem Jb{w:World}{base:Nat}{v:Value}{a b d:List UInt8}(h:w.ownsRow base 9 1 v [a,b,d].length (Ah [a,b,d])):
  ∃g c,v=.slice (some ⟨g,0,none⟩) 3 c/\base<=g/\g<w.heap.size/\w.cell? ⟨g,0,none⟩=a/\w.cell? ⟨g,1,none⟩=b/\w.cell? ⟨g,2,none⟩=d:=by
 rcases h.2 with⟨_,h0⟩|⟨g,cap,cur,rfl,hb,hh,_⟩
 ·simp at h0
 have hc:=fun j u hu=>h.cells (g:=g) rfl j u hu;have e1:∀j,(⟨g,0,none⟩:Addr).add j=⟨g,j,none⟩:=fun j=>bi;refine⟨g,cap,rfl,hb,(h.lt g rfl).2,?_,?_,?_⟩
 ·have:=hc 0 _ rfl;rwa [e1]at this
 ·have:=hc 1 _ rfl;rwa [e1]at this
 have:=hc 2 _ rfl;rwa [e1]at this
theorem Tn(st:UInt8)(s:List UInt8)(w:World)(hs:s.length<=1000)(hp:(Ak 58 s).length≠(if st=69 then 2 else 3)):
  Calls prog 114 #[s,.int .u8 (st.toNat:Int)] w (Dd (Cc st s) w):=by
 have hno:Cc st s=none:=by
  unfold Cc;by_cases h:st=69
  ·rw[if_pos h]at hp ⊢;have:Ml (Ak 58 s)=none:=by
    cases hh:Ml (Ak 58 s)with
    |none=>rfl
    |some x=>rw[(Kq (n:=x.1) (b:=x.2)).1 hh |>.1]at hp;simp at hp
   rw[this]
  rw[if_neg h]at hp ⊢;have:Nf (Ak 58 s)=none:=by
   cases hh:Nf (Ak 58 s)with
   |none=>rfl
   |some x=>rw[(Jc (n:=x.1) (b:=x.2.1) (c:=x.2.2)).1 hh |>.1]at hp;simp at hp
  rw[this]
 have Hno:=Aa hno;have Hl:=Aa (Jw 58 s);have hst:=st.toNat_lt;clear hno;have Hcut:=Aa (fun W=>Ct s 58 58 rfl W aG);generalize Ak 58 s=ps at hp Hl Hcut;by_cases h69:st=69
 ·rw[if_pos h69]at hp;have t1:((st.toNat:Int) != 69)=false:=by have:=Bs h69;simpa using this
  have t2:((st.toNat:Int) == 69)=true:=Bs h69;have t3:((ps.length:Int) != 2)=true:=fh;clear h69 hp;go_enter func114,ntmps114;go_wp2_with fail;refine(Hcut.o _).mono ?_;rintro e w1 ⟨v,rfl,ho,hb⟩;obtain⟨A,c,rfl,_⟩:=Bh.own ho;obtain⟨hc,hfz,hz⟩:=Ck hb;have Hb:=Aa (((Aw w.heap.size w).alloc (Ar _) _).trans (hb.mono aL));clear hb ho;go_wp2_with fail;all_goals
   refine aE (v:=.tuple #[sf0,.bool false]) (by simp[results,results114,go_sem,sf0,hc]) rfl ?_;exact lp
 rw[if_neg h69]at hp;have t1:((st.toNat:Int) != 69)=true:=by have:=At h69;simpa using this
 have t2:((st.toNat:Int) == 69)=false:=At h69;have t3:((ps.length:Int) != 3)=true:=fh;clear h69 hp;go_enter func114,ntmps114;go_wp2_with fail;refine(Hcut.o _).mono ?_;rintro e w1 ⟨v,rfl,ho,hb⟩;obtain⟨A,c,rfl,_⟩:=Bh.own ho;obtain⟨hc,hfz,hz⟩:=Ck hb;have Hb:=Aa (((Aw w.heap.size w).alloc (Ar _) _).trans (hb.mono aL));clear hb ho;go_wp2_with fail;all_goals
  refine aE (v:=.tuple #[sf0,.bool false]) (by simp[results,results114,go_sem,sf0,hc]) rfl ?_;exact lp
theorem Vz(a b:List UInt8):Ei a 200=false\/(Ei a 200=true/\Cz a=some 0)\/(∃n,Ei a 200=true/\Cz a=some n/\1<=n/\n<=200/\Bf b=false)\/(∃n,Ei a 200=true/\Cz a=some n/\1<=n/\n<=200/\Bf b=true):=by
 cases hd:Cz a with
 |none=>exact .inl (Pb hd)
 |some n=>
  rw[N6 hd];by_cases h:n<=200
  ·have e:decide (n<=200)=true:=aR;rw[e];by_cases h0:n=0
   ·subst h0;exact .inr (.inl ⟨rfl,rfl⟩)
   rcases Bool.eq_false_or_eq_true (Bf b)with hb|hb
   ·exact .inr (.inr (.inr ⟨n,rfl,rfl,by omega,h,hb⟩))
   exact .inr (.inr (.inl ⟨n,rfl,rfl,by omega,h,hb⟩))
  left;simpa using h
theorem Ys{a b:List UInt8}(h:Ei a 200=false\/Cz a=some 0\/Bf b=false):Ml [a,b]=none:=by
 cases hh:Ml [a,b]with
 |none=>rfl
 |some x=>
  obtain⟨n,c⟩:=x;obtain⟨e,h1,h2,h3⟩:=Kq.1 hh;simp at e;obtain⟨rfl,rfl⟩:=e;have hd:Cz (Bb n)=some n:=Cm.2 ⟨by omega,rfl⟩;rcases h with h|h|h
  ·rw[N6 hd]at h;simp at h;omega
  ·rw[hd]at h;injection h with h;omega
  rw[h3]at h;cases h
theorem X9{a b c:List UInt8}(h:Ei a 200=false\/Cz a=some 0\/Bf b=false):Nf [a,b,c]=none:=by
 cases hh:Nf [a,b,c]with
 |none=>rfl
 |some x=>
  obtain⟨n,d,f⟩:=x;obtain⟨e,h1,h2,h3⟩:=Jc.1 hh;simp at e;obtain⟨rfl,rfl,rfl⟩:=e;have hd:Cz (Bb n)=some n:=Cm.2 ⟨by omega,rfl⟩;rcases h with h|h|h
  ·rw[N6 hd]at h;simp at h;omega
  ·rw[hd]at h;injection h with h;omega
  rw[h3]at h;cases h
theorem Qh8{a b:List UInt8}{n:Nat}(hd:Cz a=some n)(h1:1<=n)(h2:n<=200)(hb:Bf b=true):Ml [a,b]=some (n,b):=Kq.2 ⟨by rw[(Cm.1 hd).2],h1,h2,hb⟩
theorem Mu{a b c:List UInt8}{n:Nat}(hd:Cz a=some n)(h1:1<=n)(h2:n<=200)(hb:Bf b=true):Nf [a,b,c]=some (n,b,c):=Jc.2 ⟨by rw[(Cm.1 hd).2],h1,h2,hb⟩
theorem Qlj(s a b:List UInt8)(w:World)(hs:s.length<=1000)(hp:Ak 58 s=[a,b])(ho:Ei a 200=false):
  Calls prog 114 #[s,.int .u8 69] w (Dd (Cc 69 s) w):=by
 have hal:=Aq 58 s a bw;have hbl:=Aq 58 s b bw;have hF:Cc 69 s=(match Ml [a,b]with|some (n,b)=>some ⟨n,b,Kd.nil,[]⟩|none=>none):=cG;have Hcut:=Aa (fun W=>Ct s 58 58 rfl W aG);rw[hp]at Hcut;have Hnum:=Aa (fun W=>D7 a 200 W aG aG);have Hname:=Aa (fun W=>Cw b W aG);clear hp;rw[Ys (.inl ho)]at hF;have HF:=Aa hF;have Ho:=Aa ho;clear hF ho;go_enter func114,ntmps114;go_wp2_with fail;refine(Hcut.o _).mono ?_;rintro e w1 ⟨v,rfl,ho,hb⟩;obtain⟨g,c,rfl,hg1,hg2,c0,c1⟩:=Pv ho;simp at hg1;obtain⟨hc,hfz,hz⟩:=Ck hb;have Hb:=Aa (((Aw w.heap.size w).alloc (Ar _) _).trans (hb.mono aL));have hzz:=hz w.heap.size aL;clear hb ho;go_wp2_with fail;refine(Hnum.o _).mono ?_;rintro e w2 ⟨n,hn,rfl,hdn,hb2⟩;rw[Ho.o];obtain⟨hc2,hfz2,hz2⟩:=Ck hb2;have Hb2:=Aa (Hb.o.trans (hb2.mono Hb.o.size));have hsz:=Hb2.o.size;have hz3:=hz2 _ hzz;clear hb2;go_wp2_with fail;refine aE (v:=.tuple #[.agg #[.int .i64 n,b,aa,aa],.bool false]) (by simp[results,results114,go_sem,hc,hc2,hzz,hz3]) rfl ?_;exact lq
theorem Qjz(s a b:List UInt8)(w:World)(hs:s.length<=1000)(hp:Ak 58 s=[a,b])(ho:Ei a 200=true)(hd:Cz a=some 0):
  Calls prog 114 #[s,.int .u8 69] w (Dd (Cc 69 s) w):=by
 have hal:=Aq 58 s a bw;have hbl:=Aq 58 s b bw;have hF:Cc 69 s=(match Ml [a,b]with|some (n,b)=>some ⟨n,b,Kd.nil,[]⟩|none=>none):=cG;have Hcut:=Aa (fun W=>Ct s 58 58 rfl W aG);rw[hp]at Hcut;have Hnum:=Aa (fun W=>D7 a 200 W aG aG);have Hname:=Aa (fun W=>Cw b W aG);clear hp;rw[Ys (.inr (.inl hd))]at hF;have HF:=Aa hF;have Ho:=Aa ho;have Hd:=Aa hd;clear hF ho hd;go_enter func114,ntmps114;go_wp2_with fail;refine(Hcut.o _).mono ?_;rintro e w1 ⟨v,rfl,ho,hb⟩;obtain⟨g,c,rfl,hg1,hg2,c0,c1⟩:=Pv ho;simp at hg1;obtain⟨hc,hfz,hz⟩:=Ck hb;have Hb:=Aa (((Aw w.heap.size w).alloc (Ar _) _).trans (hb.mono aL));have hzz:=hz w.heap.size aL;clear hb ho;go_wp2_with fail;refine(Hnum.o _).mono ?_;rintro e w2 ⟨n,hn,rfl,hdn,hb2⟩;rw[Ho.o];obtain⟨hc2,hfz2,hz2⟩:=Ck hb2;have Hb2:=Aa (Hb.o.trans (hb2.mono Hb.o.size));have hsz:=Hb2.o.size;have hz3:=hz2 _ hzz;clear hb2;obtain rfl:=hdn 0 Hd.o;clear hdn;go_wp2_with fail;refine aE (v:=.tuple #[.agg #[.int .i64 0,b,aa,aa],.bool false]) (by simp[results,results114,go_sem,hc,hc2,hzz,hz3]) rfl ?_;exact lq
theorem Qjs(s a b:List UInt8)(w:World)(hs:s.length<=1000)(hp:Ak 58 s=[a,b])(n0:Nat)(ho:Ei a 200=true)(hd:Cz a=some n0)(h1:1<=n0)(h2:n0<=200)(hnm:Bf b=false):
  Calls prog 114 #[s,.int .u8 69] w (Dd (Cc 69 s) w):=by
 have hal:=Aq 58 s a bw;have hbl:=Aq 58 s b bw;have hF:Cc 69 s=(match Ml [a,b]with|some (n,b)=>some ⟨n,b,Kd.nil,[]⟩|none=>none):=cG;have Hcut:=Aa (fun W=>Ct s 58 58 rfl W aG);rw[hp]at Hcut;have Hnum:=Aa (fun W=>D7 a 200 W aG aG);have Hname:=Aa (fun W=>Cw b W aG);clear hp;rw[Ys (.inr (.inr hnm))]at hF;have HF:=Aa hF;have Ho:=Aa ho;have Hd:=Aa hd;have Hnm:=Aa hnm;clear hF ho hd hnm;go_enter func114,ntmps114;go_wp2_with fail;refine(Hcut.o _).mono ?_;rintro e w1 ⟨v,rfl,ho,hb⟩;obtain⟨g,c,rfl,hg1,hg2,c0,c1⟩:=Pv ho;simp at hg1;obtain⟨hc,hfz,hz⟩:=Ck hb;have Hb:=Aa (((Aw w.heap.size w).alloc (Ar _) _).trans (hb.mono aL));have hzz:=hz w.heap.size aL;clear hb ho;go_wp2_with fail;refine(Hnum.o _).mono ?_;rintro e w2 ⟨n,hn,rfl,hdn,hb2⟩;rw[Ho.o];obtain⟨hc2,hfz2,hz2⟩:=Ck hb2;have Hb2:=Aa (Hb.o.trans (hb2.mono Hb.o.size));have hsz:=Hb2.o.size;have hz3:=hz2 _ hzz;clear hb2;obtain rfl:=hdn n0 Hd.o;clear hdn;go_wp2_with fail;refine(Hname.o _).mono ?_;rintro e w3 ⟨rfl,rfl⟩;rw[Hnm.o];go_wp2_with fail;refine aE (v:=.tuple #[.agg #[.int .i64 n0,b,aa,aa],.bool false]) (by simp[results,results114,go_sem,hc,hc2,hzz,hz3]) rfl ?_;exact lq
theorem Qju(s a b:List UInt8)(w:World)(hs:s.length<=1000)(hp:Ak 58 s=[a,b])(n0:Nat)(ho:Ei a 200=true)(hd:Cz a=some n0)(h1:1<=n0)(h2:n0<=200)(hnm:Bf b=true):
  Calls prog 114 #[s,.int .u8 69] w (Dd (Cc 69 s) w):=by
 have hal:=Aq 58 s a bw;have hbl:=Aq 58 s b bw;have hF:Cc 69 s=(match Ml [a,b]with|some (n,b)=>some ⟨n,b,Kd.nil,[]⟩|none=>none):=cG;have Hcut:=Aa (fun W=>Ct s 58 58 rfl W aG);rw[hp]at Hcut;have Hnum:=Aa (fun W=>D7 a 200 W aG aG);have Hname:=Aa (fun W=>Cw b W aG);clear hp;rw[Qh8 hd h1 h2 hnm]at hF;have HF:=Aa hF;have Ho:=Aa ho;have Hd:=Aa hd;have Hnm:=Aa hnm;clear hF ho hd hnm;go_enter func114,ntmps114;go_wp2_with fail;refine(Hcut.o _).mono ?_;rintro e w1 ⟨v,rfl,ho,hb⟩;obtain⟨g,c,rfl,hg1,hg2,c0,c1⟩:=Pv ho;simp at hg1;obtain⟨hc,hfz,hz⟩:=Ck hb;have Hb:=Aa (((Aw w.heap.size w).alloc (Ar _) _).trans (hb.mono aL));have hzz:=hz w.heap.size aL;clear hb ho;go_wp2_with fail;refine(Hnum.o _).mono ?_;rintro e w2 ⟨n,hn,rfl,hdn,hb2⟩;rw[Ho.o];obtain⟨hc2,hfz2,hz2⟩:=Ck hb2;have Hb2:=Aa (Hb.o.trans (hb2.mono Hb.o.size));have hsz:=Hb2.o.size;have hz3:=hz2 _ hzz;clear hb2;obtain rfl:=hdn n0 Hd.o;clear hdn;go_wp2_with fail;refine(Hname.o _).mono ?_;rintro e w3 ⟨rfl,rfl⟩;rw[Hnm.o];go_wp2_with fail;refine aE (v:=.tuple #[sfV ⟨n0,b,Kd.nil,[]⟩,.bool true]) (by simp[results,results114,go_sem,sfV,Kd.nil,Bt,Cr,hc,hc2,hzz,hz3]) rfl ?_;exact Dd.yes HF.o rfl aS
theorem Xg(s a b:List UInt8)(w:World)(hs:s.length<=1000)(hp:Ak 58 s=[a,b]):
  Calls prog 114 #[s,.int .u8 69] w (Dd (Cc 69 s) w):=by
 rcases Vz a b with ho|⟨ho,hd⟩|⟨n0,ho,hd,h1,h2,hnm⟩|⟨n0,ho,hd,h1,h2,hnm⟩
 ·exact Qlj s a b w hs hp ho
 ·exact Qjz s a b w hs hp ho hd
 ·exact Qjs s a b w hs hp n0 ho hd h1 h2 hnm
 exact Qju s a b w hs hp n0 ho hd h1 h2 hnm
theorem Qg7{w:World}{base:Nat}{v:Value}{a:List UInt8}(h:w.ownsRow base 9 1 v [a].length (Ah [a])):
  ∃g c,v=.slice (some ⟨g,0,none⟩) 1 c/\base<=g/\g<w.heap.size/\w.cell? ⟨g,0,none⟩=a:=by
 rcases h.2 with⟨_,h0⟩|⟨g,cap,cur,rfl,hb,hh,_⟩
 ·simp at h0
 have hc:=fun j u hu=>h.cells (g:=g) rfl j u hu;have e1:∀j,(⟨g,0,none⟩:Addr).add j=⟨g,j,none⟩:=fun j=>bi;refine⟨g,cap,rfl,hb,(h.lt g rfl).2,?_⟩;have:=hc 0 _ rfl;rwa [e1]at this
def Ev(st:UInt8)(a b d:List UInt8):Option Fd:=
 match Nf [a,b,d]with
 |some (n,b,c)=>(match Ak 61 c with
  |[k]=>(match C4 k with|some k=>some ⟨n,b,k,[]⟩|none=>none)
  |[k,v]=>if st=82/\Cf k v=true then some ⟨n,b,⟨[],k,[]⟩,v⟩else none
  |_=>none)
 |none=>none
theorem Et{st:UInt8}{s a b d:List UInt8}(hst:st≠69)(hp:Ak 58 s=[a,b,d]):Cc st s=Ev st a b d:=by
 unfold Cc Ev;rw[if_neg hst,hp];cases Nf [a,b,d]with
 |none=>rfl
 |some x=>
  obtain⟨n,b',c⟩:=x;simp only;match Ak 61 c with
  |[]=>rfl
  |[k]=>simp only;cases C4 k<;>rfl
  |[k,v]=>rfl
  |_::_::_::_=>rfl
theorem Tz{st:UInt8}{a b d:List UInt8}(h:Nf [a,b,d]=none):Ev st a b d=none:=by unfold Ev;rw[h]
theorem Qat{st:UInt8}{a b d k:List UInt8}{n:Nat}(h:Nf [a,b,d]=some (n,b,d))(hq:Ak 61 d=[k]):Ev st a b d=(C4 k).map fun k=>⟨n,b,k,[]⟩:=by
 unfold Ev;rw[h];simp only;rw[hq];simp only;cases C4 k<;>rfl
theorem To{st:UInt8}{a b d k v:List UInt8}{n:Nat}(h:Nf [a,b,d]=some (n,b,d))(hq:Ak 61 d=[k,v]):Ev st a b d=if st=82/\Cf k v=true then some ⟨n,b,⟨[],k,[]⟩,v⟩else none:=by
 unfold Ev;rw[h];simp only;rw[hq]
theorem Qgm{st:UInt8}{a b d k v x:List UInt8}{l:List (List UInt8)}{n:Nat}(h:Nf [a,b,d]=some (n,b,d))(hq:Ak 61 d=k::v::x::l):Ev st a b d=none:=by
 unfold Ev;rw[h];simp only;rw[hq]
theorem Qk0(st:UInt8)(hst:st≠69)(s a b d:List UInt8)(w:World)(hs:s.length<=1000)(hp:Ak 58 s=[a,b,d])(ho:Ei a 200=false):
  Calls prog 114 #[s,.int .u8 (st.toNat:Int)] w (Dd (Cc st s) w):=by
 have hal:=Aq 58 s a bw;have hbl:=Aq 58 s b bw;have hdl:=Aq 58 s d bw;have hF:Cc st s=Ev st a b d:=Et hst hp;have Hcut:=Aa (fun W=>Ct s 58 58 rfl W aG);rw[hp]at Hcut;have Hnum:=Aa (fun W=>D7 a 200 W aG aG);have Hname:=Aa (fun W=>Cw b W aG);have hsl:=st.toNat_lt;have t1:((st.toNat:Int) != 69)=true:=cE;have t2:((st.toNat:Int) == 69)=false:=At hst;clear hp hst;rw[Tz (X9 (.inl ho))]at hF;have HF:=Aa hF;have Ho:=Aa ho;clear hF ho;go_enter func114,ntmps114;go_wp2_with fail;refine(Hcut.o _).mono ?_;rintro e w1 ⟨v,rfl,ho,hb⟩;obtain⟨g,c,rfl,hg1,hg2,c0,c1,c2⟩:=Jb ho;simp at hg1;obtain⟨hc,hfz,hz⟩:=Ck hb;have Hb:=Aa (((Aw w.heap.size w).alloc (Ar _) _).trans (hb.mono aL));have hzz:=hz w.heap.size aL;clear hb ho;go_wp2_with fail;refine(Hnum.o _).mono ?_;rintro e w2 ⟨n,hn,rfl,hdn,hb2⟩;rw[Ho.o];obtain⟨hc2,hfz2,hz2⟩:=Ck hb2;have Hb2:=Aa (Hb.o.trans (hb2.mono Hb.o.size));have hsz:=Hb2.o.size;have hz3:=hz2 _ hzz;clear hb2;go_wp2_with fail;refine aE (v:=.tuple #[.agg #[.int .i64 n,b,aa,aa],.bool false]) (by simp[results,results114,go_sem,hc,hc2,hzz,hz3]) rfl ?_;exact lq
theorem Qlq(st:UInt8)(hst:st≠69)(s a b d:List UInt8)(w:World)(hs:s.length<=1000)(hp:Ak 58 s=[a,b,d])(ho:Ei a 200=true)(hd:Cz a=some 0):
  Calls prog 114 #[s,.int .u8 (st.toNat:Int)] w (Dd (Cc st s) w):=by
 have hal:=Aq 58 s a bw;have hbl:=Aq 58 s b bw;have hdl:=Aq 58 s d bw;have hF:Cc st s=Ev st a b d:=Et hst hp;have Hcut:=Aa (fun W=>Ct s 58 58 rfl W aG);rw[hp]at Hcut;have Hnum:=Aa (fun W=>D7 a 200 W aG aG);have Hname:=Aa (fun W=>Cw b W aG);have hsl:=st.toNat_lt;have t1:((st.toNat:Int) != 69)=true:=cE;have t2:((st.toNat:Int) == 69)=false:=At hst;clear hp hst;rw[Tz (X9 (.inr (.inl hd)))]at hF;have HF:=Aa hF;have Ho:=Aa ho;have Hd:=Aa hd;clear hF ho hd;go_enter func114,ntmps114;go_wp2_with fail;refine(Hcut.o _).mono ?_;rintro e w1 ⟨v,rfl,ho,hb⟩;obtain⟨g,c,rfl,hg1,hg2,c0,c1,c2⟩:=Jb ho;simp at hg1;obtain⟨hc,hfz,hz⟩:=Ck hb;have Hb:=Aa (((Aw w.heap.size w).alloc (Ar _) _).trans (hb.mono aL));have hzz:=hz w.heap.size aL;clear hb ho;go_wp2_with fail;refine(Hnum.o _).mono ?_;rintro e w2 ⟨n,hn,rfl,hdn,hb2⟩;rw[Ho.o];obtain⟨hc2,hfz2,hz2⟩:=Ck hb2;have Hb2:=Aa (Hb.o.trans (hb2.mono Hb.o.size));have hsz:=Hb2.o.size;have hz3:=hz2 _ hzz;clear hb2;obtain rfl:=hdn 0 Hd.o;clear hdn;go_wp2_with fail;refine aE (v:=.tuple #[.agg #[.int .i64 0,b,aa,aa],.bool false]) (by simp[results,results114,go_sem,hc,hc2,hzz,hz3]) rfl ?_;exact lq
theorem Qlg(st:UInt8)(hst:st≠69)(s a b d:List UInt8)(w:World)(hs:s.length<=1000)(hp:Ak 58 s=[a,b,d])(n0:Nat)(ho:Ei a 200=true)(hd:Cz a=some n0)(h1:1<=n0)(h2:n0<=200)(hnm:Bf b=false):
  Calls prog 114 #[s,.int .u8 (st.toNat:Int)] w (Dd (Cc st s) w):=by
 have hal:=Aq 58 s a bw;have hbl:=Aq 58 s b bw;have hdl:=Aq 58 s d bw;have hF:Cc st s=Ev st a b d:=Et hst hp;have Hcut:=Aa (fun W=>Ct s 58 58 rfl W aG);rw[hp]at Hcut;have Hnum:=Aa (fun W=>D7 a 200 W aG aG);have Hname:=Aa (fun W=>Cw b W aG);have hsl:=st.toNat_lt;have t1:((st.toNat:Int) != 69)=true:=cE;have t2:((st.toNat:Int) == 69)=false:=At hst;clear hp hst;rw[Tz (X9 (.inr (.inr hnm)))]at hF;have HF:=Aa hF;have Ho:=Aa ho;have Hd:=Aa hd;have Hnm:=Aa hnm;clear hF ho hd hnm;go_enter func114,ntmps114;go_wp2_with fail;refine(Hcut.o _).mono ?_;rintro e w1 ⟨v,rfl,ho,hb⟩;obtain⟨g,c,rfl,hg1,hg2,c0,c1,c2⟩:=Jb ho;simp at hg1;obtain⟨hc,hfz,hz⟩:=Ck hb;have Hb:=Aa (((Aw w.heap.size w).alloc (Ar _) _).trans (hb.mono aL));have hzz:=hz w.heap.size aL;clear hb ho;go_wp2_with fail;refine(Hnum.o _).mono ?_;rintro e w2 ⟨n,hn,rfl,hdn,hb2⟩;rw[Ho.o];obtain⟨hc2,hfz2,hz2⟩:=Ck hb2;have Hb2:=Aa (Hb.o.trans (hb2.mono Hb.o.size));have hsz:=Hb2.o.size;have hz3:=hz2 _ hzz;clear hb2;obtain rfl:=hdn n0 Hd.o;clear hdn;go_wp2_with fail;refine(Hname.o _).mono ?_;rintro e w3 ⟨rfl,rfl⟩;rw[Hnm.o];go_wp2_with fail;refine aE (v:=.tuple #[.agg #[.int .i64 n0,b,aa,aa],.bool false]) (by simp[results,results114,go_sem,hc,hc2,hzz,hz3]) rfl ?_;exact lq
theorem Qil(st:UInt8)(hst:st≠69)(s a b d:List UInt8)(w:World)(hs:s.length<=1000)(hp:Ak 58 s=[a,b,d])(n0:Nat)(ho:Ei a 200=true)(hd:Cz a=some n0)(h1:1<=n0)(h2:n0<=200)(hnm:Bf b=true)(k:List UInt8)(hq:Ak 61 d=[k])(hk:C4 k=none):
  Calls prog 114 #[s,.int .u8 (st.toNat:Int)] w (Dd (Cc st s) w):=by
 have hal:=Aq 58 s a bw;have hbl:=Aq 58 s b bw;have hdl:=Aq 58 s d bw;have hF:Cc st s=Ev st a b d:=Et hst hp;have Hcut:=Aa (fun W=>Ct s 58 58 rfl W aG);rw[hp]at Hcut;have Hnum:=Aa (fun W=>D7 a 200 W aG aG);have Hname:=Aa (fun W=>Cw b W aG);have hsl:=st.toNat_lt;have t1:((st.toNat:Int) != 69)=true:=cE;have t2:((st.toNat:Int) == 69)=false:=At hst;clear hp hst;have hkl:=Aq 61 d k dS;rw[Qat (Mu hd h1 h2 hnm) hq,hk]at hF;have HF:=Aa hF;have Ho:=Aa ho;have Hd:=Aa hd;have Hnm:=Aa hnm;have Hcut2:=Aa (fun W=>Ct d 61 61 rfl W aG);rw[hq]at Hcut2;clear hF ho hd hnm hq;have hkk:=fun W=>Pq k.length k W (Ar _) aG;rw[hk]at hkk;have Hk:=Aa hkk;clear hkk hk;go_enter func114,ntmps114;go_wp2_with fail;refine(Hcut.o _).mono ?_;rintro e w1 ⟨v,rfl,ho,hb⟩;obtain⟨g,c,rfl,hg1,hg2,c0,c1,c2⟩:=Jb ho;simp at hg1;obtain⟨hc,hfz,hz⟩:=Ck hb;have Hb:=Aa (((Aw w.heap.size w).alloc (Ar _) _).trans (hb.mono aL));have hzz:=hz w.heap.size aL;clear hb ho;go_wp2_with fail;refine(Hnum.o _).mono ?_;rintro e w2 ⟨n,hn,rfl,hdn,hb2⟩;rw[Ho.o];obtain⟨hc2,hfz2,hz2⟩:=Ck hb2;have Hb2:=Aa (Hb.o.trans (hb2.mono Hb.o.size));have hsz:=Hb2.o.size;have hz3:=hz2 _ hzz;clear hb2;obtain rfl:=hdn n0 Hd.o;clear hdn;go_wp2_with fail;refine(Hname.o _).mono ?_;rintro e w3 ⟨rfl,rfl⟩;rw[Hnm.o];go_wp2_with fail;refine(Hcut2.o _).mono ?_;rintro e w4 ⟨v4,rfl,ho4,hb4⟩;obtain⟨g4,c4,rfl,hg4,hg5,c40⟩:=Qg7 ho4;obtain⟨hc4,hfz4,hz4⟩:=Ck hb4;have hzb:=hz4 w.heap.size (Nat.lt_trans hz3 aL);have hzf:=hz4 w2.heap.size aL;have Hb4:=Aa ((Hb2.o.alloc hsz _).trans (hb4.mono (ad hsz aL)));have u0:w4.cell? (w,0)=some (.int .i64 0):=hM;have u1:w4.cell? (w,1)=aa:=hO;have u2:w4.cell? (w,2)=aa:=hY;have u3:w4.cell? (w,3)=aa:=hZ;have d0:w4.cell? (w2,0)=(n0:Int):=ik;have d1:w4.cell? (w2,1)=b:=il;have d2:w4.cell? (w2,2)=aa:=im;have d3:w4.cell? (w2,3)=aa:=io;have f1:∀j,w4.frozen? ⟨w.heap.size,j,none⟩=false:=fun j=>hJ;have f2:∀j,w4.frozen? ⟨w2.heap.size,j,none⟩=false:=fun j=>ib;clear hb4 ho4 hc hc2 hc4 hfz hfz2 hfz4 hz hz2 hz4;have hn1:¬(w2.heap.size=w.heap.size):=aG;have hn2:¬(w.heap.size=w2.heap.size):=aG;have hn3:¬(w4.heap.size=w.heap.size):=aG;have hn4:¬(w.heap.size=w4.heap.size):=aG;go_wp2_with fail;generalize hW0:w4.setCell ⟨w2.heap.size,2,none⟩ k=W0;have e0:W0.cell? (w2,0)=(n0:Int):=ef;have e1:W0.cell? (w2,1)=b:=eh;have e2:W0.cell? (w2,2)=k:=dH;have e3:W0.cell? (w2,3)=aa:=dI;have v0:W0.cell? (w,0)=some (.int .i64 0):=dz;have v1:W0.cell? (w,1)=aa:=dA;have v2:W0.cell? (w,2)=aa:=dB;have v3:W0.cell? (w,3)=aa:=dC;have g1:∀j,W0.frozen? ⟨w.heap.size,j,none⟩=false:=fun j=>ei;have y1:w.heap.size<W0.heap.size:=dY;have Hb5:Below w w W0:=by
  rw[<-hW0];(repeat (first|exact Hb4.o|refine Below.setCell ?_ aN _|refine Below.alloc ?_ aN _|refine Below.drew ?_))
 have Hb5:=Aa Hb5;clear hW0 u0 u1 u2 u3 d0 d1 d2 d3 f1 f2 Hb4 hzb hzf;refine Ju [83,84,85,86,87,88,89,90,91,999,5] aM aM aM (fun u=>by dsimp only[B9,Bw,List.set])
  (fun i x W=>x=[.agg #[.int .i64 n0,.string ⟨b.toArray⟩,.string ⟨k.toArray⟩,.string ⟨#[]⟩],.slice (some ⟨g4,0,none⟩) 1 c4,.int .i64 1,.bool true,.bool true,.pointer (some ⟨w2.heap.size,2,none⟩),.string ⟨k.toArray⟩,.bool false,.bool false,undef,.bool false][i]?.getD undef)
  (fun L W=>W=if L 9=true then(((W0.drew.setCell ⟨w.heap.size,0,none⟩ (.int .i64 n0)).setCell ⟨w.heap.size,1,none⟩ b).setCell ⟨w.heap.size,2,none⟩ k).setCell ⟨w.heap.size,3,none⟩ aa else W0.drew) (fun _ _=>True) (fun _ _ _ _ _ h=>h) rfl ?_ ?_
 ·exact iS
 rintro L u W hL hφ hR;have c10:=hφ 10 aJ;simp at c10;simp only[c10];rw[if_pos (hL 9 aJ)]at hR;subst hR;go_wp2_with fail;refine aE (v:=.tuple #[.agg #[.int .i64 n0,b,k,aa],.bool false]) (by simp[results,results114,go_sem,g1,y1,v0,v1,v2,v3]) rfl ?_;exact Dd.no HF.o rfl bg
theorem Qjd(st:UInt8)(hst:st≠69)(s a b d:List UInt8)(w:World)(hs:s.length<=1000)(hp:Ak 58 s=[a,b,d])(n0:Nat)(ho:Ei a 200=true)(hd:Cz a=some n0)(h1:1<=n0)(h2:n0<=200)(hnm:Bf b=true)(k:List UInt8)(hq:Ak 61 d=[k])(kk:Kd)(hk:C4 k=some kk):
  Calls prog 114 #[s,.int .u8 (st.toNat:Int)] w (Dd (Cc st s) w):=by
 have hal:=Aq 58 s a bw;have hbl:=Aq 58 s b bw;have hdl:=Aq 58 s d bw;have hF:Cc st s=Ev st a b d:=Et hst hp;have Hcut:=Aa (fun W=>Ct s 58 58 rfl W aG);rw[hp]at Hcut;have Hnum:=Aa (fun W=>D7 a 200 W aG aG);have Hname:=Aa (fun W=>Cw b W aG);have hsl:=st.toNat_lt;have t1:((st.toNat:Int) != 69)=true:=cE;have t2:((st.toNat:Int) == 69)=false:=At hst;clear hp hst;have hkl:=Aq 61 d k dS;rw[Qat (Mu hd h1 h2 hnm) hq,hk]at hF;have Hkb:=Aa (Fr.1 hk).2;have HF:=Aa hF;have Ho:=Aa ho;have Hd:=Aa hd;have Hnm:=Aa hnm;have Hcut2:=Aa (fun W=>Ct d 61 61 rfl W aG);rw[hq]at Hcut2;clear hF ho hd hnm hq;have hkk:=fun W=>Pq k.length k W (Ar _) aG;rw[hk]at hkk;have Hk:=Aa hkk;clear hkk hk;go_enter func114,ntmps114;go_wp2_with fail;refine(Hcut.o _).mono ?_;rintro e w1 ⟨v,rfl,ho,hb⟩;obtain⟨g,c,rfl,hg1,hg2,c0,c1,c2⟩:=Jb ho;simp at hg1;obtain⟨hc,hfz,hz⟩:=Ck hb;have Hb:=Aa (((Aw w.heap.size w).alloc (Ar _) _).trans (hb.mono aL));have hzz:=hz w.heap.size aL;clear hb ho;go_wp2_with fail;refine(Hnum.o _).mono ?_;rintro e w2 ⟨n,hn,rfl,hdn,hb2⟩;rw[Ho.o];obtain⟨hc2,hfz2,hz2⟩:=Ck hb2;have Hb2:=Aa (Hb.o.trans (hb2.mono Hb.o.size));have hsz:=Hb2.o.size;have hz3:=hz2 _ hzz;clear hb2;obtain rfl:=hdn n0 Hd.o;clear hdn;go_wp2_with fail;refine(Hname.o _).mono ?_;rintro e w3 ⟨rfl,rfl⟩;rw[Hnm.o];go_wp2_with fail;refine(Hcut2.o _).mono ?_;rintro e w4 ⟨v4,rfl,ho4,hb4⟩;obtain⟨g4,c4,rfl,hg4,hg5,c40⟩:=Qg7 ho4;obtain⟨hc4,hfz4,hz4⟩:=Ck hb4;have hzb:=hz4 w.heap.size (Nat.lt_trans hz3 aL);have hzf:=hz4 w2.heap.size aL;have Hb4:=Aa ((Hb2.o.alloc hsz _).trans (hb4.mono (ad hsz aL)));have u0:w4.cell? (w,0)=some (.int .i64 0):=hM;have u1:w4.cell? (w,1)=aa:=hO;have u2:w4.cell? (w,2)=aa:=hY;have u3:w4.cell? (w,3)=aa:=hZ;have d0:w4.cell? (w2,0)=(n0:Int):=ik;have d1:w4.cell? (w2,1)=b:=il;have d2:w4.cell? (w2,2)=aa:=im;have d3:w4.cell? (w2,3)=aa:=io;have f1:∀j,w4.frozen? ⟨w.heap.size,j,none⟩=false:=fun j=>hJ;have f2:∀j,w4.frozen? ⟨w2.heap.size,j,none⟩=false:=fun j=>ib;clear hb4 ho4 hc hc2 hc4 hfz hfz2 hfz4 hz hz2 hz4;have hn1:¬(w2.heap.size=w.heap.size):=aG;have hn2:¬(w.heap.size=w2.heap.size):=aG;have hn3:¬(w4.heap.size=w.heap.size):=aG;have hn4:¬(w.heap.size=w4.heap.size):=aG;go_wp2_with fail;generalize hW0:w4.setCell ⟨w2.heap.size,2,none⟩ k=W0;have e0:W0.cell? (w2,0)=(n0:Int):=ef;have e1:W0.cell? (w2,1)=b:=eh;have e2:W0.cell? (w2,2)=k:=dH;have e3:W0.cell? (w2,3)=aa:=dI;have v0:W0.cell? (w,0)=some (.int .i64 0):=dz;have v1:W0.cell? (w,1)=aa:=dA;have v2:W0.cell? (w,2)=aa:=dB;have v3:W0.cell? (w,3)=aa:=dC;have g1:∀j,W0.frozen? ⟨w.heap.size,j,none⟩=false:=fun j=>ei;have y1:w.heap.size<W0.heap.size:=dY;have Hb5:Below w w W0:=by
  rw[<-hW0];(repeat (first|exact Hb4.o|refine Below.setCell ?_ aN _|refine Below.alloc ?_ aN _|refine Below.drew ?_))
 have Hb5:=Aa Hb5;clear hW0 u0 u1 u2 u3 d0 d1 d2 d3 f1 f2 Hb4 hzb hzf;refine Ju [83,84,85,86,87,88,89,90,91,999,5] aM aM aM (fun u=>by dsimp only[B9,Bw,List.set])
  (fun i x W=>x=[.agg #[.int .i64 n0,.string ⟨b.toArray⟩,.string ⟨k.toArray⟩,.string ⟨#[]⟩],.slice (some ⟨g4,0,none⟩) 1 c4,.int .i64 1,.bool true,.bool true,.pointer (some ⟨w2.heap.size,2,none⟩),.string ⟨k.toArray⟩,.bool true,.bool true,undef,.bool true][i]?.getD undef)
  (fun L W=>W=if L 9=true then(((W0.drew.setCell ⟨w.heap.size,0,none⟩ (.int .i64 n0)).setCell ⟨w.heap.size,1,none⟩ b).setCell ⟨w.heap.size,2,none⟩ k).setCell ⟨w.heap.size,3,none⟩ aa else W0.drew) (fun _ _=>True) (fun _ _ _ _ _ h=>h) rfl ?_ ?_
 ·exact iS
 rintro L u W hL hφ hR;have c10:=hφ 10 aJ;simp at c10;simp only[c10];rw[if_pos (hL 9 aJ)]at hR;subst hR;go_wp2_with fail;refine aE (v:=.tuple #[.agg #[.int .i64 n0,b,k,aa],.bool true]) (by simp[results,results114,go_sem,g1,y1,v0,v1,v2,v3]) rfl ?_;exact Dd.yes HF.o (by unfold sfV;rw[Hkb.o]) bg
end
end Go.Proofs.YtkigmebejmmikaaGreatDoor
