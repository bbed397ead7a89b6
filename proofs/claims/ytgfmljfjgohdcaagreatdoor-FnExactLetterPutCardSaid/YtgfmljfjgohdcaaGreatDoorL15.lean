/- Texts joined. Conditions: as each theorem names them. -/
import Derived.BigQuiet
import Derived.Sort.Walk0
import Derived.Test.YtgfmljfjgohdcaaGreatDoorL12
import Derived.Test.YtgfmljfjgohdcaaGreatDoorL13
import Derived.Test.YtgfmljfjgohdcaaGreatDoorL14
set_option maxRecDepth 100000
set_option maxHeartbeats 32000000
set_option linter.unusedVariables false
set_option linter.unusedSimpArgs false
namespace Go.Proofs.YtgfmljfjgohdcaaGreatDoor
open Go.RowKit Go.Proofs.Tryz
theorem Xs(s:List UInt8)(w:World)(hs:s.length<=1000):
  Calls prog 165 #[s] w (Df (C7 s) w):=by
 rcases Eu 61 s with⟨hn,_⟩|⟨p,u,h,hp,_⟩
 ·exact Qcx s w hs hn
 cases p with
 |nil=>exact Qbp s u w hs h
 |cons c nm=>
  rcases Bool.eq_false_or_eq_true (At nm)with hnm|hnm
  ·by_cases hso:Dt c
   ·by_cases hu:u=[]
    ·rcases hso with rfl|rfl|rfl
     ·exact Zh s nm u w hs h hp hnm hu
     ·exact Z4 s nm u w hs h hp hnm hu
     exact Zr s nm u w hs h hp hnm hu
    rcases hso with rfl|rfl|rfl
    ·exact sType_full82 s nm u w hs h hp hnm hu
    ·exact sType_full85 s nm u w hs h hp hnm hu
    exact sType_full69 s nm u w hs h hp hnm hu
   exact Qcv s c nm u w hs h hp hnm hso
  exact Qda s c nm u w hs h hp hnm
section
attribute [local go_sem] Qls Qkr Qj4 Qig ByteArray.mk_append_mk
def sfR:Option Fd->Value
 |some f=>.tuple #[sfV f,.bool true]
 |none=>.tuple #[sf0,.bool false]
theorem Vd(st nm fv:Value)(fs:List Fd)(n:Nat)(w:World)(h:Ff w fv fs)(hn:n<=1000000000):
  Calls prog 188 #[.agg #[st,nm,fv],.int .i64 n] w fun e w'=>e=.returned (sfR (Bl fs n))/\Below w w w':=by
 obtain⟨A,c,rfl,hl,hr⟩:=h;have Hr:=Aa hr;clear hr;go_enter func188,ntmps188;go_wp2_with fail;go_loopw [6] (fun i wr=>∃k:Nat,i=.int .i64 k/\k<=fs.length/\wr=(w.alloc (.cells #[st,nm,.slice A fs.length c] 153)).alloc (.cells #[.int .i64 0,a6,a6,a6] 177)/\Hid (∀f∈fs.take k,decide (f.tag=n)=false)) (fun i _=>fs.length - (intOf i).toNat)
 case atStart=>exact⟨0,rfl,ae _,rfl,by intro f hf;simp at hf⟩
 case round=>
  obtain⟨k,rfl,hk,rfl,hin⟩:=hrel;by_cases hlt:k<fs.length
  ·obtain⟨b,off,rfl,hb,c0,c1,c2,c3⟩:=Ff.at_ Hr.o hlt;have Hts:=Aa (By fs k hlt);have Hft:=Aa (Sa (p:=fun f=>decide (f.tag=n)) hlt hin.o);generalize fs[k]=f at c0 c1 c2 c3 Hts Hft;have k1:(0:Int)<=(k:Int):=aF;have k2:(k:Int)<(fs.length:Int):=aF;by_cases he:f.tag=n
   ·have t1:((f.tag:Int) == (n:Int))=true:=by simp[he]
    have Hfin:=Aa (show Bl fs n=some f by unfold Bl;rw[Hft.o,if_pos cI]);clear he;go_wp2_with fail;exact aD (v:=.tuple #[sfV f,.bool true]) (by simp[results,results188,go_sem,sfV]) rfl ⟨by rw[Hfin.o];rfl,((Ar _ _).alloc (Am _) _).alloc aH _⟩
   have t1:((f.tag:Int) == (n:Int))=false:=bY
   have Hin:=Aa (show ∀g∈fs.take (k+1),decide (g.tag=n)=false by
    intro g hg;rw[Hts.o]at hg;rcases ad.1 hg with hg|hg
    ·exact hin.o g hg
    simp at hg;subst hg;simpa using he)
   clear he;go_wp2_with fail;go_roundw
   case rel=>exact⟨k+1,by go_num,by omega,Ac,Hin.o⟩
   case measure=>simp[intOf];omega
  ·have Hfin:=@Aa (Bl fs n=none) (Me (fun f hf=>hin.o f dg));go_wp2_with fail;exact aD (v:=.tuple #[sf0,.bool false]) (by simp[results,results188,go_sem,sf0]) rfl ⟨by rw[Hfin.o];rfl,((Ar _ _).alloc (Am _) _).alloc aH _⟩
def Sd:Option (Ty × Value)->Value
 |some x=>.tuple #[Kp x.1 x.2,.bool true]
 |none=>.tuple #[Nk,.bool false]
theorem Rm(v:Value)(xs:List (Ty × Value))(n:List UInt8)(w:World)(h:Jt w v xs):
  Calls prog 110 #[v,n] w fun e w'=>e=.returned (Sd (D5 xs n))/\Below w w w':=by
 obtain⟨A,c,rfl,hl,hr,hf⟩:=h;have Hr:=Aa hr;have Hf:=Aa hf;clear hr hf;go_enter func110,ntmps110;go_wp2_with fail;go_loopw [6] (fun i wr=>∃k:Nat,i=.int .i64 k/\k<=xs.length/\wr=w.alloc (.cells #[.int .u8 0,a6,.slice none 0 0] 153)/\Hid (∀x∈xs.take k,decide (x.1.name=n)=false)) (fun i _=>xs.length - (intOf i).toNat)
 case atStart=>exact⟨0,rfl,ae _,rfl,by intro f hf;simp at hf⟩
 case round=>
  obtain⟨k,rfl,hk,rfl,hin⟩:=hrel;by_cases hlt:k<xs.length
  ·obtain⟨b,off,rfl,hb,c0,c1,c2⟩:=Jt.at_ Hr.o hlt;have Hts:=Aa (By xs k hlt);have Hft:=Aa (Sa (p:=fun x=>decide (x.1.name=n)) hlt hin.o);have hfx:=Hf.o _ (ac hlt);generalize xs[k]=x at c0 c1 c2 Hts Hft hfx;obtain⟨t,fv⟩:=x;simp only[]at c0 c1 c2 hfx;obtain⟨A2,d2,hfv,_⟩:=hfx;subst hfv;have k1:(0:Int)<=(k:Int):=aF;have k2:(k:Int)<(xs.length:Int):=aF;by_cases he:t.name=n
   ·have t1:(t.name == n)=true:=by simp[he]
    have Hfin:=Aa (show D5 xs n=some (t,.slice A2 t.fields.length d2)by unfold D5;rw[Hft.o,if_pos cI]);clear he;go_wp2_with fail;refine aD (v:=.tuple #[Kp t (.slice A2 t.fields.length d2),.bool true]) (by simp[results,results110,go_sem,Kp]) rfl ?_;exact il
   have t1:(t.name == n)=false:=cI
   have Hin:=Aa (show ∀g∈xs.take (k+1),decide (g.1.name=n)=false by
    intro g hg;rw[Hts.o]at hg;rcases ad.1 hg with hg|hg
    ·exact hin.o g hg
    simp at hg;subst hg;simpa using he)
   clear he;go_wp2_with fail;go_roundw
   case rel=>exact⟨k+1,by go_num,by omega,Ac,Hin.o⟩
   case measure=>simp[intOf];omega
  ·have Hfin:=@Aa (D5 xs n=none) (Me (fun f hf=>hin.o f dg));go_wp2_with fail;refine aD (v:=.tuple #[Nk,.bool false]) (by simp[results,results110,go_sem,Nk]) rfl ?_;exact il
theorem Qis{k:Kd}(h:Cs k):(k.signs=[]/\k.base=[64]/\Be k=64::(k.name++[59])/\k.name.length<=3)\/(¬(k.signs=[]/\k.base=[64])/\∃c t,Be k=c::t/\c≠64/\t.length<=12):=by
 obtain⟨h1,h2,h3⟩:=h;cases hs:k.signs with
 |cons c t=>
  refine .inr ⟨by simp,c,t++Bk k,by unfold Be;rw[hs];rfl,?_,?_⟩
  ·rw[hs]at h1;simp only[List.all_cons,au]at h1;rintro rfl;exact absurd h1.1 aI
  unfold Be at h3;rw[hs]at h3;simp at h3 ⊢;omega
 |nil=>
  rcases h2 with⟨hb,hn⟩|⟨hb,_⟩
  ·exact .inl ⟨rfl,hb,by unfold Be Bk;rw[hs,if_pos hb];rfl,(Dj.1 hn).2.1⟩
  refine .inr ⟨?_,?_⟩
  ·rintro⟨_,h⟩;rcases hb with hb|hb|hb<;>· rw[hb]at h;revert h;decide
  have hc:Be k=k.base:=by
   unfold Be Bk;rw[hs,if_neg (by rcases hb with hb|hb|hb<;>· rw[hb];decide)];rfl
  rw[hc];rcases hb with hb|hb|hb<;>· rw[hb];exact⟨_,_,rfl,by decide,by simp⟩
theorem Gc(v:Value)(xs:List (Ty × Value))(k:Kd)(w:World)(h:Jt w v xs)(hk:Cs k):
  Calls prog 113 #[v,.string ⟨(Be k).toArray⟩] w fun e w'=>e=.returned (Sd (Mu xs k))/\Below w w w':=by
 have H:=Aa h;clear h;rcases Qis hk with⟨h1,h2,h3,h4⟩|⟨h1,c,t,h3,h4,h5⟩
 ·have Hr:=@Aa (Mu xs k=D5 xs k.name) (if_pos ⟨h1,h2⟩);rw[h3];clear h1 h2 h3;go_enter func113,ntmps113;go_wp2_with fail;refine(Yf k.name _ aF).mono ?_;rintro e w' ⟨rfl,rfl⟩;go_wp2_with fail;refine(Rm v xs k.name _ (H.o.below ((Ar _ _).alloc (Am _) _))).mono ?_;rintro e w2 ⟨rfl,hb⟩;cases hf:D5 xs k.name with
  |none=>
   rw[hf]at Hr;obtain⟨hc,hfz,hz⟩:=Bx hb;have Hb:=Aa (((Ar w.heap.size w).alloc (Am _) _).trans (hb.mono aH));clear hb hf;unfold Sd Nk;go_wp2_with fail;refine aD (v:=.tuple #[Nk,.bool false]) (by simp[results,results113,go_sem,Nk,hc]) rfl ?_;exact im
  |some x=>
   obtain⟨t,fv⟩:=x;have hm:=(Dr hf).1;obtain⟨A,c,_,_,_,hfs⟩:=H.o;obtain⟨A2,d2,e2,_⟩:=hfs _ hm;simp only at e2;subst e2;rw[hf]at Hr;obtain⟨hc,hfz,hz⟩:=Bx hb;have Hb:=Aa (((Ar w.heap.size w).alloc (Am _) _).trans (hb.mono aH));clear hb hf hm hfs;unfold Sd Kp;go_wp2_with fail;refine aD (v:=.tuple #[Kp t (.slice A2 t.fields.length d2),.bool true]) (by simp[results,results113,go_sem,Kp,hc]) rfl ?_;exact im
 have Hr:=@Aa (Mu xs k=none) (if_neg h1);rw[h3];clear h1 h3;go_enter func113,ntmps113;go_wp2_with fail;refine(Qbz c t _ h4 aF).mono ?_;rintro e w' ⟨rfl,rfl⟩;go_wp2_with fail;refine aD (v:=.tuple #[Nk,.bool false]) (by simp[results,results113,go_sem,Nk]) rfl ?_;exact⟨by rw[Hr.o];rfl,(Ar _ _).alloc (Am _) _⟩
theorem Qjr(S:List Ty)(n:Nat)(t:Ty)(h:t.sort≠85):Bs S (n+1) t=true:=by
 simp only[Bs,E7,if_neg h]
theorem Qg0(xs:List (Ty × Value))(n:Nat)(t:Ty)(f:Fd)(fs:List Fd)(h:t.sort=85)(hf:t.fields=f::fs):
  Bs (Af xs) (n+1) t=(match Mu xs f.kind with|none=>true|some u=>Bs (Af xs) n u.1):=by
 simp only[Bs,E7,if_pos h,hf,Mu];by_cases hk:f.kind.signs=[]/\f.kind.base=[64]
 ·rw[if_pos hk,if_pos hk,Jn];cases D5 xs f.kind.name<;>rfl
 rw[if_neg hk,if_neg hk]
theorem Qct{t:Ty}(h:En t)(hs:t.sort=85):∃f fs,t.fields=f::fs/\Cs f.kind:=by
 obtain⟨h1,h2,h3,h4,h5⟩:=h;cases hf:t.fields with
 |nil=>have:=h5 hf;rw[hs]at this;exact absurd this aI
 |cons f fs=>
  refine⟨f,fs,rfl,?_⟩;have:=h3.1 f dt;exact(this.2.2.2.2 dz).1
theorem Qh6{xs:List (Ty × Value)}{k:Kd}{x:Ty × Value}(h:Mu xs k=some x):x∈xs:=by
 unfold Mu at h;split at h
 ·exact(Dr h).1
 cases h
theorem Qev(v fv:Value)(xs:List (Ty × Value))(t:Ty)(w:World)(h:Jt w v xs)(ht:En t)(hft:Ff w fv t.fields)(hok:∀x∈xs,En x.1):
  Calls prog 219 #[v,Kp t fv] w fun e w'=>e=.returned (.bool (Bs (Af xs) (xs.length+1) t))/\Below w w w':=by
 have H:=Aa h;have Hok:=Aa hok;obtain⟨A,c,rfl,hxl,_⟩:=h;obtain⟨A1,c1,rfl,hfl,hr1⟩:=hft;have Hr1:=Aa hr1;have Ht:=Aa ht;clear hok hr1 ht;unfold Kp;go_enter func219,ntmps219;go_wp2_with fail
 go_loopw [5] (fun i wr=>∃(n:Nat) (cur:Ty) (A2:Option Addr) (c2:Nat),i=.int .i64 n/\n<=xs.length+1/\Hid (En cur)/\Hid (Cd w A2 (cur.fields.length*4) (cur.fields.flatMap sfc)) /\
   Hid (Bs (Af xs) (xs.length+1) t=Bs (Af xs) (xs.length+1 - n) cur)/\Hid (Below w w wr)/\w.heap.size<wr.heap.size /\
   wr.cell? (w,0)=some (.int .u8 (cur.sort.toNat:Int))/\wr.cell? (w,1)=cur.name/\wr.cell? (w,2)=some (.slice A2 cur.fields.length c2) /\
   (∀j,wr.frozen? ⟨w.heap.size,j,none⟩=false)) (fun i _=>xs.length+1 - (intOf i).toNat)
 case atStart=>exact⟨0,t,A1,c1,rfl,ae _,Ht.o,Hr1.o,rfl,(Ar _ _).alloc (Am _) _,by simp,by simp,by simp,by simp,by simp⟩
 case round=>
  obtain⟨n,cur,A2,c2,rfl,hn,hcu,hrow,heq,hb,hsz,u0,u1,u2,f1⟩:=hrel;by_cases hlt:n<=xs.length
  ·have k1:(n:Int)<=(xs.length:Int):=aF;obtain⟨m,hm⟩:∃m,xs.length+1 - n=m+1:=⟨xs.length - n,by omega⟩
   have hm2:xs.length+1 - (n+1)=m:=aF;rw[hm]at heq;have hcl:=cur.sort.toNat_lt;by_cases hs:cur.sort=85
   ·have t1:((cur.sort.toNat:Int) != 85)=false:=by have:=Ba hs;simpa using this
    have t2:((cur.sort.toNat:Int) == 85)=true:=Ba hs;obtain⟨f,fs,hfs,hkd⟩:=Qct hcu.o hs;have Heq:=Aa (show Bs (Af xs) (xs.length+1) t=(match Mu xs f.kind with|none=>true|some u=>Bs (Af xs) m u.1)by rw[heq.o];exact Qg0 xs m cur f fs hs hfs);have hlf:0<cur.fields.length:=cz;have hf0:cur.fields[0]=f:=by simp[hfs]
    obtain⟨b,off,rfl,hbl,g0,g1,g2,g3⟩:=Ff.at_ (hrow.o.below hb.o) hlf;rw[hf0]at g0 g1 g2 g3;simp only[Nat.zero_mul,Nat.add_zero]at g0 g1 g2 g3;have Hkd:=Aa hkd;have l1:(0:Int)<(cur.fields.length:Int):=aF;clear hs heq hkd hf0 hfs;go_wp2_with fail;refine(Gc (.slice A xs.length c) xs f.kind _ (H.o.below hb.o) Hkd.o).mono ?_;rintro e w4 ⟨rfl,hb4⟩;obtain⟨hc4,hfz4,hz4⟩:=Bx hb4;have Hb5:=Aa (hb.o.trans (hb4.mono (Nat.le_of_lt hsz)));rw[<-hc4 _ _ hsz]at u0 u1 u2;have f1':∀j,w4.frozen? ⟨w.heap.size,j,none⟩=false:=fun j=>(hfz4 _ j hsz).trans (f1 j);have hsz4:=hz4 _ hsz;have Hrow':=Aa (fun(x:Ty × Value) (hx:x∈xs)=>((show ∀x∈xs,Ff w x.2 x.1.fields from(by obtain⟨_,_,_,_,_,hf⟩:=H.o;exact hf)) x hx));have hn1:¬(w4.heap.size=w.heap.size):=aF;have hn2:¬(w.heap.size=w4.heap.size):=aF;clear hb4 hc4 hfz4 hz4 f1 hb;cases hr:Mu xs f.kind with
    |none=>
     rw[hr]at Heq;unfold Sd Nk;go_wp2_with fail;go_ret;exact⟨by rw[Heq.o];first|rfl|trivial,bS⟩
    |some x=>
     rw[hr]at Heq;obtain⟨u,uv⟩:=x;have Hm:=Aa (Qh6 hr);obtain⟨A5,c5,e5,_,hr5⟩:=Hrow'.out _ Hm.o;simp only[]at e5 hr5;subst e5;have Hr5:=Aa hr5;clear hr hr5;unfold Sd Kp;go_wp2_with fail;go_roundw
     case rel=>
      refine⟨n+1,u,A5,c5,by go_num,by omega,Hok.o _ Hm.o,Hr5.o,by rw[hm2];exact Heq.o,bS,by simp;omega,by simp[go_sem,u0,u1,u2,f1',hn1,hn2,hsz4],by simp[go_sem,u0,u1,u2,f1',hn1,hn2,hsz4],by simp[go_sem,u0,u1,u2,f1',hn1,hn2,hsz4],by intro j;simp[go_sem,f1',hn1,hn2,hsz4]⟩
     case measure=>simp[intOf];omega
   have t1:((cur.sort.toNat:Int) != 85)=true:=by have:=Ao hs;simpa using this
   have t2:((cur.sort.toNat:Int) == 85)=false:=Ao hs;have Hend:=Aa (show Bs (Af xs) (xs.length+1) t=true by rw[heq.o];exact Qjr _ m cur hs);clear hs heq;go_wp2_with fail;exact io
  ·have k1:¬(n:Int)<=(xs.length:Int):=aF;have Hend:=Aa (show Bs (Af xs) (xs.length+1) t=false by rw[heq.o,show xs.length+1 - n=0 by omega];rfl);clear heq;go_wp2_with fail;exact io
def Sn(k:Kd):Bool:=decide (k.base=[64])
def So(k:Kd):List UInt8:=if k.base=[64]then k.name else[]
theorem Px(k:Kd)(hk:Cs k)(w:World):
  Calls prog 108 #[.string ⟨(Bk k).toArray⟩] w fun e w'=>e=.returned (.tuple #[.string ⟨(So k).toArray⟩,.bool (Sn k)])/\w=w':=by
 obtain⟨_,hb,hl⟩:=hk;unfold Bk So Sn;by_cases h:k.base=[64]
 ·rw[if_pos h,if_pos h,aB h];refine Yf k.name w ?_;rcases hb with⟨_,hn⟩|⟨h2,_⟩
  ·have:=(Dj.1 hn).2.1;omega
  rcases h2 with h2|h2|h2<;>· rw[h]at h2;exact absurd h2 aI
 rw[if_neg h,if_neg h,aA h];rcases hb with⟨h2,_⟩|⟨h2,_⟩
 ·exact absurd h2 h
 rcases h2 with h2|h2|h2<;>· rw[h2];exact Qbz _ [] w aI aH
theorem Ku(k:Kd)(hk:Cs k)(w:World):
  Calls prog 109 #[.string ⟨(Be k).toArray⟩] w fun e w'=>e=.returned (.string ⟨(Bk k).toArray⟩)/\w=w':=
 Qdy k w hk.1 (Ys hk.2.1) cY
theorem Kk(xs:List (Ty × Value))(k:Kd):Bq (Af xs) k↔(Sn k=true->(D5 xs (So k)).isSome=true):=by
 unfold Bq Sn So;by_cases h:k.base=[64]
 ·rw[if_pos h,Jn];simp[h]
 rw[if_neg h];simp[h]
def Rw(S:List Ty):Prop:=(S.Pairwise fun t u=>t.name≠u.name)/\Fs S/\∀t∈S,Bs S (S.length+1) t=true
def Qcq(xs:List (Ty × Value))(k:Nat):Prop:=
 (((xs.take k).map (·.1)).Pairwise fun t u=>t.name≠u.name)/\∀x∈xs.take k,x.1.sort≠69->∀f∈x.1.fields,Bq (Af xs) f.kind
theorem Qew(xs:List (Ty × Value)):Qcq xs 0:=⟨by simp,by simp⟩
theorem Qfo{xs:List (Ty × Value)}{k:Nat}(hk:k<xs.length)(h:Qcq xs k)(h1:∀x∈xs.take k,x.1.name≠xs[k].1.name)(h2:xs[k].1.sort≠69->∀f∈xs[k].1.fields,Bq (Af xs) f.kind):Qcq xs (k+1):=by
 unfold Qcq;rw[By xs k hk];refine⟨?_,?_⟩
 ·rw[ax,List.pairwise_append];refine⟨h.1,by simp,?_⟩;intro a ha b hb;obtain⟨x,hx,rfl⟩:=av.1 ha;simp at hb;subst hb;exact h1 x hx
 intro x hx;rcases ad.1 hx with hx|hx
 ·exact h.2 x hx
 simp at hx;subst hx;exact h2
theorem Qhk{xs:List (Ty × Value)}(h:Qcq xs xs.length):((Af xs).Pairwise fun t u=>t.name≠u.name)/\Fs (Af xs):=by
 unfold Qcq at h;rw[List.take_length]at h;refine⟨h.1,?_⟩;intro t ht hs f hf;obtain⟨x,hx,rfl⟩:=av.1 ht;exact h.2 x hx hs f hf
theorem Qfm{xs:List (Ty × Value)}{j k:Nat}(hjk:j<k)(hk:k<xs.length)(h:xs[j].1.name=xs[k].1.name):¬Rw (Af xs):=by
 rintro⟨hp,_⟩;have:=List.pairwise_iff_getElem.1 hp j k (by unfold Af;simp;omega) (by unfold Af;simp;omega) hjk;unfold Af at this;simp at this;exact this h
theorem Qgu{xs:List (Ty × Value)}{k j:Nat}(hk:k<xs.length)(hs:xs[k].1.sort≠69)(hj:j<xs[k].1.fields.length)(h:¬Bq (Af xs) xs[k].1.fields[j].kind):¬Rw (Af xs):=by
 rintro⟨_,hp,_⟩;exact h (hp xs[k].1 (av.2 ⟨xs[k],ac hk,rfl⟩) hs _ (ac hj))
theorem Qhy{xs:List (Ty × Value)}{k:Nat}(hk:k<xs.length)(h:Bs (Af xs) (xs.length+1) xs[k].1=false):¬Rw (Af xs):=by
 rintro⟨_,_,hp⟩;have:=hp xs[k].1 (av.2 ⟨xs[k],ac hk,rfl⟩);rw[show (Af xs).length=xs.length by unfold Af;simp,h]at this;cases this
theorem Qdj(v:Value)(xs:List (Ty × Value))(w:World)(h:Jt w v xs)(hok:∀x∈xs,En x.1):
  Calls prog 166 #[v] w fun e w'=>(∃b,e=.returned (.bool b)/\(b=true↔Rw (Af xs)))/\Below w w w':=by
 have H:=Aa h;have Hok:=Aa hok;obtain⟨A,c,rfl,hxl,hrow,hfds⟩:=h;have Hrow:=Aa hrow;have Hfds:=Aa hfds;clear hok hrow hfds;go_enter func166,ntmps166;go_wp2_with fail;go_loopw [3] (fun i wr=>∃k:Nat,i=.int .i64 k/\k<=xs.length/\Hid (Qcq xs k)/\Hid (Below w w wr)) (fun i _=>xs.length - (intOf i).toNat)
 case atStart=>exact⟨0,rfl,ae _,Qew xs,Ar _ _⟩
 case round=>
  obtain⟨k,rfl,hk,hto,hbr⟩:=hrel;by_cases hlt:k<xs.length
  ·have k1:(0:Int)<=(k:Int):=aF;have k2:(k:Int)<(xs.length:Int):=aF;go_wp2_with fail;go_loopw [4] (fun i wq=>∃j:Nat,i=.int .i64 j/\j<=k/\(∃q,wq=wr.drewN q)/\Hid (∀x∈xs.take j,x.1.name≠xs[k].1.name)) (fun i _=>k - (intOf i).toNat)
   case atStart=>exact⟨0,rfl,ae _,⟨0,rfl⟩,by intro x hx;simp at hx⟩
   case round=>
    obtain⟨j,rfl,hj,⟨q,rfl⟩,hin⟩:=hrel;obtain⟨b,off,rfl,hbl,c0,c1,c2⟩:=Jt.at_ (Hrow.o.below hbr.o) hlt;by_cases hjl:j<k
    ·obtain⟨b',off',e',hbl',d0,d1,d2⟩:=Jt.at_ (Hrow.o.below hbr.o) (show j<xs.length by omega);simp only[ah,Addr.mk.injEq]at e';obtain⟨rfl,rfl,_⟩:=e';have Hnn:=Aa (fun h=>Qfm (xs:=xs) hjl hlt h);have Hts:=Aa (By xs j (show j<xs.length by omega));have j1:(0:Int)<=(j:Int):=aF;have j2:(j:Int)<(xs.length:Int):=aF;have j3:(j:Int)<(k:Int):=aF;by_cases he:xs[j].1.name=xs[k].1.name
     ·have t1:(xs[j].1.name == xs[k].1.name)=true:=cI;have Hno:=Aa (Hnn.o he);clear he;go_wp2_with fail;go_quiet (fail)
      go_wp2_with fail;go_ret;exact⟨⟨false,rfl,by simp[Hno.o]⟩,below_drewN (below_drewN hbr.o q) _⟩
     have t1:(xs[j].1.name == xs[k].1.name)=false:=cI
     have Hin:=Aa (show ∀x∈xs.take (j+1),x.1.name≠xs[k].1.name by
      intro x hx;rw[Hts.o]at hx;rcases ad.1 hx with hx|hx
      ·exact hin.o x hx
      simp at hx;subst hx;exact he)
     clear he;go_wp2_with fail;go_quiet (fail)
     go_wp2
     go_roundw
     case rel=>exact⟨j+1,by go_num,by omega,⟨_,rfl⟩,Hin.o⟩
     case measure=>simp[intOf];omega
    ·obtain rfl:j=k:=aF;have j3:¬(j:Int)<(j:Int):=aF;have Hbk:=Aa (below_drewN hbr.o q);have Hnk:=Aa hin.o;have Hxk:=Aa (Hfds.o _ (ac hlt));have Hokk:=Aa (Hok.o _ (ac hlt));have Hnok:=Aa (fun(jj:Nat) (hs:xs[j].1.sort≠69) (hjj:jj<xs[j].1.fields.length) h=>Qgu hlt hs hjj h);have Hsuc:=Aa (fun h2=>Qfo hlt hto.o Hnk.o h2);clear hin hbl c0 c1 c2 hto;go_wp2_with fail;go_loopw [5] (fun i wq=>∃m:Nat,i=.int .i64 m/\m<=(xs[j]).1.fields.length/\Hid (Below w w wq)/\Hid (∀f∈(xs[j]).1.fields.take m,Bq (Af xs) f.kind)) (fun i _=>(xs[j]).1.fields.length - (intOf i).toNat)
     case atStart=>exact⟨0,rfl,ae _,Hbk.o,by intro x hx;simp at hx⟩
     case round=>
      obtain⟨m,rfl,hm,hbq,hin⟩:=hrel;obtain⟨b',off',e',hbl',d0,d1,d2⟩:=Jt.at_ (Hrow.o.below hbq.o) hlt;simp only[ah,Addr.mk.injEq]at e';obtain⟨rfl,rfl,_⟩:=e';generalize xs[j]=x at d0 d1 d2 Hxk Hokk Hnok Hsuc hin hm ⊢;obtain⟨t,fv⟩:=x;simp only[]at d0 d1 d2 hm;obtain⟨A2,c2,e2,hfl,hr2⟩:=Hxk.o;simp only[]at e2;subst e2;have Hr2:=Aa hr2;clear hr2;have hsl:=t.sort.toNat_lt;have hfl':t.fields.length<=1000:=hfl;by_cases hml:m<t.fields.length
      ·have m1:(0:Int)<=(m:Int):=aF;have m2:(m:Int)<(t.fields.length:Int):=aF;by_cases hs:t.sort=69
       ·have t1:((t.sort.toNat:Int) != 69)=false:=by have:=Ba hs;simpa using this
        have t2:((t.sort.toNat:Int) == 69)=true:=Ba hs;have Hto:=Aa (Hsuc.o (fun h=>absurd hs h));clear hs;go_wp2_with fail;go_roundw
        case rel=>exact⟨j+1,by go_num,by omega,Hto.o,hbq.o⟩
        case measure=>simp[intOf];omega
       have t1:((t.sort.toNat:Int) != 69)=true:=by have:=Ao hs;simpa using this
       have t2:((t.sort.toNat:Int) == 69)=false:=Ao hs;obtain⟨bf,of,rfl,hbf,g0,g1,g2,g3⟩:=Ff.at_ (Hr2.o.below hbq.o) hml;have hfm:=ac hml;have Hkd:=Aa ((Hokk.o.2.2.1.1 _ hfm).2.2.2.2 hs).1;have Hno:=Aa (fun h=>Hnok.o m hs hml h);have Hts:=Aa (By t.fields m hml);generalize t.fields[m]=f at g0 g1 g2 g3 Hkd Hno Hts;clear hs hfm;have Hrf:=Aa (Kk xs f.kind);have Hfind:=Aa (fun W (hW:Below w w W)=>Rm (.slice (some ⟨b,off,none⟩) xs.length c) xs (So f.kind) W (H.o.below hW));go_wp2_with fail;refine(Ku f.kind Hkd.o _).mono ?_;rintro e w4 ⟨rfl,rfl⟩;go_wp2_with fail;refine(Px f.kind Hkd.o _).mono ?_;rintro e w4 ⟨rfl,rfl⟩;go_wp2_with fail;refine(Hfind.o _ hbq.o).mono ?_;rintro e w4 ⟨rfl,hb4⟩;have Hb4:=Aa (hbq.o.trans (hb4.mono hbq.o.size));clear hb4;cases hx:D5 xs (So f.kind)with
       |none=>
        unfold Sd Nk;rcases hir:Sn f.kind with _|_
        ·have hrk:Bq (Af xs) f.kind:=Hrf.o.2 (fun h=>by rw[hir]at h;cases h)
         have Hin:=Aa (show ∀f∈t.fields.take (m+1),Bq (Af xs) f.kind by
          intro g hg;rw[Hts.o]at hg;rcases ad.1 hg with hg|hg
          ·exact hin.o g hg
          simp at hg;subst hg;exact hrk)
         clear hrk;go_wp2_with fail;go_roundw
         case rel=>exact⟨m+1,by go_num,by omega,aS,Hin.o⟩
         case measure=>simp[intOf];omega
        have Hn:=Aa (Hno.o (fun h=>by have:=Hrf.o.1 h hir;rw[hx]at this;cases this));go_wp2_with fail;go_ret;exact⟨⟨false,rfl,by simp[Hn.o]⟩,aS⟩
       |some y=>
        have hrk:Bq (Af xs) f.kind:=Hrf.o.2 (fun _=>by rw[hx];rfl);obtain⟨ty,yv⟩:=y;obtain⟨A5,c5,e5,_⟩:=Hfds.o _ (Dr hx).1;simp only[]at e5;subst e5;unfold Sd Kp;rcases hir:Sn f.kind with _|_
        ·skip
         have Hin:=Aa (show ∀f∈t.fields.take (m+1),Bq (Af xs) f.kind by
          intro g hg;rw[Hts.o]at hg;rcases ad.1 hg with hg|hg
          ·exact hin.o g hg
          simp at hg;subst hg;exact hrk)
         clear hrk;go_wp2_with fail;go_roundw
         case rel=>exact⟨m+1,by go_num,by omega,aS,Hin.o⟩
         case measure=>simp[intOf];omega
        skip
        have Hin:=Aa (show ∀f∈t.fields.take (m+1),Bq (Af xs) f.kind by
         intro g hg;rw[Hts.o]at hg;rcases ad.1 hg with hg|hg
         ·exact hin.o g hg
         simp at hg;subst hg;exact hrk)
        clear hrk;go_wp2_with fail;go_roundw
        case rel=>exact⟨m+1,by go_num,by omega,aS,Hin.o⟩
        case measure=>simp[intOf];omega
      ·obtain rfl:m=t.fields.length:=aF;have m2:¬(t.fields.length:Int)<(t.fields.length:Int):=aF;have Hto:=Aa (Hsuc.o (fun _ f hf=>hin.o f (by rw[List.take_length];exact hf)));go_wp2_with fail;go_roundw
       case rel=>exact⟨j+1,by go_num,by omega,Hto.o,hbq.o⟩
       case measure=>simp[intOf];omega
  ·obtain rfl:k=xs.length:=aF;have k2:¬(xs.length:Int)<(xs.length:Int):=aF;have Hall:=Aa (Qhk hto.o);clear hto;go_wp2_with fail;go_loopw [10] (fun i wq=>∃j:Nat,i=.int .i64 j/\j<=xs.length/\Hid (Below w w wq)/\Hid (∀x∈xs.take j,Bs (Af xs) (xs.length+1) x.1=true)) (fun i _=>xs.length - (intOf i).toNat)
   case atStart=>exact⟨0,rfl,ae _,hbr.o,by intro x hx;simp at hx⟩
   case round=>
    obtain⟨j,rfl,hj,hbq,hin⟩:=hrel;by_cases hjl:j<xs.length
    ·obtain⟨b,off,rfl,hbl,d0,d1,d2⟩:=Jt.at_ (Hrow.o.below hbq.o) hjl;have Hts:=Aa (By xs j hjl);have Hno:=Aa (fun h=>Qhy (xs:=xs) hjl h);have Hokj:=Aa (Hok.o _ (ac hjl));have hxj:=(Hfds.o _ (ac hjl)).below hbq.o;generalize xs[j]=x at d0 d1 d2 Hts Hno Hokj hxj;obtain⟨t,fv⟩:=x;simp only[]at d0 d1 d2 hxj;have Hxj:=Aa hxj;obtain⟨A2,c2,rfl,_⟩:=hxj;have j1:(0:Int)<=(j:Int):=aF;have j2:(j:Int)<(xs.length:Int):=aF;have He:=Aa (fun W (hW:Below w w W) (hX:Ff W (.slice A2 t.fields.length c2) t.fields)=>Qev (.slice (some ⟨b,off,none⟩) xs.length c) (.slice A2 t.fields.length c2) xs t W (H.o.below hW) Hokj.o hX Hok.o);go_wp2_with fail;refine(He.o _ hbq.o Hxj.o).mono ?_;rintro e w4 ⟨rfl,hb4⟩;have Hb4:=Aa (hbq.o.trans (hb4.mono hbq.o.size));clear hb4;rcases Bool.eq_false_or_eq_true (Bs (Af xs) (xs.length+1) t)with he|he
     ·have Hin:=Aa (show ∀x∈xs.take (j+1),Bs (Af xs) (xs.length+1) x.1=true by
       intro x hx;rw[Hts.o]at hx;rcases ad.1 hx with hx|hx
       ·exact hin.o x hx
       simp at hx;subst hx;exact he)
      rw[he];clear he;go_wp2_with fail;go_roundw
      case rel=>exact⟨j+1,by go_num,by omega,Hb4.o,Hin.o⟩
      case measure=>simp[intOf];omega
     have Hn:=Aa (Hno.o he);rw[he];clear he;go_wp2_with fail;go_ret;exact⟨⟨false,rfl,by simp[Hn.o]⟩,Hb4.o⟩
    ·obtain rfl:j=xs.length:=aF
     have Hfin:=Aa (show Rw (Af xs)from⟨Hall.o.1,Hall.o.2,fun t ht=>by
      obtain⟨x,hx,rfl⟩:=av.1 ht;rw[show (Af xs).length=xs.length by unfold Af;simp];exact hin.o x (by rw[List.take_length];exact hx)⟩)
     clear hin;go_wp2_with fail;go_ret;exact⟨⟨true,rfl,by simp[Hfin.o]⟩,hbq.o⟩
theorem Qf6{w:World}{b1 b2 k1 k2 n1 n2:Nat}{e1 e2:TypeId}{v1 v2:Value}{xs ys:List Value}(h1:w.ownsRow b1 e1 k1 v1 n1 xs)(h2:w.ownsRow b2 e2 k2 v2 n2 ys)(hne:e1≠e2):v1.ownBlock=none\/v1.ownBlock≠v2.ownBlock:=by
 rcases h1.2 with⟨rfl,_⟩|⟨g,cap,cur,rfl,_,hh,_⟩
 ·exact .inl rfl
 rcases h2.2 with⟨rfl,_⟩|⟨g',cap',cur',rfl,_,hh',_⟩
 ·exact .inr eN
 refine .inr ?_;simp only[Value.ownBlock,ne_eq,ah];rintro rfl;rw[hh]at hh';simp only[ah,Obj.cells.injEq]at hh';exact hne hh'.2.1
section
variable {P:Program}
theorem Qcb(w:World){ops:Array Oper}{rest:List Oper}{o:Oper}{a:Act}{Q:Exit->Act->World->Prop}(hgd:o.guard=none)(s x:Operand)(t:TypeId)
  (ho:o.op=.call {callee:=.builtin .append,args:=#[s,x],argTypes:=#[t,t]})
  (base:Nat) (e:TypeId) (z:Value) (k bytes:Nat) (ht:P.underlying t=some (.slice e)) (hinfo:(P.info? e).map (fun i=>(i.zero,i.size,i.bytes))=some (some z,k,bytes))
  (hzs:z.cells.size=k) (hk:0<k) (W:World) (us:List Value) (hul:us.length=k) (hw:w=W.alloc (.cells us.toArray e)) (hu:∀u∈us,u.oneCell'=true) (v:Value) (n:Nat) (xs:List Value) (hs:a.eval s=v) (hx:a.eval x=.slice (W,0) 1 1)
  (hown:W.ownsRow base e k v n xs)
  (h63:n+1<=maxLen) (hbytes:(n+1)*bytes<=140737488355328) (hbase:base<=W.heap.size)
  (h:∀v' w',w'.ownsRow base e k v' (n+1) (xs++us)->Below base W w'->(W.alloc (.cells us.toArray e)).grownBy w' v.ownBlock->wpList P ops Q rest (a.put o.dst v') w'):wpList P ops Q (o::rest) a w:=by
 subst hw;obtain⟨i0,hi,hz0,hz1,hz2⟩:=info_parts hinfo;refine wpList_append_own _ hgd s x t ho base e i0 z k bytes ht hi hz0 hz1 hz2 hzs hk v n xs hs (hown.alloc _) ⟨W.heap.size,0,none⟩ 1 1 us hx aF ?_ hu h63 hbytes ?_ ?_
 ·exact gj
 ·exact gO
 intro v' w' h1 h2 _;exact h v' w' h1 (((Ar base W).alloc hbase _).grown h2 aL (fun k hk=>(hown.lt k hk).1)) h2
end
def Kj(w:World)(base:Nat)(xs:List (Ty × Value)):Prop:=∀x∈xs,w.ownsRow base 177 4 x.2 x.1.fields.length (x.1.fields.flatMap sfc)/\En x.1
theorem Kj.below{w w':World}{base:Nat}{xs:List (Ty × Value)}(h:Kj w base xs)(hb:Below w w w'):Kj w' base xs:=fun x hx=>⟨Co (h x hx).1 hb,(h x hx).2⟩
theorem Kj.grown{w w':World}{base b2 k n:Nat}{xs:List (Ty × Value)}{v:Value}{ys:List Value}{e:TypeId}(h:Kj w base xs)(hv:w.ownsRow b2 e k v n ys)(hne:177≠e)(hg:w.grownBy w' v.ownBlock):Kj w' base xs:=
 fun x hx=>⟨(h x hx).1.kept hg (Qf6 (h x hx).1 hv hne),(h x hx).2⟩
theorem Kj.fds{w:World}{base:Nat}{xs:List (Ty × Value)}(h:Kj w base xs):∀x∈xs,Ff w x.2 x.1.fields:=fun x hx=>by
 obtain⟨h1,h2⟩:=h x hx;have hl:=h2.2.2.2.1;obtain⟨A,c,e,hr⟩:=Cd.ownK h1 aY;exact⟨A,c,e,by omega,hr⟩
theorem Jt.own{w:World}{base:Nat}{v:Value}{xs:List (Ty × Value)}(h:w.ownsRow base 153 3 v xs.length (xs.flatMap stc))(hl:xs.length<=1000)(ht:Kj w base xs):Jt w v xs:=by
 obtain⟨A,c,e,hr⟩:=Cd.ownK h aY;exact⟨A,c,e,hl,hr,ht.fds⟩
theorem Qb2{L:List (List UInt8)}{k:Nat}(hk:k<L.length){S:List Ty}(h:Ey L=(Ey (L.drop k)).map (S ++ ·)):
  Ey L=(match C7 L[k]with|none=>none|some t=>(Ey (L.drop (k+1))).map ((S++[t]) ++ ·)):=by
 rw[h,List.drop_eq_getElem_cons hk,Ey,Qbc];cases Eg L[k]with
 |none=>rfl
 |some t=>
  simp only;cases Ey (L.drop (k+1))with
  |none=>rfl
  |some r=>simp
theorem Jj{s:List UInt8}(h:400<s.length\/M5 s=none):Cf s=none:=by
 cases hs:Cf s with
 |none=>rfl
 |some S=>
  have:=Nu.1 hs;rcases h with h|h
  ·omega
  rw[h]at this;exact absurd this.2.1 aH
theorem Xo{s:List UInt8}{S:List Ty}(h4:s.length<=400)(h:M5 s=some S)(b:Bool)(hb:b=true↔Rw S):Cf s=if b=true then some S else none:=by
 cases b with
 |true=>
  rw[if_pos rfl];exact Nu.2 ⟨h4,h,hb.1 rfl⟩
 |false=>
  rw[if_neg aI];cases hs:Cf s with
  |none=>rfl
  |some T=>
   have:=Nu.1 hs;rw[h]at this;obtain⟨_,e,hv⟩:=this;simp only[ah]at e;subst e;exact absurd (hb.2 hv) aI
def Jb(o:Option (List Ty))(w:World)(e:Ending)(w':World):Prop:=
 (match o with
  |some S=>∃v xs,e=.returned (.tuple #[v,.bool true])/\Af xs=S/\Jt w' v xs
  |none=>∃A n c,e=.returned (.tuple #[.slice A n c,.bool false]))/\Below w w w'
theorem Jb.no{w w':World}{e:Ending}{o:Option (List Ty)}(ho:o=none){A:Option Addr}{n c:Nat}(he:e=.returned (.tuple #[.slice A n c,.bool false]))(hb:Below w w w'):Jb o w e w':=by
 rw[ho];exact⟨⟨A,n,c,he⟩,hb⟩
theorem Jb.yes{w w':World}{e:Ending}{o:Option (List Ty)}{v:Value}{xs:List (Ty × Value)}(ho:o=some (Af xs))(he:e=.returned (.tuple #[v,.bool true]))(hs:Jt w' v xs)(hb:Below w w w'):Jb o w e w':=by
 rw[ho];exact⟨⟨v,xs,he,rfl,hs⟩,hb⟩
theorem Mn{w:World}{base:Nat}{v:Value}{ls:List (List UInt8)}(h:w.ownsRow base 9 1 v ls.length (Bz ls))(hne:ls≠[]):
  ∃g c,v=.slice (some ⟨g,0,none⟩) ls.length c/\base<=g/\g<w.heap.size/\∀j (hj:j<ls.length),w.cell? ⟨g,j,none⟩=some (.string ⟨ls[j].toArray⟩):=by
 rcases h.2 with⟨_,h0⟩|⟨g,cap,cur,rfl,hb,hh,_⟩
 ·cases ls with
  |nil=>exact absurd rfl hne
  |cons=>simp at h0
 refine⟨g,cap,rfl,hb,(h.lt g rfl).2,fun j hj=>?_⟩;have:=h.cells (g:=g) rfl j (.string ⟨ls[j].toArray⟩) (by simp[Bz,hj]);rwa [Qej]at this
theorem Qav{s:List UInt8}(h:9<(Ai 10 s).length):M5 s=none:=if_pos (.inl h)
theorem Qat{s:List UInt8}(h:(Ai 10 s).getLast?≠some []):M5 s=none:=if_pos (.inr h)
theorem Qen{s:List UInt8}(h:¬9<(Ai 10 s).length)(h2:(Ai 10 s).getLast?=some []):M5 s=Ey (Ai 10 s).dropLast:=if_neg (by rintro(h3|h3)<;>contradiction)
theorem Rk(s:List UInt8)(w:World)(hs:s.length<=4000000)(h:400<s.length\/9<(Ai 10 s).length\/(Ai 10 s).getLast?≠some []):
  Calls prog 106 #[s] w (Jb (Cf s) w):=by
 have HF:=Aa (show Cf s=none by
  rcases h with h|h|h
  ·exact Jj (.inl h)
  ·exact Jj (.inr (Qav h))
  exact Jj (.inr (Qat h)))
 have Hcut:=Aa (fun W=>Cl s 10 10 rfl W hs);have hne:=D8 10 s;have hle:=Gi 10 s;generalize Ai 10 s=L at h Hcut hne hle;go_enter func106,ntmps106;go_wp2_with fail;refine(Hcut.o _).mono ?_;rintro e w1 ⟨v,rfl,ho,hb⟩;obtain⟨g,c,rfl,hg1,hg2,hcells⟩:=Mn ho hne;have hpos:0<L.length:=List.length_pos_iff.2 hne;have Hb:=Aa hb;have k1:(0:Int)<=(L.length:Int) - 1:=aF;have k2:(L.length:Int) - 1<(L.length:Int):=aF;have k3:((L.length:Int) - 1).toNat=L.length - 1:=aF;by_cases h1:400<s.length
 ·have q1:(400:Int)<(s.length:Int):=aF;clear h hcells ho hb;go_wp2_with fail;refine aD (v:=.tuple #[.slice none 0 0,.bool false]) (by simp[results,results106,go_sem]) rfl ?_;exact Jb.no HF.o rfl Hb.o
 have q1:¬(400:Int)<(s.length:Int):=aF;by_cases h2:9<L.length
 ·have q2:(9:Int)<(L.length:Int):=aF;clear h hcells ho hb;go_wp2_with fail;refine aD (v:=.tuple #[.slice none 0 0,.bool false]) (by simp[results,results106,go_sem]) rfl ?_;exact Jb.no HF.o rfl Hb.o
 have q2:¬(9:Int)<(L.length:Int):=aF;have h3:L.getLast?≠some []:=by rcases h with h|h|h<;>first|exact h|exact absurd h h1|exact absurd h h2
 have cl:=hcells (L.length - 1) aF;have he:¬(L[L.length - 1]=[]):=by
  intro e;apply h3;rw[List.getLast?_eq_getElem?,List.getElem?_eq_getElem aF,e]
 have he':(L[L.length - 1] == [])=false:=cI;clear h hcells ho hb h3;generalize L[L.length - 1]=x at cl he he';go_wp2_with fail;refine aD (v:=.tuple #[.slice none 0 0,.bool false]) (by simp[results,results106,go_sem]) rfl ?_;exact Jb.no HF.o rfl Hb.o
def Vr(w:World)(v:Value)(l:List Cc):Prop:=
 ∃g c,v=.slice (some ⟨g,0,none⟩) l.length c/\g<w.heap.size/\l.length<=c/\c<=maxLen/\∀j (hj:j<l.length),w.cell? ⟨g,j,none⟩=some (.string ⟨l[j].toArray⟩)
theorem Vr.below{w w':World}{v:Value}{l:List Cc}(h:Vr w v l)(hb:Below w w w'):Vr w' v l:=by
 obtain⟨g,c,rfl,hg,h1,h2,hc⟩:=h;exact⟨g,c,rfl,a8 hg hb.size,h1,h2,fun j hj=>(hb.cell (p:=⟨g,j,none⟩) hg).trans (hc j hj)⟩
theorem Vr.own{w:World}{base:Nat}{v:Value}{n:Nat}{l:List Cc}(h:w.ownsRow base 9 1 v n (Bz l))(hne:l≠[]):Vr w v l:=by
 obtain rfl:n=l.length:=by have:=h.1;simp[Bz]at this;omega
 rcases h.2 with⟨_,h0⟩|⟨g,cap,cur,rfl,hb,hh,hnc,hcm,_⟩
 ·cases l with
  |nil=>exact absurd rfl hne
  |cons=>simp at h0
 refine⟨g,cap,rfl,(h.lt g rfl).2,hnc,hcm,fun j hj=>?_⟩;have:=h.cells (g:=g) rfl j (.string ⟨l[j].toArray⟩) (by simp[Bz,hj]);rwa [Qej]at this
theorem Qky(p:Cc->Bool):∀(l:List Cc),(∀(j:Nat) (hj:j<l.length),j<(l.takeWhile p).length->p l[j]=true)/\(∀(h:(l.takeWhile p).length<l.length),p l[(l.takeWhile p).length]=false) /\
  l.takeWhile p=l.take (l.takeWhile p).length/\l.dropWhile p=l.drop (l.takeWhile p).length/\(l.takeWhile p).length<=l.length
 |[]=>aH
 |x::l=>by
  obtain⟨i1,i2,i3,i4,i5⟩:=Qky p l;by_cases h:p x=true
  ·simp only[List.takeWhile_cons,List.dropWhile_cons,h,if_true,List.length_cons];refine⟨?_,?_,?_,?_,by omega⟩
   ·intro j hj hlt;cases j with
    |zero=>simpa using h
    |succ j=>simpa using i1 j (by simpa using hj) ep
   ·intro hh;simpa using i2 (by simpa using hh)
   ·simpa using i3
   simpa using i4
  have h':p x=false:=aV;simp[h']
theorem Jt.fds{w:World}{v:Value}{xs:List (Ty × Value)}(h:Jt w v xs){x:Ty × Value}(hx:x∈xs):Ff w x.2 x.1.fields:=by
 obtain⟨_,_,_,_,_,h⟩:=h;exact h x hx
theorem Nq{c d:UInt8}(h:c≠d):((c.toNat:Int) != (d.toNat:Int))=true:=by
 rw[bne_iff_ne];intro e;exact h (UInt8.toNat_inj.1 aF)
theorem Kx{c d:UInt8}(h:c=d):((c.toNat:Int) != (d.toNat:Int))=false:=by subst h;simp
theorem Qh(S:List Ty)(hT:∀t∈S,En t):∀(n:Nat) (k:Kd),(C4 S n k).length<=6*n
 |0,_=>by simp[C4]
 |n+1,k=>by
  unfold C4;split
  ·simp;omega
  split
  ·simp;omega
  split
  ·simp;omega
  split
  ·simp;omega
  split
  ·simp;omega
  cases hf:Bu S k.name with
  |none=>simp
  |some t=>
   simp only;split
   ·simp;omega
   cases hfs:t.fields with
   |nil=>simp
   |cons f fs=>
    have h1:=((hT t (Ch hf).1).2.2.1.1 f cz).2.1;have h2:=Di 2 f.tag bZ;have ih:=Qh S hT n f.kind;simp only;split
    ·simp;omega
    simp;omega
def Vu(b:List UInt8):List UInt8:=if b=[110]then[48]else if b=[116]then[39,39]else[110,111]
theorem Qab(b:List UInt8)(w:World)(hb:b=[110]\/b=[116]\/b=[102]):
  Calls prog 245 #[b] w fun e w'=>e=.returned (.string ⟨(Vu b).toArray⟩)/\w=w':=by
 rcases hb with rfl|rfl|rfl
 ·exact gH
 ·exact gH
 go_enter func245,ntmps245;go_wp2_with fail;exact gZ
def Qd9(c:UInt8):List UInt8:=if c=91 then[91,93]else[45]
theorem Rc(v:Value)(c:UInt8)(t:List UInt8)(w:World)(hc:c=91\/c=63)(hl:t.length<=1000):
  Calls prog 220 #[v,.string ⟨(c::t).toArray⟩] w fun e w'=>e=.returned (.string ⟨(Qd9 c).toArray⟩)/\w=w':=by
 rcases hc with rfl|rfl
 ·go_enter func220,ntmps220;go_wp2_with fail;exact gZ
 go_enter func220,ntmps220;go_wp2_with fail;exact gZ
theorem Mt{k:Kd}(h:Cs k)(hs:k.signs=[])(hb:k.base≠[64]):Be k=k.base/\(k.base=[110]\/k.base=[116]\/k.base=[102]):=by
 refine⟨by unfold Be Bk;rw[hs,if_neg hb];rfl,?_⟩;rcases h.2.1 with h|h
 ·exact absurd h.1 hb
 exact h.1
theorem Pb(v:Value)(xs:List (Ty × Value))(k:Kd)(w:World)(hsc:Jt w v xs)(hk:Cs k)(hs:k.signs=[])(hb:k.base≠[64]):
  Calls prog 220 #[v,.string ⟨(Be k).toArray⟩] w fun e w'=>e=.returned (.string ⟨(Vu k.base).toArray⟩)/\Below w w w':=by
 have Hr:=Aa (fun W h=>Gc v xs k W h hk);have hx:Mu xs k=none:=if_neg (fun h=>hb h.2);rw[hx]at Hr;obtain⟨e1,e2⟩:=Mt hk hs hb;rw[e1]at Hr ⊢;have Hsc:=Aa hsc;have Hp:=Aa (fun W=>Qab k.base W e2);have He2:=Aa e2;unfold Sd Nk at Hr;generalize k.base=b at *;clear hs hb e1 hsc hx;obtain⟨c,hc,t1,t2⟩:∃c,b=[c]/\((c.toNat:Int) == 91)=false/\((c.toNat:Int) == 63)=false:=by
  rcases e2 with rfl|rfl|rfl
  ·exact⟨110,rfl,by decide,by decide⟩
  ·exact⟨116,rfl,by decide,by decide⟩
  exact⟨102,rfl,by decide,by decide⟩
 clear e2;subst hc;go_enter func220,ntmps220;go_wp2_with fail;refine(Hr.o _ Hsc.o).mono ?_;rintro e w1 ⟨rfl,hb1⟩;go_wp2_with fail;refine(Hp.o _).mono ?_;rintro e w2 ⟨rfl,rfl⟩;go_wp2_with fail;go_ret;exact⟨rfl,hb1.alloc hb1.size _⟩
def Gu(l:List UInt8)(w:World)(e:Ending)(w':World):Prop:=e=.returned l/\Below w w w'
theorem Zb(xv:Value)(xs:List (Ty × Value))(hok:∀x∈xs,En x.1)(n:Nat)(k:Kd)(w:World)(hsc:Jt w xv xs)(hk:Cs k)(hs:k.signs=[])(hb:k.base=[64])(t:Ty)(fv:Value)(hx:D5 xs k.name=some (t,fv))
  (hn:n<=9) (ih:t.sort=85->∀f fs,t.fields=f::fs->∀W,Jt W xv xs->Calls prog 220 #[xv,.string ⟨(Be f.kind).toArray⟩] W (Gu (C4 (Af xs) n f.kind) W)):
  Calls prog 220 #[xv,.string ⟨(Be k).toArray⟩] w (Gu (C4 (Af xs) (n+1) k) w):=by
 have Hr:=Aa (fun W h=>Gc xv xs k W h hk);have Hlen:=Aa (Qh (Af xs) (fun t ht=>by obtain⟨x,hx,rfl⟩:=av.1 ht;exact hok x hx));have hrx:Mu xs k=some (t,fv):=(if_pos ⟨hs,hb⟩).trans hx
 have HF:=Aa (show C4 (Af xs) (n+1) k=if t.sort=82 then[123,125]else match t.fields with|[]=>[]|f::_=>if t.sort=69 then 35::Au f.tag else 60::(Au f.tag++61::(C4 (Af xs) n f.kind++[62]))from by
  rw[C4,if_neg dz,if_neg dz,if_neg bH,if_neg bH,if_neg bH,Jn,hx];rfl)
 have hto:=hok _ (Dr hx).1;have hkb:Be k=64::(k.name++[59]):=bQ;have hnl:k.name.length<=3:=by
  rcases hk.2.1 with h|h
  ·exact(Dj.1 h.2).2.1
  rw[hb]at h;exact absurd h.1 aI
 have hfd:Ff w fv t.fields:=by obtain⟨_,_,_,_,_,hf⟩:=hsc;exact hf _ (Dr hx).1
 rw[hrx]at Hr;rw[hkb]at Hr ⊢;obtain⟨A,c,rfl,hfl,hrow⟩:=hfd;have Hsc:=Aa hsc;have Hrow:=Aa hrow;have Hto:=Aa hto;have Ih:=Aa ih;unfold Sd Kp at Hr;simp only[]at hto;clear hsc hk hs hb hx hkb hrow hto hrx ih hok;by_cases h82:t.sort=82
 ·have t82:((t.sort.toNat:Int) == 82)=true:=Ba (d:=82) h82;have HF2:=Aa (HF.o.trans (if_pos h82));clear h82 HF;go_enter func220,ntmps220;go_wp2_with fail;refine(Hr.o _ Hsc.o).mono ?_;rintro e w1 ⟨rfl,hb1⟩;go_wp2_with fail;go_ret;exact⟨by rw[HF2.o];rfl,hb1.alloc hb1.size _⟩
 have t82:((t.sort.toNat:Int) == 82)=false:=Ao (d:=82) h82;have HF2:=Aa (HF.o.trans (if_neg h82));have hne:t.fields≠[]:=fun h=>h82 (Hto.o.2.2.2.2 h);obtain⟨f,fs,hfs⟩:∃f fs,t.fields=f::fs:=by
  cases h:t.fields with
  |nil=>exact absurd h hne
  |cons f fs=>exact⟨f,fs,rfl⟩
 have hf0:0<t.fields.length:=cz;have hge:t.fields[0]=f:=by simp[hfs]
 have hft:=Hto.o.2.2.1.1 f cz;have htag:f.tag<=200:=hft.2.1;have hdl:=Di 2 f.tag bZ;have Hd:=Aa (fun W=>Jf f.tag f.tag W (Am _) aF);have hi0:(0:Int)<(t.fields.length:Int):=aF;have HF3:=@Aa (C4 (Af xs) (n+1) k=if t.sort=69 then 35::Au f.tag else 60::(Au f.tag++61::(C4 (Af xs) n f.kind++[62]))) (by rw[HF2.o,hfs]);have Hfs:=Aa hfs;have Hge:=Aa hge;obtain⟨b,off,rfl,hbl,g0,g1,g2,g3⟩:=Ff.at_ Hrow.o hf0;rw[hge]at g0 g1 g2 g3;simp only[Nat.zero_mul,Nat.add_zero]at g0 g1 g2 g3;have H82:=Aa h82;clear HF2 HF h82 hne hfs hge hft g1 g3;by_cases h69:t.sort=69
 ·have t69:((t.sort.toNat:Int) == 69)=true:=Ba (d:=69) h69;have HF4:=Aa (HF3.o.trans (if_pos h69));clear h69 HF3;go_enter func220,ntmps220;go_wp2_with fail;refine(Hr.o _ Hsc.o).mono ?_;rintro e w1 ⟨rfl,hb1⟩;have g0':=(hb1.cell (p:=⟨b,off,none⟩) hbl).trans g0;have hbl1:b<w1.heap.size:=a8 hbl hb1.size;have hbn:¬(b=w1.heap.size):=aF;have Hb1:=Aa hb1;clear hb1 g0 g2;go_wp2_with fail;refine(Hd.o _).mono ?_;rintro e w2 ⟨rfl,hb2⟩;go_wp2_with fail;go_ret;exact⟨by rw[HF4.o];simp,(Hb1.o.alloc Hb1.o.size _).trans (hb2.mono (by have:=Hb1.o.size;simp;omega))⟩
 have t69:((t.sort.toNat:Int) == 69)=false:=Ao (d:=69) h69;have HF4:=Aa (HF3.o.trans (if_neg h69));have h85:t.sort=85:=by
  rcases Hto.o.1 with h|h|h
  ·exact absurd h H82.o
  ·exact h
  exact absurd h h69
 have Ih2:=Aa (Ih.o h85 f fs Hfs.o);have hsl:=Hlen.o n f.kind;generalize C4 (Af xs) n f.kind=sl at *;generalize Be f.kind=kd at *;clear h69 HF3 h85 Ih;go_enter func220,ntmps220;go_wp2_with fail;refine(Hr.o _ Hsc.o).mono ?_;rintro e w1 ⟨rfl,hb1⟩;have g0':=(hb1.cell (p:=⟨b,off,none⟩) hbl).trans g0;have g2':=(hb1.cell (p:=⟨b,off+2,none⟩) hbl).trans g2;have hbl1:b<w1.heap.size:=a8 hbl hb1.size;have hbn:¬(b=w1.heap.size):=aF;have Hb1:=Aa hb1;clear hb1 g0 g2;go_wp2_with fail;obtain⟨W0,hW0⟩:∃W0,W0=w1.alloc (.cells #[.int .u8 (t.sort.toNat:Int),t.name,.slice (some ⟨b,off,none⟩) t.fields.length c] 153):=⟨_,rfl⟩
 rw[<-hW0];have y2:W0.cell? (w1,2)=some (.slice (some ⟨b,off,none⟩) t.fields.length c):=by rw[hW0];simp
 have y0:W0.cell? ⟨b,off,none⟩=(f.tag:Int):=by rw[hW0,World.cell?_alloc_old _ _ _ hbn];exact g0'
 have y3:W0.cell? ⟨b,off+2,none⟩=kd:=by rw[hW0,World.cell?_alloc_old _ _ _ hbn];exact g2'
 have hz0:W0.heap.size=w1.heap.size+1:=by rw[hW0];simp
 have hB5:w1.heap.size<W0.heap.size:=aF;have hb5:b<W0.heap.size:=aF;have Hb0:=@Aa (Below w w W0) (by rw[hW0];exact Hb1.o.alloc Hb1.o.size _);have Hsc0:=Aa (Hsc.o.below Hb0.o);generalize w1.heap.size=B5 at *;clear hW0 hz0 g0' g2';refine M0 [39,40,41,42,43,44,45,46,47,48,49,50,51,52,53,54,55,4]
  (fun i v W=>match i with|0=>v=(B5,2)|1=>v=.slice (some ⟨b,off,none⟩) t.fields.length c|2=>v=.pointer (some ⟨b,off,none⟩)|3=>v=.pointer (some ⟨b,off,none⟩)|4=>v=(f.tag:Int)|5=>v=.string ⟨(Au f.tag).toArray⟩|6=>v=.string ⟨(60::Au f.tag).toArray⟩|7=>v=.string ⟨(60::(Au f.tag++[61])).toArray⟩|8=>v=xv|9=>v=(B5,2)|10=>v=.slice (some ⟨b,off,none⟩) t.fields.length c|11=>v=.pointer (some ⟨b,off,none⟩)|12=>v=.pointer (some ⟨b,off+2,none⟩)|13=>v=kd|14=>v=sl|15=>v=.string ⟨(60::(Au f.tag++61::sl)).toArray⟩|16=>v=.string ⟨(60::(Au f.tag++61::(sl++[62]))).toArray⟩|17=>v=.string ⟨(60::(Au f.tag++61::(sl++[62]))).toArray⟩|_=>True)
  (fun L U W=>Below W0 W0 W) ((Ar _ _).drew) ?_ ?_
 ·repeat (first|exact Ap.nil|(refine Ap.cons ?_ ?_;rotate_left))
  all_goals
   rintro L U W hL hpre HR Hdep K hK;have hB:=HR.o;have c2:=(hB.cell (p:=⟨B5,2,none⟩) hB5).trans y2;have c0:=(hB.cell (p:=⟨b,off,none⟩) hb5).trans y0;have c3:=(hB.cell (p:=⟨b,off+2,none⟩) hb5).trans y3;first|(simp[Region.binds]at hpre;done)|simp[Region.binds]at hpre|clear hpre
  iterate 5
   ·exact fD
  ·exact gw
  ·exact fK
  ·exact fK
  iterate 6
   ·exact fD
  ·exact gk
  ·exact fK
  ·exact fK
  ·exact fD
 rintro L U W hL hφ hR;have e17:U 17=.string ⟨(60::(Au f.tag++61::(sl++[62]))).toArray⟩:=hφ 17 aI;simp only[e17];clear hφ;have Hb9:=Aa (Hb0.o.trans (hR.mono Hb0.o.size));clear hR;go_wp2_with fail;go_ret;exact⟨by rw[HF4.o];rfl,Hb9.o⟩
theorem Nt(S:List Ty)(n:Nat)(k:Kd)(c:UInt8)(t:List UInt8)(h:k.signs=c::t)(hc:c=91\/c=63):C4 S (n+1) k=Qd9 c:=by
 unfold C4 Qd9;rw[h];rcases hc with rfl|rfl
 ·rfl
 rfl
theorem Md(S:List Ty)(n:Nat)(k:Kd)(h:k.signs=[])(hb:k.base=[110]\/k.base=[116]\/k.base=[102]):C4 S (n+1) k=Vu k.base:=by
 unfold C4 Vu;rw[h];rcases hb with hb|hb|hb<;>rw[hb]<;>rfl
theorem Ql{k:Kd}(h:Cs k){c:UInt8}{t:List UInt8}(hs:k.signs=c::t):c=91\/c=63:=by
 have:=h.1;rw[hs,List.all_cons,au]at this;have:=this.1;unfold Bm at this;simpa using this
theorem Qaz(xv:Value)(xs:List (Ty × Value))(hok:∀x∈xs,En x.1)(hS:Fs (Af xs)):∀(n:Nat),n<=9->∀(k:Kd) (w:World),Jt w xv xs->Cs k->Bq (Af xs) k->Xb (Af xs) n k ->
  Calls prog 220 #[xv,.string ⟨(Be k).toArray⟩] w (Gu (C4 (Af xs) (n+1) k) w):=by
 intro n;induction n with
 |zero=>
  intro _ k w hsc hk hr he;cases hs:k.signs with
  |cons c t=>
   have hc:=Ql hk hs;have hkb:Be k=c::(t++Bk k):=cm;have hl:=hk.2.2;rw[hkb]at hl ⊢;rw[Nt _ _ k c t hs hc];refine(Rc xv c (t++Bk k) w hc eL).mono ?_;rintro e w' ⟨rfl,rfl⟩;exact i6
  |nil=>
   by_cases hb:k.base=[64]
   ·obtain⟨t,_,h⟩:=he hs hb;exact absurd h (by simp[Bs])
   exact ir
 |succ n ih=>
  intro hn k w hsc hk hr he;cases hs:k.signs with
  |cons c t=>
   have hc:=Ql hk hs;have hkb:Be k=c::(t++Bk k):=cm;have hl:=hk.2.2;rw[hkb]at hl ⊢;rw[Nt _ _ k c t hs hc];refine(Rc xv c (t++Bk k) w hc eL).mono ?_;rintro e w' ⟨rfl,rfl⟩;exact i6
  |nil=>
   by_cases hb:k.base=[64]
   ·have h1:=hr hb;rw[Jn]at h1;cases hx:D5 xs k.name with
    |none=>rw[hx]at h1;cases h1
    |some x=>
     obtain⟨t,fv⟩:=x;have hft:Bu (Af xs) k.name=some t:=(Dr hx).2.2;have hto:En t:=hok _ (Dr hx).1;refine Zb xv xs hok (n+1) k w hsc hk hs hb t fv hx hn (fun h85 f fs hfs W hW=>?_);have hrf:Bq (Af xs) f.kind:=hS t (Ch hft).1 dl f cz;exact iu
   exact ir
theorem Yh{S:List Ty}(h:Jv S){k:Kd}(hr:Bq S k):Xb S 9 k:=by
 intro hs hb;have h1:=hr hb;cases hf:Bu S k.name with
 |none=>rw[hf]at h1;cases h1
 |some t=>exact⟨t,rfl,h.2.2 t (Ch hf).1⟩
theorem Qa2(xv:Value)(xs:List (Ty × Value))(h:Jv (Af xs))(k:Kd)(w:World)(hsc:Jt w xv xs)(hk:Cs k)(hr:Bq (Af xs) k):
  Calls prog 220 #[xv,.string ⟨(Be k).toArray⟩] w (Gu (Ri (Af xs) k) w):=
 Qaz xv xs (fun x hx=>h.1.1 x.1 (am hx)) h.2.1 9 (Am _) k w hsc hk hr (Yh h hr)
theorem Qm(xv:Value)(xs:List (Ty × Value))(h:Jv (Af xs))(f:Fd)(w:World)(hsc:Jt w xv xs)(hk:Cs f.kind)(hr:Bq (Af xs) f.kind)(hl:f.given.length<=1000):
  Calls prog 170 #[xv,sfV f] w (Gu (M6 (Af xs) f) w):=by
 have HF:=@Aa (M6 (Af xs) f=if f.given=[]then Ri (Af xs) f.kind else f.given) rfl;have Hs:=Aa (fun W (h1:Jt W xv xs)=>Qa2 xv xs h f.kind W h1 hk hr);have Hsc:=Aa hsc;unfold sfV;generalize Be f.kind=kd at *;clear h hk hr hsc;by_cases hg:f.given=[]
 ·have HF2:=Aa (HF.o.trans (if_pos hg));rw[hg];clear hg HF;go_enter func170,ntmps170;go_wp2_with fail;refine(Hs.o _ (Hsc.o.below ((Ar _ _).alloc (Am _) _))).mono ?_;rintro e w1 ⟨rfl,hb1⟩;go_wp2_with fail;go_ret;exact⟨by rw[HF2.o];rfl,((Ar _ _).alloc (Am _) _).trans (hb1.mono aH)⟩
 have HF2:=Aa (HF.o.trans (if_neg hg));have t1:f.given.isEmpty=false:=by simpa using hg
 have t2:(!f.given.isEmpty)=true:=by simp[t1]
 clear hg HF;go_enter func170,ntmps170;go_wp2_with fail;go_ret;exact⟨by rw[HF2.o];rfl,(Ar _ _).alloc (Am _) _⟩
end
end Go.Proofs.YtgfmljfjgohdcaaGreatDoor
