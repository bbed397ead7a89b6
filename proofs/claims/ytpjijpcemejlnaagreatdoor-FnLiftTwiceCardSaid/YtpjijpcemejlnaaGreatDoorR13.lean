/- Texts joined. Conditions: as each theorem names them. -/
import Derived.BigQuiet
import Derived.Test.YtpjijpcemejlnaaGreatDoorR10
import Derived.Test.YtpjijpcemejlnaaGreatDoorR11
import Derived.Test.YtpjijpcemejlnaaGreatDoorR12
set_option maxRecDepth 100000
set_option maxHeartbeats 32000000
set_option linter.unusedVariables false
set_option linter.unusedSimpArgs false
namespace Go.Proofs.YtpjijpcemejlnaaGreatDoor
open Go.RowKit Go.Proofs.Tryz
theorem Qah(s:List UInt8)(w:World)(hs:s.length<=1000):
  Calls prog 115 #[s] w (Dy (Dk s) w):=by
 rcases Fv 61 s with⟨hn,_⟩|⟨p,u,h,hp,_⟩
 ·exact Qfo s w hs hn
 cases p with
 |nil=>exact Qdr s u w hs h
 |cons c nm=>
  rcases Bool.eq_false_or_eq_true (Be nm)with hnm|hnm
  ·by_cases hso:Ed c
   ·by_cases hu:u=[]
    ·rcases hso with rfl|rfl|rfl
     ·exact Qbo s nm u w hs h hp hnm hu
     ·exact Qbz s nm u w hs h hp hnm hu
     exact Qbw s nm u w hs h hp hnm hu
    rcases hso with rfl|rfl|rfl
    ·exact sType_full82 s nm u w hs h hp hnm hu
    ·exact sType_full85 s nm u w hs h hp hnm hu
    exact sType_full69 s nm u w hs h hp hnm hu
   exact Qfc s c nm u w hs h hp hnm hso
  exact Qe6 s c nm u w hs h hp hnm
section
attribute [local go_sem] Qm0 Ql8 Qlz Qj6 ByteArray.mk_append_mk
def sfR:Option Fd->Value
 |some f=>.tuple #[sfV f,.bool true]
 |none=>.tuple #[sf0,.bool false]
theorem Rz(st nm fv:Value)(fs:List Fd)(n:Nat)(w:World)(h:Dj w fv fs)(hn:n<=1000000000):
  Calls prog 57 #[.agg #[st,nm,fv],.int .i64 n] w fun e w'=>e=.returned (sfR (Au fs n))/\Below w w w':=by
 obtain⟨A,c,rfl,hl,hr⟩:=h;have Hr:=Aa hr;clear hr;go_enter func57,ntmps57;go_wp2_with fail;go_loopw [6] (fun i wr=>∃k:Nat,i=.int .i64 k/\k<=fs.length/\wr=(w.alloc (.cells #[st,nm,.slice A fs.length c] 90)).alloc (.cells #[.int .i64 0,aa,aa,aa] 94)/\Hid (∀f∈fs.take k,decide (f.tag=n)=false)) (fun i _=>fs.length - (intOf i).toNat)
 case atStart=>exact⟨0,rfl,ah _,rfl,by intro f hf;simp at hf⟩
 case round=>
  obtain⟨k,rfl,hk,rfl,hin⟩:=hrel;by_cases hlt:k<fs.length
  ·obtain⟨b,off,rfl,hb,c0,c1,c2,c3⟩:=Dj.at_ Hr.o hlt;have Hts:=Aa (Ch fs k hlt);have Hft:=Aa (Va (p:=fun f=>decide (f.tag=n)) hlt hin.o);generalize fs[k]=f at c0 c1 c2 c3 Hts Hft;have k1:(0:Int)<=(k:Int):=aI;have k2:(k:Int)<(fs.length:Int):=aI;by_cases he:f.tag=n
   ·have t1:((f.tag:Int) == (n:Int))=true:=by simp[he]
    have Hfin:=Aa (show Au fs n=some f by unfold Au;rw[Hft.o,if_pos dp]);clear he;go_wp2_with fail;exact aG (v:=.tuple #[sfV f,.bool true]) (by simp[results,results57,go_sem,sfV]) rfl ⟨by rw[Hfin.o];rfl,((Am _ _).alloc (Ao _) _).alloc aN _⟩
   have t1:((f.tag:Int) == (n:Int))=false:=co
   have Hin:=Aa (show ∀g∈fs.take (k+1),decide (g.tag=n)=false by
    intro g hg;rw[Hts.o]at hg;rcases ag.1 hg with hg|hg
    ·exact hin.o g hg
    simp at hg;subst hg;simpa using he)
   clear he;go_wp2_with fail;go_roundw
   case rel=>exact⟨k+1,by go_num,by omega,Ab,Hin.o⟩
   case measure=>simp[intOf];omega
  ·have Hfin:=@Aa (Au fs n=none) (Np (fun f hf=>hin.o f dX));go_wp2_with fail;exact aG (v:=.tuple #[sf0,.bool false]) (by simp[results,results57,go_sem,sf0]) rfl ⟨by rw[Hfin.o];rfl,((Am _ _).alloc (Ao _) _).alloc aN _⟩
def Vg:Option (Ty × Value)->Value
 |some x=>.tuple #[Kt x.1 x.2,.bool true]
 |none=>.tuple #[Pu,.bool false]
theorem Tz(v:Value)(xs:List (Ty × Value))(n:List UInt8)(w:World)(h:Fu w v xs):
  Calls prog 88 #[v,n] w fun e w'=>e=.returned (Vg (Ds xs n))/\Below w w w':=by
 obtain⟨A,c,rfl,hl,hr,hf⟩:=h;have Hr:=Aa hr;have Hf:=Aa hf;clear hr hf;go_enter func88,ntmps88;go_wp2_with fail;go_loopw [6] (fun i wr=>∃k:Nat,i=.int .i64 k/\k<=xs.length/\wr=w.alloc (.cells #[.int .u8 0,aa,.slice none 0 0] 90)/\Hid (∀x∈xs.take k,decide (x.1.name=n)=false)) (fun i _=>xs.length - (intOf i).toNat)
 case atStart=>exact⟨0,rfl,ah _,rfl,by intro f hf;simp at hf⟩
 case round=>
  obtain⟨k,rfl,hk,rfl,hin⟩:=hrel;by_cases hlt:k<xs.length
  ·obtain⟨b,off,rfl,hb,c0,c1,c2⟩:=Fu.at_ Hr.o hlt;have Hts:=Aa (Ch xs k hlt);have Hft:=Aa (Va (p:=fun x=>decide (x.1.name=n)) hlt hin.o);have hfx:=Hf.o _ (af hlt);generalize xs[k]=x at c0 c1 c2 Hts Hft hfx;obtain⟨t,fv⟩:=x;simp only[]at c0 c1 c2 hfx;obtain⟨A2,d2,hfv,_⟩:=hfx;subst hfv;have k1:(0:Int)<=(k:Int):=aI;have k2:(k:Int)<(xs.length:Int):=aI;by_cases he:t.name=n
   ·have t1:(t.name == n)=true:=by simp[he]
    have Hfin:=Aa (show Ds xs n=some (t,.slice A2 t.fields.length d2)by unfold Ds;rw[Hft.o,if_pos dp]);clear he;go_wp2_with fail;refine aG (v:=.tuple #[Kt t (.slice A2 t.fields.length d2),.bool true]) (by simp[results,results88,go_sem,Kt]) rfl ?_;exact ll
   have t1:(t.name == n)=false:=dp
   have Hin:=Aa (show ∀g∈xs.take (k+1),decide (g.1.name=n)=false by
    intro g hg;rw[Hts.o]at hg;rcases ag.1 hg with hg|hg
    ·exact hin.o g hg
    simp at hg;subst hg;simpa using he)
   clear he;go_wp2_with fail;go_roundw
   case rel=>exact⟨k+1,by go_num,by omega,Ab,Hin.o⟩
   case measure=>simp[intOf];omega
  ·have Hfin:=@Aa (Ds xs n=none) (Np (fun f hf=>hin.o f dX));go_wp2_with fail;refine aG (v:=.tuple #[Pu,.bool false]) (by simp[results,results88,go_sem,Pu]) rfl ?_;exact ll
theorem Qke{k:Kd}(h:Cm k):(k.signs=[]/\k.base=[64]/\Bc k=64::(k.name++[59])/\k.name.length<=3)\/(¬(k.signs=[]/\k.base=[64])/\∃c t,Bc k=c::t/\c≠64/\t.length<=12):=by
 obtain⟨h1,h2,h3⟩:=h;cases hs:k.signs with
 |cons c t=>
  refine .inr ⟨by simp,c,t++Bv k,by unfold Bc;rw[hs];rfl,?_,?_⟩
  ·rw[hs]at h1;simp only[List.all_cons,ax]at h1;rintro rfl;exact absurd h1.1 aL
  unfold Bc at h3;rw[hs]at h3;simp at h3 ⊢;omega
 |nil=>
  rcases h2 with⟨hb,hn⟩|⟨hb,_⟩
  ·exact .inl ⟨rfl,hb,by unfold Bc Bv;rw[hs,if_pos hb];rfl,(Dm.1 hn).2.1⟩
  refine .inr ⟨?_,?_⟩
  ·rintro⟨_,h⟩;rcases hb with hb|hb|hb<;>· rw[hb]at h;revert h;decide
  have hc:Bc k=k.base:=by
   unfold Bc Bv;rw[hs,if_neg (by rcases hb with hb|hb|hb<;>· rw[hb];decide)];rfl
  rw[hc];rcases hb with hb|hb|hb<;>· rw[hb];exact⟨_,_,rfl,by decide,by simp⟩
theorem E7(v:Value)(xs:List (Ty × Value))(k:Kd)(w:World)(h:Fu w v xs)(hk:Cm k):
  Calls prog 56 #[v,.string ⟨(Bc k).toArray⟩] w fun e w'=>e=.returned (Vg (Jw xs k))/\Below w w w':=by
 have H:=Aa h;clear h;rcases Qke hk with⟨h1,h2,h3,h4⟩|⟨h1,c,t,h3,h4,h5⟩
 ·have Hr:=@Aa (Jw xs k=Ds xs k.name) (if_pos ⟨h1,h2⟩);rw[h3];clear h1 h2 h3;go_enter func56,ntmps56;go_wp2_with fail;refine(Qa1 k.name _ aI).mono ?_;rintro e w' ⟨rfl,rfl⟩;go_wp2_with fail;refine(Tz v xs k.name _ (H.o.below ((Am _ _).alloc (Ao _) _))).mono ?_;rintro e w2 ⟨rfl,hb⟩;cases hf:Ds xs k.name with
  |none=>
   rw[hf]at Hr;obtain⟨hc,hfz,hz⟩:=Ci hb;have Hb:=Aa (((Am w.heap.size w).alloc (Ao _) _).trans (hb.mono aN));clear hb hf;unfold Vg Pu;go_wp2_with fail;refine aG (v:=.tuple #[Pu,.bool false]) (by simp[results,results56,go_sem,Pu,hc]) rfl ?_;exact lm
  |some x=>
   obtain⟨t,fv⟩:=x;have hm:=(Cp hf).1;obtain⟨A,c,_,_,_,hfs⟩:=H.o;obtain⟨A2,d2,e2,_⟩:=hfs _ hm;simp only at e2;subst e2;rw[hf]at Hr;obtain⟨hc,hfz,hz⟩:=Ci hb;have Hb:=Aa (((Am w.heap.size w).alloc (Ao _) _).trans (hb.mono aN));clear hb hf hm hfs;unfold Vg Kt;go_wp2_with fail;refine aG (v:=.tuple #[Kt t (.slice A2 t.fields.length d2),.bool true]) (by simp[results,results56,go_sem,Kt,hc]) rfl ?_;exact lm
 have Hr:=@Aa (Jw xs k=none) (if_neg h1);rw[h3];clear h1 h3;go_enter func56,ntmps56;go_wp2_with fail;refine(Qdu c t _ h4 aI).mono ?_;rintro e w' ⟨rfl,rfl⟩;go_wp2_with fail;refine aG (v:=.tuple #[Pu,.bool false]) (by simp[results,results56,go_sem,Pu]) rfl ?_;exact⟨by rw[Hr.o];rfl,(Am _ _).alloc (Ao _) _⟩
theorem Qku(S:List Ty)(n:Nat)(t:Ty)(h:t.sort≠85):B8 S (n+1) t=true:=by
 simp only[B8,Gb,if_neg h]
theorem Qiq(xs:List (Ty × Value))(n:Nat)(t:Ty)(f:Fd)(fs:List Fd)(h:t.sort=85)(hf:t.fields=f::fs):
  B8 (Ae xs) (n+1) t=(match Jw xs f.kind with|none=>true|some u=>B8 (Ae xs) n u.1):=by
 simp only[B8,Gb,if_pos h,hf,Jw];by_cases hk:f.kind.signs=[]/\f.kind.base=[64]
 ·rw[if_pos hk,if_pos hk,Gt];cases Ds xs f.kind.name<;>rfl
 rw[if_neg hk,if_neg hk]
theorem Qen{t:Ty}(h:Ff t)(hs:t.sort=85):∃f fs,t.fields=f::fs/\Cm f.kind:=by
 obtain⟨h1,h2,h3,h4,h5⟩:=h;cases hf:t.fields with
 |nil=>have:=h5 hf;rw[hs]at this;exact absurd this aL
 |cons f fs=>
  refine⟨f,fs,rfl,?_⟩;have:=h3.1 f eE;exact(this.2.2.2.2 eJ).1
theorem Qh8{xs:List (Ty × Value)}{k:Kd}{x:Ty × Value}(h:Jw xs k=some x):x∈xs:=by
 unfold Jw at h;split at h
 ·exact(Cp h).1
 cases h
theorem Qg3(v fv:Value)(xs:List (Ty × Value))(t:Ty)(w:World)(h:Fu w v xs)(ht:Ff t)(hft:Dj w fv t.fields)(hok:∀x∈xs,Ff x.1):
  Calls prog 153 #[v,Kt t fv] w fun e w'=>e=.returned (.bool (B8 (Ae xs) (xs.length+1) t))/\Below w w w':=by
 have H:=Aa h;have Hok:=Aa hok;obtain⟨A,c,rfl,hxl,_⟩:=h;obtain⟨A1,c1,rfl,hfl,hr1⟩:=hft;have Hr1:=Aa hr1;have Ht:=Aa ht;clear hok hr1 ht;unfold Kt;go_enter func153,ntmps153;go_wp2_with fail
 go_loopw [5] (fun i wr=>∃(n:Nat) (cur:Ty) (A2:Option Addr) (c2:Nat),i=.int .i64 n/\n<=xs.length+1/\Hid (Ff cur)/\Hid (Bx w A2 (cur.fields.length*4) (cur.fields.flatMap Ky)) /\
   Hid (B8 (Ae xs) (xs.length+1) t=B8 (Ae xs) (xs.length+1 - n) cur)/\Hid (Below w w wr)/\w.heap.size<wr.heap.size /\
   wr.cell? (w,0)=some (.int .u8 (cur.sort.toNat:Int))/\wr.cell? (w,1)=cur.name/\wr.cell? (w,2)=some (.slice A2 cur.fields.length c2) /\
   (∀j,wr.frozen? ⟨w.heap.size,j,none⟩=false)) (fun i _=>xs.length+1 - (intOf i).toNat)
 case atStart=>exact⟨0,t,A1,c1,rfl,ah _,Ht.o,Hr1.o,rfl,(Am _ _).alloc (Ao _) _,by simp,by simp,by simp,by simp,by simp⟩
 case round=>
  obtain⟨n,cur,A2,c2,rfl,hn,hcu,hrow,heq,hb,hsz,u0,u1,u2,f1⟩:=hrel;by_cases hlt:n<=xs.length
  ·have k1:(n:Int)<=(xs.length:Int):=aI;obtain⟨m,hm⟩:∃m,xs.length+1 - n=m+1:=⟨xs.length - n,by omega⟩
   have hm2:xs.length+1 - (n+1)=m:=aI;rw[hm]at heq;have hcl:=cur.sort.toNat_lt;by_cases hs:cur.sort=85
   ·have t1:((cur.sort.toNat:Int) != 85)=false:=by have:=Bl hs;simpa using this
    have t2:((cur.sort.toNat:Int) == 85)=true:=Bl hs;obtain⟨f,fs,hfs,hkd⟩:=Qen hcu.o hs;have Heq:=Aa (show B8 (Ae xs) (xs.length+1) t=(match Jw xs f.kind with|none=>true|some u=>B8 (Ae xs) m u.1)by rw[heq.o];exact Qiq xs m cur f fs hs hfs);have hlf:0<cur.fields.length:=de;have hf0:cur.fields[0]=f:=by simp[hfs]
    obtain⟨b,off,rfl,hbl,g0,g1,g2,g3⟩:=Dj.at_ (hrow.o.below hb.o) hlf;rw[hf0]at g0 g1 g2 g3;simp only[Nat.zero_mul,Nat.add_zero]at g0 g1 g2 g3;have Hkd:=Aa hkd;have l1:(0:Int)<(cur.fields.length:Int):=aI;clear hs heq hkd hf0 hfs;go_wp2_with fail;refine(E7 (.slice A xs.length c) xs f.kind _ (H.o.below hb.o) Hkd.o).mono ?_;rintro e w4 ⟨rfl,hb4⟩;obtain⟨hc4,hfz4,hz4⟩:=Ci hb4;have Hb5:=Aa (hb.o.trans (hb4.mono (Nat.le_of_lt hsz)));rw[<-hc4 _ _ hsz]at u0 u1 u2;have f1':∀j,w4.frozen? ⟨w.heap.size,j,none⟩=false:=fun j=>(hfz4 _ j hsz).trans (f1 j);have hsz4:=hz4 _ hsz;have Hrow':=Aa (fun(x:Ty × Value) (hx:x∈xs)=>((show ∀x∈xs,Dj w x.2 x.1.fields from(by obtain⟨_,_,_,_,_,hf⟩:=H.o;exact hf)) x hx));have hn1:¬(w4.heap.size=w.heap.size):=aI;have hn2:¬(w.heap.size=w4.heap.size):=aI;clear hb4 hc4 hfz4 hz4 f1 hb;cases hr:Jw xs f.kind with
    |none=>
     rw[hr]at Heq;unfold Vg Pu;go_wp2_with fail;go_ret;exact⟨by rw[Heq.o];first|rfl|trivial,cq⟩
    |some x=>
     rw[hr]at Heq;obtain⟨u,uv⟩:=x;have Hm:=Aa (Qh8 hr);obtain⟨A5,c5,e5,_,hr5⟩:=Hrow'.out _ Hm.o;simp only[]at e5 hr5;subst e5;have Hr5:=Aa hr5;clear hr hr5;unfold Vg Kt;go_wp2_with fail;go_roundw
     case rel=>
      refine⟨n+1,u,A5,c5,by go_num,by omega,Hok.o _ Hm.o,Hr5.o,by rw[hm2];exact Heq.o,cq,by simp;omega,by simp[go_sem,u0,u1,u2,f1',hn1,hn2,hsz4],by simp[go_sem,u0,u1,u2,f1',hn1,hn2,hsz4],by simp[go_sem,u0,u1,u2,f1',hn1,hn2,hsz4],by intro j;simp[go_sem,f1',hn1,hn2,hsz4]⟩
     case measure=>simp[intOf];omega
   have t1:((cur.sort.toNat:Int) != 85)=true:=by have:=Ap hs;simpa using this
   have t2:((cur.sort.toNat:Int) == 85)=false:=Ap hs;have Hend:=Aa (show B8 (Ae xs) (xs.length+1) t=true by rw[heq.o];exact Qku _ m cur hs);clear hs heq;go_wp2_with fail;exact lq
  ·have k1:¬(n:Int)<=(xs.length:Int):=aI;have Hend:=Aa (show B8 (Ae xs) (xs.length+1) t=false by rw[heq.o,show xs.length+1 - n=0 by omega];rfl);clear heq;go_wp2_with fail;exact lq
def Vt(k:Kd):Bool:=decide (k.base=[64])
def V0(k:Kd):List UInt8:=if k.base=[64]then k.name else[]
theorem Ru(k:Kd)(hk:Cm k)(w:World):
  Calls prog 86 #[.string ⟨(Bv k).toArray⟩] w fun e w'=>e=.returned (.tuple #[.string ⟨(V0 k).toArray⟩,.bool (Vt k)])/\w=w':=by
 obtain⟨_,hb,hl⟩:=hk;unfold Bv V0 Vt;by_cases h:k.base=[64]
 ·rw[if_pos h,if_pos h,aE h];refine Qa1 k.name w ?_;rcases hb with⟨_,hn⟩|⟨h2,_⟩
  ·have:=(Dm.1 hn).2.1;omega
  rcases h2 with h2|h2|h2<;>· rw[h]at h2;exact absurd h2 aL
 rw[if_neg h,if_neg h,aD h];rcases hb with⟨h2,_⟩|⟨h2,_⟩
 ·exact absurd h2 h
 rcases h2 with h2|h2|h2<;>· rw[h2];exact Qdu _ [] w aL aN
theorem Nd(k:Kd)(hk:Cm k)(w:World):
  Calls prog 87 #[.string ⟨(Bc k).toArray⟩] w fun e w'=>e=.returned (.string ⟨(Bv k).toArray⟩)/\w=w':=
 Qeo k w hk.1 (Qaz hk.2.1) cm
theorem Mr(xs:List (Ty × Value))(k:Kd):B0 (Ae xs) k↔(Vt k=true->(Ds xs (V0 k)).isSome=true):=by
 unfold B0 Vt V0;by_cases h:k.base=[64]
 ·rw[if_pos h,Gt];simp[h]
 rw[if_neg h];simp[h]
def Vi(S:List Ty):Prop:=(S.Pairwise fun t u=>t.name≠u.name)/\Ha S/\∀t∈S,B8 S (S.length+1) t=true
def Qep(xs:List (Ty × Value))(k:Nat):Prop:=
 (((xs.take k).map (·.1)).Pairwise fun t u=>t.name≠u.name)/\∀x∈xs.take k,x.1.sort≠69->∀f∈x.1.fields,B0 (Ae xs) f.kind
theorem Qho(xs:List (Ty × Value)):Qep xs 0:=⟨by simp,by simp⟩
theorem Qgi{xs:List (Ty × Value)}{k:Nat}(hk:k<xs.length)(h:Qep xs k)(h1:∀x∈xs.take k,x.1.name≠xs[k].1.name)(h2:xs[k].1.sort≠69->∀f∈xs[k].1.fields,B0 (Ae xs) f.kind):Qep xs (k+1):=by
 unfold Qep;rw[Ch xs k hk];refine⟨?_,?_⟩
 ·rw[aA,List.pairwise_append];refine⟨h.1,by simp,?_⟩;intro a ha b hb;obtain⟨x,hx,rfl⟩:=ay.1 ha;simp at hb;subst hb;exact h1 x hx
 intro x hx;rcases ag.1 hx with hx|hx
 ·exact h.2 x hx
 simp at hx;subst hx;exact h2
theorem Qix{xs:List (Ty × Value)}(h:Qep xs xs.length):((Ae xs).Pairwise fun t u=>t.name≠u.name)/\Ha (Ae xs):=by
 unfold Qep at h;rw[List.take_length]at h;refine⟨h.1,?_⟩;intro t ht hs f hf;obtain⟨x,hx,rfl⟩:=ay.1 ht;exact h.2 x hx hs f hf
theorem Qhw{xs:List (Ty × Value)}{j k:Nat}(hjk:j<k)(hk:k<xs.length)(h:xs[j].1.name=xs[k].1.name):¬Vi (Ae xs):=by
 rintro⟨hp,_⟩;have:=List.pairwise_iff_getElem.1 hp j k (by unfold Ae;simp;omega) (by unfold Ae;simp;omega) hjk;unfold Ae at this;simp at this;exact this h
theorem Qib{xs:List (Ty × Value)}{k j:Nat}(hk:k<xs.length)(hs:xs[k].1.sort≠69)(hj:j<xs[k].1.fields.length)(h:¬B0 (Ae xs) xs[k].1.fields[j].kind):¬Vi (Ae xs):=by
 rintro⟨_,hp,_⟩;exact h (hp xs[k].1 (ay.2 ⟨xs[k],af hk,rfl⟩) hs _ (af hj))
theorem Qi2{xs:List (Ty × Value)}{k:Nat}(hk:k<xs.length)(h:B8 (Ae xs) (xs.length+1) xs[k].1=false):¬Vi (Ae xs):=by
 rintro⟨_,_,hp⟩;have:=hp xs[k].1 (ay.2 ⟨xs[k],af hk,rfl⟩);rw[show (Ae xs).length=xs.length by unfold Ae;simp,h]at this;cases this
theorem Qfj(v:Value)(xs:List (Ty × Value))(w:World)(h:Fu w v xs)(hok:∀x∈xs,Ff x.1):
  Calls prog 116 #[v] w fun e w'=>(∃b,e=.returned (.bool b)/\(b=true↔Vi (Ae xs)))/\Below w w w':=by
 have H:=Aa h;have Hok:=Aa hok;obtain⟨A,c,rfl,hxl,hrow,hfds⟩:=h;have Hrow:=Aa hrow;have Hfds:=Aa hfds;clear hok hrow hfds;go_enter func116,ntmps116;go_wp2_with fail;go_loopw [3] (fun i wr=>∃k:Nat,i=.int .i64 k/\k<=xs.length/\Hid (Qep xs k)/\Hid (Below w w wr)) (fun i _=>xs.length - (intOf i).toNat)
 case atStart=>exact⟨0,rfl,ah _,Qho xs,Am _ _⟩
 case round=>
  obtain⟨k,rfl,hk,hto,hbr⟩:=hrel;by_cases hlt:k<xs.length
  ·have k1:(0:Int)<=(k:Int):=aI;have k2:(k:Int)<(xs.length:Int):=aI;go_wp2_with fail;go_loopw [4] (fun i wq=>∃j:Nat,i=.int .i64 j/\j<=k/\(∃q,wq=wr.drewN q)/\Hid (∀x∈xs.take j,x.1.name≠xs[k].1.name)) (fun i _=>k - (intOf i).toNat)
   case atStart=>exact⟨0,rfl,ah _,⟨0,rfl⟩,by intro x hx;simp at hx⟩
   case round=>
    obtain⟨j,rfl,hj,⟨q,rfl⟩,hin⟩:=hrel;obtain⟨b,off,rfl,hbl,c0,c1,c2⟩:=Fu.at_ (Hrow.o.below hbr.o) hlt;by_cases hjl:j<k
    ·obtain⟨b',off',e',hbl',d0,d1,d2⟩:=Fu.at_ (Hrow.o.below hbr.o) (show j<xs.length by omega);simp only[ak,Addr.mk.injEq]at e';obtain⟨rfl,rfl,_⟩:=e';have Hnn:=Aa (fun h=>Qhw (xs:=xs) hjl hlt h);have Hts:=Aa (Ch xs j (show j<xs.length by omega));have j1:(0:Int)<=(j:Int):=aI;have j2:(j:Int)<(xs.length:Int):=aI;have j3:(j:Int)<(k:Int):=aI;by_cases he:xs[j].1.name=xs[k].1.name
     ·have t1:(xs[j].1.name == xs[k].1.name)=true:=dp;have Hno:=Aa (Hnn.o he);clear he;go_wp2_with fail;go_quiet (fail)
      go_wp2_with fail;go_ret;exact⟨⟨false,rfl,by simp[Hno.o]⟩,below_drewN (below_drewN hbr.o q) _⟩
     have t1:(xs[j].1.name == xs[k].1.name)=false:=dp
     have Hin:=Aa (show ∀x∈xs.take (j+1),x.1.name≠xs[k].1.name by
      intro x hx;rw[Hts.o]at hx;rcases ag.1 hx with hx|hx
      ·exact hin.o x hx
      simp at hx;subst hx;exact he)
     clear he;go_wp2_with fail;go_quiet (fail)
     go_wp2
     go_roundw
     case rel=>exact⟨j+1,by go_num,by omega,⟨_,rfl⟩,Hin.o⟩
     case measure=>simp[intOf];omega
    ·obtain rfl:j=k:=aI;have j3:¬(j:Int)<(j:Int):=aI;have Hbk:=Aa (below_drewN hbr.o q);have Hnk:=Aa hin.o;have Hxk:=Aa (Hfds.o _ (af hlt));have Hokk:=Aa (Hok.o _ (af hlt));have Hnok:=Aa (fun(jj:Nat) (hs:xs[j].1.sort≠69) (hjj:jj<xs[j].1.fields.length) h=>Qib hlt hs hjj h);have Hsuc:=Aa (fun h2=>Qgi hlt hto.o Hnk.o h2);clear hin hbl c0 c1 c2 hto;go_wp2_with fail;go_loopw [5] (fun i wq=>∃m:Nat,i=.int .i64 m/\m<=(xs[j]).1.fields.length/\Hid (Below w w wq)/\Hid (∀f∈(xs[j]).1.fields.take m,B0 (Ae xs) f.kind)) (fun i _=>(xs[j]).1.fields.length - (intOf i).toNat)
     case atStart=>exact⟨0,rfl,ah _,Hbk.o,by intro x hx;simp at hx⟩
     case round=>
      obtain⟨m,rfl,hm,hbq,hin⟩:=hrel;obtain⟨b',off',e',hbl',d0,d1,d2⟩:=Fu.at_ (Hrow.o.below hbq.o) hlt;simp only[ak,Addr.mk.injEq]at e';obtain⟨rfl,rfl,_⟩:=e';generalize xs[j]=x at d0 d1 d2 Hxk Hokk Hnok Hsuc hin hm ⊢;obtain⟨t,fv⟩:=x;simp only[]at d0 d1 d2 hm;obtain⟨A2,c2,e2,hfl,hr2⟩:=Hxk.o;simp only[]at e2;subst e2;have Hr2:=Aa hr2;clear hr2;have hsl:=t.sort.toNat_lt;have hfl':t.fields.length<=1000:=hfl;by_cases hml:m<t.fields.length
      ·have m1:(0:Int)<=(m:Int):=aI;have m2:(m:Int)<(t.fields.length:Int):=aI;by_cases hs:t.sort=69
       ·have t1:((t.sort.toNat:Int) != 69)=false:=by have:=Bl hs;simpa using this
        have t2:((t.sort.toNat:Int) == 69)=true:=Bl hs;have Hto:=Aa (Hsuc.o (fun h=>absurd hs h));clear hs;go_wp2_with fail;go_roundw
        case rel=>exact⟨j+1,by go_num,by omega,Hto.o,hbq.o⟩
        case measure=>simp[intOf];omega
       have t1:((t.sort.toNat:Int) != 69)=true:=by have:=Ap hs;simpa using this
       have t2:((t.sort.toNat:Int) == 69)=false:=Ap hs;obtain⟨bf,of,rfl,hbf,g0,g1,g2,g3⟩:=Dj.at_ (Hr2.o.below hbq.o) hml;have hfm:=af hml;have Hkd:=Aa ((Hokk.o.2.2.1.1 _ hfm).2.2.2.2 hs).1;have Hno:=Aa (fun h=>Hnok.o m hs hml h);have Hts:=Aa (Ch t.fields m hml);generalize t.fields[m]=f at g0 g1 g2 g3 Hkd Hno Hts;clear hs hfm;have Hrf:=Aa (Mr xs f.kind);have Hfind:=Aa (fun W (hW:Below w w W)=>Tz (.slice (some ⟨b,off,none⟩) xs.length c) xs (V0 f.kind) W (H.o.below hW));go_wp2_with fail;refine(Nd f.kind Hkd.o _).mono ?_;rintro e w4 ⟨rfl,rfl⟩;go_wp2_with fail;refine(Ru f.kind Hkd.o _).mono ?_;rintro e w4 ⟨rfl,rfl⟩;go_wp2_with fail;refine(Hfind.o _ hbq.o).mono ?_;rintro e w4 ⟨rfl,hb4⟩;have Hb4:=Aa (hbq.o.trans (hb4.mono hbq.o.size));clear hb4;cases hx:Ds xs (V0 f.kind)with
       |none=>
        unfold Vg Pu;rcases hir:Vt f.kind with _|_
        ·have hrk:B0 (Ae xs) f.kind:=Hrf.o.2 (fun h=>by rw[hir]at h;cases h)
         have Hin:=Aa (show ∀f∈t.fields.take (m+1),B0 (Ae xs) f.kind by
          intro g hg;rw[Hts.o]at hg;rcases ag.1 hg with hg|hg
          ·exact hin.o g hg
          simp at hg;subst hg;exact hrk)
         clear hrk;go_wp2_with fail;go_roundw
         case rel=>exact⟨m+1,by go_num,by omega,ba,Hin.o⟩
         case measure=>simp[intOf];omega
        have Hn:=Aa (Hno.o (fun h=>by have:=Hrf.o.1 h hir;rw[hx]at this;cases this));go_wp2_with fail;go_ret;exact⟨⟨false,rfl,by simp[Hn.o]⟩,ba⟩
       |some y=>
        have hrk:B0 (Ae xs) f.kind:=Hrf.o.2 (fun _=>by rw[hx];rfl);obtain⟨ty,yv⟩:=y;obtain⟨A5,c5,e5,_⟩:=Hfds.o _ (Cp hx).1;simp only[]at e5;subst e5;unfold Vg Kt;rcases hir:Vt f.kind with _|_
        ·skip
         have Hin:=Aa (show ∀f∈t.fields.take (m+1),B0 (Ae xs) f.kind by
          intro g hg;rw[Hts.o]at hg;rcases ag.1 hg with hg|hg
          ·exact hin.o g hg
          simp at hg;subst hg;exact hrk)
         clear hrk;go_wp2_with fail;go_roundw
         case rel=>exact⟨m+1,by go_num,by omega,ba,Hin.o⟩
         case measure=>simp[intOf];omega
        skip
        have Hin:=Aa (show ∀f∈t.fields.take (m+1),B0 (Ae xs) f.kind by
         intro g hg;rw[Hts.o]at hg;rcases ag.1 hg with hg|hg
         ·exact hin.o g hg
         simp at hg;subst hg;exact hrk)
        clear hrk;go_wp2_with fail;go_roundw
        case rel=>exact⟨m+1,by go_num,by omega,ba,Hin.o⟩
        case measure=>simp[intOf];omega
      ·obtain rfl:m=t.fields.length:=aI;have m2:¬(t.fields.length:Int)<(t.fields.length:Int):=aI;have Hto:=Aa (Hsuc.o (fun _ f hf=>hin.o f (by rw[List.take_length];exact hf)));go_wp2_with fail;go_roundw
       case rel=>exact⟨j+1,by go_num,by omega,Hto.o,hbq.o⟩
       case measure=>simp[intOf];omega
  ·obtain rfl:k=xs.length:=aI;have k2:¬(xs.length:Int)<(xs.length:Int):=aI;have Hall:=Aa (Qix hto.o);clear hto;go_wp2_with fail;go_loopw [10] (fun i wq=>∃j:Nat,i=.int .i64 j/\j<=xs.length/\Hid (Below w w wq)/\Hid (∀x∈xs.take j,B8 (Ae xs) (xs.length+1) x.1=true)) (fun i _=>xs.length - (intOf i).toNat)
   case atStart=>exact⟨0,rfl,ah _,hbr.o,by intro x hx;simp at hx⟩
   case round=>
    obtain⟨j,rfl,hj,hbq,hin⟩:=hrel;by_cases hjl:j<xs.length
    ·obtain⟨b,off,rfl,hbl,d0,d1,d2⟩:=Fu.at_ (Hrow.o.below hbq.o) hjl;have Hts:=Aa (Ch xs j hjl);have Hno:=Aa (fun h=>Qi2 (xs:=xs) hjl h);have Hokj:=Aa (Hok.o _ (af hjl));have hxj:=(Hfds.o _ (af hjl)).below hbq.o;generalize xs[j]=x at d0 d1 d2 Hts Hno Hokj hxj;obtain⟨t,fv⟩:=x;simp only[]at d0 d1 d2 hxj;have Hxj:=Aa hxj;obtain⟨A2,c2,rfl,_⟩:=hxj;have j1:(0:Int)<=(j:Int):=aI;have j2:(j:Int)<(xs.length:Int):=aI;have He:=Aa (fun W (hW:Below w w W) (hX:Dj W (.slice A2 t.fields.length c2) t.fields)=>Qg3 (.slice (some ⟨b,off,none⟩) xs.length c) (.slice A2 t.fields.length c2) xs t W (H.o.below hW) Hokj.o hX Hok.o);go_wp2_with fail;refine(He.o _ hbq.o Hxj.o).mono ?_;rintro e w4 ⟨rfl,hb4⟩;have Hb4:=Aa (hbq.o.trans (hb4.mono hbq.o.size));clear hb4;rcases Bool.eq_false_or_eq_true (B8 (Ae xs) (xs.length+1) t)with he|he
     ·have Hin:=Aa (show ∀x∈xs.take (j+1),B8 (Ae xs) (xs.length+1) x.1=true by
       intro x hx;rw[Hts.o]at hx;rcases ag.1 hx with hx|hx
       ·exact hin.o x hx
       simp at hx;subst hx;exact he)
      rw[he];clear he;go_wp2_with fail;go_roundw
      case rel=>exact⟨j+1,by go_num,by omega,Hb4.o,Hin.o⟩
      case measure=>simp[intOf];omega
     have Hn:=Aa (Hno.o he);rw[he];clear he;go_wp2_with fail;go_ret;exact⟨⟨false,rfl,by simp[Hn.o]⟩,Hb4.o⟩
    ·obtain rfl:j=xs.length:=aI
     have Hfin:=Aa (show Vi (Ae xs)from⟨Hall.o.1,Hall.o.2,fun t ht=>by
      obtain⟨x,hx,rfl⟩:=ay.1 ht;rw[show (Ae xs).length=xs.length by unfold Ae;simp];exact hin.o x (by rw[List.take_length];exact hx)⟩)
     clear hin;go_wp2_with fail;go_ret;exact⟨⟨true,rfl,by simp[Hfin.o]⟩,hbq.o⟩
theorem Qgw{w:World}{b1 b2 k1 k2 n1 n2:Nat}{e1 e2:TypeId}{v1 v2:Value}{xs ys:List Value}(h1:w.ownsRow b1 e1 k1 v1 n1 xs)(h2:w.ownsRow b2 e2 k2 v2 n2 ys)(hne:e1≠e2):v1.ownBlock=none\/v1.ownBlock≠v2.ownBlock:=by
 rcases h1.2 with⟨rfl,_⟩|⟨g,cap,cur,rfl,_,hh,_⟩
 ·exact .inl rfl
 rcases h2.2 with⟨rfl,_⟩|⟨g',cap',cur',rfl,_,hh',_⟩
 ·exact .inr gw
 refine .inr ?_;simp only[Value.ownBlock,ne_eq,ak];rintro rfl;rw[hh]at hh';simp only[ak,Obj.cells.injEq]at hh';exact hne hh'.2.1
section
variable {P:Program}
theorem Qdw(w:World){ops:Array Oper}{rest:List Oper}{o:Oper}{a:Act}{Q:Exit->Act->World->Prop}(hgd:o.guard=none)(s x:Operand)(t:TypeId)
  (ho:o.op=.call {callee:=.builtin .append,args:=#[s,x],argTypes:=#[t,t]})
  (base:Nat) (e:TypeId) (z:Value) (k bytes:Nat) (ht:P.underlying t=some (.slice e)) (hinfo:(P.info? e).map (fun i=>(i.zero,i.size,i.bytes))=some (some z,k,bytes))
  (hzs:z.cells.size=k) (hk:0<k) (W:World) (us:List Value) (hul:us.length=k) (hw:w=W.alloc (.cells us.toArray e)) (hu:∀u∈us,u.oneCell'=true) (v:Value) (n:Nat) (xs:List Value) (hs:a.eval s=v) (hx:a.eval x=.slice (W,0) 1 1)
  (hown:W.ownsRow base e k v n xs)
  (h63:n+1<=maxLen) (hbytes:(n+1)*bytes<=140737488355328) (hbase:base<=W.heap.size)
  (h:∀v' w',w'.ownsRow base e k v' (n+1) (xs++us)->Below base W w'->(W.alloc (.cells us.toArray e)).grownBy w' v.ownBlock->wpList P ops Q rest (a.put o.dst v') w'):wpList P ops Q (o::rest) a w:=by
 subst hw;obtain⟨i0,hi,hz0,hz1,hz2⟩:=info_parts hinfo;refine wpList_append_own _ hgd s x t ho base e i0 z k bytes ht hi hz0 hz1 hz2 hzs hk v n xs hs (hown.alloc _) ⟨W.heap.size,0,none⟩ 1 1 us hx aI ?_ hu h63 hbytes ?_ ?_
 ·exact jK
 ·exact kC
 intro v' w' h1 h2 _;exact h v' w' h1 (((Am base W).alloc hbase _).grown h2 aO (fun k hk=>(hown.lt k hk).1)) h2
end
def Mu(w:World)(base:Nat)(xs:List (Ty × Value)):Prop:=∀x∈xs,w.ownsRow base 94 4 x.2 x.1.fields.length (x.1.fields.flatMap Ky)/\Ff x.1
theorem Mu.below{w w':World}{base:Nat}{xs:List (Ty × Value)}(h:Mu w base xs)(hb:Below w w w'):Mu w' base xs:=fun x hx=>⟨Cv (h x hx).1 hb,(h x hx).2⟩
theorem Mu.grown{w w':World}{base b2 k n:Nat}{xs:List (Ty × Value)}{v:Value}{ys:List Value}{e:TypeId}(h:Mu w base xs)(hv:w.ownsRow b2 e k v n ys)(hne:94≠e)(hg:w.grownBy w' v.ownBlock):Mu w' base xs:=
 fun x hx=>⟨(h x hx).1.kept hg (Qgw (h x hx).1 hv hne),(h x hx).2⟩
theorem Mu.fds{w:World}{base:Nat}{xs:List (Ty × Value)}(h:Mu w base xs):∀x∈xs,Dj w x.2 x.1.fields:=fun x hx=>by
 obtain⟨h1,h2⟩:=h x hx;have hl:=h2.2.2.2.1;obtain⟨A,c,e,hr⟩:=Bx.ownK h1 aY;exact⟨A,c,e,by omega,hr⟩
theorem Fu.own{w:World}{base:Nat}{v:Value}{xs:List (Ty × Value)}(h:w.ownsRow base 90 3 v xs.length (xs.flatMap stc))(hl:xs.length<=1000)(ht:Mu w base xs):Fu w v xs:=by
 obtain⟨A,c,e,hr⟩:=Bx.ownK h aY;exact⟨A,c,e,hl,hr,ht.fds⟩
theorem Qc8{L:List (List UInt8)}{k:Nat}(hk:k<L.length){S:List Ty}(h:Ga L=(Ga (L.drop k)).map (S ++ ·)):
  Ga L=(match Dk L[k]with|none=>none|some t=>(Ga (L.drop (k+1))).map ((S++[t]) ++ ·)):=by
 rw[h,List.drop_eq_getElem_cons hk,Ga,Qd1];cases E9 L[k]with
 |none=>rfl
 |some t=>
  simp only;cases Ga (L.drop (k+1))with
  |none=>rfl
  |some r=>simp
theorem Kk{s:List UInt8}(h:400<s.length\/Ps s=none):Cb s=none:=by
 cases hs:Cb s with
 |none=>rfl
 |some S=>
  have:=P7.1 hs;rcases h with h|h
  ·omega
  rw[h]at this;exact absurd this.2.1 aN
theorem Qad{s:List UInt8}{S:List Ty}(h4:s.length<=400)(h:Ps s=some S)(b:Bool)(hb:b=true↔Vi S):Cb s=if b=true then some S else none:=by
 cases b with
 |true=>
  rw[if_pos rfl];exact P7.2 ⟨h4,h,hb.1 rfl⟩
 |false=>
  rw[if_neg aL];cases hs:Cb s with
  |none=>rfl
  |some T=>
   have:=P7.1 hs;rw[h]at this;obtain⟨_,e,hv⟩:=this;simp only[ak]at e;subst e;exact absurd (hb.2 hv) aL
def J8(o:Option (List Ty))(w:World)(e:Ending)(w':World):Prop:=
 (match o with
  |some S=>∃v xs,e=.returned (.tuple #[v,.bool true])/\Ae xs=S/\Fu w' v xs
  |none=>∃A n c,e=.returned (.tuple #[.slice A n c,.bool false]))/\Below w w w'
theorem J8.no{w w':World}{e:Ending}{o:Option (List Ty)}(ho:o=none){A:Option Addr}{n c:Nat}(he:e=.returned (.tuple #[.slice A n c,.bool false]))(hb:Below w w w'):J8 o w e w':=by
 rw[ho];exact⟨⟨A,n,c,he⟩,hb⟩
theorem J8.yes{w w':World}{e:Ending}{o:Option (List Ty)}{v:Value}{xs:List (Ty × Value)}(ho:o=some (Ae xs))(he:e=.returned (.tuple #[v,.bool true]))(hs:Fu w' v xs)(hb:Below w w w'):J8 o w e w':=by
 rw[ho];exact⟨⟨v,xs,he,rfl,hs⟩,hb⟩
theorem N7{w:World}{base:Nat}{v:Value}{ls:List (List UInt8)}(h:w.ownsRow base 9 1 v ls.length (B6 ls))(hne:ls≠[]):
  ∃g c,v=.slice (some ⟨g,0,none⟩) ls.length c/\base<=g/\g<w.heap.size/\∀j (hj:j<ls.length),w.cell? ⟨g,j,none⟩=some (.string ⟨ls[j].toArray⟩):=by
 rcases h.2 with⟨_,h0⟩|⟨g,cap,cur,rfl,hb,hh,_⟩
 ·cases ls with
  |nil=>exact absurd rfl hne
  |cons=>simp at h0
 refine⟨g,cap,rfl,hb,(h.lt g rfl).2,fun j hj=>?_⟩;have:=h.cells (g:=g) rfl j (.string ⟨ls[j].toArray⟩) (by simp[B6,hj]);rwa [Qf5]at this
theorem Qd6{s:List UInt8}(h:9<(Ak 10 s).length):Ps s=none:=if_pos (.inl h)
theorem Qch{s:List UInt8}(h:(Ak 10 s).getLast?≠some []):Ps s=none:=if_pos (.inr h)
theorem Qgd{s:List UInt8}(h:¬9<(Ak 10 s).length)(h2:(Ak 10 s).getLast?=some []):Ps s=Ga (Ak 10 s).dropLast:=if_neg (by rintro(h3|h3)<;>contradiction)
theorem Tq(s:List UInt8)(w:World)(hs:s.length<=4000000)(h:400<s.length\/9<(Ak 10 s).length\/(Ak 10 s).getLast?≠some []):
  Calls prog 66 #[s] w (J8 (Cb s) w):=by
 have HF:=Aa (show Cb s=none by
  rcases h with h|h|h
  ·exact Kk (.inl h)
  ·exact Kk (.inr (Qd6 h))
  exact Kk (.inr (Qch h)))
 have Hcut:=Aa (fun W=>Cu s 10 10 rfl W hs);have hne:=Ex 10 s;have hle:=Js 10 s;generalize Ak 10 s=L at h Hcut hne hle;go_enter func66,ntmps66;go_wp2_with fail;refine(Hcut.o _).mono ?_;rintro e w1 ⟨v,rfl,ho,hb⟩;obtain⟨g,c,rfl,hg1,hg2,hcells⟩:=N7 ho hne;have hpos:0<L.length:=List.length_pos_iff.2 hne;have Hb:=Aa hb;have k1:(0:Int)<=(L.length:Int) - 1:=aI;have k2:(L.length:Int) - 1<(L.length:Int):=aI;have k3:((L.length:Int) - 1).toNat=L.length - 1:=aI;by_cases h1:400<s.length
 ·have q1:(400:Int)<(s.length:Int):=aI;clear h hcells ho hb;go_wp2_with fail;refine aG (v:=.tuple #[.slice none 0 0,.bool false]) (by simp[results,results66,go_sem]) rfl ?_;exact J8.no HF.o rfl Hb.o
 have q1:¬(400:Int)<(s.length:Int):=aI;by_cases h2:9<L.length
 ·have q2:(9:Int)<(L.length:Int):=aI;clear h hcells ho hb;go_wp2_with fail;refine aG (v:=.tuple #[.slice none 0 0,.bool false]) (by simp[results,results66,go_sem]) rfl ?_;exact J8.no HF.o rfl Hb.o
 have q2:¬(9:Int)<(L.length:Int):=aI;have h3:L.getLast?≠some []:=by rcases h with h|h|h<;>first|exact h|exact absurd h h1|exact absurd h h2
 have cl:=hcells (L.length - 1) aI;have he:¬(L[L.length - 1]=[]):=by
  intro e;apply h3;rw[List.getLast?_eq_getElem?,List.getElem?_eq_getElem aI,e]
 have he':(L[L.length - 1] == [])=false:=dp;clear h hcells ho hb h3;generalize L[L.length - 1]=x at cl he he';go_wp2_with fail;refine aG (v:=.tuple #[.slice none 0 0,.bool false]) (by simp[results,results66,go_sem]) rfl ?_;exact J8.no HF.o rfl Hb.o
theorem Qht(s:List UInt8)(w:World)(h4:s.length<=400)(h9:¬9<(Ak 10 s).length)(hlast:(Ak 10 s).getLast?=some []):
  Calls prog 66 #[s] w (J8 (Cb s) w):=by
 have HL:=Aa (Qgd h9 hlast);have Hcut:=Aa (fun W=>Cu s 10 10 rfl W aI);have hne:=Ex 10 s;have Hpl:=Aa (Ar 10 s);generalize Ak 10 s=L at h9 hlast HL Hcut hne Hpl;go_enter func66,ntmps66;go_wp2_with fail;refine(Hcut.o _).mono ?_;rintro e w1 ⟨v,rfl,ho,hb⟩;obtain⟨g,c,rfl,hg1,hg2,hcells⟩:=N7 ho hne;have hpos:0<L.length:=List.length_pos_iff.2 hne;have Hb:=Aa hb;have Hcells:=Aa hcells;have hz1:=hb.size;have k1:(0:Int)<=(L.length:Int) - 1:=aI;have k2:(L.length:Int) - 1<(L.length:Int):=aI;have k3:((L.length:Int) - 1).toNat=L.length - 1:=aI;have q1:¬(400:Int)<(s.length:Int):=aI;have q2:¬(9:Int)<(L.length:Int):=aI;have cl:=hcells (L.length - 1) aI;have he:L[L.length - 1]=[]:=by
  rw[List.getLast?_eq_getElem?,List.getElem?_eq_getElem aI]at hlast;simpa using hlast
 rw[he]at cl;have hDl:L.dropLast.length=L.length - 1:=aN;clear he hlast hcells ho hb hne;go_wp2_with fail
 go_loopw [5,6] (fun v i wr=>∃(xs:List (Ty × Value)),i=.int .i64 (xs.length:Nat)/\xs.length+1<=L.length/\Hid (Ga L.dropLast=(Ga (L.dropLast.drop xs.length)).map (Ae xs ++ ·)) /\
   Hid (wr.ownsRow w1 90 3 v xs.length (xs.flatMap stc))/\Hid (Mu wr w1.heap.size xs)/\Hid (Below w1 w1 wr)/\w1.heap.size<=wr.heap.size) (fun _ i _=>L.length - (intOf i).toNat)
 case atStart=>exact⟨[],rfl,by simp;omega,by simp[Hid,Ae],World.ownsRow_lit (base:=w1.heap.size) (e:=90) (size:=3) w1 #[] 0 (Ao _) (ah _) rfl,by intro x hx;simp at hx,(Am _ _).alloc (Ao _) _,by simp⟩
 case round=>
  obtain⟨xs,rfl,hxl,hty,hown,htys,hbr,hszr⟩:=hrel;obtain⟨A,cA,rfl,hrA⟩:=Bx.ownK hown.o aY;have HrA:=Aa hrA;have HbW:=Aa (Hb.o.trans (hbr.o.mono hz1));clear hrA;by_cases hlt:xs.length+1<L.length
  ·have j1:(xs.length:Int)+1<(L.length:Int):=aI;have j2:(0:Int)<=(xs.length:Int):=aI;have j3:(xs.length:Int)<(L.length:Int):=aI;have cell:_:=(hbr.o.cell (p:=⟨g,xs.length,none⟩) hg2).trans (Hcells.o xs.length aI);have hstep:=Qc8 (L:=L.dropLast) (k:=xs.length) aI hty.o;have hge:L.dropLast[xs.length]' aI=L[xs.length]:=aN;rw[hge]at hstep;have hpl:=Hpl.o _ (af (show xs.length<L.length by omega));have Hstep:=Aa hstep;generalize L[xs.length]=p at cell Hstep hpl;have Hread:=Aa (fun W=>Qah p W aI);have Htok:=Aa (fun t (h:Dk p=some t)=>(Gc.1 ((Qd1 p).symm.trans h)).1);generalize Dk p=o at Hstep Hread Htok;clear hstep hge hty;go_wp2_with fail;refine(Hread.o _).mono ?_;rintro e w4 ⟨hcase,hb4⟩;have HbW4:=Aa (HbW.o.trans (hb4.mono HbW.o.size));cases o with
   |none=>
    obtain⟨x,a,A2,n2,c2,rfl⟩:=hcase;have Hno:=@Aa (Cb s=none) (Kk (.inr (HL.o.trans Hstep.o)));clear hb4;go_wp2_with fail;refine aG (v:=.tuple #[.slice none 0 0,.bool false]) (by simp[results,results66,go_sem]) rfl ?_;exact J8.no Hno.o rfl (by(repeat (first|exact HbW4.o|refine Below.setCell ?_ f7 _|refine Below.alloc ?_ f7 _|refine Below.drew ?_)))
   |some t=>
    obtain⟨fv,rfl,hfv⟩:=hcase;have htk:=Htok.o t rfl;have h8:=htk.2.2.2.1;obtain⟨A2,c2,rfl,_⟩:=Bx.ownK hfv aY;have Hstep2:=@Aa (Ga L.dropLast=(Ga (L.dropLast.drop (xs.length+1))).map ((Ae xs++[t]) ++ ·)) Hstep.o;have Hw5:=Aa ((Cv hown.o hb4).alloc (.cells #[.int .u8 (t.sort.toNat:Int),t.name,.slice A2 t.fields.length c2] 90));have Hbb:=@Aa (Below w1 w1 (w4.alloc (.cells #[.int .u8 (t.sort.toNat:Int),t.name,.slice A2 t.fields.length c2] 90))) ((hbr.o.trans (hb4.mono hszr)).alloc (ae hszr hb4.size) _)
    have Hty5:=Aa (show Mu (w4.alloc (.cells #[.int .u8 (t.sort.toNat:Int),t.name,.slice A2 t.fields.length c2] 90)) w1.heap.size (xs++[(t,.slice A2 t.fields.length c2)])from by
     intro x hx;rcases ag.1 hx with hx|hx
     ·exact⟨(Cv ((htys.o x hx).1) hb4).alloc _,(htys.o x hx).2⟩
     simp at hx;subst hx;exact⟨(Ta hfv hszr).alloc _,htk⟩)
    have hz5:w1.heap.size<=w4.heap.size+1:=by have:=hb4.size;omega
    have Hsz5:=@Aa ((w4.alloc (.cells #[.int .u8 (t.sort.toNat:Int),t.name,.slice A2 t.fields.length c2] 90)).heap.size=w4.heap.size+1) aN;clear hfv htk hb4;unfold Kt;go_wp2_with (at_builtin;go_loud (refine Qdw _ rfl _ _ 52 rfl w1 90 (.agg #[.int .u8 0,aa,.slice none 0 0]) 3 48 underlying52 Tryz.infoSt rfl aL (w4.alloc (.cells #[.int .u8 (t.sort.toNat:Int),t.name,.slice A2 t.fields.length c2] 90)) [.int .u8 (t.sort.toNat:Int),t.name,.slice A2 t.fields.length c2] rfl rfl bu _ xs.length (xs.flatMap stc) rfl (by rw[Hsz5.o];rfl) Hw5.o aY aI aO ?_;intro v5 w5 hown5 hb5 hg5;have Hty6:=Aa ((Hty5.o.below ((Am _ _).alloc (Ao _) _)).grown (Hw5.o.alloc _) aL hg5);have Hown5:=Aa hown5;have Hb5:=Aa (Hbb.o.trans hb5);clear hown5 hb5 hg5))
    go_roundw
    case rel=>
     refine⟨xs++[(t,Value.slice A2 t.fields.length c2)],by rw[ai];go_num,by simp;omega,?_,?_,?_,Hb5.o,Hb5.o.size⟩
     ·show Ga L.dropLast=_;rw[Hstep2.o];simp[Ae]
     ·show World.ownsRow _ _ _ _ _ _ _;rw[List.flatMap_append,ai];exact Hown5.o
     ·exact Hty6.o
    case measure=>simp[intOf];omega
  ·have j1:¬(xs.length:Int)+1<(L.length:Int):=aI
   have Hlin:=Aa (show Ps s=some (Ae xs)by
    rw[HL.o,hty.o,List.drop_of_length_le aI];simp[Ga])
   have Hval:=Aa (fun(_:Unit)=>Qfj (.slice A xs.length cA) xs wr (Fu.own hown.o aI htys.o) (fun x hx=>(htys.o x hx).2));have Hs:=Aa (Fu.own hown.o aI htys.o);clear hty;go_wp2_with fail;refine(Hval.o ()).mono ?_;rintro e w4 ⟨⟨b,rfl,hbv⟩,hb4⟩;have Hfin:=Aa (Qad h4 Hlin.o b hbv);have HbW4:=Aa (HbW.o.trans (hb4.mono HbW.o.size));have Hs4:=Aa (Hs.o.below hb4);clear hb4 hbv;cases b with
   |true=>
    go_wp2_with fail;refine aG (v:=.tuple #[.slice A xs.length cA,.bool true]) (by simp[results,results66,go_sem]) rfl ?_;exact J8.yes (xs:=xs) Hfin.o rfl Hs4.o HbW4.o
   |false=>
    go_wp2_with fail;refine aG (v:=.tuple #[.slice A xs.length cA,.bool false]) (by simp[results,results66,go_sem]) rfl ?_;exact J8.no Hfin.o rfl HbW4.o
theorem S8(s:List UInt8)(w:World)(hs:s.length<=4000000):
  Calls prog 66 #[s] w (J8 (Cb s) w):=by
 by_cases h1:400<s.length
 ·exact Tq s w hs (.inl h1)
 by_cases h2:9<(Ak 10 s).length
 ·exact Tq s w hs (.inr (.inl h2))
 by_cases h3:(Ak 10 s).getLast?=some []
 ·exact Qht s w aI h2 h3
 exact Tq s w hs (.inr (.inr h3))
def Az(s d:List UInt8):Option (List Ty × Kd):=
 match Cb s with
 |none=>none
 |some S=>match Cx d with
  |none=>none
  |some k=>if B0 S k then some (S,k)else none
def J3(o:Option (List Ty × Kd))(w:World)(e:Ending)(w':World):Prop:=
 (match o with
  |some x=>∃v xs,e=.returned (.tuple #[v,.bool true])/\Ae xs=x.1/\Fu w' v xs
  |none=>∃A n c,e=.returned (.tuple #[.slice A n c,.bool false]))/\Below w w w'
theorem J3.no{w w':World}{e:Ending}{o:Option (List Ty × Kd)}(ho:o=none){A:Option Addr}{n c:Nat}(he:e=.returned (.tuple #[.slice A n c,.bool false]))(hb:Below w w w'):J3 o w e w':=by
 rw[ho];exact⟨⟨A,n,c,he⟩,hb⟩
theorem Yj(s d:List UInt8)(w:World)(hs:s.length<=4000000)(h:Cb s=none):
  Calls prog 47 #[s,d] w (J3 (Az s d) w):=by
 have HF:=Aa (show Az s d=none by unfold Az;rw[h]);have Hof:=Aa (fun W=>S8 s W hs);rw[h]at Hof;clear h;go_enter func47,ntmps47;go_wp2_with fail;refine(Hof.o _).mono ?_;rintro e w1 ⟨⟨A,n,c,rfl⟩,hb⟩;go_wp2_with fail;refine aG (v:=.tuple #[.slice none 0 0,.bool false]) (by simp[results,results47,go_sem]) rfl ?_;exact J3.no HF.o rfl hb
theorem Qbd(s d:List UInt8)(w:World)(hs:s.length<=4000000)(hd:d.length<=4000000)(S:List Ty)(h:Cb s=some S)(hk:Cx d=none):
  Calls prog 47 #[s,d] w (J3 (Az s d) w):=by
 have HF:=Aa (show Az s d=none by unfold Az;rw[h,hk]);have Hof:=Aa (fun W=>S8 s W hs);have Hkd:=Aa (fun W=>Pg d.length d W (Ao _) aI);rw[h]at Hof;rw[hk]at Hkd;clear h hk;go_enter func47,ntmps47;go_wp2_with fail;refine(Hof.o _).mono ?_;rintro e w1 ⟨⟨v,xs,rfl,hx,hsc⟩,hb⟩;clear hsc;go_wp2_with fail;refine(Hkd.o _).mono ?_;rintro e w2 ⟨rfl,rfl⟩;go_wp2_with fail;refine aG (v:=.tuple #[.slice none 0 0,.bool false]) (by simp[results,results47,go_sem]) rfl ?_;exact J3.no HF.o rfl hb
theorem J3.of{w w':World}{e:Ending}{S:List Ty}{k:Kd}{v:Value}{xs:List (Ty × Value)}{b:Bool}{o:Option (List Ty × Kd)}(ho:o=if b=true then some (S,k)else none)(he:e=.returned (.tuple #[v,.bool b]))(hx:Ae xs=S)(hs:Fu w' v xs)(hb:Below w w w'):J3 o w e w':=by
 cases b with
 |true=>rw[ho];exact⟨⟨v,xs,he,hx,hs⟩,hb⟩
 |false=>
  obtain⟨A,c,rfl,_⟩:=hs;rw[ho];exact⟨⟨A,_,c,he⟩,hb⟩
theorem Qhy(s d:List UInt8)(w:World)(hs:s.length<=4000000)(S:List Ty)(h:Cb s=some S)(k:Kd)(hk:Cx d=some k):
  Calls prog 47 #[s,d] w (J3 (Az s d) w):=by
 obtain⟨hok,rfl⟩:=Fe.1 hk;have HF:=Aa (show Az s (Bc k)=if B0 S k then some (S,k)else none by unfold Az;rw[h,hk]);have Hof:=Aa (fun W=>S8 s W hs);have hl:=hok.2.2;have Hkd:=Aa (fun W=>Pg (Bc k).length (Bc k) W (Ao _) aI);have Hok:=Aa hok;rw[h]at Hof;rw[hk]at Hkd;clear h hk hok;go_enter func47,ntmps47;go_wp2_with fail;refine(Hof.o _).mono ?_;rintro e w1 ⟨⟨v,xs,rfl,hx,hsc⟩,hb⟩;subst hx;have Hsc:=Aa hsc;obtain⟨A,c,rfl,_,_,hfds⟩:=hsc;have Hfds:=Aa hfds;have Hb:=Aa hb;clear hb hfds;go_wp2_with fail;refine(Hkd.o _).mono ?_;rintro e w2 ⟨rfl,rfl⟩;go_wp2_with fail;refine(Nd k Hok.o _).mono ?_;rintro e w2 ⟨rfl,rfl⟩;go_wp2_with fail;refine(Ru k Hok.o _).mono ?_;rintro e w2 ⟨rfl,rfl⟩;go_wp2_with fail;refine(Tz _ xs (V0 k) _ Hsc.o).mono ?_;rintro e w2 ⟨rfl,hb2⟩;have Hb2:=Aa (Hb.o.trans (hb2.mono Hb.o.size));have Hs2:=Aa (Hsc.o.below hb2);clear hb2;cases hx2:Ds xs (V0 k)with
 |none=>
  unfold Vg Pu;rcases hir:Vt k with _|_
  ·have Hr:=Aa (show (if B0 (Ae xs) k then some (Ae xs,k)else none)=if (true:Bool)=true then some (Ae xs,k)else none by
    have:=Mr xs k;rw[hx2,hir]at this;simp at this;simp[this])
   go_wp2_with fail;refine aG (v:=.tuple #[.slice A xs.length c,.bool true]) (by simp[results,results47,go_sem]) rfl ?_;exact lr
  have Hr:=Aa (show (if B0 (Ae xs) k then some (Ae xs,k)else none)=if (false:Bool)=true then some (Ae xs,k)else none by
   have:=Mr xs k;rw[hx2,hir]at this;simp at this;simp[this])
  go_wp2_with fail;refine aG (v:=.tuple #[.slice A xs.length c,.bool false]) (by simp[results,results47,go_sem]) rfl ?_;exact J3.of (b:=false) (HF.o.trans Hr.o) rfl rfl (Hs2.o.below ((Am _ _).alloc (Ao _) _)) bg
 |some y=>
  obtain⟨ty,yv⟩:=y;obtain⟨A5,c5,e5,_⟩:=Hfds.o _ (Cp hx2).1;simp only[]at e5;subst e5;unfold Vg Kt;rcases hir:Vt k with _|_
  ·have Hr:=Aa (show (if B0 (Ae xs) k then some (Ae xs,k)else none)=if (true:Bool)=true then some (Ae xs,k)else none by
    have:=Mr xs k;rw[hx2,hir]at this;simp at this;simp[this])
   go_wp2_with fail;refine aG (v:=.tuple #[.slice A xs.length c,.bool true]) (by simp[results,results47,go_sem]) rfl ?_;exact lr
  have Hr:=Aa (show (if B0 (Ae xs) k then some (Ae xs,k)else none)=if (true:Bool)=true then some (Ae xs,k)else none by
   have:=Mr xs k;rw[hx2,hir]at this;simp at this;simp[this])
  go_wp2_with fail;refine aG (v:=.tuple #[.slice A xs.length c,.bool true]) (by simp[results,results47,go_sem]) rfl ?_;exact lr
theorem N8(s d:List UInt8)(w:World)(hs:s.length<=4000000)(hd:d.length<=4000000):
  Calls prog 47 #[s,d] w (J3 (Az s d) w):=by
 cases h:Cb s with
 |none=>exact Yj s d w hs h
 |some S=>cases hk:Cx d with
  |none=>exact Qbd s d w hs hd S h hk
  |some k=>exact Qhy s d w hs S h k hk
theorem Qfd{s d:List UInt8}{S:List Ty}{k:Kd}(h:Az s d=some (S,k)):Cb s=some S/\Cx d=some k/\B0 S k:=by
 unfold Az at h;cases h1:Cb s with
 |none=>rw[h1]at h;cases h
 |some T=>cases h2:Cx d with
  |none=>rw[h1,h2]at h;cases h
  |some q=>
   rw[h1,h2]at h;simp only at h;split at h
   ·rename_i hr;simp only[ak,aF]at h;obtain⟨rfl,rfl⟩:=h;exact⟨rfl,rfl,hr⟩
   cases h
theorem Dn{s d:List UInt8}{S:List Ty}{k:Kd}(h:Az s d=some (S,k)):Je S/\s.length<=400/\scB S=s/\Cm k/\Bc k=d/\B0 S k:=by
 obtain⟨h1,h2,h3⟩:=Qfd h;obtain⟨a1,a2,a3⟩:=Ph.1 h1;obtain⟨b1,b2⟩:=Fe.1 h2;exact⟨a1,a2,a3,b1,b2,h3⟩
theorem Dj.grown{w w':World}{g p:Nat}{v:Value}{fs:List Fd}(h:Dj w v fs)(hR:Et w g p)(hg:w.grownBy w' (some g)):Dj w' v fs:=by
 obtain⟨A,c,e,hl,hr⟩:=h;refine⟨A,c,e,hl,hr.grown hg (fun b off e1 hn=>?_)⟩;rintro rfl;obtain⟨b',off',e',_,c0,c1,_,_⟩:=Dj.at_ hr (i:=0) aI;rw[e1]at e';injection e' with e';injection e' with e2 e3;subst e2 e3;obtain⟨A2,n2,c2,l2,hh,_⟩:=hR;rcases(show off=0\/off=1\/2<=off by omega)with ho|ho|ho
 ·exact kI
 ·subst ho;simp[World.cell?,hh]at c1
 obtain⟨k,rfl⟩:∃k,off=k+2:=⟨off - 2,by omega⟩
 simp[World.cell?,hh]at c0
theorem Fu.grown{w w':World}{g p:Nat}{v:Value}{xs:List (Ty × Value)}(h:Fu w v xs)(hR:Et w g p)(hg:w.grownBy w' (some g)):Fu w' v xs:=by
 obtain⟨A,c,e,hl,hr,hf⟩:=h;refine⟨A,c,e,hl,hr.grown hg (fun b off e1 hn=>?_),fun x hx=>(hf x hx).grown hR hg⟩;rintro rfl;obtain⟨b',off',e',_,c0,_,_⟩:=Fu.at_ hr (i:=0) aI;rw[e1]at e';injection e' with e';injection e' with e2 e3;subst e2 e3;obtain⟨A2,n2,c2,l2,hh,_⟩:=hR;rcases(show off=0\/off=1\/2<=off by omega)with ho|ho|ho
 ·exact kI
 ·exact kI
 obtain⟨k,rfl⟩:∃k,off=k+2:=⟨off - 2,by omega⟩
 simp[World.cell?,hh]at c0
end
end Go.Proofs.YtpjijpcemejlnaaGreatDoor
