/- Texts joined. Conditions: as each theorem names them. -/
import Derived.BigQuiet
import Derived.Test.YtmmhmlmfhpfgbaaGreatDoorF11
import Derived.Test.YtmmhmlmfhpfgbaaGreatDoorF12
import Derived.Test.YtmmhmlmfhpfgbaaGreatDoorF13
set_option maxRecDepth 100000
set_option maxHeartbeats 32000000
set_option linter.unusedVariables false
set_option linter.unusedSimpArgs false
namespace Go.Proofs.YtmmhmlmfhpfgbaaGreatDoor
open Go.RowKit Go.Proofs.Tryz
theorem Qal(s:List UInt8)(w:World)(hs:s.length<=1000):
  Calls prog 150 #[s] w (D2 (Dr s) w):=by
 rcases Ga 61 s with⟨hn,_⟩|⟨p,u,h,hp,_⟩
 ·exact Qfm s w hs hn
 cases p with
 |nil=>exact Qeu s u w hs h
 |cons c nm=>
  rcases Bool.eq_false_or_eq_true (Be nm)with hnm|hnm
  ·by_cases hso:Eh c
   ·by_cases hu:u=[]
    ·rcases hso with rfl|rfl|rfl
     ·exact Qcf s nm u w hs h hp hnm hu
     ·exact Qcs s nm u w hs h hp hnm hu
     exact Qcj s nm u w hs h hp hnm hu
    rcases hso with rfl|rfl|rfl
    ·exact sType_full82 s nm u w hs h hp hnm hu
    ·exact sType_full85 s nm u w hs h hp hnm hu
    exact sType_full69 s nm u w hs h hp hnm hu
   exact Qe5 s c nm u w hs h hp hnm hso
  exact Qe8 s c nm u w hs h hp hnm
section
attribute [local go_sem] Qoe Qnf Qmu Qk2 ByteArray.mk_append_mk
def sfR:Option Fd->Value
 |some f=>.tuple #[sfV f,.bool true]
 |none=>.tuple #[sf0,.bool false]
theorem Sx(st nm fv:Value)(fs:List Fd)(n:Nat)(w:World)(h:Dq w fv fs)(hn:n<=1000000000):
  Calls prog 171 #[.agg #[st,nm,fv],.int .i64 n] w fun e w'=>e=.returned (sfR (Au fs n))/\Below w w w':=by
 obtain⟨A,c,rfl,hl,hr⟩:=h;have Hr:=Aa hr;clear hr;go_enter func171,ntmps171;go_wp2_with fail;go_loopw [6] (fun i wr=>∃k:Nat,i=.int .i64 k/\k<=fs.length/\wr=(w.alloc (.cells #[st,nm,.slice A fs.length c] 143)).alloc (.cells #[.int .i64 0,a6,a6,a6] 157)/\Hid (∀f∈fs.take k,decide (f.tag=n)=false)) (fun i _=>fs.length - (intOf i).toNat)
 case atStart=>exact⟨0,rfl,ag _,rfl,by intro f hf;simp at hf⟩
 case round=>
  obtain⟨k,rfl,hk,rfl,hin⟩:=hrel;by_cases hlt:k<fs.length
  ·obtain⟨b,off,rfl,hb,c0,c1,c2,c3⟩:=Dq.at_ Hr.o hlt;have Hts:=Aa (Cb fs k hlt);have Hft:=Aa (Ri (p:=fun f=>decide (f.tag=n)) hlt hin.o);generalize fs[k]=f at c0 c1 c2 c3 Hts Hft;have k1:(0:Int)<=(k:Int):=aH;have k2:(k:Int)<(fs.length:Int):=aH;by_cases he:f.tag=n
   ·have t1:((f.tag:Int) == (n:Int))=true:=by simp[he]
    have Hfin:=Aa (show Au fs n=some f by unfold Au;rw[Hft.o,if_pos de]);clear he;go_wp2_with fail;exact aF (v:=.tuple #[sfV f,.bool true]) (by simp[results,results171,go_sem,sfV]) rfl ⟨by rw[Hfin.o];rfl,((Ao _ _).alloc (An _) _).alloc aK _⟩
   have t1:((f.tag:Int) == (n:Int))=false:=cq
   have Hin:=Aa (show ∀g∈fs.take (k+1),decide (g.tag=n)=false by
    intro g hg;rw[Hts.o]at hg;rcases af.1 hg with hg|hg
    ·exact hin.o g hg
    simp at hg;subst hg;simpa using he)
   clear he;go_wp2_with fail;go_roundw
   case rel=>exact⟨k+1,by go_num,by omega,Ac,Hin.o⟩
   case measure=>simp[intOf];omega
  ·have Hfin:=@Aa (Au fs n=none) (Nq (fun f hf=>hin.o f dO));go_wp2_with fail;exact aF (v:=.tuple #[sf0,.bool false]) (by simp[results,results171,go_sem,sf0]) rfl ⟨by rw[Hfin.o];rfl,((Ao _ _).alloc (An _) _).alloc aK _⟩
def Vn:Option (Ty × Value)->Value
 |some x=>.tuple #[Kx x.1 x.2,.bool true]
 |none=>.tuple #[P6,.bool false]
theorem Vw(v:Value)(xs:List (Ty × Value))(n:List UInt8)(w:World)(h:Gb w v xs):
  Calls prog 98 #[v,n] w fun e w'=>e=.returned (Vn (Dy xs n))/\Below w w w':=by
 obtain⟨A,c,rfl,hl,hr,hf⟩:=h;have Hr:=Aa hr;have Hf:=Aa hf;clear hr hf;go_enter func98,ntmps98;go_wp2_with fail;go_loopw [6] (fun i wr=>∃k:Nat,i=.int .i64 k/\k<=xs.length/\wr=w.alloc (.cells #[.int .u8 0,a6,.slice none 0 0] 143)/\Hid (∀x∈xs.take k,decide (x.1.name=n)=false)) (fun i _=>xs.length - (intOf i).toNat)
 case atStart=>exact⟨0,rfl,ag _,rfl,by intro f hf;simp at hf⟩
 case round=>
  obtain⟨k,rfl,hk,rfl,hin⟩:=hrel;by_cases hlt:k<xs.length
  ·obtain⟨b,off,rfl,hb,c0,c1,c2⟩:=Gb.at_ Hr.o hlt;have Hts:=Aa (Cb xs k hlt);have Hft:=Aa (Ri (p:=fun x=>decide (x.1.name=n)) hlt hin.o);have hfx:=Hf.o _ (ae hlt);generalize xs[k]=x at c0 c1 c2 Hts Hft hfx;obtain⟨t,fv⟩:=x;simp only[]at c0 c1 c2 hfx;obtain⟨A2,d2,hfv,_⟩:=hfx;subst hfv;have k1:(0:Int)<=(k:Int):=aH;have k2:(k:Int)<(xs.length:Int):=aH;by_cases he:t.name=n
   ·have t1:(t.name == n)=true:=by simp[he]
    have Hfin:=Aa (show Dy xs n=some (t,.slice A2 t.fields.length d2)by unfold Dy;rw[Hft.o,if_pos de]);clear he;go_wp2_with fail;refine aF (v:=.tuple #[Kx t (.slice A2 t.fields.length d2),.bool true]) (by simp[results,results98,go_sem,Kx]) rfl ?_;exact ke
   have t1:(t.name == n)=false:=de
   have Hin:=Aa (show ∀g∈xs.take (k+1),decide (g.1.name=n)=false by
    intro g hg;rw[Hts.o]at hg;rcases af.1 hg with hg|hg
    ·exact hin.o g hg
    simp at hg;subst hg;simpa using he)
   clear he;go_wp2_with fail;go_roundw
   case rel=>exact⟨k+1,by go_num,by omega,Ac,Hin.o⟩
   case measure=>simp[intOf];omega
  ·have Hfin:=@Aa (Dy xs n=none) (Nq (fun f hf=>hin.o f dO));go_wp2_with fail;refine aF (v:=.tuple #[P6,.bool false]) (by simp[results,results98,go_sem,P6]) rfl ?_;exact ke
theorem Ql7{k:Kd}(h:Ck k):(k.signs=[]/\k.base=[64]/\Ax k=64::(k.name++[59])/\k.name.length<=3)\/(¬(k.signs=[]/\k.base=[64])/\∃c t,Ax k=c::t/\c≠64/\t.length<=12):=by
 obtain⟨h1,h2,h3⟩:=h;cases hs:k.signs with
 |cons c t=>
  refine .inr ⟨by simp,c,t++Bu k,by unfold Ax;rw[hs];rfl,?_,?_⟩
  ·rw[hs]at h1;simp only[List.all_cons,aw]at h1;rintro rfl;exact absurd h1.1 aJ
  unfold Ax at h3;rw[hs]at h3;simp at h3 ⊢;omega
 |nil=>
  rcases h2 with⟨hb,hn⟩|⟨hb,_⟩
  ·exact .inl ⟨rfl,hb,by unfold Ax Bu;rw[hs,if_pos hb];rfl,(Ds.1 hn).2.1⟩
  refine .inr ⟨?_,?_⟩
  ·rintro⟨_,h⟩;rcases hb with hb|hb|hb<;>· rw[hb]at h;revert h;decide
  have hc:Ax k=k.base:=by
   unfold Ax Bu;rw[hs,if_neg (by rcases hb with hb|hb|hb<;>· rw[hb];decide)];rfl
  rw[hc];rcases hb with hb|hb|hb<;>· rw[hb];exact⟨_,_,rfl,by decide,by simp⟩
theorem Ey(v:Value)(xs:List (Ty × Value))(k:Kd)(w:World)(h:Gb w v xs)(hk:Ck k):
  Calls prog 101 #[v,.string ⟨(Ax k).toArray⟩] w fun e w'=>e=.returned (Vn (Jq xs k))/\Below w w w':=by
 have H:=Aa h;clear h;rcases Ql7 hk with⟨h1,h2,h3,h4⟩|⟨h1,c,t,h3,h4,h5⟩
 ·have Hr:=@Aa (Jq xs k=Dy xs k.name) (if_pos ⟨h1,h2⟩);rw[h3];clear h1 h2 h3;go_enter func101,ntmps101;go_wp2_with fail;refine(Qau k.name _ aH).mono ?_;rintro e w' ⟨rfl,rfl⟩;go_wp2_with fail;refine(Vw v xs k.name _ (H.o.below ((Ao _ _).alloc (An _) _))).mono ?_;rintro e w2 ⟨rfl,hb⟩;cases hf:Dy xs k.name with
  |none=>
   rw[hf]at Hr;obtain⟨hc,hfz,hz⟩:=Cj hb;have Hb:=Aa (((Ao w.heap.size w).alloc (An _) _).trans (hb.mono aK));clear hb hf;unfold Vn P6;go_wp2_with fail;refine aF (v:=.tuple #[P6,.bool false]) (by simp[results,results101,go_sem,P6,hc]) rfl ?_;exact kg
  |some x=>
   obtain⟨t,fv⟩:=x;have hm:=(Cp hf).1;obtain⟨A,c,_,_,_,hfs⟩:=H.o;obtain⟨A2,d2,e2,_⟩:=hfs _ hm;simp only at e2;subst e2;rw[hf]at Hr;obtain⟨hc,hfz,hz⟩:=Cj hb;have Hb:=Aa (((Ao w.heap.size w).alloc (An _) _).trans (hb.mono aK));clear hb hf hm hfs;unfold Vn Kx;go_wp2_with fail;refine aF (v:=.tuple #[Kx t (.slice A2 t.fields.length d2),.bool true]) (by simp[results,results101,go_sem,Kx,hc]) rfl ?_;exact kg
 have Hr:=@Aa (Jq xs k=none) (if_neg h1);rw[h3];clear h1 h3;go_enter func101,ntmps101;go_wp2_with fail;refine(Qdb c t _ h4 aH).mono ?_;rintro e w' ⟨rfl,rfl⟩;go_wp2_with fail;refine aF (v:=.tuple #[P6,.bool false]) (by simp[results,results101,go_sem,P6]) rfl ?_;exact⟨by rw[Hr.o];rfl,(Ao _ _).alloc (An _) _⟩
theorem Qlh(S:List Ty)(n:Nat)(t:Ty)(h:t.sort≠85):Ca S (n+1) t=true:=by
 simp only[Ca,Fy,if_neg h]
theorem Qju(xs:List (Ty × Value))(n:Nat)(t:Ty)(f:Fd)(fs:List Fd)(h:t.sort=85)(hf:t.fields=f::fs):
  Ca (Ad xs) (n+1) t=(match Jq xs f.kind with|none=>true|some u=>Ca (Ad xs) n u.1):=by
 simp only[Ca,Fy,if_pos h,hf,Jq];by_cases hk:f.kind.signs=[]/\f.kind.base=[64]
 ·rw[if_pos hk,if_pos hk,G6];cases Dy xs f.kind.name<;>rfl
 rw[if_neg hk,if_neg hk]
theorem Qga{t:Ty}(h:Fi t)(hs:t.sort=85):∃f fs,t.fields=f::fs/\Ck f.kind:=by
 obtain⟨h1,h2,h3,h4,h5⟩:=h;cases hf:t.fields with
 |nil=>have:=h5 hf;rw[hs]at this;exact absurd this aJ
 |cons f fs=>
  refine⟨f,fs,rfl,?_⟩;have:=h3.1 f ei;exact(this.2.2.2.2 ey).1
theorem Qkl{xs:List (Ty × Value)}{k:Kd}{x:Ty × Value}(h:Jq xs k=some x):x∈xs:=by
 unfold Jq at h;split at h
 ·exact(Cp h).1
 cases h
theorem Qht(v fv:Value)(xs:List (Ty × Value))(t:Ty)(w:World)(h:Gb w v xs)(ht:Fi t)(hft:Dq w fv t.fields)(hok:∀x∈xs,Fi x.1):
  Calls prog 204 #[v,Kx t fv] w fun e w'=>e=.returned (.bool (Ca (Ad xs) (xs.length+1) t))/\Below w w w':=by
 have H:=Aa h;have Hok:=Aa hok;obtain⟨A,c,rfl,hxl,_⟩:=h;obtain⟨A1,c1,rfl,hfl,hr1⟩:=hft;have Hr1:=Aa hr1;have Ht:=Aa ht;clear hok hr1 ht;unfold Kx;go_enter func204,ntmps204;go_wp2_with fail
 go_loopw [5] (fun i wr=>∃(n:Nat) (cur:Ty) (A2:Option Addr) (c2:Nat),i=.int .i64 n/\n<=xs.length+1/\Hid (Fi cur)/\Hid (B0 w A2 (cur.fields.length*4) (cur.fields.flatMap Ky)) /\
   Hid (Ca (Ad xs) (xs.length+1) t=Ca (Ad xs) (xs.length+1 - n) cur)/\Hid (Below w w wr)/\w.heap.size<wr.heap.size /\
   wr.cell? (w,0)=some (.int .u8 (cur.sort.toNat:Int))/\wr.cell? (w,1)=cur.name/\wr.cell? (w,2)=some (.slice A2 cur.fields.length c2) /\
   (∀j,wr.frozen? ⟨w.heap.size,j,none⟩=false)) (fun i _=>xs.length+1 - (intOf i).toNat)
 case atStart=>exact⟨0,t,A1,c1,rfl,ag _,Ht.o,Hr1.o,rfl,(Ao _ _).alloc (An _) _,by simp,by simp,by simp,by simp,by simp⟩
 case round=>
  obtain⟨n,cur,A2,c2,rfl,hn,hcu,hrow,heq,hb,hsz,u0,u1,u2,f1⟩:=hrel;by_cases hlt:n<=xs.length
  ·have k1:(n:Int)<=(xs.length:Int):=aH;obtain⟨m,hm⟩:∃m,xs.length+1 - n=m+1:=⟨xs.length - n,by omega⟩
   have hm2:xs.length+1 - (n+1)=m:=aH;rw[hm]at heq;have hcl:=cur.sort.toNat_lt;by_cases hs:cur.sort=85
   ·have t1:((cur.sort.toNat:Int) != 85)=false:=by have:=Bj hs;simpa using this
    have t2:((cur.sort.toNat:Int) == 85)=true:=Bj hs;obtain⟨f,fs,hfs,hkd⟩:=Qga hcu.o hs;have Heq:=Aa (show Ca (Ad xs) (xs.length+1) t=(match Jq xs f.kind with|none=>true|some u=>Ca (Ad xs) m u.1)by rw[heq.o];exact Qju xs m cur f fs hs hfs);have hlf:0<cur.fields.length:=cV;have hf0:cur.fields[0]=f:=by simp[hfs]
    obtain⟨b,off,rfl,hbl,g0,g1,g2,g3⟩:=Dq.at_ (hrow.o.below hb.o) hlf;rw[hf0]at g0 g1 g2 g3;simp only[Nat.zero_mul,Nat.add_zero]at g0 g1 g2 g3;have Hkd:=Aa hkd;have l1:(0:Int)<(cur.fields.length:Int):=aH;clear hs heq hkd hf0 hfs;go_wp2_with fail;refine(Ey (.slice A xs.length c) xs f.kind _ (H.o.below hb.o) Hkd.o).mono ?_;rintro e w4 ⟨rfl,hb4⟩;obtain⟨hc4,hfz4,hz4⟩:=Cj hb4;have Hb5:=Aa (hb.o.trans (hb4.mono (Nat.le_of_lt hsz)));rw[<-hc4 _ _ hsz]at u0 u1 u2;have f1':∀j,w4.frozen? ⟨w.heap.size,j,none⟩=false:=fun j=>(hfz4 _ j hsz).trans (f1 j);have hsz4:=hz4 _ hsz;have Hrow':=Aa (fun(x:Ty × Value) (hx:x∈xs)=>((show ∀x∈xs,Dq w x.2 x.1.fields from(by obtain⟨_,_,_,_,_,hf⟩:=H.o;exact hf)) x hx));have hn1:¬(w4.heap.size=w.heap.size):=aH;have hn2:¬(w.heap.size=w4.heap.size):=aH;clear hb4 hc4 hfz4 hz4 f1 hb;cases hr:Jq xs f.kind with
    |none=>
     rw[hr]at Heq;unfold Vn P6;go_wp2_with fail;go_ret;exact⟨by rw[Heq.o];first|rfl|trivial,ci⟩
    |some x=>
     rw[hr]at Heq;obtain⟨u,uv⟩:=x;have Hm:=Aa (Qkl hr);obtain⟨A5,c5,e5,_,hr5⟩:=Hrow'.out _ Hm.o;simp only[]at e5 hr5;subst e5;have Hr5:=Aa hr5;clear hr hr5;unfold Vn Kx;go_wp2_with fail;go_roundw
     case rel=>
      refine⟨n+1,u,A5,c5,by go_num,by omega,Hok.o _ Hm.o,Hr5.o,by rw[hm2];exact Heq.o,ci,by simp;omega,by simp[go_sem,u0,u1,u2,f1',hn1,hn2,hsz4],by simp[go_sem,u0,u1,u2,f1',hn1,hn2,hsz4],by simp[go_sem,u0,u1,u2,f1',hn1,hn2,hsz4],by intro j;simp[go_sem,f1',hn1,hn2,hsz4]⟩
     case measure=>simp[intOf];omega
   have t1:((cur.sort.toNat:Int) != 85)=true:=by have:=Ap hs;simpa using this
   have t2:((cur.sort.toNat:Int) == 85)=false:=Ap hs;have Hend:=Aa (show Ca (Ad xs) (xs.length+1) t=true by rw[heq.o];exact Qlh _ m cur hs);clear hs heq;go_wp2_with fail;exact kh
  ·have k1:¬(n:Int)<=(xs.length:Int):=aH;have Hend:=Aa (show Ca (Ad xs) (xs.length+1) t=false by rw[heq.o,show xs.length+1 - n=0 by omega];rfl);clear heq;go_wp2_with fail;exact kh
def Xd(k:Kd):Bool:=decide (k.base=[64])
def V9(k:Kd):List UInt8:=if k.base=[64]then k.name else[]
theorem Rw(k:Kd)(hk:Ck k)(w:World):
  Calls prog 96 #[.string ⟨(Bu k).toArray⟩] w fun e w'=>e=.returned (.tuple #[.string ⟨(V9 k).toArray⟩,.bool (Xd k)])/\w=w':=by
 obtain⟨_,hb,hl⟩:=hk;unfold Bu V9 Xd;by_cases h:k.base=[64]
 ·rw[if_pos h,if_pos h,aD h];refine Qau k.name w ?_;rcases hb with⟨_,hn⟩|⟨h2,_⟩
  ·have:=(Ds.1 hn).2.1;omega
  rcases h2 with h2|h2|h2<;>· rw[h]at h2;exact absurd h2 aJ
 rw[if_neg h,if_neg h,aC h];rcases hb with⟨h2,_⟩|⟨h2,_⟩
 ·exact absurd h2 h
 rcases h2 with h2|h2|h2<;>· rw[h2];exact Qdb _ [] w aJ aK
theorem Nk(k:Kd)(hk:Ck k)(w:World):
  Calls prog 97 #[.string ⟨(Ax k).toArray⟩] w fun e w'=>e=.returned (.string ⟨(Bu k).toArray⟩)/\w=w':=
 Qf0 k w hk.1 (Qav hk.2.1) cd
theorem Mx(xs:List (Ty × Value))(k:Kd):B6 (Ad xs) k↔(Xd k=true->(Dy xs (V9 k)).isSome=true):=by
 unfold B6 Xd V9;by_cases h:k.base=[64]
 ·rw[if_pos h,G6];simp[h]
 rw[if_neg h];simp[h]
def Vo(S:List Ty):Prop:=(S.Pairwise fun t u=>t.name≠u.name)/\H8 S/\∀t∈S,Ca S (S.length+1) t=true
def Qfj(xs:List (Ty × Value))(k:Nat):Prop:=
 (((xs.take k).map (·.1)).Pairwise fun t u=>t.name≠u.name)/\∀x∈xs.take k,x.1.sort≠69->∀f∈x.1.fields,B6 (Ad xs) f.kind
theorem Qh4(xs:List (Ty × Value)):Qfj xs 0:=⟨by simp,by simp⟩
theorem Qhf{xs:List (Ty × Value)}{k:Nat}(hk:k<xs.length)(h:Qfj xs k)(h1:∀x∈xs.take k,x.1.name≠xs[k].1.name)(h2:xs[k].1.sort≠69->∀f∈xs[k].1.fields,B6 (Ad xs) f.kind):Qfj xs (k+1):=by
 unfold Qfj;rw[Cb xs k hk];refine⟨?_,?_⟩
 ·rw[az,List.pairwise_append];refine⟨h.1,by simp,?_⟩;intro a ha b hb;obtain⟨x,hx,rfl⟩:=ax.1 ha;simp at hb;subst hb;exact h1 x hx
 intro x hx;rcases af.1 hx with hx|hx
 ·exact h.2 x hx
 simp at hx;subst hx;exact h2
theorem Qjh{xs:List (Ty × Value)}(h:Qfj xs xs.length):((Ad xs).Pairwise fun t u=>t.name≠u.name)/\H8 (Ad xs):=by
 unfold Qfj at h;rw[List.take_length]at h;refine⟨h.1,?_⟩;intro t ht hs f hf;obtain⟨x,hx,rfl⟩:=ax.1 ht;exact h.2 x hx hs f hf
theorem Qik{xs:List (Ty × Value)}{j k:Nat}(hjk:j<k)(hk:k<xs.length)(h:xs[j].1.name=xs[k].1.name):¬Vo (Ad xs):=by
 rintro⟨hp,_⟩;have:=List.pairwise_iff_getElem.1 hp j k (by unfold Ad;simp;omega) (by unfold Ad;simp;omega) hjk;unfold Ad at this;simp at this;exact this h
theorem Qj5{xs:List (Ty × Value)}{k j:Nat}(hk:k<xs.length)(hs:xs[k].1.sort≠69)(hj:j<xs[k].1.fields.length)(h:¬B6 (Ad xs) xs[k].1.fields[j].kind):¬Vo (Ad xs):=by
 rintro⟨_,hp,_⟩;exact h (hp xs[k].1 (ax.2 ⟨xs[k],ae hk,rfl⟩) hs _ (ae hj))
theorem Qi8{xs:List (Ty × Value)}{k:Nat}(hk:k<xs.length)(h:Ca (Ad xs) (xs.length+1) xs[k].1=false):¬Vo (Ad xs):=by
 rintro⟨_,_,hp⟩;have:=hp xs[k].1 (ax.2 ⟨xs[k],ae hk,rfl⟩);rw[show (Ad xs).length=xs.length by unfold Ad;simp,h]at this;cases this
theorem Qe9(v:Value)(xs:List (Ty × Value))(w:World)(h:Gb w v xs)(hok:∀x∈xs,Fi x.1):
  Calls prog 151 #[v] w fun e w'=>(∃b,e=.returned (.bool b)/\(b=true↔Vo (Ad xs)))/\Below w w w':=by
 have H:=Aa h;have Hok:=Aa hok;obtain⟨A,c,rfl,hxl,hrow,hfds⟩:=h;have Hrow:=Aa hrow;have Hfds:=Aa hfds;clear hok hrow hfds;go_enter func151,ntmps151;go_wp2_with fail;go_loopw [3] (fun i wr=>∃k:Nat,i=.int .i64 k/\k<=xs.length/\Hid (Qfj xs k)/\Hid (Below w w wr)) (fun i _=>xs.length - (intOf i).toNat)
 case atStart=>exact⟨0,rfl,ag _,Qh4 xs,Ao _ _⟩
 case round=>
  obtain⟨k,rfl,hk,hto,hbr⟩:=hrel;by_cases hlt:k<xs.length
  ·have k1:(0:Int)<=(k:Int):=aH;have k2:(k:Int)<(xs.length:Int):=aH;go_wp2_with fail;go_loopw [4] (fun i wq=>∃j:Nat,i=.int .i64 j/\j<=k/\(∃q,wq=wr.drewN q)/\Hid (∀x∈xs.take j,x.1.name≠xs[k].1.name)) (fun i _=>k - (intOf i).toNat)
   case atStart=>exact⟨0,rfl,ag _,⟨0,rfl⟩,by intro x hx;simp at hx⟩
   case round=>
    obtain⟨j,rfl,hj,⟨q,rfl⟩,hin⟩:=hrel;obtain⟨b,off,rfl,hbl,c0,c1,c2⟩:=Gb.at_ (Hrow.o.below hbr.o) hlt;by_cases hjl:j<k
    ·obtain⟨b',off',e',hbl',d0,d1,d2⟩:=Gb.at_ (Hrow.o.below hbr.o) (show j<xs.length by omega);simp only[aj,Addr.mk.injEq]at e';obtain⟨rfl,rfl,_⟩:=e';have Hnn:=Aa (fun h=>Qik (xs:=xs) hjl hlt h);have Hts:=Aa (Cb xs j (show j<xs.length by omega));have j1:(0:Int)<=(j:Int):=aH;have j2:(j:Int)<(xs.length:Int):=aH;have j3:(j:Int)<(k:Int):=aH;by_cases he:xs[j].1.name=xs[k].1.name
     ·have t1:(xs[j].1.name == xs[k].1.name)=true:=de;have Hno:=Aa (Hnn.o he);clear he;go_wp2_with fail;go_quiet (fail)
      go_wp2_with fail;go_ret;exact⟨⟨false,rfl,by simp[Hno.o]⟩,below_drewN (below_drewN hbr.o q) _⟩
     have t1:(xs[j].1.name == xs[k].1.name)=false:=de
     have Hin:=Aa (show ∀x∈xs.take (j+1),x.1.name≠xs[k].1.name by
      intro x hx;rw[Hts.o]at hx;rcases af.1 hx with hx|hx
      ·exact hin.o x hx
      simp at hx;subst hx;exact he)
     clear he;go_wp2_with fail;go_quiet (fail)
     go_wp2
     go_roundw
     case rel=>exact⟨j+1,by go_num,by omega,⟨_,rfl⟩,Hin.o⟩
     case measure=>simp[intOf];omega
    ·obtain rfl:j=k:=aH;have j3:¬(j:Int)<(j:Int):=aH;have Hbk:=Aa (below_drewN hbr.o q);have Hnk:=Aa hin.o;have Hxk:=Aa (Hfds.o _ (ae hlt));have Hokk:=Aa (Hok.o _ (ae hlt));have Hnok:=Aa (fun(jj:Nat) (hs:xs[j].1.sort≠69) (hjj:jj<xs[j].1.fields.length) h=>Qj5 hlt hs hjj h);have Hsuc:=Aa (fun h2=>Qhf hlt hto.o Hnk.o h2);clear hin hbl c0 c1 c2 hto;go_wp2_with fail;go_loopw [5] (fun i wq=>∃m:Nat,i=.int .i64 m/\m<=(xs[j]).1.fields.length/\Hid (Below w w wq)/\Hid (∀f∈(xs[j]).1.fields.take m,B6 (Ad xs) f.kind)) (fun i _=>(xs[j]).1.fields.length - (intOf i).toNat)
     case atStart=>exact⟨0,rfl,ag _,Hbk.o,by intro x hx;simp at hx⟩
     case round=>
      obtain⟨m,rfl,hm,hbq,hin⟩:=hrel;obtain⟨b',off',e',hbl',d0,d1,d2⟩:=Gb.at_ (Hrow.o.below hbq.o) hlt;simp only[aj,Addr.mk.injEq]at e';obtain⟨rfl,rfl,_⟩:=e';generalize xs[j]=x at d0 d1 d2 Hxk Hokk Hnok Hsuc hin hm ⊢;obtain⟨t,fv⟩:=x;simp only[]at d0 d1 d2 hm;obtain⟨A2,c2,e2,hfl,hr2⟩:=Hxk.o;simp only[]at e2;subst e2;have Hr2:=Aa hr2;clear hr2;have hsl:=t.sort.toNat_lt;have hfl':t.fields.length<=1000:=hfl;by_cases hml:m<t.fields.length
      ·have m1:(0:Int)<=(m:Int):=aH;have m2:(m:Int)<(t.fields.length:Int):=aH;by_cases hs:t.sort=69
       ·have t1:((t.sort.toNat:Int) != 69)=false:=by have:=Bj hs;simpa using this
        have t2:((t.sort.toNat:Int) == 69)=true:=Bj hs;have Hto:=Aa (Hsuc.o (fun h=>absurd hs h));clear hs;go_wp2_with fail;go_roundw
        case rel=>exact⟨j+1,by go_num,by omega,Hto.o,hbq.o⟩
        case measure=>simp[intOf];omega
       have t1:((t.sort.toNat:Int) != 69)=true:=by have:=Ap hs;simpa using this
       have t2:((t.sort.toNat:Int) == 69)=false:=Ap hs;obtain⟨bf,of,rfl,hbf,g0,g1,g2,g3⟩:=Dq.at_ (Hr2.o.below hbq.o) hml;have hfm:=ae hml;have Hkd:=Aa ((Hokk.o.2.2.1.1 _ hfm).2.2.2.2 hs).1;have Hno:=Aa (fun h=>Hnok.o m hs hml h);have Hts:=Aa (Cb t.fields m hml);generalize t.fields[m]=f at g0 g1 g2 g3 Hkd Hno Hts;clear hs hfm;have Hrf:=Aa (Mx xs f.kind);have Hfind:=Aa (fun W (hW:Below w w W)=>Vw (.slice (some ⟨b,off,none⟩) xs.length c) xs (V9 f.kind) W (H.o.below hW));go_wp2_with fail;refine(Nk f.kind Hkd.o _).mono ?_;rintro e w4 ⟨rfl,rfl⟩;go_wp2_with fail;refine(Rw f.kind Hkd.o _).mono ?_;rintro e w4 ⟨rfl,rfl⟩;go_wp2_with fail;refine(Hfind.o _ hbq.o).mono ?_;rintro e w4 ⟨rfl,hb4⟩;have Hb4:=Aa (hbq.o.trans (hb4.mono hbq.o.size));clear hb4;cases hx:Dy xs (V9 f.kind)with
       |none=>
        unfold Vn P6;rcases hir:Xd f.kind with _|_
        ·have hrk:B6 (Ad xs) f.kind:=Hrf.o.2 (fun h=>by rw[hir]at h;cases h)
         have Hin:=Aa (show ∀f∈t.fields.take (m+1),B6 (Ad xs) f.kind by
          intro g hg;rw[Hts.o]at hg;rcases af.1 hg with hg|hg
          ·exact hin.o g hg
          simp at hg;subst hg;exact hrk)
         clear hrk;go_wp2_with fail;go_roundw
         case rel=>exact⟨m+1,by go_num,by omega,aW,Hin.o⟩
         case measure=>simp[intOf];omega
        have Hn:=Aa (Hno.o (fun h=>by have:=Hrf.o.1 h hir;rw[hx]at this;cases this));go_wp2_with fail;go_ret;exact⟨⟨false,rfl,by simp[Hn.o]⟩,aW⟩
       |some y=>
        have hrk:B6 (Ad xs) f.kind:=Hrf.o.2 (fun _=>by rw[hx];rfl);obtain⟨ty,yv⟩:=y;obtain⟨A5,c5,e5,_⟩:=Hfds.o _ (Cp hx).1;simp only[]at e5;subst e5;unfold Vn Kx;rcases hir:Xd f.kind with _|_
        ·skip
         have Hin:=Aa (show ∀f∈t.fields.take (m+1),B6 (Ad xs) f.kind by
          intro g hg;rw[Hts.o]at hg;rcases af.1 hg with hg|hg
          ·exact hin.o g hg
          simp at hg;subst hg;exact hrk)
         clear hrk;go_wp2_with fail;go_roundw
         case rel=>exact⟨m+1,by go_num,by omega,aW,Hin.o⟩
         case measure=>simp[intOf];omega
        skip
        have Hin:=Aa (show ∀f∈t.fields.take (m+1),B6 (Ad xs) f.kind by
         intro g hg;rw[Hts.o]at hg;rcases af.1 hg with hg|hg
         ·exact hin.o g hg
         simp at hg;subst hg;exact hrk)
        clear hrk;go_wp2_with fail;go_roundw
        case rel=>exact⟨m+1,by go_num,by omega,aW,Hin.o⟩
        case measure=>simp[intOf];omega
      ·obtain rfl:m=t.fields.length:=aH;have m2:¬(t.fields.length:Int)<(t.fields.length:Int):=aH;have Hto:=Aa (Hsuc.o (fun _ f hf=>hin.o f (by rw[List.take_length];exact hf)));go_wp2_with fail;go_roundw
       case rel=>exact⟨j+1,by go_num,by omega,Hto.o,hbq.o⟩
       case measure=>simp[intOf];omega
  ·obtain rfl:k=xs.length:=aH;have k2:¬(xs.length:Int)<(xs.length:Int):=aH;have Hall:=Aa (Qjh hto.o);clear hto;go_wp2_with fail;go_loopw [10] (fun i wq=>∃j:Nat,i=.int .i64 j/\j<=xs.length/\Hid (Below w w wq)/\Hid (∀x∈xs.take j,Ca (Ad xs) (xs.length+1) x.1=true)) (fun i _=>xs.length - (intOf i).toNat)
   case atStart=>exact⟨0,rfl,ag _,hbr.o,by intro x hx;simp at hx⟩
   case round=>
    obtain⟨j,rfl,hj,hbq,hin⟩:=hrel;by_cases hjl:j<xs.length
    ·obtain⟨b,off,rfl,hbl,d0,d1,d2⟩:=Gb.at_ (Hrow.o.below hbq.o) hjl;have Hts:=Aa (Cb xs j hjl);have Hno:=Aa (fun h=>Qi8 (xs:=xs) hjl h);have Hokj:=Aa (Hok.o _ (ae hjl));have hxj:=(Hfds.o _ (ae hjl)).below hbq.o;generalize xs[j]=x at d0 d1 d2 Hts Hno Hokj hxj;obtain⟨t,fv⟩:=x;simp only[]at d0 d1 d2 hxj;have Hxj:=Aa hxj;obtain⟨A2,c2,rfl,_⟩:=hxj;have j1:(0:Int)<=(j:Int):=aH;have j2:(j:Int)<(xs.length:Int):=aH;have He:=Aa (fun W (hW:Below w w W) (hX:Dq W (.slice A2 t.fields.length c2) t.fields)=>Qht (.slice (some ⟨b,off,none⟩) xs.length c) (.slice A2 t.fields.length c2) xs t W (H.o.below hW) Hokj.o hX Hok.o);go_wp2_with fail;refine(He.o _ hbq.o Hxj.o).mono ?_;rintro e w4 ⟨rfl,hb4⟩;have Hb4:=Aa (hbq.o.trans (hb4.mono hbq.o.size));clear hb4;rcases Bool.eq_false_or_eq_true (Ca (Ad xs) (xs.length+1) t)with he|he
     ·have Hin:=Aa (show ∀x∈xs.take (j+1),Ca (Ad xs) (xs.length+1) x.1=true by
       intro x hx;rw[Hts.o]at hx;rcases af.1 hx with hx|hx
       ·exact hin.o x hx
       simp at hx;subst hx;exact he)
      rw[he];clear he;go_wp2_with fail;go_roundw
      case rel=>exact⟨j+1,by go_num,by omega,Hb4.o,Hin.o⟩
      case measure=>simp[intOf];omega
     have Hn:=Aa (Hno.o he);rw[he];clear he;go_wp2_with fail;go_ret;exact⟨⟨false,rfl,by simp[Hn.o]⟩,Hb4.o⟩
    ·obtain rfl:j=xs.length:=aH
     have Hfin:=Aa (show Vo (Ad xs)from⟨Hall.o.1,Hall.o.2,fun t ht=>by
      obtain⟨x,hx,rfl⟩:=ax.1 ht;rw[show (Ad xs).length=xs.length by unfold Ad;simp];exact hin.o x (by rw[List.take_length];exact hx)⟩)
     clear hin;go_wp2_with fail;go_ret;exact⟨⟨true,rfl,by simp[Hfin.o]⟩,hbq.o⟩
theorem Qhz{w:World}{b1 b2 k1 k2 n1 n2:Nat}{e1 e2:TypeId}{v1 v2:Value}{xs ys:List Value}(h1:w.ownsRow b1 e1 k1 v1 n1 xs)(h2:w.ownsRow b2 e2 k2 v2 n2 ys)(hne:e1≠e2):v1.ownBlock=none\/v1.ownBlock≠v2.ownBlock:=by
 rcases h1.2 with⟨rfl,_⟩|⟨g,cap,cur,rfl,_,hh,_⟩
 ·exact .inl rfl
 rcases h2.2 with⟨rfl,_⟩|⟨g',cap',cur',rfl,_,hh',_⟩
 ·exact .inr fY
 refine .inr ?_;simp only[Value.ownBlock,ne_eq,aj];rintro rfl;rw[hh]at hh';simp only[aj,Obj.cells.injEq]at hh';exact hne hh'.2.1
section
variable {P:Program}
theorem Qde(w:World){ops:Array Oper}{rest:List Oper}{o:Oper}{a:Act}{Q:Exit->Act->World->Prop}(hgd:o.guard=none)(s x:Operand)(t:TypeId)
  (ho:o.op=.call {callee:=.builtin .append,args:=#[s,x],argTypes:=#[t,t]})
  (base:Nat) (e:TypeId) (z:Value) (k bytes:Nat) (ht:P.underlying t=some (.slice e)) (hinfo:(P.info? e).map (fun i=>(i.zero,i.size,i.bytes))=some (some z,k,bytes))
  (hzs:z.cells.size=k) (hk:0<k) (W:World) (us:List Value) (hul:us.length=k) (hw:w=W.alloc (.cells us.toArray e)) (hu:∀u∈us,u.oneCell'=true) (v:Value) (n:Nat) (xs:List Value) (hs:a.eval s=v) (hx:a.eval x=.slice (W,0) 1 1)
  (hown:W.ownsRow base e k v n xs)
  (h63:n+1<=maxLen) (hbytes:(n+1)*bytes<=140737488355328) (hbase:base<=W.heap.size)
  (h:∀v' w',w'.ownsRow base e k v' (n+1) (xs++us)->Below base W w'->(W.alloc (.cells us.toArray e)).grownBy w' v.ownBlock->wpList P ops Q rest (a.put o.dst v') w'):wpList P ops Q (o::rest) a w:=by
 subst hw;obtain⟨i0,hi,hz0,hz1,hz2⟩:=info_parts hinfo;refine wpList_append_own _ hgd s x t ho base e i0 z k bytes ht hi hz0 hz1 hz2 hzs hk v n xs hs (hown.alloc _) ⟨W.heap.size,0,none⟩ 1 1 us hx aH ?_ hu h63 hbytes ?_ ?_
 ·exact j7
 ·exact jA
 intro v' w' h1 h2 _;exact h v' w' h1 (((Ao base W).alloc hbase _).grown h2 aM (fun k hk=>(hown.lt k hk).1)) h2
end
def Mv(w:World)(base:Nat)(xs:List (Ty × Value)):Prop:=∀x∈xs,w.ownsRow base 157 4 x.2 x.1.fields.length (x.1.fields.flatMap Ky)/\Fi x.1
theorem Mv.below{w w':World}{base:Nat}{xs:List (Ty × Value)}(h:Mv w base xs)(hb:Below w w w'):Mv w' base xs:=fun x hx=>⟨Ct (h x hx).1 hb,(h x hx).2⟩
theorem Mv.grown{w w':World}{base b2 k n:Nat}{xs:List (Ty × Value)}{v:Value}{ys:List Value}{e:TypeId}(h:Mv w base xs)(hv:w.ownsRow b2 e k v n ys)(hne:157≠e)(hg:w.grownBy w' v.ownBlock):Mv w' base xs:=
 fun x hx=>⟨(h x hx).1.kept hg (Qhz (h x hx).1 hv hne),(h x hx).2⟩
theorem Mv.fds{w:World}{base:Nat}{xs:List (Ty × Value)}(h:Mv w base xs):∀x∈xs,Dq w x.2 x.1.fields:=fun x hx=>by
 obtain⟨h1,h2⟩:=h x hx;have hl:=h2.2.2.2.1;obtain⟨A,c,e,hr⟩:=B0.ownK h1 aU;exact⟨A,c,e,by omega,hr⟩
theorem Gb.own{w:World}{base:Nat}{v:Value}{xs:List (Ty × Value)}(h:w.ownsRow base 143 3 v xs.length (xs.flatMap stc))(hl:xs.length<=1000)(ht:Mv w base xs):Gb w v xs:=by
 obtain⟨A,c,e,hr⟩:=B0.ownK h aU;exact⟨A,c,e,hl,hr,ht.fds⟩
theorem Qdp{L:List (List UInt8)}{k:Nat}(hk:k<L.length){S:List Ty}(h:Fw L=(Fw (L.drop k)).map (S ++ ·)):
  Fw L=(match Dr L[k]with|none=>none|some t=>(Fw (L.drop (k+1))).map ((S++[t]) ++ ·)):=by
 rw[h,List.drop_eq_getElem_cons hk,Fw,Qd7];cases Fa L[k]with
 |none=>rfl
 |some t=>
  simp only;cases Fw (L.drop (k+1))with
  |none=>rfl
  |some r=>simp
theorem Kn{s:List UInt8}(h:400<s.length\/Pu s=none):B9 s=none:=by
 cases hs:B9 s with
 |none=>rfl
 |some S=>
  have:=Qg.1 hs;rcases h with h|h
  ·omega
  rw[h]at this;exact absurd this.2.1 aK
theorem Qah{s:List UInt8}{S:List Ty}(h4:s.length<=400)(h:Pu s=some S)(b:Bool)(hb:b=true↔Vo S):B9 s=if b=true then some S else none:=by
 cases b with
 |true=>
  rw[if_pos rfl];exact Qg.2 ⟨h4,h,hb.1 rfl⟩
 |false=>
  rw[if_neg aJ];cases hs:B9 s with
  |none=>rfl
  |some T=>
   have:=Qg.1 hs;rw[h]at this;obtain⟨_,e,hv⟩:=this;simp only[aj]at e;subst e;exact absurd (hb.2 hv) aJ
def Kc(o:Option (List Ty))(w:World)(e:Ending)(w':World):Prop:=
 (match o with
  |some S=>∃v xs,e=.returned (.tuple #[v,.bool true])/\Ad xs=S/\Gb w' v xs
  |none=>∃A n c,e=.returned (.tuple #[.slice A n c,.bool false]))/\Below w w w'
theorem Kc.no{w w':World}{e:Ending}{o:Option (List Ty)}(ho:o=none){A:Option Addr}{n c:Nat}(he:e=.returned (.tuple #[.slice A n c,.bool false]))(hb:Below w w w'):Kc o w e w':=by
 rw[ho];exact⟨⟨A,n,c,he⟩,hb⟩
theorem Kc.yes{w w':World}{e:Ending}{o:Option (List Ty)}{v:Value}{xs:List (Ty × Value)}(ho:o=some (Ad xs))(he:e=.returned (.tuple #[v,.bool true]))(hs:Gb w' v xs)(hb:Below w w w'):Kc o w e w':=by
 rw[ho];exact⟨⟨v,xs,he,rfl,hs⟩,hb⟩
theorem N0{w:World}{base:Nat}{v:Value}{ls:List (List UInt8)}(h:w.ownsRow base 9 1 v ls.length (By ls))(hne:ls≠[]):
  ∃g c,v=.slice (some ⟨g,0,none⟩) ls.length c/\base<=g/\g<w.heap.size/\∀j (hj:j<ls.length),w.cell? ⟨g,j,none⟩=some (.string ⟨ls[j].toArray⟩):=by
 rcases h.2 with⟨_,h0⟩|⟨g,cap,cur,rfl,hb,hh,_⟩
 ·cases ls with
  |nil=>exact absurd rfl hne
  |cons=>simp at h0
 refine⟨g,cap,rfl,hb,(h.lt g rfl).2,fun j hj=>?_⟩;have:=h.cells (g:=g) rfl j (.string ⟨ls[j].toArray⟩) (by simp[By,hj]);rwa [Qgp]at this
theorem Qdl{s:List UInt8}(h:9<(Al 10 s).length):Pu s=none:=if_pos (.inl h)
theorem Qd3{s:List UInt8}(h:(Al 10 s).getLast?≠some []):Pu s=none:=if_pos (.inr h)
theorem Qho{s:List UInt8}(h:¬9<(Al 10 s).length)(h2:(Al 10 s).getLast?=some []):Pu s=Fw (Al 10 s).dropLast:=if_neg (by rintro(h3|h3)<;>contradiction)
theorem Vq(s:List UInt8)(w:World)(hs:s.length<=4000000)(h:400<s.length\/9<(Al 10 s).length\/(Al 10 s).getLast?≠some []):
  Calls prog 94 #[s] w (Kc (B9 s) w):=by
 have HF:=Aa (show B9 s=none by
  rcases h with h|h|h
  ·exact Kn (.inl h)
  ·exact Kn (.inr (Qdl h))
  exact Kn (.inr (Qd3 h)))
 have Hcut:=Aa (fun W=>Cw s 10 10 rfl W hs);have hne:=Ew 10 s;have hle:=Jn 10 s;generalize Al 10 s=L at h Hcut hne hle;go_enter func94,ntmps94;go_wp2_with fail;refine(Hcut.o _).mono ?_;rintro e w1 ⟨v,rfl,ho,hb⟩;obtain⟨g,c,rfl,hg1,hg2,hcells⟩:=N0 ho hne;have hpos:0<L.length:=List.length_pos_iff.2 hne;have Hb:=Aa hb;have k1:(0:Int)<=(L.length:Int) - 1:=aH;have k2:(L.length:Int) - 1<(L.length:Int):=aH;have k3:((L.length:Int) - 1).toNat=L.length - 1:=aH;by_cases h1:400<s.length
 ·have q1:(400:Int)<(s.length:Int):=aH;clear h hcells ho hb;go_wp2_with fail;refine aF (v:=.tuple #[.slice none 0 0,.bool false]) (by simp[results,results94,go_sem]) rfl ?_;exact Kc.no HF.o rfl Hb.o
 have q1:¬(400:Int)<(s.length:Int):=aH;by_cases h2:9<L.length
 ·have q2:(9:Int)<(L.length:Int):=aH;clear h hcells ho hb;go_wp2_with fail;refine aF (v:=.tuple #[.slice none 0 0,.bool false]) (by simp[results,results94,go_sem]) rfl ?_;exact Kc.no HF.o rfl Hb.o
 have q2:¬(9:Int)<(L.length:Int):=aH;have h3:L.getLast?≠some []:=by rcases h with h|h|h<;>first|exact h|exact absurd h h1|exact absurd h h2
 have cl:=hcells (L.length - 1) aH;have he:¬(L[L.length - 1]=[]):=by
  intro e;apply h3;rw[List.getLast?_eq_getElem?,List.getElem?_eq_getElem aH,e]
 have he':(L[L.length - 1] == [])=false:=de;clear h hcells ho hb h3;generalize L[L.length - 1]=x at cl he he';go_wp2_with fail;refine aF (v:=.tuple #[.slice none 0 0,.bool false]) (by simp[results,results94,go_sem]) rfl ?_;exact Kc.no HF.o rfl Hb.o
theorem Qhd(s:List UInt8)(w:World)(h4:s.length<=400)(h9:¬9<(Al 10 s).length)(hlast:(Al 10 s).getLast?=some []):
  Calls prog 94 #[s] w (Kc (B9 s) w):=by
 have HL:=Aa (Qho h9 hlast);have Hcut:=Aa (fun W=>Cw s 10 10 rfl W aH);have hne:=Ew 10 s;have Hpl:=Aa (Aq 10 s);generalize Al 10 s=L at h9 hlast HL Hcut hne Hpl;go_enter func94,ntmps94;go_wp2_with fail;refine(Hcut.o _).mono ?_;rintro e w1 ⟨v,rfl,ho,hb⟩;obtain⟨g,c,rfl,hg1,hg2,hcells⟩:=N0 ho hne;have hpos:0<L.length:=List.length_pos_iff.2 hne;have Hb:=Aa hb;have Hcells:=Aa hcells;have hz1:=hb.size;have k1:(0:Int)<=(L.length:Int) - 1:=aH;have k2:(L.length:Int) - 1<(L.length:Int):=aH;have k3:((L.length:Int) - 1).toNat=L.length - 1:=aH;have q1:¬(400:Int)<(s.length:Int):=aH;have q2:¬(9:Int)<(L.length:Int):=aH;have cl:=hcells (L.length - 1) aH;have he:L[L.length - 1]=[]:=by
  rw[List.getLast?_eq_getElem?,List.getElem?_eq_getElem aH]at hlast;simpa using hlast
 rw[he]at cl;have hDl:L.dropLast.length=L.length - 1:=aK;clear he hlast hcells ho hb hne;go_wp2_with fail
 go_loopw [5,6] (fun v i wr=>∃(xs:List (Ty × Value)),i=.int .i64 (xs.length:Nat)/\xs.length+1<=L.length/\Hid (Fw L.dropLast=(Fw (L.dropLast.drop xs.length)).map (Ad xs ++ ·)) /\
   Hid (wr.ownsRow w1 143 3 v xs.length (xs.flatMap stc))/\Hid (Mv wr w1.heap.size xs)/\Hid (Below w1 w1 wr)/\w1.heap.size<=wr.heap.size) (fun _ i _=>L.length - (intOf i).toNat)
 case atStart=>exact⟨[],rfl,by simp;omega,by simp[Hid,Ad],World.ownsRow_lit (base:=w1.heap.size) (e:=143) (size:=3) w1 #[] 0 (An _) (ag _) rfl,by intro x hx;simp at hx,(Ao _ _).alloc (An _) _,by simp⟩
 case round=>
  obtain⟨xs,rfl,hxl,hty,hown,htys,hbr,hszr⟩:=hrel;obtain⟨A,cA,rfl,hrA⟩:=B0.ownK hown.o aU;have HrA:=Aa hrA;have HbW:=Aa (Hb.o.trans (hbr.o.mono hz1));clear hrA;by_cases hlt:xs.length+1<L.length
  ·have j1:(xs.length:Int)+1<(L.length:Int):=aH;have j2:(0:Int)<=(xs.length:Int):=aH;have j3:(xs.length:Int)<(L.length:Int):=aH;have cell:_:=(hbr.o.cell (p:=⟨g,xs.length,none⟩) hg2).trans (Hcells.o xs.length aH);have hstep:=Qdp (L:=L.dropLast) (k:=xs.length) aH hty.o;have hge:L.dropLast[xs.length]' aH=L[xs.length]:=aK;rw[hge]at hstep;have hpl:=Hpl.o _ (ae (show xs.length<L.length by omega));have Hstep:=Aa hstep;generalize L[xs.length]=p at cell Hstep hpl;have Hread:=Aa (fun W=>Qal p W aH);have Htok:=Aa (fun t (h:Dr p=some t)=>(Gd.1 ((Qd7 p).symm.trans h)).1);generalize Dr p=o at Hstep Hread Htok;clear hstep hge hty;go_wp2_with fail;refine(Hread.o _).mono ?_;rintro e w4 ⟨hcase,hb4⟩;have HbW4:=Aa (HbW.o.trans (hb4.mono HbW.o.size));cases o with
   |none=>
    obtain⟨x,a,A2,n2,c2,rfl⟩:=hcase;have Hno:=@Aa (B9 s=none) (Kn (.inr (HL.o.trans Hstep.o)));clear hb4;go_wp2_with fail;refine aF (v:=.tuple #[.slice none 0 0,.bool false]) (by simp[results,results94,go_sem]) rfl ?_;exact Kc.no Hno.o rfl (by(repeat (first|exact HbW4.o|refine Below.setCell ?_ eN _|refine Below.alloc ?_ eN _|refine Below.drew ?_)))
   |some t=>
    obtain⟨fv,rfl,hfv⟩:=hcase;have htk:=Htok.o t rfl;have h8:=htk.2.2.2.1;obtain⟨A2,c2,rfl,_⟩:=B0.ownK hfv aU;have Hstep2:=@Aa (Fw L.dropLast=(Fw (L.dropLast.drop (xs.length+1))).map ((Ad xs++[t]) ++ ·)) Hstep.o;have Hw5:=Aa ((Ct hown.o hb4).alloc (.cells #[.int .u8 (t.sort.toNat:Int),t.name,.slice A2 t.fields.length c2] 143));have Hbb:=@Aa (Below w1 w1 (w4.alloc (.cells #[.int .u8 (t.sort.toNat:Int),t.name,.slice A2 t.fields.length c2] 143))) ((hbr.o.trans (hb4.mono hszr)).alloc (ad hszr hb4.size) _)
    have Hty5:=Aa (show Mv (w4.alloc (.cells #[.int .u8 (t.sort.toNat:Int),t.name,.slice A2 t.fields.length c2] 143)) w1.heap.size (xs++[(t,.slice A2 t.fields.length c2)])from by
     intro x hx;rcases af.1 hx with hx|hx
     ·exact⟨(Ct ((htys.o x hx).1) hb4).alloc _,(htys.o x hx).2⟩
     simp at hx;subst hx;exact⟨(Ti hfv hszr).alloc _,htk⟩)
    have hz5:w1.heap.size<=w4.heap.size+1:=by have:=hb4.size;omega
    have Hsz5:=@Aa ((w4.alloc (.cells #[.int .u8 (t.sort.toNat:Int),t.name,.slice A2 t.fields.length c2] 143)).heap.size=w4.heap.size+1) aK;clear hfv htk hb4;unfold Kx;go_wp2_with (at_builtin;go_loud (refine Qde _ rfl _ _ 73 rfl w1 143 (.agg #[.int .u8 0,a6,.slice none 0 0]) 3 48 underlying73 Tryz.infoSt rfl aJ (w4.alloc (.cells #[.int .u8 (t.sort.toNat:Int),t.name,.slice A2 t.fields.length c2] 143)) [.int .u8 (t.sort.toNat:Int),t.name,.slice A2 t.fields.length c2] rfl rfl bh _ xs.length (xs.flatMap stc) rfl (by rw[Hsz5.o];rfl) Hw5.o aU aH aM ?_;intro v5 w5 hown5 hb5 hg5;have Hty6:=Aa ((Hty5.o.below ((Ao _ _).alloc (An _) _)).grown (Hw5.o.alloc _) aJ hg5);have Hown5:=Aa hown5;have Hb5:=Aa (Hbb.o.trans hb5);clear hown5 hb5 hg5))
    go_roundw
    case rel=>
     refine⟨xs++[(t,Value.slice A2 t.fields.length c2)],by rw[ah];go_num,by simp;omega,?_,?_,?_,Hb5.o,Hb5.o.size⟩
     ·show Fw L.dropLast=_;rw[Hstep2.o];simp[Ad]
     ·show World.ownsRow _ _ _ _ _ _ _;rw[List.flatMap_append,ah];exact Hown5.o
     ·exact Hty6.o
    case measure=>simp[intOf];omega
  ·have j1:¬(xs.length:Int)+1<(L.length:Int):=aH
   have Hlin:=Aa (show Pu s=some (Ad xs)by
    rw[HL.o,hty.o,List.drop_of_length_le aH];simp[Fw])
   have Hval:=Aa (fun(_:Unit)=>Qe9 (.slice A xs.length cA) xs wr (Gb.own hown.o aH htys.o) (fun x hx=>(htys.o x hx).2));have Hs:=Aa (Gb.own hown.o aH htys.o);clear hty;go_wp2_with fail;refine(Hval.o ()).mono ?_;rintro e w4 ⟨⟨b,rfl,hbv⟩,hb4⟩;have Hfin:=Aa (Qah h4 Hlin.o b hbv);have HbW4:=Aa (HbW.o.trans (hb4.mono HbW.o.size));have Hs4:=Aa (Hs.o.below hb4);clear hb4 hbv;cases b with
   |true=>
    go_wp2_with fail;refine aF (v:=.tuple #[.slice A xs.length cA,.bool true]) (by simp[results,results94,go_sem]) rfl ?_;exact Kc.yes (xs:=xs) Hfin.o rfl Hs4.o HbW4.o
   |false=>
    go_wp2_with fail;refine aF (v:=.tuple #[.slice A xs.length cA,.bool false]) (by simp[results,results94,go_sem]) rfl ?_;exact Kc.no Hfin.o rfl HbW4.o
theorem To(s:List UInt8)(w:World)(hs:s.length<=4000000):
  Calls prog 94 #[s] w (Kc (B9 s) w):=by
 by_cases h1:400<s.length
 ·exact Vq s w hs (.inl h1)
 by_cases h2:9<(Al 10 s).length
 ·exact Vq s w hs (.inr (.inl h2))
 by_cases h3:(Al 10 s).getLast?=some []
 ·exact Qhd s w aH h2 h3
 exact Vq s w hs (.inr (.inr h3))
def Ju(o:Option (List Ty × Kd))(w:World)(e:Ending)(w':World):Prop:=
 (match o with
  |some x=>∃v xs,e=.returned (.tuple #[v,.bool true])/\Ad xs=x.1/\Gb w' v xs
  |none=>∃A n c,e=.returned (.tuple #[.slice A n c,.bool false]))/\Below w w w'
theorem Ju.no{w w':World}{e:Ending}{o:Option (List Ty × Kd)}(ho:o=none){A:Option Addr}{n c:Nat}(he:e=.returned (.tuple #[.slice A n c,.bool false]))(hb:Below w w w'):Ju o w e w':=by
 rw[ho];exact⟨⟨A,n,c,he⟩,hb⟩
theorem Za(s d:List UInt8)(w:World)(hs:s.length<=4000000)(h:B9 s=none):
  Calls prog 45 #[s,d] w (Ju (Bm s d) w):=by
 have HF:=Aa (show Bm s d=none by unfold Bm;rw[h]);have Hof:=Aa (fun W=>To s W hs);rw[h]at Hof;clear h;go_enter func45,ntmps45;go_wp2_with fail;refine(Hof.o _).mono ?_;rintro e w1 ⟨⟨A,n,c,rfl⟩,hb⟩;go_wp2_with fail;refine aF (v:=.tuple #[.slice none 0 0,.bool false]) (by simp[results,results45,go_sem]) rfl ?_;exact Ju.no HF.o rfl hb
theorem Qce(s d:List UInt8)(w:World)(hs:s.length<=4000000)(hd:d.length<=4000000)(S:List Ty)(h:B9 s=some S)(hk:Cs d=none):
  Calls prog 45 #[s,d] w (Ju (Bm s d) w):=by
 have HF:=Aa (show Bm s d=none by unfold Bm;rw[h,hk]);have Hof:=Aa (fun W=>To s W hs);have Hkd:=Aa (fun W=>Pm d.length d W (An _) aH);rw[h]at Hof;rw[hk]at Hkd;clear h hk;go_enter func45,ntmps45;go_wp2_with fail;refine(Hof.o _).mono ?_;rintro e w1 ⟨⟨v,xs,rfl,hx,hsc⟩,hb⟩;clear hsc;go_wp2_with fail;refine(Hkd.o _).mono ?_;rintro e w2 ⟨rfl,rfl⟩;go_wp2_with fail;refine aF (v:=.tuple #[.slice none 0 0,.bool false]) (by simp[results,results45,go_sem]) rfl ?_;exact Ju.no HF.o rfl hb
theorem Ju.of{w w':World}{e:Ending}{S:List Ty}{k:Kd}{v:Value}{xs:List (Ty × Value)}{b:Bool}{o:Option (List Ty × Kd)}(ho:o=if b=true then some (S,k)else none)(he:e=.returned (.tuple #[v,.bool b]))(hx:Ad xs=S)(hs:Gb w' v xs)(hb:Below w w w'):Ju o w e w':=by
 cases b with
 |true=>rw[ho];exact⟨⟨v,xs,he,hx,hs⟩,hb⟩
 |false=>
  obtain⟨A,c,rfl,_⟩:=hs;rw[ho];exact⟨⟨A,_,c,he⟩,hb⟩
theorem Qg9(s d:List UInt8)(w:World)(hs:s.length<=4000000)(S:List Ty)(h:B9 s=some S)(k:Kd)(hk:Cs d=some k):
  Calls prog 45 #[s,d] w (Ju (Bm s d) w):=by
 obtain⟨hok,rfl⟩:=Eg.1 hk;have HF:=Aa (show Bm s (Ax k)=if B6 S k then some (S,k)else none by unfold Bm;rw[h,hk]);have Hof:=Aa (fun W=>To s W hs);have hl:=hok.2.2;have Hkd:=Aa (fun W=>Pm (Ax k).length (Ax k) W (An _) aH);have Hok:=Aa hok;rw[h]at Hof;rw[hk]at Hkd;clear h hk hok;go_enter func45,ntmps45;go_wp2_with fail;refine(Hof.o _).mono ?_;rintro e w1 ⟨⟨v,xs,rfl,hx,hsc⟩,hb⟩;subst hx;have Hsc:=Aa hsc;obtain⟨A,c,rfl,_,_,hfds⟩:=hsc;have Hfds:=Aa hfds;have Hb:=Aa hb;clear hb hfds;go_wp2_with fail;refine(Hkd.o _).mono ?_;rintro e w2 ⟨rfl,rfl⟩;go_wp2_with fail;refine(Nk k Hok.o _).mono ?_;rintro e w2 ⟨rfl,rfl⟩;go_wp2_with fail;refine(Rw k Hok.o _).mono ?_;rintro e w2 ⟨rfl,rfl⟩;go_wp2_with fail;refine(Vw _ xs (V9 k) _ Hsc.o).mono ?_;rintro e w2 ⟨rfl,hb2⟩;have Hb2:=Aa (Hb.o.trans (hb2.mono Hb.o.size));have Hs2:=Aa (Hsc.o.below hb2);clear hb2;cases hx2:Dy xs (V9 k)with
 |none=>
  unfold Vn P6;rcases hir:Xd k with _|_
  ·have Hr:=Aa (show (if B6 (Ad xs) k then some (Ad xs,k)else none)=if (true:Bool)=true then some (Ad xs,k)else none by
    have:=Mx xs k;rw[hx2,hir]at this;simp at this;simp[this])
   go_wp2_with fail;refine aF (v:=.tuple #[.slice A xs.length c,.bool true]) (by simp[results,results45,go_sem]) rfl ?_;exact ki
  have Hr:=Aa (show (if B6 (Ad xs) k then some (Ad xs,k)else none)=if (false:Bool)=true then some (Ad xs,k)else none by
   have:=Mx xs k;rw[hx2,hir]at this;simp at this;simp[this])
  go_wp2_with fail;refine aF (v:=.tuple #[.slice A xs.length c,.bool false]) (by simp[results,results45,go_sem]) rfl ?_;exact Ju.of (b:=false) (HF.o.trans Hr.o) rfl rfl (Hs2.o.below ((Ao _ _).alloc (An _) _)) aY
 |some y=>
  obtain⟨ty,yv⟩:=y;obtain⟨A5,c5,e5,_⟩:=Hfds.o _ (Cp hx2).1;simp only[]at e5;subst e5;unfold Vn Kx;rcases hir:Xd k with _|_
  ·have Hr:=Aa (show (if B6 (Ad xs) k then some (Ad xs,k)else none)=if (true:Bool)=true then some (Ad xs,k)else none by
    have:=Mx xs k;rw[hx2,hir]at this;simp at this;simp[this])
   go_wp2_with fail;refine aF (v:=.tuple #[.slice A xs.length c,.bool true]) (by simp[results,results45,go_sem]) rfl ?_;exact ki
  have Hr:=Aa (show (if B6 (Ad xs) k then some (Ad xs,k)else none)=if (true:Bool)=true then some (Ad xs,k)else none by
   have:=Mx xs k;rw[hx2,hir]at this;simp at this;simp[this])
  go_wp2_with fail;refine aF (v:=.tuple #[.slice A xs.length c,.bool true]) (by simp[results,results45,go_sem]) rfl ?_;exact ki
theorem Pe(s d:List UInt8)(w:World)(hs:s.length<=4000000)(hd:d.length<=4000000):
  Calls prog 45 #[s,d] w (Ju (Bm s d) w):=by
 cases h:B9 s with
 |none=>exact Za s d w hs h
 |some S=>cases hk:Cs d with
  |none=>exact Qce s d w hs hd S h hk
  |some k=>exact Qg9 s d w hs S h k hk
theorem Dq.grown{w w':World}{g p:Nat}{v:Value}{fs:List Fd}(h:Dq w v fs)(hR:Fg w g p)(hg:w.grownBy w' (some g)):Dq w' v fs:=by
 obtain⟨A,c,e,hl,hr⟩:=h;refine⟨A,c,e,hl,hr.grown hg (fun b off e1 hn=>?_)⟩;rintro rfl;obtain⟨b',off',e',_,c0,c1,_,_⟩:=Dq.at_ hr (i:=0) aH;rw[e1]at e';injection e' with e';injection e' with e2 e3;subst e2 e3;obtain⟨A2,n2,c2,l2,hh,_⟩:=hR;rcases(show off=0\/off=1\/2<=off by omega)with ho|ho|ho
 ·exact jF
 ·subst ho;simp[World.cell?,hh]at c1
 obtain⟨k,rfl⟩:∃k,off=k+2:=⟨off - 2,by omega⟩
 simp[World.cell?,hh]at c0
theorem Gb.grown{w w':World}{g p:Nat}{v:Value}{xs:List (Ty × Value)}(h:Gb w v xs)(hR:Fg w g p)(hg:w.grownBy w' (some g)):Gb w' v xs:=by
 obtain⟨A,c,e,hl,hr,hf⟩:=h;refine⟨A,c,e,hl,hr.grown hg (fun b off e1 hn=>?_),fun x hx=>(hf x hx).grown hR hg⟩;rintro rfl;obtain⟨b',off',e',_,c0,_,_⟩:=Gb.at_ hr (i:=0) aH;rw[e1]at e';injection e' with e';injection e' with e2 e3;subst e2 e3;obtain⟨A2,n2,c2,l2,hh,_⟩:=hR;rcases(show off=0\/off=1\/2<=off by omega)with ho|ho|ho
 ·exact jF
 ·exact jF
 obtain⟨k,rfl⟩:∃k,off=k+2:=⟨off - 2,by omega⟩
 simp[World.cell?,hh]at c0
theorem Zd(c:UInt8)(p:List UInt8):∀(l:List (List UInt8)),Aw c (l++[p])=if l=[]then p else Aw c l++c::p
 |[]=>rfl
 |[q]=>rfl
 |q::r::l=>by
  have ih:=Zd c p (r::l);rw[if_neg aK]at ih ⊢;rw[av,Cy c q aK,ih,Cy c q aK];simp
theorem Rp(c:UInt8)(m:Nat):∀(l:List (List UInt8)),(∀p∈l,p.length<=m)->(Aw c l).length<=l.length*(m+1)
 |[],_=>by simp[Aw]
 |[q],h=>by have:=h q aK;simp[Aw];omega
 |q::r::l,h=>by
  have h1:=h q aK;have h2:=Rp c m (r::l) (fun p hp=>h p (by simp[hp]));rw[Cy c q aK,ah,List.length_cons,List.length_cons,Nat.add_mul];omega
theorem Qhg(A:Option Addr)(c:Nat)(ps:List (List UInt8))(w:World)(hr:B0 w A ps.length (By ps))(hl:ps.length<=100)(hp:∀p∈ps,p.length<=10000):
  Calls prog 133 #[.slice A ps.length c] w fun e w'=>e=.returned (.string ⟨(Aw 44 ps).toArray⟩)/\w=w':=by
 have Hr:=Aa hr;have Hp:=Aa hp;clear hr hp;go_enter func133,ntmps133;go_wp2_with fail;go_loop [4,3] (fun i s=>∃k:Nat,i=.int .i64 k/\k<=ps.length/\s=.string ⟨(Aw 44 (ps.take k)).toArray⟩) (fun i _=>ps.length - (intOf i).toNat)
 case atStart=>exact⟨0,rfl,ag _,rfl⟩
 case round=>
  obtain⟨k,rfl,hk,rfl⟩:=hrel;have k1:(0:Int)<=(k:Int):=aH;have hjl:=Rp 44 10000 (ps.take k) (fun p hp=>Hp.o p (List.mem_of_mem_take hp));rw[List.length_take,Nat.min_eq_left hk]at hjl;by_cases hlt:k<ps.length
  ·have k2:(k:Int)<(ps.length:Int):=aH;obtain⟨b,off,rfl,hb,hc⟩:=Hr.o.at_ hlt;have c0:w.cell? ⟨b,off+k,none⟩=some (.string ⟨ps[k].toArray⟩):=by rw[hc];simp[By]
   have Hsn:=@Aa (Aw 44 (ps.take (k+1))=if ps.take k=[]then ps[k]else Aw 44 (ps.take k)++44::ps[k]) (by rw[Cb ps k hlt];exact Zd 44 ps[k] (ps.take k));have hpl:=Hp.o _ (ae hlt);have He:Hid (ps.take k=[]↔k=0):=by
    constructor
    ·intro h;have:=congrArg List.length h;rw[List.length_take,Nat.min_eq_left hk]at this;simpa using this
    rintro rfl;rfl
   generalize ps[k]=p at c0 Hsn hpl;clear hc;by_cases h0:k=0
   ·have h0i:¬(0:Int)<(k:Int):=aH;have Hs2:=Aa (Hsn.o.trans (if_pos (He.o.2 h0)));have hj0:Aw 44 (ps.take k)=[]:=by rw[He.o.2 h0];rfl
    rw[hj0];clear h0 hjl hj0;go_wp2_with fail;go_round
    case rel=>exact⟨k+1,by go_num,by omega,by rw[Hs2.o]⟩
    case measure=>simp[intOf];omega
   have h0i:(0:Int)<(k:Int):=aH;have Hs2:=Aa (Hsn.o.trans (if_neg (fun h=>h0 (He.o.1 h))));generalize Aw 44 (ps.take k)=js at *;clear h0;go_wp2_with fail;go_round
   case rel=>exact⟨k+1,by go_num,by omega,by rw[Hs2.o]⟩
   case measure=>simp[intOf];omega
  ·obtain rfl:k=ps.length:=aH;have Hfin:Hid (ps.take ps.length=ps):=List.take_length;go_wp2_with fail;go_ret;exact⟨by first|rfl|rw[Hfin.o],rfl⟩
end
end Go.Proofs.YtmmhmlmfhpfgbaaGreatDoor
