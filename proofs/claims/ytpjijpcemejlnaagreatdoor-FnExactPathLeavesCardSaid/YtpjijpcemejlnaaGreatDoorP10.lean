/- Texts joined. Conditions: as each theorem names them. -/
import Derived.Test.YtpjijpcemejlnaaGreatDoorP09
set_option maxRecDepth 100000
set_option maxHeartbeats 32000000
set_option linter.unusedVariables false
set_option linter.unusedSimpArgs false
namespace Go.Proofs.YtpjijpcemejlnaaGreatDoor
open Go.RowKit Go.Proofs.Tryz
section
attribute [local go_sem] Qhy Qhh Qg3 Qfo ByteArray.mk_append_mk
theorem Qbi{S:List Ty}(hS:∀t∈S,Du t):∀d,Qhe S d
 |0=>fun k v h=>by cases h
 |d+1=>Qet hS d (Qbi hS d)
def Pa(o:Option (List (List UInt8)))(w:World)(e:Ending)(w':World):Prop:=∃A c,e=.returned (.tuple #[.slice A (o.getD []).length c,.bool o.isSome])/\w'.ownsRow w.heap.size 9 1 (.slice A (o.getD []).length c) (o.getD []).length (Ag (o.getD []))/\Below w.heap.size w w'
theorem Xk(v:Vl):lvL v=if ∀q∈Co 12 v,q.length<=8 then some ((Co 12 v).map En)else none:=by
 unfold lvL
 by_cases h:∀q∈Co 12 v,q.length<=8
 ·rw[if_pos h,if_pos (by simpa using h)]
 rw[if_neg h,if_neg (by simpa using h)]
theorem Tb(s d x:List UInt8)(w:World)(HO:Calls prog 39 #[.string ⟨s.toArray⟩,.string ⟨d.toArray⟩,.string ⟨x.toArray⟩] w (Mh s d x w)):
  Calls prog 19 #[.string ⟨s.toArray⟩,.string ⟨d.toArray⟩,.string ⟨x.toArray⟩] w (Pa ((Mp (C4 s d) x).bind lvL) w):=by
 have HO:=Aa HO
 go_enter func19,ntmps19
 go_wp2_with fail
 refine HO.o.mono ?_
 rintro e w1 ⟨hb1,hm⟩
 have Hb1:=Aa hb1
 have hcase:(Mp (C4 s d) x=none/\∃(v:Value) (q:Option Addr),e=.returned (.tuple #[v,.pointer q,.bool false]))\/∃S k v,C4 s d=some (S,k)/\Mp (C4 s d) x=some v/\∃xv b,e=.returned (.tuple #[xv,.pointer (some ⟨b,0,none⟩),.bool true])/\Gc (fun c=>w.heap.size<=c) w1 b (Cq S k v):=by
  cases hb:C4 s d with
  |none=>
   rw[hb]at hm
   obtain⟨v,q,he⟩:=hm
   exact .inl ⟨rfl,v,q,he⟩
  |some y=>
   rw[hb]at hm
   simp only at hm
   cases hv:Kk y.1 y.2 x with
   |none=>
    rw[hv]at hm
    obtain⟨v,q,he⟩:=hm
    exact .inl ⟨hv,v,q,he⟩
   |some v=>
    rw[hv]at hm
    obtain⟨xv,xs,b,he,_,_,hat⟩:=hm
    exact .inr ⟨y.1,y.2,v,rfl,hv,xv,b,he,hat⟩
 clear hm hb1
 rcases hcase with⟨hv,v,q,rfl⟩|⟨S,k,v,hb,hv,xv,b,rfl,hat⟩
 ·have HV:=Aa hv
  clear hv
  go_wp2_with fail
  go_ret2
  rw[HV.o]
  exact⟨_,_,rfl,Ng _ _ _ Hb1.o.size,Hb1.o.alloc Hb1.o.size _⟩
 obtain⟨S',k',e1,hok,hk,_,_,hvok,hpr,hxl⟩:=Qn hv
 rw[hb]at e1
 injection e1 with e1
 injection e1 with e1 e2
 subst e1 e2
 have hS:=hok.1.1
 have hcnt:=Xg 12 k v hvok
 rw[hpr]at hcnt
 have hstep:=Qfk hS 12 k v hvok
 have HE:=Aa (show (Mp (C4 s d) x).bind lvL=if ∀q∈Co 12 v,q.length<=8 then some ((Co 12 v).map En)else none by rw[hv,<-Xk];rfl)
 have HL:=Aa (fun W (hW:Below w1.heap.size w1 W)=>Qbi hS 12 k v hvok hk (fun c=>w.heap.size<=c/\c<w1.heap.size) b [] (W.alloc (.cells #[] 9)) (some ⟨W.heap.size,0,none⟩) 0 0 [] W.heap.size ((hat.kept (Q:=fun c=>w.heap.size<=c/\c<w1.heap.size) (fun b o u _ hl hu=>(hW.cell (p:=⟨b,o,none⟩) hl).trans hu) hW.size fun c h1 h2=>⟨h1,h2⟩).after ((Au _ _).alloc (Ap _) _)) (fun c hc _ he=>by
  have he:c=W.heap.size:=by injection he
  have:=hW.size
  omega) (Ng W _ _ (Ap _)) rfl (by simp) (by decide) (by simp;omega))
 have Hst:=Aa hstep
 clear hstep hat hvok hpr hok hS hk hv hb
 generalize Co 12 v=qs at *
 have HL1:=Aa (HL.o w1 (Au _ _))
 rw[show En []=[]from rfl]at HL1
 clear HL
 go_wp2_with fail
 refine HL1.o.mono ?_
 rintro e w2 ⟨A2,c2,rfl,ho2,hg2⟩
 simp only[List.nil_append,List.length_map]at ho2 hg2
 obtain⟨A2',c2',e2,hr2⟩:=Bf.own ho2
 injection e2 with e2 _ e3
 subst e2 e3
 have hb2:Below w1.heap.size w1 w2:=((Au w1.heap.size w1).alloc (Ap _) (.cells #[] 9)).grown hg2.gr (by simp) fun k hk=>by
  have hk:w1.heap.size=k:=by injection hk
  omega
 have Ho2:=Aa ho2
 have Hr2:=Aa hr2
 have Hb2:=Aa (Hb1.o.trans (hb2.mono Hb1.o.size))
 have hql:qs.length<=401:=by omega
 clear ho2 hg2 hr2 hb2 HL1
 simp only[List.nil_append,List.length_map]
 go_wp2_with fail
 go_loopw [12,13,14] (fun i u y wr=>∃m:Nat,i=.int .i64 m/\m<=qs.length/\Hid (∀q∈qs.take m,q.length<=8)/\Hid (Below w2.heap.size w2 wr)) (fun i _ _ _=>qs.length - (intOf i).toNat)
 case atStart=>exact⟨0,rfl,Nat.zero_le _,by show ∀q∈_,_;simp,Au _ _⟩
 case round=>
  obtain⟨m,rfl,hm,Hsm,Hbr⟩:=hrel
  have m1:(0:Int)<=(m:Int):=by omega
  by_cases hlt:m<qs.length
  ·have m2:(m:Int)<(qs.length:Int):=by omega
   obtain⟨b8,o8,rfl,hb8,hc8⟩:=(Hr2.o.below Hbr.o).at_ hlt
   replace hc8:wr.cell? ⟨b8,o8+m,none⟩=some (.string ⟨(En qs[m]).toArray⟩):=by simpa [Ag]using hc8
   obtain⟨hq1,hq2⟩:=Hst.o qs[m] (List.getElem_mem hlt)
   have HS:=Aa (fun W=>Qbb qs[m] W hq2 (by omega))
   have Hts:=Aa (Be qs m hlt)
   have Hmem:=Aa (List.getElem_mem hlt)
   by_cases h8:qs[m].length<=8
   ·have t8:decide ((qs[m].length:Int)<=8)=true:=decide_eq_true (by omega)
    rw[t8]at HS
    have Hs2:=Aa (show ∀q∈qs.take (m+1),q.length<=8 from by
     intro q hq
     rw[Hts.o]at hq
     rcases List.mem_append.1 hq with hq|hq
     ·exact Hsm.o q hq
     simp only[List.mem_singleton]at hq;subst hq;exact h8)
    clear hq1 hq2 h8 t8
    generalize En qs[m]=pm at *
    go_wp2_with fail
    refine(HS.o _).mono ?_
    rintro e w4 ⟨v4,rfl,hb4⟩
    have Hb4:=Aa (Hbr.o.trans (hb4.mono Hbr.o.size))
    clear hb4
    go_wp2_with fail
    go_roundw
    case rel=>exact⟨m+1,by go_num,by omega,Hs2.o,Hb4.o⟩
    case measure=>simp[intOf];omega
   have t8:decide ((qs[m].length:Int)<=8)=false:=decide_eq_false (by omega)
   rw[t8]at HS
   have HE2:=Aa (HE.o.trans (if_neg (fun h=>h8 (h _ Hmem.o))))
   clear hq1 hq2 h8 t8
   generalize En qs[m]=pm at *
   go_wp2_with fail
   refine(HS.o _).mono ?_
   rintro e w4 ⟨v4,rfl,hb4⟩
   have Hb4:=Aa (Hb2.o.trans ((Hbr.o.trans (hb4.mono Hbr.o.size)).mono Hb2.o.size))
   clear hb4
   go_wp2_with fail
   go_ret2
   rw[HE2.o]
   exact⟨_,_,rfl,Ng _ _ _ Hb4.o.size,Hb4.o.alloc Hb4.o.size _⟩
  ·obtain rfl:m=qs.length:=by omega
   have hall:=Hsm.o
   rw[List.take_length]at hall
   have HE2:=Aa (HE.o.trans (if_pos hall))
   clear hall
   go_wp2_with fail
   go_ret2
   rw[HE2.o]
   refine⟨A2,c2,by simp,?_,Hb2.o.trans (Hbr.o.mono Hb2.o.size)⟩
   have:=Mi (Ax Ho2.o Hbr.o) Hb1.o.size
   simpa using this
def sfR:Option Fd->Value
 |some f=>.tuple #[sfV f,.bool true]
 |none=>.tuple #[sf0,.bool false]
theorem Qaq(st nm fv:Value)(fs:List Fd)(n:Nat)(w:World)(h:Fl w fv fs)(hn:n<=1000000000):
  Calls prog 57 #[.agg #[st,nm,fv],.int .i64 n] w fun e w'=>e=.returned (sfR (Bu fs n))/\Below w w w':=by
 obtain⟨A,c,rfl,hl,hr⟩:=h;have Hr:=Aa hr;clear hr;go_enter func57,ntmps57;go_wp2_with fail;go_loopw [6] (fun i wr=>∃k:Nat,i=.int .i64 k/\k<=fs.length/\wr=(w.alloc (.cells #[st,nm,.slice A fs.length c] 90)).alloc (.cells #[.int .i64 0,a8,a8,a8] 94)/\Hid (∀f∈fs.take k,decide (f.tag=n)=false)) (fun i _=>fs.length - (intOf i).toNat)
 case atStart=>exact⟨0,rfl,ag _,rfl,by intro f hf;simp at hf⟩
 case round=>
  obtain⟨k,rfl,hk,rfl,hin⟩:=hrel;by_cases hlt:k<fs.length
  ·obtain⟨b,off,rfl,hb,c0,c1,c2,c3⟩:=Fl.at_ Hr.o hlt;have Hts:=Aa (Be fs k hlt);have Hft:=Aa (Qg (p:=fun f=>decide (f.tag=n)) hlt hin.o);generalize fs[k]=f at c0 c1 c2 c3 Hts Hft;have k1:(0:Int)<=(k:Int):=aG;have k2:(k:Int)<(fs.length:Int):=aG;by_cases he:f.tag=n
   ·have t1:((f.tag:Int) == (n:Int))=true:=by simp[he]
    have Hfin:=Aa (show Bu fs n=some f by unfold Bu;rw[Hft.o,if_pos cz]);clear he;go_wp2_with fail;exact aE (v:=.tuple #[sfV f,.bool true]) (by simp[results,results57,go_sem,sfV]) rfl ⟨by rw[Hfin.o];rfl,((Au _ _).alloc (Ap _) _).alloc aK _⟩
   have t1:((f.tag:Int) == (n:Int))=false:=bS
   have Hin:=Aa (show ∀g∈fs.take (k+1),decide (g.tag=n)=false by
    intro g hg;rw[Hts.o]at hg;rcases af.1 hg with hg|hg
    ·exact hin.o g hg
    simp at hg;subst hg;simpa using he)
   clear he;go_wp2_with fail;go_roundw
   case rel=>exact⟨k+1,by go_num,by omega,Ab,Hin.o⟩
   case measure=>simp[intOf];omega
  ·have Hfin:=@Aa (Bu fs n=none) (Ka (fun f hf=>hin.o f cV));go_wp2_with fail;exact aE (v:=.tuple #[sf0,.bool false]) (by simp[results,results57,go_sem,sf0]) rfl ⟨by rw[Hfin.o];rfl,((Au _ _).alloc (Ap _) _).alloc aK _⟩
def Rf:Option (Ty × Value)->Value
 |some x=>.tuple #[N9 x.1 x.2,.bool true]
 |none=>.tuple #[Mo,.bool false]
theorem P9(v:Value)(xs:List (Ty × Value))(n:List UInt8)(w:World)(h:Mj w v xs):
  Calls prog 88 #[v,n] w fun e w'=>e=.returned (Rf (E4 xs n))/\Below w w w':=by
 obtain⟨A,c,rfl,hl,hr,hf⟩:=h;have Hr:=Aa hr;have Hf:=Aa hf;clear hr hf;go_enter func88,ntmps88;go_wp2_with fail;go_loopw [6] (fun i wr=>∃k:Nat,i=.int .i64 k/\k<=xs.length/\wr=w.alloc (.cells #[.int .u8 0,a8,.slice none 0 0] 90)/\Hid (∀x∈xs.take k,decide (x.1.name=n)=false)) (fun i _=>xs.length - (intOf i).toNat)
 case atStart=>exact⟨0,rfl,ag _,rfl,by intro f hf;simp at hf⟩
 case round=>
  obtain⟨k,rfl,hk,rfl,hin⟩:=hrel;by_cases hlt:k<xs.length
  ·obtain⟨b,off,rfl,hb,c0,c1,c2⟩:=Mj.at_ Hr.o hlt;have Hts:=Aa (Be xs k hlt);have Hft:=Aa (Qg (p:=fun x=>decide (x.1.name=n)) hlt hin.o);have hfx:=Hf.o _ (ae hlt);generalize xs[k]=x at c0 c1 c2 Hts Hft hfx;obtain⟨t,fv⟩:=x;simp only[]at c0 c1 c2 hfx;obtain⟨A2,d2,hfv,_⟩:=hfx;subst hfv;have k1:(0:Int)<=(k:Int):=aG;have k2:(k:Int)<(xs.length:Int):=aG;by_cases he:t.name=n
   ·have t1:(t.name == n)=true:=by simp[he]
    have Hfin:=Aa (show E4 xs n=some (t,.slice A2 t.fields.length d2)by unfold E4;rw[Hft.o,if_pos cz]);clear he;go_wp2_with fail;refine aE (v:=.tuple #[N9 t (.slice A2 t.fields.length d2),.bool true]) (by simp[results,results88,go_sem,N9]) rfl ?_;exact gT
   have t1:(t.name == n)=false:=cz
   have Hin:=Aa (show ∀g∈xs.take (k+1),decide (g.1.name=n)=false by
    intro g hg;rw[Hts.o]at hg;rcases af.1 hg with hg|hg
    ·exact hin.o g hg
    simp at hg;subst hg;simpa using he)
   clear he;go_wp2_with fail;go_roundw
   case rel=>exact⟨k+1,by go_num,by omega,Ab,Hin.o⟩
   case measure=>simp[intOf];omega
  ·have Hfin:=@Aa (E4 xs n=none) (Ka (fun f hf=>hin.o f cV));go_wp2_with fail;refine aE (v:=.tuple #[Mo,.bool false]) (by simp[results,results88,go_sem,Mo]) rfl ?_;exact gT
theorem Qgm{k:Kd}(h:Da k):(k.signs=[]/\k.base=[64]/\Bp k=64::(k.name++[59])/\k.name.length<=3)\/(¬(k.signs=[]/\k.base=[64])/\∃c t,Bp k=c::t/\c≠64/\t.length<=12):=by
 obtain⟨h1,h2,h3⟩:=h;cases hs:k.signs with
 |cons c t=>
  refine .inr ⟨by simp,c,t++Cd k,by unfold Bp;rw[hs];rfl,?_,?_⟩
  ·rw[hs]at h1;simp only[List.all_cons,av]at h1;rintro rfl;exact absurd h1.1 aJ
  unfold Bp at h3;rw[hs]at h3;simp at h3 ⊢;omega
 |nil=>
  rcases h2 with⟨hb,hn⟩|⟨hb,_⟩
  ·exact .inl ⟨rfl,hb,by unfold Bp Cd;rw[hs,if_pos hb];rfl,(Ek.1 hn).2.1⟩
  refine .inr ⟨?_,?_⟩
  ·rintro⟨_,h⟩;rcases hb with hb|hb|hb<;>· rw[hb]at h;revert h;decide
  have hc:Bp k=k.base:=by
   unfold Bp Cd;rw[hs,if_neg (by rcases hb with hb|hb|hb<;>· rw[hb];decide)];rfl
  rw[hc];rcases hb with hb|hb|hb<;>· rw[hb];exact⟨_,_,rfl,by decide,by simp⟩
theorem Gz(v:Value)(xs:List (Ty × Value))(k:Kd)(w:World)(h:Mj w v xs)(hk:Da k):
  Calls prog 56 #[v,.string ⟨(Bp k).toArray⟩] w fun e w'=>e=.returned (Rf (Mn xs k))/\Below w w w':=by
 have H:=Aa h;clear h;rcases Qgm hk with⟨h1,h2,h3,h4⟩|⟨h1,c,t,h3,h4,h5⟩
 ·have Hr:=@Aa (Mn xs k=E4 xs k.name) (if_pos ⟨h1,h2⟩);rw[h3];clear h1 h2 h3;go_enter func56,ntmps56;go_wp2_with fail;refine(Va k.name _ aG).mono ?_;rintro e w' ⟨rfl,rfl⟩;go_wp2_with fail;refine(P9 v xs k.name _ (H.o.below ((Au _ _).alloc (Ap _) _))).mono ?_;rintro e w2 ⟨rfl,hb⟩;cases hf:E4 xs k.name with
  |none=>
   rw[hf]at Hr;obtain⟨hc,hfz,hz⟩:=Bv hb;have Hb:=Aa (((Au w.heap.size w).alloc (Ap _) _).trans (hb.mono aK));clear hb hf;unfold Rf Mo;go_wp2_with fail;refine aE (v:=.tuple #[Mo,.bool false]) (by simp[results,results56,go_sem,Mo,hc]) rfl ?_;exact gU
  |some x=>
   obtain⟨t,fv⟩:=x;have hm:=(Ep hf).1;obtain⟨A,c,_,_,_,hfs⟩:=H.o;obtain⟨A2,d2,e2,_⟩:=hfs _ hm;simp only at e2;subst e2;rw[hf]at Hr;obtain⟨hc,hfz,hz⟩:=Bv hb;have Hb:=Aa (((Au w.heap.size w).alloc (Ap _) _).trans (hb.mono aK));clear hb hf hm hfs;unfold Rf N9;go_wp2_with fail;refine aE (v:=.tuple #[N9 t (.slice A2 t.fields.length d2),.bool true]) (by simp[results,results56,go_sem,N9,hc]) rfl ?_;exact gU
 have Hr:=@Aa (Mn xs k=none) (if_neg h1);rw[h3];clear h1 h3;go_enter func56,ntmps56;go_wp2_with fail;refine(Zw c t _ h4 aG).mono ?_;rintro e w' ⟨rfl,rfl⟩;go_wp2_with fail;refine aE (v:=.tuple #[Mo,.bool false]) (by simp[results,results56,go_sem,Mo]) rfl ?_;exact⟨by rw[Hr.o];rfl,(Au _ _).alloc (Ap _) _⟩
theorem Qgl(S:List Ty)(n:Nat)(t:Ty)(h:t.sort≠85):Bm S (n+1) t=true:=by
 simp only[Bm,Eu,if_neg h]
theorem Qed(xs:List (Ty × Value))(n:Nat)(t:Ty)(f:Fd)(fs:List Fd)(h:t.sort=85)(hf:t.fields=f::fs):
  Bm (Al xs) (n+1) t=(match Mn xs f.kind with|none=>true|some u=>Bm (Al xs) n u.1):=by
 simp only[Bm,Eu,if_pos h,hf,Mn];by_cases hk:f.kind.signs=[]/\f.kind.base=[64]
 ·rw[if_pos hk,if_pos hk,Km];cases E4 xs f.kind.name<;>rfl
 rw[if_neg hk,if_neg hk]
theorem Z7{t:Ty}(h:Du t)(hs:t.sort=85):∃f fs,t.fields=f::fs/\Da f.kind:=by
 obtain⟨h1,h2,h3,h4,h5⟩:=h;cases hf:t.fields with
 |nil=>have:=h5 hf;rw[hs]at this;exact absurd this aJ
 |cons f fs=>
  refine⟨f,fs,rfl,?_⟩;have:=h3.1 f da;exact(this.2.2.2.2 df).1
theorem Qef{xs:List (Ty × Value)}{k:Kd}{x:Ty × Value}(h:Mn xs k=some x):x∈xs:=by
 unfold Mn at h;split at h
 ·exact(Ep h).1
 cases h
theorem Qdk(v fv:Value)(xs:List (Ty × Value))(t:Ty)(w:World)(h:Mj w v xs)(ht:Du t)(hft:Fl w fv t.fields)(hok:∀x∈xs,Du x.1):
  Calls prog 153 #[v,N9 t fv] w fun e w'=>e=.returned (.bool (Bm (Al xs) (xs.length+1) t))/\Below w w w':=by
 have H:=Aa h;have Hok:=Aa hok;obtain⟨A,c,rfl,hxl,_⟩:=h;obtain⟨A1,c1,rfl,hfl,hr1⟩:=hft;have Hr1:=Aa hr1;have Ht:=Aa ht;clear hok hr1 ht;unfold N9;go_enter func153,ntmps153;go_wp2_with fail
 go_loopw [5] (fun i wr=>∃(n:Nat) (cur:Ty) (A2:Option Addr) (c2:Nat),i=.int .i64 n/\n<=xs.length+1/\Hid (Du cur)/\Hid (Bf w A2 (cur.fields.length*4) (cur.fields.flatMap sfc)) /\
   Hid (Bm (Al xs) (xs.length+1) t=Bm (Al xs) (xs.length+1 - n) cur)/\Hid (Below w w wr)/\w.heap.size<wr.heap.size /\
   wr.cell? (w,0)=some (.int .u8 (cur.sort.toNat:Int))/\wr.cell? (w,1)=cur.name/\wr.cell? (w,2)=some (.slice A2 cur.fields.length c2) /\
   (∀j,wr.frozen? ⟨w.heap.size,j,none⟩=false)) (fun i _=>xs.length+1 - (intOf i).toNat)
 case atStart=>exact⟨0,t,A1,c1,rfl,ag _,Ht.o,Hr1.o,rfl,(Au _ _).alloc (Ap _) _,by simp,by simp,by simp,by simp,by simp⟩
 case round=>
  obtain⟨n,cur,A2,c2,rfl,hn,hcu,hrow,heq,hb,hsz,u0,u1,u2,f1⟩:=hrel;by_cases hlt:n<=xs.length
  ·have k1:(n:Int)<=(xs.length:Int):=aG;obtain⟨m,hm⟩:∃m,xs.length+1 - n=m+1:=⟨xs.length - n,by omega⟩
   have hm2:xs.length+1 - (n+1)=m:=aG;rw[hm]at heq;have hcl:=cur.sort.toNat_lt;by_cases hs:cur.sort=85
   ·have t1:((cur.sort.toNat:Int) != 85)=false:=by have:=Bj hs;simpa using this
    have t2:((cur.sort.toNat:Int) == 85)=true:=Bj hs;obtain⟨f,fs,hfs,hkd⟩:=Z7 hcu.o hs;have Heq:=Aa (show Bm (Al xs) (xs.length+1) t=(match Mn xs f.kind with|none=>true|some u=>Bm (Al xs) m u.1)by rw[heq.o];exact Qed xs m cur f fs hs hfs);have hlf:0<cur.fields.length:=cp;have hf0:cur.fields[0]=f:=by simp[hfs]
    obtain⟨b,off,rfl,hbl,g0,g1,g2,g3⟩:=Fl.at_ (hrow.o.below hb.o) hlf;rw[hf0]at g0 g1 g2 g3;simp only[Nat.zero_mul,Nat.add_zero]at g0 g1 g2 g3;have Hkd:=Aa hkd;have l1:(0:Int)<(cur.fields.length:Int):=aG;clear hs heq hkd hf0 hfs;go_wp2_with fail;refine(Gz (.slice A xs.length c) xs f.kind _ (H.o.below hb.o) Hkd.o).mono ?_;rintro e w4 ⟨rfl,hb4⟩;obtain⟨hc4,hfz4,hz4⟩:=Bv hb4;have Hb5:=Aa (hb.o.trans (hb4.mono (Nat.le_of_lt hsz)));rw[<-hc4 _ _ hsz]at u0 u1 u2;have f1':∀j,w4.frozen? ⟨w.heap.size,j,none⟩=false:=fun j=>(hfz4 _ j hsz).trans (f1 j);have hsz4:=hz4 _ hsz;have Hrow':=Aa (fun(x:Ty × Value) (hx:x∈xs)=>((show ∀x∈xs,Fl w x.2 x.1.fields from(by obtain⟨_,_,_,_,_,hf⟩:=H.o;exact hf)) x hx));have hn1:¬(w4.heap.size=w.heap.size):=aG;have hn2:¬(w.heap.size=w4.heap.size):=aG;clear hb4 hc4 hfz4 hz4 f1 hb;cases hr:Mn xs f.kind with
    |none=>
     rw[hr]at Heq;unfold Rf Mo;go_wp2_with fail;go_ret;exact⟨by rw[Heq.o];first|rfl|trivial,bM⟩
    |some x=>
     rw[hr]at Heq;obtain⟨u,uv⟩:=x;have Hm:=Aa (Qef hr);obtain⟨A5,c5,e5,_,hr5⟩:=Hrow'.out _ Hm.o;simp only[]at e5 hr5;subst e5;have Hr5:=Aa hr5;clear hr hr5;unfold Rf N9;go_wp2_with fail;go_roundw
     case rel=>
      refine⟨n+1,u,A5,c5,by go_num,by omega,Hok.o _ Hm.o,Hr5.o,by rw[hm2];exact Heq.o,bM,by simp;omega,by simp[go_sem,u0,u1,u2,f1',hn1,hn2,hsz4],by simp[go_sem,u0,u1,u2,f1',hn1,hn2,hsz4],by simp[go_sem,u0,u1,u2,f1',hn1,hn2,hsz4],by intro j;simp[go_sem,f1',hn1,hn2,hsz4]⟩
     case measure=>simp[intOf];omega
   have t1:((cur.sort.toNat:Int) != 85)=true:=by have:=Ak hs;simpa using this
   have t2:((cur.sort.toNat:Int) == 85)=false:=Ak hs;have Hend:=Aa (show Bm (Al xs) (xs.length+1) t=true by rw[heq.o];exact Qgl _ m cur hs);clear hs heq;go_wp2_with fail;exact gV
  ·have k1:¬(n:Int)<=(xs.length:Int):=aG;have Hend:=Aa (show Bm (Al xs) (xs.length+1) t=false by rw[heq.o,show xs.length+1 - n=0 by omega];rfl);clear heq;go_wp2_with fail;exact gV
theorem Pj(S:List Ty)(hT:∀t∈S,Du t):∀(n:Nat) (k:Kd),(Cu S n k).length<=6*n
 |0,_=>by simp[Cu]
 |n+1,k=>by
  unfold Cu;split
  ·simp;omega
  split
  ·simp;omega
  split
  ·simp;omega
  split
  ·simp;omega
  split
  ·simp;omega
  cases hf:Ck S k.name with
  |none=>simp
  |some t=>
   simp only;split
   ·simp;omega
   cases hfs:t.fields with
   |nil=>simp
   |cons f fs=>
    have h1:=((hT t (Bq hf).1).2.2.1.1 f cp).2.1;have h2:=C0 2 f.tag bV;have ih:=Pj S hT n f.kind;simp only;split
    ·simp;omega
    simp;omega
def Tc(b:List UInt8):List UInt8:=if b=[110]then[48]else if b=[116]then[39,39]else[110,111]
theorem Xm(b:List UInt8)(w:World)(hb:b=[110]\/b=[116]\/b=[102]):
  Calls prog 190 #[b] w fun e w'=>e=.returned (.string ⟨(Tc b).toArray⟩)/\w=w':=by
 rcases hb with rfl|rfl|rfl
 ·exact ga
 ·exact ga
 go_enter func190,ntmps190;go_wp2_with fail;exact gD
def Qbg(c:UInt8):List UInt8:=if c=91 then[91,93]else[45]
theorem Pq(v:Value)(c:UInt8)(t:List UInt8)(w:World)(hc:c=91\/c=63)(hl:t.length<=1000):
  Calls prog 157 #[v,.string ⟨(c::t).toArray⟩] w fun e w'=>e=.returned (.string ⟨(Qbg c).toArray⟩)/\w=w':=by
 rcases hc with rfl|rfl
 ·go_enter func157,ntmps157;go_wp2_with fail;exact gD
 go_enter func157,ntmps157;go_wp2_with fail;exact gD
theorem Ki{k:Kd}(h:Da k)(hs:k.signs=[])(hb:k.base≠[64]):Bp k=k.base/\(k.base=[110]\/k.base=[116]\/k.base=[102]):=by
 refine⟨by unfold Bp Cd;rw[hs,if_neg hb];rfl,?_⟩;rcases h.2.1 with h|h
 ·exact absurd h.1 hb
 exact h.1
theorem Mu(v:Value)(xs:List (Ty × Value))(k:Kd)(w:World)(hsc:Mj w v xs)(hk:Da k)(hs:k.signs=[])(hb:k.base≠[64]):
  Calls prog 157 #[v,.string ⟨(Bp k).toArray⟩] w fun e w'=>e=.returned (.string ⟨(Tc k.base).toArray⟩)/\Below w w w':=by
 have Hr:=Aa (fun W h=>Gz v xs k W h hk);have hx:Mn xs k=none:=if_neg (fun h=>hb h.2);rw[hx]at Hr;obtain⟨e1,e2⟩:=Ki hk hs hb;rw[e1]at Hr ⊢;have Hsc:=Aa hsc;have Hp:=Aa (fun W=>Xm k.base W e2);have He2:=Aa e2;unfold Rf Mo at Hr;generalize k.base=b at *;clear hs hb e1 hsc hx;obtain⟨c,hc,t1,t2⟩:∃c,b=[c]/\((c.toNat:Int) == 91)=false/\((c.toNat:Int) == 63)=false:=by
  rcases e2 with rfl|rfl|rfl
  ·exact⟨110,rfl,by decide,by decide⟩
  ·exact⟨116,rfl,by decide,by decide⟩
  exact⟨102,rfl,by decide,by decide⟩
 clear e2;subst hc;go_enter func157,ntmps157;go_wp2_with fail;refine(Hr.o _ Hsc.o).mono ?_;rintro e w1 ⟨rfl,hb1⟩;go_wp2_with fail;refine(Hp.o _).mono ?_;rintro e w2 ⟨rfl,rfl⟩;go_wp2_with fail;go_ret;exact⟨rfl,hb1.alloc hb1.size _⟩
def Gb(l:List UInt8)(w:World)(e:Ending)(w':World):Prop:=e=.returned l/\Below w w w'
theorem Xs(xv:Value)(xs:List (Ty × Value))(hok:∀x∈xs,Du x.1)(n:Nat)(k:Kd)(w:World)(hsc:Mj w xv xs)(hk:Da k)(hs:k.signs=[])(hb:k.base=[64])(t:Ty)(fv:Value)(hx:E4 xs k.name=some (t,fv))
  (hn:n<=9) (ih:t.sort=85->∀f fs,t.fields=f::fs->∀W,Mj W xv xs->Calls prog 157 #[xv,.string ⟨(Bp f.kind).toArray⟩] W (Gb (Cu (Al xs) n f.kind) W)):
  Calls prog 157 #[xv,.string ⟨(Bp k).toArray⟩] w (Gb (Cu (Al xs) (n+1) k) w):=by
 have Hr:=Aa (fun W h=>Gz xv xs k W h hk);have Hlen:=Aa (Pj (Al xs) (fun t ht=>by obtain⟨x,hx,rfl⟩:=aw.1 ht;exact hok x hx));have hrx:Mn xs k=some (t,fv):=(if_pos ⟨hs,hb⟩).trans hx
 have HF:=Aa (show Cu (Al xs) (n+1) k=if t.sort=82 then[123,125]else match t.fields with|[]=>[]|f::_=>if t.sort=69 then 35::An f.tag else 60::(An f.tag++61::(Cu (Al xs) n f.kind++[62]))from by
  rw[Cu,if_neg df,if_neg df,if_neg bE,if_neg bE,if_neg bE,Km,hx];rfl)
 have hto:=hok _ (Ep hx).1;have hkb:Bp k=64::(k.name++[59]):=cJ;have hnl:k.name.length<=3:=by
  rcases hk.2.1 with h|h
  ·exact(Ek.1 h.2).2.1
  rw[hb]at h;exact absurd h.1 aJ
 have hfd:Fl w fv t.fields:=by obtain⟨_,_,_,_,_,hf⟩:=hsc;exact hf _ (Ep hx).1
 rw[hrx]at Hr;rw[hkb]at Hr ⊢;obtain⟨A,c,rfl,hfl,hrow⟩:=hfd;have Hsc:=Aa hsc;have Hrow:=Aa hrow;have Hto:=Aa hto;have Ih:=Aa ih;unfold Rf N9 at Hr;simp only[]at hto;clear hsc hk hs hb hx hkb hrow hto hrx ih hok;by_cases h82:t.sort=82
 ·have t82:((t.sort.toNat:Int) == 82)=true:=Bj (d:=82) h82;have HF2:=Aa (HF.o.trans (if_pos h82));clear h82 HF;go_enter func157,ntmps157;go_wp2_with fail;refine(Hr.o _ Hsc.o).mono ?_;rintro e w1 ⟨rfl,hb1⟩;go_wp2_with fail;go_ret;exact⟨by rw[HF2.o];rfl,hb1.alloc hb1.size _⟩
 have t82:((t.sort.toNat:Int) == 82)=false:=Ak (d:=82) h82;have HF2:=Aa (HF.o.trans (if_neg h82));have hne:t.fields≠[]:=fun h=>h82 (Hto.o.2.2.2.2 h);obtain⟨f,fs,hfs⟩:∃f fs,t.fields=f::fs:=by
  cases h:t.fields with
  |nil=>exact absurd h hne
  |cons f fs=>exact⟨f,fs,rfl⟩
 have hf0:0<t.fields.length:=cp;have hge:t.fields[0]=f:=by simp[hfs]
 have hft:=Hto.o.2.2.1.1 f cp;have htag:f.tag<=200:=hft.2.1;have hdl:=C0 2 f.tag bV;have Hd:=Aa (fun W=>Fi f.tag f.tag W (Ap _) aG);have hi0:(0:Int)<(t.fields.length:Int):=aG;have HF3:=@Aa (Cu (Al xs) (n+1) k=if t.sort=69 then 35::An f.tag else 60::(An f.tag++61::(Cu (Al xs) n f.kind++[62]))) (by rw[HF2.o,hfs]);have Hfs:=Aa hfs;have Hge:=Aa hge;obtain⟨b,off,rfl,hbl,g0,g1,g2,g3⟩:=Fl.at_ Hrow.o hf0;rw[hge]at g0 g1 g2 g3;simp only[Nat.zero_mul,Nat.add_zero]at g0 g1 g2 g3;have H82:=Aa h82;clear HF2 HF h82 hne hfs hge hft g1 g3;by_cases h69:t.sort=69
 ·have t69:((t.sort.toNat:Int) == 69)=true:=Bj (d:=69) h69;have HF4:=Aa (HF3.o.trans (if_pos h69));clear h69 HF3;go_enter func157,ntmps157;go_wp2_with fail;refine(Hr.o _ Hsc.o).mono ?_;rintro e w1 ⟨rfl,hb1⟩;have g0':=(hb1.cell (p:=⟨b,off,none⟩) hbl).trans g0;have hbl1:b<w1.heap.size:=ac hbl hb1.size;have hbn:¬(b=w1.heap.size):=aG;have Hb1:=Aa hb1;clear hb1 g0 g2;go_wp2_with fail;refine(Hd.o _).mono ?_;rintro e w2 ⟨rfl,hb2⟩;go_wp2_with fail;go_ret;exact⟨by rw[HF4.o];simp,(Hb1.o.alloc Hb1.o.size _).trans (hb2.mono (by have:=Hb1.o.size;simp;omega))⟩
 have t69:((t.sort.toNat:Int) == 69)=false:=Ak (d:=69) h69;have HF4:=Aa (HF3.o.trans (if_neg h69));have h85:t.sort=85:=by
  rcases Hto.o.1 with h|h|h
  ·exact absurd h H82.o
  ·exact h
  exact absurd h h69
 have Ih2:=Aa (Ih.o h85 f fs Hfs.o);have hsl:=Hlen.o n f.kind;generalize Cu (Al xs) n f.kind=sl at *;generalize Bp f.kind=kd at *;clear h69 HF3 h85 Ih;go_enter func157,ntmps157;go_wp2_with fail;refine(Hr.o _ Hsc.o).mono ?_;rintro e w1 ⟨rfl,hb1⟩;have g0':=(hb1.cell (p:=⟨b,off,none⟩) hbl).trans g0;have g2':=(hb1.cell (p:=⟨b,off+2,none⟩) hbl).trans g2;have hbl1:b<w1.heap.size:=ac hbl hb1.size;have hbn:¬(b=w1.heap.size):=aG;have Hb1:=Aa hb1;clear hb1 g0 g2;go_wp2_with fail;obtain⟨W0,hW0⟩:∃W0,W0=w1.alloc (.cells #[.int .u8 (t.sort.toNat:Int),t.name,.slice (some ⟨b,off,none⟩) t.fields.length c] 90):=⟨_,rfl⟩
 rw[<-hW0];have y2:W0.cell? (w1,2)=some (.slice (some ⟨b,off,none⟩) t.fields.length c):=by rw[hW0];simp
 have y0:W0.cell? ⟨b,off,none⟩=(f.tag:Int):=by rw[hW0,World.cell?_alloc_old _ _ _ hbn];exact g0'
 have y3:W0.cell? ⟨b,off+2,none⟩=kd:=by rw[hW0,World.cell?_alloc_old _ _ _ hbn];exact g2'
 have hz0:W0.heap.size=w1.heap.size+1:=by rw[hW0];simp
 have hB5:w1.heap.size<W0.heap.size:=aG;have hb5:b<W0.heap.size:=aG;have Hb0:=@Aa (Below w w W0) (by rw[hW0];exact Hb1.o.alloc Hb1.o.size _);have Hsc0:=Aa (Hsc.o.below Hb0.o);generalize w1.heap.size=B5 at *;clear hW0 hz0 g0' g2';refine N4 [39,40,41,42,43,44,45,46,47,48,49,50,51,52,53,54,55,4]
  (fun i v W=>match i with|0=>v=(B5,2)|1=>v=.slice (some ⟨b,off,none⟩) t.fields.length c|2=>v=.pointer (some ⟨b,off,none⟩)|3=>v=.pointer (some ⟨b,off,none⟩)|4=>v=(f.tag:Int)|5=>v=.string ⟨(An f.tag).toArray⟩|6=>v=.string ⟨(60::An f.tag).toArray⟩|7=>v=.string ⟨(60::(An f.tag++[61])).toArray⟩|8=>v=xv|9=>v=(B5,2)|10=>v=.slice (some ⟨b,off,none⟩) t.fields.length c|11=>v=.pointer (some ⟨b,off,none⟩)|12=>v=.pointer (some ⟨b,off+2,none⟩)|13=>v=kd|14=>v=sl|15=>v=.string ⟨(60::(An f.tag++61::sl)).toArray⟩|16=>v=.string ⟨(60::(An f.tag++61::(sl++[62]))).toArray⟩|17=>v=.string ⟨(60::(An f.tag++61::(sl++[62]))).toArray⟩|_=>True)
  (fun L U W=>Below W0 W0 W) ((Au _ _).drew) ?_ ?_
 ·repeat (first|exact Ar.nil|(refine Ar.cons ?_ ?_;rotate_left))
  all_goals
   rintro L U W hL hpre HR Hdep K hK;have hB:=HR.o;have c2:=(hB.cell (p:=⟨B5,2,none⟩) hB5).trans y2;have c0:=(hB.cell (p:=⟨b,off,none⟩) hb5).trans y0;have c3:=(hB.cell (p:=⟨b,off+2,none⟩) hb5).trans y3;first|(simp[Region.binds]at hpre;done)|simp[Region.binds]at hpre|clear hpre
  iterate 5
   ·exact eT
  ·exact fT
  ·exact f8
  ·exact f8
  iterate 6
   ·exact eT
  ·exact fO
  ·exact f8
  ·exact f8
  ·exact eT
 rintro L U W hL hφ hR;have e17:U 17=.string ⟨(60::(An f.tag++61::(sl++[62]))).toArray⟩:=hφ 17 aJ;simp only[e17];clear hφ;have Hb9:=Aa (Hb0.o.trans (hR.mono Hb0.o.size));clear hR;go_wp2_with fail;go_ret;exact⟨by rw[HF4.o];rfl,Hb9.o⟩
theorem My(S:List Ty)(n:Nat)(k:Kd)(c:UInt8)(t:List UInt8)(h:k.signs=c::t)(hc:c=91\/c=63):Cu S (n+1) k=Qbg c:=by
 unfold Cu Qbg;rw[h];rcases hc with rfl|rfl
 ·rfl
 rfl
theorem J7(S:List Ty)(n:Nat)(k:Kd)(h:k.signs=[])(hb:k.base=[110]\/k.base=[116]\/k.base=[102]):Cu S (n+1) k=Tc k.base:=by
 unfold Cu Tc;rw[h];rcases hb with hb|hb|hb<;>rw[hb]<;>rfl
theorem Pf{k:Kd}(h:Da k){c:UInt8}{t:List UInt8}(hs:k.signs=c::t):c=91\/c=63:=by
 have:=h.1;rw[hs,List.all_cons,av]at this;have:=this.1;unfold Bl at this;simpa using this
theorem Zu(xv:Value)(xs:List (Ty × Value))(hok:∀x∈xs,Du x.1)(hS:Fe (Al xs)):∀(n:Nat),n<=9->∀(k:Kd) (w:World),Mj w xv xs->Da k->Cb (Al xs) k->Sa (Al xs) n k ->
  Calls prog 157 #[xv,.string ⟨(Bp k).toArray⟩] w (Gb (Cu (Al xs) (n+1) k) w):=by
 intro n;induction n with
 |zero=>
  intro _ k w hsc hk hr he;cases hs:k.signs with
  |cons c t=>
   have hc:=Pf hk hs;have hkb:Bp k=c::(t++Cd k):=cS;have hl:=hk.2.2;rw[hkb]at hl ⊢;rw[My _ _ k c t hs hc];refine(Pq xv c (t++Cd k) w hc dX).mono ?_;rintro e w' ⟨rfl,rfl⟩;exact gH
  |nil=>
   by_cases hb:k.base=[64]
   ·obtain⟨t,_,h⟩:=he hs hb;exact absurd h (by simp[Bm])
   exact gW
 |succ n ih=>
  intro hn k w hsc hk hr he;cases hs:k.signs with
  |cons c t=>
   have hc:=Pf hk hs;have hkb:Bp k=c::(t++Cd k):=cS;have hl:=hk.2.2;rw[hkb]at hl ⊢;rw[My _ _ k c t hs hc];refine(Pq xv c (t++Cd k) w hc dX).mono ?_;rintro e w' ⟨rfl,rfl⟩;exact gH
  |nil=>
   by_cases hb:k.base=[64]
   ·have h1:=hr hb;rw[Km]at h1;cases hx:E4 xs k.name with
    |none=>rw[hx]at h1;cases h1
    |some x=>
     obtain⟨t,fv⟩:=x;have hft:Ck (Al xs) k.name=some t:=(Ep hx).2.2;have hto:Du t:=hok _ (Ep hx).1;refine Xs xv xs hok (n+1) k w hsc hk hs hb t fv hx hn (fun h85 f fs hfs W hW=>?_);have hrf:Cb (Al xs) f.kind:=hS t (Bq hft).1 cZ f cp;exact gX
   exact gW
theorem Vo{S:List Ty}(h:Pz S){k:Kd}(hr:Cb S k):Sa S 9 k:=by
 intro hs hb;have h1:=hr hb;cases hf:Ck S k.name with
 |none=>rw[hf]at h1;cases h1
 |some t=>exact⟨t,rfl,h.2.2 t (Bq hf).1⟩
theorem Ze(xv:Value)(xs:List (Ty × Value))(h:Pz (Al xs))(k:Kd)(w:World)(hsc:Mj w xv xs)(hk:Da k)(hr:Cb (Al xs) k):
  Calls prog 157 #[xv,.string ⟨(Bp k).toArray⟩] w (Gb (Qm (Al xs) k) w):=
 Zu xv xs (fun x hx=>h.1.1 x.1 (ao hx)) h.2.1 9 (Ap _) k w hsc hk hr (Vo h hr)
theorem Qba(xv:Value)(xs:List (Ty × Value))(h:Pz (Al xs))(f:Fd)(w:World)(hsc:Mj w xv xs)(hk:Da f.kind)(hr:Cb (Al xs) f.kind)(hl:f.given.length<=1000):
  Calls prog 123 #[xv,sfV f] w (Gb (Qa (Al xs) f) w):=by
 have HF:=@Aa (Qa (Al xs) f=if f.given=[]then Qm (Al xs) f.kind else f.given) rfl;have Hs:=Aa (fun W (h1:Mj W xv xs)=>Ze xv xs h f.kind W h1 hk hr);have Hsc:=Aa hsc;unfold sfV;generalize Bp f.kind=kd at *;clear h hk hr hsc;by_cases hg:f.given=[]
 ·have HF2:=Aa (HF.o.trans (if_pos hg));rw[hg];clear hg HF;go_enter func123,ntmps123;go_wp2_with fail;refine(Hs.o _ (Hsc.o.below ((Au _ _).alloc (Ap _) _))).mono ?_;rintro e w1 ⟨rfl,hb1⟩;go_wp2_with fail;go_ret;exact⟨by rw[HF2.o];rfl,((Au _ _).alloc (Ap _) _).trans (hb1.mono aK)⟩
 have HF2:=Aa (HF.o.trans (if_neg hg));have t1:f.given.isEmpty=false:=by simpa using hg
 have t2:(!f.given.isEmpty)=true:=by simp[t1]
 clear hg HF;go_enter func123,ntmps123;go_wp2_with fail;go_ret;exact⟨by rw[HF2.o];rfl,(Au _ _).alloc (Ap _) _⟩
def Ci(o:Option Fd)(w:World)(e:Ending)(w':World):Prop:=
 (match o with
  |some f=>e=.returned (.tuple #[sfV f,.bool true])
  |none=>∃(x:Int) (a b c:ByteArray),e=.returned (.tuple #[.agg #[.int .i64 x,.string a,.string b,.string c],.bool false]))/\Below w w w'
theorem Ci.no{w w':World}{e:Ending}{o:Option Fd}(ho:o=none){x:Int}{a b c:ByteArray}(he:e=.returned (.tuple #[.agg #[.int .i64 x,.string a,.string b,.string c],.bool false]))(hb:Below w w w'):Ci o w e w':=by
 rw[ho];exact⟨⟨x,a,b,c,he⟩,hb⟩
theorem Ci.yes{w w':World}{e:Ending}{o:Option Fd}{f:Fd}(ho:o=some f)(he:e=.returned (.tuple #[sfV f,.bool true]))(hb:Below w w w'):Ci o w e w':=by
 rw[ho];exact⟨he,hb⟩
theorem Me{w:World}{base:Nat}{v:Value}{a b:List UInt8}(h:w.ownsRow base 9 1 v [a,b].length (Ag [a,b])):
  ∃g c,v=.slice (some ⟨g,0,none⟩) 2 c/\base<=g/\g<w.heap.size/\w.cell? ⟨g,0,none⟩=a/\w.cell? ⟨g,1,none⟩=b:=by
 rcases h.2 with⟨_,h0⟩|⟨g,cap,cur,rfl,hb,hh,_⟩
 ·simp at h0
 have hc:=fun j u hu=>h.cells (g:=g) rfl j u hu;have e1:∀j,(⟨g,0,none⟩:Addr).add j=⟨g,j,none⟩:=fun j=>bo;refine⟨g,cap,rfl,hb,(h.lt g rfl).2,?_,?_⟩
 ·have:=hc 0 _ rfl;rwa [e1]at this
 have:=hc 1 _ rfl;rwa [e1]at this
theorem Fb{w:World}{base:Nat}{v:Value}{a b d:List UInt8}(h:w.ownsRow base 9 1 v [a,b,d].length (Ag [a,b,d])):
  ∃g c,v=.slice (some ⟨g,0,none⟩) 3 c/\base<=g/\g<w.heap.size/\w.cell? ⟨g,0,none⟩=a/\w.cell? ⟨g,1,none⟩=b/\w.cell? ⟨g,2,none⟩=d:=by
 rcases h.2 with⟨_,h0⟩|⟨g,cap,cur,rfl,hb,hh,_⟩
 ·simp at h0
 have hc:=fun j u hu=>h.cells (g:=g) rfl j u hu;have e1:∀j,(⟨g,0,none⟩:Addr).add j=⟨g,j,none⟩:=fun j=>bo;refine⟨g,cap,rfl,hb,(h.lt g rfl).2,?_,?_,?_⟩
 ·have:=hc 0 _ rfl;rwa [e1]at this
 ·have:=hc 1 _ rfl;rwa [e1]at this
 have:=hc 2 _ rfl;rwa [e1]at this
theorem Qd(st:UInt8)(s:List UInt8)(w:World)(hs:s.length<=1000)(hp:(Ae 58 s).length≠(if st=69 then 2 else 3)):
  Calls prog 152 #[s,.int .u8 (st.toNat:Int)] w (Ci (Bo st s) w):=by
 have hno:Bo st s=none:=by
  unfold Bo;by_cases h:st=69
  ·rw[if_pos h]at hp ⊢;have:H4 (Ae 58 s)=none:=by
    cases hh:H4 (Ae 58 s)with
    |none=>rfl
    |some x=>rw[(Gq (n:=x.1) (b:=x.2)).1 hh |>.1]at hp;simp at hp
   rw[this]
  rw[if_neg h]at hp ⊢;have:Jx (Ae 58 s)=none:=by
   cases hh:Jx (Ae 58 s)with
   |none=>rfl
   |some x=>rw[(Fh (n:=x.1) (b:=x.2.1) (c:=x.2.2)).1 hh |>.1]at hp;simp at hp
  rw[this]
 have Hno:=Aa hno;have Hl:=Aa (Fw 58 s);have hst:=st.toNat_lt;clear hno;have Hcut:=Aa (fun W=>B9 s 58 58 rfl W aG);generalize Ae 58 s=ps at hp Hl Hcut;by_cases h69:st=69
 ·rw[if_pos h69]at hp;have t1:((st.toNat:Int) != 69)=false:=by have:=Bj h69;simpa using this
  have t2:((st.toNat:Int) == 69)=true:=Bj h69;have t3:((ps.length:Int) != 2)=true:=dt;clear h69 hp;go_enter func152,ntmps152;go_wp2_with fail;refine(Hcut.o _).mono ?_;rintro e w1 ⟨v,rfl,ho,hb⟩;obtain⟨A,c,rfl,_⟩:=Bf.own ho;obtain⟨hc,hfz,hz⟩:=Bv hb;have Hb:=Aa (((Au w.heap.size w).alloc (Ap _) _).trans (hb.mono aK));clear hb ho;go_wp2_with fail;all_goals
   refine aE (v:=.tuple #[sf0,.bool false]) (by simp[results,results152,go_sem,sf0,hc]) rfl ?_;exact gY
 rw[if_neg h69]at hp;have t1:((st.toNat:Int) != 69)=true:=by have:=Ak h69;simpa using this
 have t2:((st.toNat:Int) == 69)=false:=Ak h69;have t3:((ps.length:Int) != 3)=true:=dt;clear h69 hp;go_enter func152,ntmps152;go_wp2_with fail;refine(Hcut.o _).mono ?_;rintro e w1 ⟨v,rfl,ho,hb⟩;obtain⟨A,c,rfl,_⟩:=Bf.own ho;obtain⟨hc,hfz,hz⟩:=Bv hb;have Hb:=Aa (((Au w.heap.size w).alloc (Ap _) _).trans (hb.mono aK));clear hb ho;go_wp2_with fail;all_goals
  refine aE (v:=.tuple #[sf0,.bool false]) (by simp[results,results152,go_sem,sf0,hc]) rfl ?_;exact gY
theorem Q8(a b:List UInt8):Dg a 200=false\/(Dg a 200=true/\Cf a=some 0)\/(∃n,Dg a 200=true/\Cf a=some n/\1<=n/\n<=200/\At b=false)\/(∃n,Dg a 200=true/\Cf a=some n/\1<=n/\n<=200/\At b=true):=by
 cases hd:Cf a with
 |none=>exact .inl (Ku hd)
 |some n=>
  rw[H8 hd];by_cases h:n<=200
  ·have e:decide (n<=200)=true:=bg;rw[e];by_cases h0:n=0
   ·subst h0;exact .inr (.inl ⟨rfl,rfl⟩)
   rcases Bool.eq_false_or_eq_true (At b)with hb|hb
   ·exact .inr (.inr (.inr ⟨n,rfl,rfl,by omega,h,hb⟩))
   exact .inr (.inr (.inl ⟨n,rfl,rfl,by omega,h,hb⟩))
  left;simpa using h
theorem Rw{a b:List UInt8}(h:Dg a 200=false\/Cf a=some 0\/At b=false):H4 [a,b]=none:=by
 cases hh:H4 [a,b]with
 |none=>rfl
 |some x=>
  obtain⟨n,c⟩:=x;obtain⟨e,h1,h2,h3⟩:=Gq.1 hh;simp at e;obtain⟨rfl,rfl⟩:=e;have hd:Cf (An n)=some n:=Bt.2 ⟨by omega,rfl⟩;rcases h with h|h|h
  ·rw[H8 hd]at h;simp at h;omega
  ·rw[hd]at h;injection h with h;omega
  rw[h3]at h;cases h
theorem Sg{a b c:List UInt8}(h:Dg a 200=false\/Cf a=some 0\/At b=false):Jx [a,b,c]=none:=by
 cases hh:Jx [a,b,c]with
 |none=>rfl
 |some x=>
  obtain⟨n,d,f⟩:=x;obtain⟨e,h1,h2,h3⟩:=Fh.1 hh;simp at e;obtain⟨rfl,rfl,rfl⟩:=e;have hd:Cf (An n)=some n:=Bt.2 ⟨by omega,rfl⟩;rcases h with h|h|h
  ·rw[H8 hd]at h;simp at h;omega
  ·rw[hd]at h;injection h with h;omega
  rw[h3]at h;cases h
theorem Qcx{a b:List UInt8}{n:Nat}(hd:Cf a=some n)(h1:1<=n)(h2:n<=200)(hb:At b=true):H4 [a,b]=some (n,b):=Gq.2 ⟨by rw[(Bt.1 hd).2],h1,h2,hb⟩
theorem H7{a b c:List UInt8}{n:Nat}(hd:Cf a=some n)(h1:1<=n)(h2:n<=200)(hb:At b=true):Jx [a,b,c]=some (n,b,c):=Fh.2 ⟨by rw[(Bt.1 hd).2],h1,h2,hb⟩
theorem Qe2(s a b:List UInt8)(w:World)(hs:s.length<=1000)(hp:Ae 58 s=[a,b])(ho:Dg a 200=false):
  Calls prog 152 #[s,.int .u8 69] w (Ci (Bo 69 s) w):=by
 have hal:=Ah 58 s a bi;have hbl:=Ah 58 s b bi;have hF:Bo 69 s=(match H4 [a,b]with|some (n,b)=>some ⟨n,b,Kd.nil,[]⟩|none=>none):=ch;have Hcut:=Aa (fun W=>B9 s 58 58 rfl W aG);rw[hp]at Hcut;have Hnum:=Aa (fun W=>Cy a 200 W aG aG);have Hname:=Aa (fun W=>Cc b W aG);clear hp;rw[Rw (.inl ho)]at hF;have HF:=Aa hF;have Ho:=Aa ho;clear hF ho;go_enter func152,ntmps152;go_wp2_with fail;refine(Hcut.o _).mono ?_;rintro e w1 ⟨v,rfl,ho,hb⟩;obtain⟨g,c,rfl,hg1,hg2,c0,c1⟩:=Me ho;simp at hg1;obtain⟨hc,hfz,hz⟩:=Bv hb;have Hb:=Aa (((Au w.heap.size w).alloc (Ap _) _).trans (hb.mono aK));have hzz:=hz w.heap.size aK;clear hb ho;go_wp2_with fail;refine(Hnum.o _).mono ?_;rintro e w2 ⟨n,hn,rfl,hdn,hb2⟩;rw[Ho.o];obtain⟨hc2,hfz2,hz2⟩:=Bv hb2;have Hb2:=Aa (Hb.o.trans (hb2.mono Hb.o.size));have hsz:=Hb2.o.size;have hz3:=hz2 _ hzz;clear hb2;go_wp2_with fail;refine aE (v:=.tuple #[.agg #[.int .i64 n,b,a8,a8],.bool false]) (by simp[results,results152,go_sem,hc,hc2,hzz,hz3]) rfl ?_;exact gZ
theorem Qey(s a b:List UInt8)(w:World)(hs:s.length<=1000)(hp:Ae 58 s=[a,b])(ho:Dg a 200=true)(hd:Cf a=some 0):
  Calls prog 152 #[s,.int .u8 69] w (Ci (Bo 69 s) w):=by
 have hal:=Ah 58 s a bi;have hbl:=Ah 58 s b bi;have hF:Bo 69 s=(match H4 [a,b]with|some (n,b)=>some ⟨n,b,Kd.nil,[]⟩|none=>none):=ch;have Hcut:=Aa (fun W=>B9 s 58 58 rfl W aG);rw[hp]at Hcut;have Hnum:=Aa (fun W=>Cy a 200 W aG aG);have Hname:=Aa (fun W=>Cc b W aG);clear hp;rw[Rw (.inr (.inl hd))]at hF;have HF:=Aa hF;have Ho:=Aa ho;have Hd:=Aa hd;clear hF ho hd;go_enter func152,ntmps152;go_wp2_with fail;refine(Hcut.o _).mono ?_;rintro e w1 ⟨v,rfl,ho,hb⟩;obtain⟨g,c,rfl,hg1,hg2,c0,c1⟩:=Me ho;simp at hg1;obtain⟨hc,hfz,hz⟩:=Bv hb;have Hb:=Aa (((Au w.heap.size w).alloc (Ap _) _).trans (hb.mono aK));have hzz:=hz w.heap.size aK;clear hb ho;go_wp2_with fail;refine(Hnum.o _).mono ?_;rintro e w2 ⟨n,hn,rfl,hdn,hb2⟩;rw[Ho.o];obtain⟨hc2,hfz2,hz2⟩:=Bv hb2;have Hb2:=Aa (Hb.o.trans (hb2.mono Hb.o.size));have hsz:=Hb2.o.size;have hz3:=hz2 _ hzz;clear hb2;obtain rfl:=hdn 0 Hd.o;clear hdn;go_wp2_with fail;refine aE (v:=.tuple #[.agg #[.int .i64 0,b,a8,a8],.bool false]) (by simp[results,results152,go_sem,hc,hc2,hzz,hz3]) rfl ?_;exact gZ
theorem Qdr(s a b:List UInt8)(w:World)(hs:s.length<=1000)(hp:Ae 58 s=[a,b])(n0:Nat)(ho:Dg a 200=true)(hd:Cf a=some n0)(h1:1<=n0)(h2:n0<=200)(hnm:At b=false):
  Calls prog 152 #[s,.int .u8 69] w (Ci (Bo 69 s) w):=by
 have hal:=Ah 58 s a bi;have hbl:=Ah 58 s b bi;have hF:Bo 69 s=(match H4 [a,b]with|some (n,b)=>some ⟨n,b,Kd.nil,[]⟩|none=>none):=ch;have Hcut:=Aa (fun W=>B9 s 58 58 rfl W aG);rw[hp]at Hcut;have Hnum:=Aa (fun W=>Cy a 200 W aG aG);have Hname:=Aa (fun W=>Cc b W aG);clear hp;rw[Rw (.inr (.inr hnm))]at hF;have HF:=Aa hF;have Ho:=Aa ho;have Hd:=Aa hd;have Hnm:=Aa hnm;clear hF ho hd hnm;go_enter func152,ntmps152;go_wp2_with fail;refine(Hcut.o _).mono ?_;rintro e w1 ⟨v,rfl,ho,hb⟩;obtain⟨g,c,rfl,hg1,hg2,c0,c1⟩:=Me ho;simp at hg1;obtain⟨hc,hfz,hz⟩:=Bv hb;have Hb:=Aa (((Au w.heap.size w).alloc (Ap _) _).trans (hb.mono aK));have hzz:=hz w.heap.size aK;clear hb ho;go_wp2_with fail;refine(Hnum.o _).mono ?_;rintro e w2 ⟨n,hn,rfl,hdn,hb2⟩;rw[Ho.o];obtain⟨hc2,hfz2,hz2⟩:=Bv hb2;have Hb2:=Aa (Hb.o.trans (hb2.mono Hb.o.size));have hsz:=Hb2.o.size;have hz3:=hz2 _ hzz;clear hb2;obtain rfl:=hdn n0 Hd.o;clear hdn;go_wp2_with fail;refine(Hname.o _).mono ?_;rintro e w3 ⟨rfl,rfl⟩;rw[Hnm.o];go_wp2_with fail;refine aE (v:=.tuple #[.agg #[.int .i64 n0,b,a8,a8],.bool false]) (by simp[results,results152,go_sem,hc,hc2,hzz,hz3]) rfl ?_;exact gZ
theorem Qdo(s a b:List UInt8)(w:World)(hs:s.length<=1000)(hp:Ae 58 s=[a,b])(n0:Nat)(ho:Dg a 200=true)(hd:Cf a=some n0)(h1:1<=n0)(h2:n0<=200)(hnm:At b=true):
  Calls prog 152 #[s,.int .u8 69] w (Ci (Bo 69 s) w):=by
 have hal:=Ah 58 s a bi;have hbl:=Ah 58 s b bi;have hF:Bo 69 s=(match H4 [a,b]with|some (n,b)=>some ⟨n,b,Kd.nil,[]⟩|none=>none):=ch;have Hcut:=Aa (fun W=>B9 s 58 58 rfl W aG);rw[hp]at Hcut;have Hnum:=Aa (fun W=>Cy a 200 W aG aG);have Hname:=Aa (fun W=>Cc b W aG);clear hp;rw[Qcx hd h1 h2 hnm]at hF;have HF:=Aa hF;have Ho:=Aa ho;have Hd:=Aa hd;have Hnm:=Aa hnm;clear hF ho hd hnm;go_enter func152,ntmps152;go_wp2_with fail;refine(Hcut.o _).mono ?_;rintro e w1 ⟨v,rfl,ho,hb⟩;obtain⟨g,c,rfl,hg1,hg2,c0,c1⟩:=Me ho;simp at hg1;obtain⟨hc,hfz,hz⟩:=Bv hb;have Hb:=Aa (((Au w.heap.size w).alloc (Ap _) _).trans (hb.mono aK));have hzz:=hz w.heap.size aK;clear hb ho;go_wp2_with fail;refine(Hnum.o _).mono ?_;rintro e w2 ⟨n,hn,rfl,hdn,hb2⟩;rw[Ho.o];obtain⟨hc2,hfz2,hz2⟩:=Bv hb2;have Hb2:=Aa (Hb.o.trans (hb2.mono Hb.o.size));have hsz:=Hb2.o.size;have hz3:=hz2 _ hzz;clear hb2;obtain rfl:=hdn n0 Hd.o;clear hdn;go_wp2_with fail;refine(Hname.o _).mono ?_;rintro e w3 ⟨rfl,rfl⟩;rw[Hnm.o];go_wp2_with fail;refine aE (v:=.tuple #[sfV ⟨n0,b,Kd.nil,[]⟩,.bool true]) (by simp[results,results152,go_sem,sfV,Kd.nil,Bp,Cd,hc,hc2,hzz,hz3]) rfl ?_;exact Ci.yes HF.o rfl aQ
theorem Rn(s a b:List UInt8)(w:World)(hs:s.length<=1000)(hp:Ae 58 s=[a,b]):
  Calls prog 152 #[s,.int .u8 69] w (Ci (Bo 69 s) w):=by
 rcases Q8 a b with ho|⟨ho,hd⟩|⟨n0,ho,hd,h1,h2,hnm⟩|⟨n0,ho,hd,h1,h2,hnm⟩
 ·exact Qe2 s a b w hs hp ho
 ·exact Qey s a b w hs hp ho hd
 ·exact Qdr s a b w hs hp n0 ho hd h1 h2 hnm
 exact Qdo s a b w hs hp n0 ho hd h1 h2 hnm
end
end Go.Proofs.YtpjijpcemejlnaaGreatDoor
