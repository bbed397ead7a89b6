/- Texts joined. Conditions: as each theorem names them. -/
import Derived.Test.YtkgkoicedddkmaaGreatDoorR01
set_option maxRecDepth 100000
set_option maxHeartbeats 32000000
set_option linter.unusedVariables false
set_option linter.unusedSimpArgs false
namespace Go.Proofs.YtkgkoicedddkmaaGreatDoor
open Go.RowKit Go.Proofs.Tryz
theorem So{α:Type}{g:α->List Value}{k:Nat}(hk:∀x,(g x).length=k):∀(l:List α) (i j:Nat),(hi:i<l.length)->j<k->(l.flatMap g)[i*k+j]?=(g l[i])[j]?
 |[],i,j,hi,_=>by simp at hi
 |x::l,0,j,_,hj=>by
  simp only[Nat.zero_mul,am,List.flatMap_cons,List.getElem_cons_zero];rw[List.getElem?_append_left (by rw[hk];exact hj)]
 |x::l,i+1,j,hi,hj=>by
  have ih:=So hk l i j ei hj;simp only[List.flatMap_cons,List.getElem_cons_succ];rw[List.getElem?_append_right (by rw[hk,Nat.add_mul];omega),hk];rw[show (i+1)*k+j - k=i*k+j by rw[Nat.add_mul];omega];exact ih
theorem Sm{α:Type}{g:α->List Value}{k:Nat}(hk:∀x,(g x).length=k):∀l:List α,(l.flatMap g).length=l.length*k
 |[]=>aL
 |x::l=>by
  rw[List.flatMap_cons,ah,hk,Sm hk l,List.length_cons,Nat.add_mul];omega
theorem B9.elem{w:World}{A:Option Addr}{α:Type}{g:α->List Value}{k:Nat}{l:List α}(hk:∀x,(g x).length=k)(hk0:0<k)(h:B9 w A (l.length*k) (l.flatMap g)){i:Nat}(hi:i<l.length):
  ∃b off,A=some ⟨b,off,none⟩/\b<w.heap.size/\∀j u,(g l[i])[j]?=some u->w.cell? ⟨b,off+(i*k+j),none⟩=some u:=by
 have hpos:0<l.length*k:=Nat.mul_pos aH hk0;obtain⟨b,off,e,hlt,hc⟩:=h.2.2 hpos;refine⟨b,off,e,hlt,fun j u hu=>hc _ u ?_⟩;have hj:j<k:=by
  have:=(List.getElem?_eq_some_iff.1 hu).1;rwa [hk]at this
 rw[So hk l i j hi hj];exact hu
def sfc(f:Fd):List Value:=[(f.tag:Int),f.name,.string ⟨(Bj f.kind).toArray⟩,f.given]
def sfV(f:Fd):Value:=.agg #[(f.tag:Int),f.name,.string ⟨(Bj f.kind).toArray⟩,f.given]
def sf0:Value:=.agg #[.int .i64 0,a8,a8,a8]
theorem Qg2(f:Fd):(sfc f).length=4:=rfl
def Er(w:World)(v:Value)(fs:List Fd):Prop:=∃A c,v=.slice A fs.length c/\fs.length<=1000/\B9 w A (fs.length*4) (fs.flatMap sfc)
theorem Er.below{w w':World}{v:Value}{fs:List Fd}(h:Er w v fs)(hb:Below w w w'):Er w' v fs:=by
 obtain⟨A,c,e,hl,hr⟩:=h;exact⟨A,c,e,hl,hr.below hb⟩
theorem Er.at_{w:World}{A:Option Addr}{fs:List Fd}(hr:B9 w A (fs.length*4) (fs.flatMap sfc)){i:Nat}(hi:i<fs.length):
  ∃b off,A=some ⟨b,off,none⟩/\b<w.heap.size/\w.cell? ⟨b,off+i*4,none⟩=some (.int .i64 (fs[i].tag:Int))/\w.cell? ⟨b,off+i*4+1,none⟩=some (.string ⟨fs[i].name.toArray⟩) /\
   w.cell? ⟨b,off+i*4+2,none⟩=some (.string ⟨(Bj fs[i].kind).toArray⟩)/\w.cell? ⟨b,off+i*4+3,none⟩=some (.string ⟨fs[i].given.toArray⟩):=by
 obtain⟨b,off,e,hlt,hc⟩:=hr.elem Qg2 aK hi;refine⟨b,off,e,hlt,?_,?_,?_,?_⟩
 ·exact jN
 ·exact jr
 ·exact jE
 have:=hc 3 _ rfl;simpa [Nat.add_assoc]using this
def Kx(t:Ty)(fv:Value):Value:=.agg #[.int .u8 (t.sort.toNat:Int),t.name,fv]
def Nq:Value:=.agg #[.int .u8 0,a8,.slice none 0 0]
def stc(x:Ty × Value):List Value:=[.int .u8 (x.1.sort.toNat:Int),x.1.name,x.2]
theorem Qg4(x:Ty × Value):(stc x).length=3:=rfl
def Jq(w:World)(v:Value)(xs:List (Ty × Value)):Prop:=∃A c,v=.slice A xs.length c/\xs.length<=1000/\B9 w A (xs.length*3) (xs.flatMap stc)/\∀x∈xs,Er w x.2 x.1.fields
theorem Jq.below{w w':World}{v:Value}{xs:List (Ty × Value)}(h:Jq w v xs)(hb:Below w w w'):Jq w' v xs:=by
 obtain⟨A,c,e,hl,hr,hf⟩:=h;exact⟨A,c,e,hl,hr.below hb,fun x hx=>(hf x hx).below hb⟩
def Af(xs:List (Ty × Value)):List Ty:=xs.map (·.1)
def Dq(xs:List (Ty × Value))(n:List UInt8):Option (Ty × Value):=xs.find? fun x=>decide (x.1.name=n)
theorem G6(xs:List (Ty × Value))(n:List UInt8):Bp (Af xs) n=(Dq xs n).map (·.1):=by
 unfold Bp Af Dq;rw[List.find?_map];rfl
theorem Dj{xs:List (Ty × Value)}{n:List UInt8}{x:Ty × Value}(h:Dq xs n=some x):x∈xs/\x.1.name=n/\Bp (Af xs) n=some x.1:=by
 refine⟨List.mem_of_find?_eq_some h,?_,by rw[G6,h];rfl⟩;have:=List.find?_some h;simpa using this
theorem Qbu{xs:List (Ty × Value)}{n:List UInt8}(h:Dq xs n=none):Bp (Af xs) n=none:=by rw[G6,h];rfl
def Kz(xs:List (Ty × Value))(k:Kd):Option (Ty × Value):=if k.signs=[]/\k.base=[64]then Dq xs k.name else none
theorem Jq.at_{w:World}{A:Option Addr}{xs:List (Ty × Value)}(hr:B9 w A (xs.length*3) (xs.flatMap stc)){i:Nat}(hi:i<xs.length):
  ∃b off,A=some ⟨b,off,none⟩/\b<w.heap.size/\w.cell? ⟨b,off+i*3,none⟩=some (.int .u8 (xs[i].1.sort.toNat:Int))/\w.cell? ⟨b,off+i*3+1,none⟩=some (.string ⟨xs[i].1.name.toArray⟩) /\
   w.cell? ⟨b,off+i*3+2,none⟩=some xs[i].2:=by
 obtain⟨b,off,e,hlt,hc⟩:=hr.elem Qg4 aK hi;refine⟨b,off,e,hlt,?_,?_,?_⟩
 ·exact jN
 ·exact jr
 have:=hc 2 _ rfl;simpa [Nat.add_assoc]using this
def Au(fs:List Fd)(n:Nat):Option Fd:=fs.find? fun f=>decide (f.tag=n)
theorem Ro{α:Type}{p:α->Bool}{l:List α}{k:Nat}(hk:k<l.length)(h:∀x∈l.take k,p x=false):l.find? p=if p l[k]=true then some l[k]else(l.drop (k+1)).find? p:=by
 have e:l=l.take k++l[k]::l.drop (k+1):=by rw[<-List.drop_eq_getElem_cons hk,List.take_append_drop]
 conv=>lhs;rw[e]
 rw[List.find?_append];have h1:(l.take k).find? p=none:=List.find?_eq_none.2 (fun x hx=>by simp[h x hx]);rw[h1,Option.none_or,List.find?_cons];cases p l[k]<;>rfl
theorem Mk{α:Type}{p:α->Bool}{l:List α}(h:∀x∈l,p x=false):l.find? p=none:=List.find?_eq_none.2 (fun x hx=>by simp[h x hx])
section
attribute [local go_sem] Qiz Qii Qib Qgw ByteArray.mk_append_mk
def sfR:Option Fd->Value
 |some f=>.tuple #[sfV f,.bool true]
 |none=>.tuple #[sf0,.bool false]
theorem Qd(st nm fv:Value)(fs:List Fd)(n:Nat)(w:World)(h:Er w fv fs)(hn:n<=1000000000):
  Calls prog 45 #[.agg #[st,nm,fv],.int .i64 n] w fun e w'=>e=.returned (sfR (Au fs n))/\Below w w w':=by
 obtain⟨A,c,rfl,hl,hr⟩:=h;have Hr:=Aa hr;clear hr;go_enter func45,ntmps45;go_wp2_with fail;go_loopw [6] (fun i wr=>∃k:Nat,i=.int .i64 k/\k<=fs.length/\wr=(w.alloc (.cells #[st,nm,.slice A fs.length c] 100)).alloc (.cells #[.int .i64 0,a8,a8,a8] 104)/\Hid (∀f∈fs.take k,decide (f.tag=n)=false)) (fun i _=>fs.length - (intOf i).toNat)
 case atStart=>exact⟨0,rfl,ag _,rfl,by intro f hf;simp at hf⟩
 case round=>
  obtain⟨k,rfl,hk,rfl,hin⟩:=hrel;by_cases hlt:k<fs.length
  ·obtain⟨b,off,rfl,hb,c0,c1,c2,c3⟩:=Er.at_ Hr.o hlt;have Hts:=Aa (Ch fs k hlt);have Hft:=Aa (Ro (p:=fun f=>decide (f.tag=n)) hlt hin.o);generalize fs[k]=f at c0 c1 c2 c3 Hts Hft;have k1:(0:Int)<=(k:Int):=aH;have k2:(k:Int)<(fs.length:Int):=aH;by_cases he:f.tag=n
   ·have t1:((f.tag:Int) == (n:Int))=true:=by simp[he]
    have Hfin:=Aa (show Au fs n=some f by unfold Au;rw[Hft.o,if_pos d9]);clear he;go_wp2_with fail;exact aF (v:=.tuple #[sfV f,.bool true]) (by simp[results,results45,go_sem,sfV]) rfl ⟨by rw[Hfin.o];rfl,((Aq _ _).alloc (Ap _) _).alloc aL _⟩
   have t1:((f.tag:Int) == (n:Int))=false:=cb
   have Hin:=Aa (show ∀g∈fs.take (k+1),decide (g.tag=n)=false by
    intro g hg;rw[Hts.o]at hg;rcases af.1 hg with hg|hg
    ·exact hin.o g hg
    simp at hg;subst hg;simpa using he)
   clear he;go_wp2_with fail;go_roundw
   case rel=>exact⟨k+1,by go_num,by omega,Ac,Hin.o⟩
   case measure=>simp[intOf];omega
  ·have Hfin:=@Aa (Au fs n=none) (Mk (fun f hf=>hin.o f dN));go_wp2_with fail;exact aF (v:=.tuple #[sf0,.bool false]) (by simp[results,results45,go_sem,sf0]) rfl ⟨by rw[Hfin.o];rfl,((Aq _ _).alloc (Ap _) _).alloc aL _⟩
def Rn:Option (Ty × Value)->Value
 |some x=>.tuple #[Kx x.1 x.2,.bool true]
 |none=>.tuple #[Nq,.bool false]
theorem Rs(v:Value)(xs:List (Ty × Value))(n:List UInt8)(w:World)(h:Jq w v xs):
  Calls prog 65 #[v,n] w fun e w'=>e=.returned (Rn (Dq xs n))/\Below w w w':=by
 obtain⟨A,c,rfl,hl,hr,hf⟩:=h;have Hr:=Aa hr;have Hf:=Aa hf;clear hr hf;go_enter func65,ntmps65;go_wp2_with fail;go_loopw [6] (fun i wr=>∃k:Nat,i=.int .i64 k/\k<=xs.length/\wr=w.alloc (.cells #[.int .u8 0,a8,.slice none 0 0] 100)/\Hid (∀x∈xs.take k,decide (x.1.name=n)=false)) (fun i _=>xs.length - (intOf i).toNat)
 case atStart=>exact⟨0,rfl,ag _,rfl,by intro f hf;simp at hf⟩
 case round=>
  obtain⟨k,rfl,hk,rfl,hin⟩:=hrel;by_cases hlt:k<xs.length
  ·obtain⟨b,off,rfl,hb,c0,c1,c2⟩:=Jq.at_ Hr.o hlt;have Hts:=Aa (Ch xs k hlt);have Hft:=Aa (Ro (p:=fun x=>decide (x.1.name=n)) hlt hin.o);have hfx:=Hf.o _ (ae hlt);generalize xs[k]=x at c0 c1 c2 Hts Hft hfx;obtain⟨t,fv⟩:=x;simp only[]at c0 c1 c2 hfx;obtain⟨A2,d2,hfv,_⟩:=hfx;subst hfv;have k1:(0:Int)<=(k:Int):=aH;have k2:(k:Int)<(xs.length:Int):=aH;by_cases he:t.name=n
   ·have t1:(t.name == n)=true:=by simp[he]
    have Hfin:=Aa (show Dq xs n=some (t,.slice A2 t.fields.length d2)by unfold Dq;rw[Hft.o,if_pos d9]);clear he;go_wp2_with fail;refine aF (v:=.tuple #[Kx t (.slice A2 t.fields.length d2),.bool true]) (by simp[results,results65,go_sem,Kx]) rfl ?_;exact⟨by rw[Hfin.o];rfl,(Aq _ _).alloc (Ap _) _⟩
   have t1:(t.name == n)=false:=d9
   have Hin:=Aa (show ∀g∈xs.take (k+1),decide (g.1.name=n)=false by
    intro g hg;rw[Hts.o]at hg;rcases af.1 hg with hg|hg
    ·exact hin.o g hg
    simp at hg;subst hg;simpa using he)
   clear he;go_wp2_with fail;go_roundw
   case rel=>exact⟨k+1,by go_num,by omega,Ac,Hin.o⟩
   case measure=>simp[intOf];omega
  ·have Hfin:=@Aa (Dq xs n=none) (Mk (fun f hf=>hin.o f dN));go_wp2_with fail;refine aF (v:=.tuple #[Nq,.bool false]) (by simp[results,results65,go_sem,Nq]) rfl ?_;exact⟨by rw[Hfin.o];rfl,(Aq _ _).alloc (Ap _) _⟩
theorem Qhh{k:Kd}(h:Cw k):(k.signs=[]/\k.base=[64]/\Bj k=64::(k.name++[59])/\k.name.length<=3)\/(¬(k.signs=[]/\k.base=[64])/\∃c t,Bj k=c::t/\c≠64/\t.length<=12):=by
 obtain⟨h1,h2,h3⟩:=h;cases hs:k.signs with
 |cons c t=>
  refine .inr ⟨by simp,c,t++Bs k,by unfold Bj;rw[hs];rfl,?_,?_⟩
  ·rw[hs]at h1;simp only[List.all_cons,aw]at h1;rintro rfl;exact absurd h1.1 aK
  unfold Bj at h3;rw[hs]at h3;simp at h3 ⊢;omega
 |nil=>
  rcases h2 with⟨hb,hn⟩|⟨hb,_⟩
  ·exact .inl ⟨rfl,hb,by unfold Bj Bs;rw[hs,if_pos hb];rfl,(Dk.1 hn).2.1⟩
  refine .inr ⟨?_,?_⟩
  ·rintro⟨_,h⟩;rcases hb with hb|hb|hb<;>· rw[hb]at h;revert h;decide
  have hc:Bj k=k.base:=by
   unfold Bj Bs;rw[hs,if_neg (by rcases hb with hb|hb|hb<;>· rw[hb];decide)];rfl
  rw[hc];rcases hb with hb|hb|hb<;>· rw[hb];exact⟨_,_,rfl,by decide,by simp⟩
theorem Fu(v:Value)(xs:List (Ty × Value))(k:Kd)(w:World)(h:Jq w v xs)(hk:Cw k):
  Calls prog 44 #[v,.string ⟨(Bj k).toArray⟩] w fun e w'=>e=.returned (Rn (Kz xs k))/\Below w w w':=by
 have H:=Aa h;clear h;rcases Qhh hk with⟨h1,h2,h3,h4⟩|⟨h1,c,t,h3,h4,h5⟩
 ·have Hr:=@Aa (Kz xs k=Dq xs k.name) (if_pos ⟨h1,h2⟩);rw[h3];clear h1 h2 h3;go_enter func44,ntmps44;go_wp2_with fail;refine(Ya k.name _ aH).mono ?_;rintro e w' ⟨rfl,rfl⟩;go_wp2_with fail;refine(Rs v xs k.name _ (H.o.below ((Aq _ _).alloc (Ap _) _))).mono ?_;rintro e w2 ⟨rfl,hb⟩;cases hf:Dq xs k.name with
  |none=>
   rw[hf]at Hr;obtain⟨hc,hfz,hz⟩:=By hb;have Hb:=Aa (((Aq w.heap.size w).alloc (Ap _) _).trans (hb.mono aL));clear hb hf;unfold Rn Nq;go_wp2_with fail;refine aF (v:=.tuple #[Nq,.bool false]) (by simp[results,results44,go_sem,Nq,hc]) rfl ?_;exact⟨by rw[Hr.o];rfl,((Hb.o.setCell (Ap _) _).setCell (Ap _) _).setCell (Ap _) _⟩
  |some x=>
   obtain⟨t,fv⟩:=x;have hm:=(Dj hf).1;obtain⟨A,c,_,_,_,hfs⟩:=H.o;obtain⟨A2,d2,e2,_⟩:=hfs _ hm;simp only at e2;subst e2;rw[hf]at Hr;obtain⟨hc,hfz,hz⟩:=By hb;have Hb:=Aa (((Aq w.heap.size w).alloc (Ap _) _).trans (hb.mono aL));clear hb hf hm hfs;unfold Rn Kx;go_wp2_with fail;refine aF (v:=.tuple #[Kx t (.slice A2 t.fields.length d2),.bool true]) (by simp[results,results44,go_sem,Kx,hc]) rfl ?_;exact⟨by rw[Hr.o];rfl,((Hb.o.setCell (Ap _) _).setCell (Ap _) _).setCell (Ap _) _⟩
 have Hr:=@Aa (Kz xs k=none) (if_neg h1);rw[h3];clear h1 h3;go_enter func44,ntmps44;go_wp2_with fail;refine(Qa0 c t _ h4 aH).mono ?_;rintro e w' ⟨rfl,rfl⟩;go_wp2_with fail;refine aF (v:=.tuple #[Nq,.bool false]) (by simp[results,results44,go_sem,Nq]) rfl ?_;exact⟨by rw[Hr.o];rfl,(Aq _ _).alloc (Ap _) _⟩
theorem Qhw(S:List Ty)(n:Nat)(t:Ty)(h:t.sort≠85):Bv S (n+1) t=true:=by
 simp only[Bv,Ff,if_neg h]
theorem Qf9(xs:List (Ty × Value))(n:Nat)(t:Ty)(f:Fd)(fs:List Fd)(h:t.sort=85)(hf:t.fields=f::fs):
  Bv (Af xs) (n+1) t=(match Kz xs f.kind with|none=>true|some u=>Bv (Af xs) n u.1):=by
 simp only[Bv,Ff,if_pos h,hf,Kz];by_cases hk:f.kind.signs=[]/\f.kind.base=[64]
 ·rw[if_pos hk,if_pos hk,G6];cases Dq xs f.kind.name<;>rfl
 rw[if_neg hk,if_neg hk]
theorem Qce{t:Ty}(h:Ep t)(hs:t.sort=85):∃f fs,t.fields=f::fs/\Cw f.kind:=by
 obtain⟨h1,h2,h3,h4,h5⟩:=h;cases hf:t.fields with
 |nil=>have:=h5 hf;rw[hs]at this;exact absurd this aK
 |cons f fs=>
  refine⟨f,fs,rfl,?_⟩;have:=h3.1 f en;exact(this.2.2.2.2 eD).1
theorem Qe7{xs:List (Ty × Value)}{k:Kd}{x:Ty × Value}(h:Kz xs k=some x):x∈xs:=by
 unfold Kz at h;split at h
 ·exact(Dj h).1
 cases h
theorem Qeo(v fv:Value)(xs:List (Ty × Value))(t:Ty)(w:World)(h:Jq w v xs)(ht:Ep t)(hft:Er w fv t.fields)(hok:∀x∈xs,Ep x.1):
  Calls prog 110 #[v,Kx t fv] w fun e w'=>e=.returned (.bool (Bv (Af xs) (xs.length+1) t))/\Below w w w':=by
 have H:=Aa h;have Hok:=Aa hok;obtain⟨A,c,rfl,hxl,_⟩:=h;obtain⟨A1,c1,rfl,hfl,hr1⟩:=hft;have Hr1:=Aa hr1;have Ht:=Aa ht;clear hok hr1 ht;unfold Kx;go_enter func110,ntmps110;go_wp2_with fail
 go_loopw [5] (fun i wr=>∃(n:Nat) (cur:Ty) (A2:Option Addr) (c2:Nat),i=.int .i64 n/\n<=xs.length+1/\Hid (Ep cur)/\Hid (B9 w A2 (cur.fields.length*4) (cur.fields.flatMap sfc)) /\
   Hid (Bv (Af xs) (xs.length+1) t=Bv (Af xs) (xs.length+1 - n) cur)/\Hid (Below w w wr)/\w.heap.size<wr.heap.size /\
   wr.cell? (w,0)=some (.int .u8 (cur.sort.toNat:Int))/\wr.cell? (w,1)=cur.name/\wr.cell? (w,2)=some (.slice A2 cur.fields.length c2) /\
   (∀j,wr.frozen? ⟨w.heap.size,j,none⟩=false)) (fun i _=>xs.length+1 - (intOf i).toNat)
 case atStart=>exact⟨0,t,A1,c1,rfl,ag _,Ht.o,Hr1.o,rfl,(Aq _ _).alloc (Ap _) _,by simp,by simp,by simp,by simp,by simp⟩
 case round=>
  obtain⟨n,cur,A2,c2,rfl,hn,hcu,hrow,heq,hb,hsz,u0,u1,u2,f1⟩:=hrel;by_cases hlt:n<=xs.length
  ·have k1:(n:Int)<=(xs.length:Int):=aH;obtain⟨m,hm⟩:∃m,xs.length+1 - n=m+1:=⟨xs.length - n,by omega⟩
   have hm2:xs.length+1 - (n+1)=m:=aH;rw[hm]at heq;have hcl:=cur.sort.toNat_lt;by_cases hs:cur.sort=85
   ·have t1:((cur.sort.toNat:Int) != 85)=false:=by have:=Be hs;simpa using this
    have t2:((cur.sort.toNat:Int) == 85)=true:=Be hs;obtain⟨f,fs,hfs,hkd⟩:=Qce hcu.o hs;have Heq:=Aa (show Bv (Af xs) (xs.length+1) t=(match Kz xs f.kind with|none=>true|some u=>Bv (Af xs) m u.1)by rw[heq.o];exact Qf9 xs m cur f fs hs hfs);have hlf:0<cur.fields.length:=cT;have hf0:cur.fields[0]=f:=by simp[hfs]
    obtain⟨b,off,rfl,hbl,g0,g1,g2,g3⟩:=Er.at_ (hrow.o.below hb.o) hlf;rw[hf0]at g0 g1 g2 g3;simp only[Nat.zero_mul,Nat.add_zero]at g0 g1 g2 g3;have Hkd:=Aa hkd;have l1:(0:Int)<(cur.fields.length:Int):=aH;clear hs heq hkd hf0 hfs;go_wp2_with fail;refine(Fu (.slice A xs.length c) xs f.kind _ (H.o.below hb.o) Hkd.o).mono ?_;rintro e w4 ⟨rfl,hb4⟩;obtain⟨hc4,hfz4,hz4⟩:=By hb4;have Hb5:=Aa (hb.o.trans (hb4.mono (Nat.le_of_lt hsz)));rw[<-hc4 _ _ hsz]at u0 u1 u2;have f1':∀j,w4.frozen? ⟨w.heap.size,j,none⟩=false:=fun j=>(hfz4 _ j hsz).trans (f1 j);have hsz4:=hz4 _ hsz;have Hrow':=Aa (fun(x:Ty × Value) (hx:x∈xs)=>((show ∀x∈xs,Er w x.2 x.1.fields from(by obtain⟨_,_,_,_,_,hf⟩:=H.o;exact hf)) x hx));have hn1:¬(w4.heap.size=w.heap.size):=aH;have hn2:¬(w.heap.size=w4.heap.size):=aH;clear hb4 hc4 hfz4 hz4 f1 hb;cases hr:Kz xs f.kind with
    |none=>
     rw[hr]at Heq;unfold Rn Nq;go_wp2_with fail;go_ret;exact⟨by rw[Heq.o];first|rfl|trivial,ce⟩
    |some x=>
     rw[hr]at Heq;obtain⟨u,uv⟩:=x;have Hm:=Aa (Qe7 hr);obtain⟨A5,c5,e5,_,hr5⟩:=Hrow'.out _ Hm.o;simp only[]at e5 hr5;subst e5;have Hr5:=Aa hr5;clear hr hr5;unfold Rn Kx;go_wp2_with fail;go_roundw
     case rel=>
      refine⟨n+1,u,A5,c5,by go_num,by omega,Hok.o _ Hm.o,Hr5.o,by rw[hm2];exact Heq.o,ce,by simp;omega,by simp[go_sem,u0,u1,u2,f1',hn1,hn2,hsz4],by simp[go_sem,u0,u1,u2,f1',hn1,hn2,hsz4],by simp[go_sem,u0,u1,u2,f1',hn1,hn2,hsz4],by intro j;simp[go_sem,f1',hn1,hn2,hsz4]⟩
     case measure=>simp[intOf];omega
   have t1:((cur.sort.toNat:Int) != 85)=true:=by have:=Am hs;simpa using this
   have t2:((cur.sort.toNat:Int) == 85)=false:=Am hs;have Hend:=Aa (show Bv (Af xs) (xs.length+1) t=true by rw[heq.o];exact Qhw _ m cur hs);clear hs heq;go_wp2_with fail;go_ret;exact⟨by rw[Hend.o];first|rfl|trivial,hb.o⟩
  ·have k1:¬(n:Int)<=(xs.length:Int):=aH;have Hend:=Aa (show Bv (Af xs) (xs.length+1) t=false by rw[heq.o,show xs.length+1 - n=0 by omega];rfl);clear heq;go_wp2_with fail;go_ret;exact⟨by rw[Hend.o];first|rfl|trivial,hb.o⟩
end
end Go.Proofs.YtkgkoicedddkmaaGreatDoor
