/- Texts joined. Conditions: as each theorem names them. -/
import Derived.Test.YtbdibdghphdcdaaGreatDoorJ01
set_option maxRecDepth 100000
set_option maxHeartbeats 32000000
set_option linter.unusedVariables false
set_option linter.unusedSimpArgs false
namespace Go.Proofs.YtbdibdghphdcdaaGreatDoor
open Go.RowKit Go.Proofs.Tryz
theorem N0{α:Type}{g:α->List Value}{k:Nat}(hk:∀x,(g x).length=k):∀(l:List α) (i j:Nat),(hi:i<l.length)->j<k->(l.flatMap g)[i*k+j]?=(g l[i])[j]?
 |[],i,j,hi,_=>by simp at hi
 |x::l,0,j,_,hj=>by
  simp only[Nat.zero_mul,am,List.flatMap_cons,List.getElem_cons_zero];rw[List.getElem?_append_left (by rw[hk];exact hj)]
 |x::l,i+1,j,hi,hj=>by
  have ih:=N0 hk l i j fj hj;simp only[List.flatMap_cons,List.getElem_cons_succ];rw[List.getElem?_append_right (by rw[hk,Nat.add_mul];omega),hk];rw[show (i+1)*k+j - k=i*k+j by rw[Nat.add_mul];omega];exact ih
theorem J1{α:Type}{g:α->List Value}{k:Nat}(hk:∀x,(g x).length=k):∀l:List α,(l.flatMap g).length=l.length*k
 |[]=>aK
 |x::l=>by
  rw[List.flatMap_cons,ah,hk,J1 hk l,List.length_cons,Nat.add_mul];omega
theorem Cd.elem{w:World}{A:Option Addr}{α:Type}{g:α->List Value}{k:Nat}{l:List α}(hk:∀x,(g x).length=k)(hk0:0<k)(h:Cd w A (l.length*k) (l.flatMap g)){i:Nat}(hi:i<l.length):
  ∃b off,A=some ⟨b,off,none⟩/\b<w.heap.size/\∀j u,(g l[i])[j]?=some u->w.cell? ⟨b,off+(i*k+j),none⟩=some u:=by
 have hpos:0<l.length*k:=Nat.mul_pos aH hk0;obtain⟨b,off,e,hlt,hc⟩:=h.2.2 hpos;refine⟨b,off,e,hlt,fun j u hu=>hc _ u ?_⟩;have hj:j<k:=by
  have:=(List.getElem?_eq_some_iff.1 hu).1;rwa [hk]at this
 rw[N0 hk l i j hi hj];exact hu
def Mn(f:Fd):List Value:=[(f.tag:Int),f.name,.string ⟨(Be f.kind).toArray⟩,f.given]
def sfV(f:Fd):Value:=.agg #[(f.tag:Int),f.name,.string ⟨(Be f.kind).toArray⟩,f.given]
def sf0:Value:=.agg #[.int .i64 0,a6,a6,a6]
theorem Qmu(f:Fd):(Mn f).length=4:=rfl
def Dv(w:World)(v:Value)(fs:List Fd):Prop:=∃A c,v=.slice A fs.length c/\fs.length<=1000/\Cd w A (fs.length*4) (fs.flatMap Mn)
theorem Dv.below{w w':World}{v:Value}{fs:List Fd}(h:Dv w v fs)(hb:Below w w w'):Dv w' v fs:=by
 exact ky
theorem Dv.at_{w:World}{A:Option Addr}{fs:List Fd}(hr:Cd w A (fs.length*4) (fs.flatMap Mn)){i:Nat}(hi:i<fs.length):
  ∃b off,A=some ⟨b,off,none⟩/\b<w.heap.size/\w.cell? ⟨b,off+i*4,none⟩=some (.int .i64 (fs[i].tag:Int))/\w.cell? ⟨b,off+i*4+1,none⟩=some (.string ⟨fs[i].name.toArray⟩) /\
   w.cell? ⟨b,off+i*4+2,none⟩=some (.string ⟨(Be fs[i].kind).toArray⟩)/\w.cell? ⟨b,off+i*4+3,none⟩=some (.string ⟨fs[i].given.toArray⟩):=by
 obtain⟨b,off,e,hlt,hc⟩:=hr.elem Qmu aJ hi;refine⟨b,off,e,hlt,?_,?_,?_,?_⟩
 ·exact jP
 ·exact jB
 ·exact jK
 have:=hc 3 _ rfl;simpa [Nat.add_assoc]using this
def Mj(t:Ty)(fv:Value):Value:=.agg #[.int .u8 (t.sort.toNat:Int),t.name,fv]
def Qo:Value:=.agg #[.int .u8 0,a6,.slice none 0 0]
def stc(x:Ty × Value):List Value:=[.int .u8 (x.1.sort.toNat:Int),x.1.name,x.2]
theorem Qnh(x:Ty × Value):(stc x).length=3:=rfl
def Gl(w:World)(v:Value)(xs:List (Ty × Value)):Prop:=∃A c,v=.slice A xs.length c/\xs.length<=1000/\Cd w A (xs.length*3) (xs.flatMap stc)/\∀x∈xs,Dv w x.2 x.1.fields
theorem Gl.below{w w':World}{v:Value}{xs:List (Ty × Value)}(h:Gl w v xs)(hb:Below w w w'):Gl w' v xs:=by
 obtain⟨A,c,e,hl,hr,hf⟩:=h;exact⟨A,c,e,hl,hr.below hb,fun x hx=>(hf x hx).below hb⟩
def Af(xs:List (Ty × Value)):List Ty:=xs.map (·.1)
def D8(xs:List (Ty × Value))(n:List UInt8):Option (Ty × Value):=xs.find? fun x=>decide (x.1.name=n)
theorem Jc(xs:List (Ty × Value))(n:List UInt8):Bt (Af xs) n=(D8 xs n).map (·.1):=by
 unfold Bt Af D8;rw[List.find?_map];rfl
theorem Cu{xs:List (Ty × Value)}{n:List UInt8}{x:Ty × Value}(h:D8 xs n=some x):x∈xs/\x.1.name=n/\Bt (Af xs) n=some x.1:=by
 refine⟨List.mem_of_find?_eq_some h,?_,by rw[Jc,h];rfl⟩;have:=List.find?_some h;simpa using this
theorem Qgg{xs:List (Ty × Value)}{n:List UInt8}(h:D8 xs n=none):Bt (Af xs) n=none:=by rw[Jc,h];rfl
def J6(xs:List (Ty × Value))(k:Kd):Option (Ty × Value):=if k.signs=[]/\k.base=[64]then D8 xs k.name else none
theorem Gl.at_{w:World}{A:Option Addr}{xs:List (Ty × Value)}(hr:Cd w A (xs.length*3) (xs.flatMap stc)){i:Nat}(hi:i<xs.length):
  ∃b off,A=some ⟨b,off,none⟩/\b<w.heap.size/\w.cell? ⟨b,off+i*3,none⟩=some (.int .u8 (xs[i].1.sort.toNat:Int))/\w.cell? ⟨b,off+i*3+1,none⟩=some (.string ⟨xs[i].1.name.toArray⟩) /\
   w.cell? ⟨b,off+i*3+2,none⟩=some xs[i].2:=by
 obtain⟨b,off,e,hlt,hc⟩:=hr.elem Qnh aJ hi;refine⟨b,off,e,hlt,?_,?_,?_⟩
 ·exact jP
 ·exact jB
 have:=hc 2 _ rfl;simpa [Nat.add_assoc]using this
def Av(fs:List Fd)(n:Nat):Option Fd:=fs.find? fun f=>decide (f.tag=n)
theorem Vu{α:Type}{p:α->Bool}{l:List α}{k:Nat}(hk:k<l.length)(h:∀x∈l.take k,p x=false):l.find? p=if p l[k]=true then some l[k]else(l.drop (k+1)).find? p:=by
 have e:l=l.take k++l[k]::l.drop (k+1):=by rw[<-List.drop_eq_getElem_cons hk,List.take_append_drop]
 conv=>lhs;rw[e]
 rw[List.find?_append];have h1:(l.take k).find? p=none:=List.find?_eq_none.2 (fun x hx=>by simp[h x hx]);rw[h1,Option.none_or,List.find?_cons];cases p l[k]<;>rfl
theorem Pf{α:Type}{p:α->Bool}{l:List α}(h:∀x∈l,p x=false):l.find? p=none:=List.find?_eq_none.2 (fun x hx=>by simp[h x hx])
section
attribute [local go_sem] Qo7 Qok Qoa Ql9 ByteArray.mk_append_mk
def sfR:Option Fd->Value
 |some f=>.tuple #[sfV f,.bool true]
 |none=>.tuple #[sf0,.bool false]
theorem S7(st nm fv:Value)(fs:List Fd)(n:Nat)(w:World)(h:Dv w fv fs)(hn:n<=1000000000):
  Calls prog 81 #[.agg #[st,nm,fv],.int .i64 n] w fun e w'=>e=.returned (sfR (Av fs n))/\Below w w w':=by
 obtain⟨A,c,rfl,hl,hr⟩:=h;have Hr:=Aa hr;clear hr;go_enter func81,ntmps81;go_wp2_with fail;go_loopw [6] (fun i wr=>∃k:Nat,i=.int .i64 k/\k<=fs.length/\wr=(w.alloc (.cells #[st,nm,.slice A fs.length c] 86)).alloc (.cells #[.int .i64 0,a6,a6,a6] 88)/\Hid (∀f∈fs.take k,decide (f.tag=n)=false)) (fun i _=>fs.length - (intOf i).toNat)
 case atStart=>exact⟨0,rfl,ag _,rfl,by intro f hf;simp at hf⟩
 case round=>
  obtain⟨k,rfl,hk,rfl,hin⟩:=hrel;by_cases hlt:k<fs.length
  ·obtain⟨b,off,rfl,hb,c0,c1,c2,c3⟩:=Dv.at_ Hr.o hlt;have Hts:=Aa (Cn fs k hlt);have Hft:=Aa (Vu (p:=fun f=>decide (f.tag=n)) hlt hin.o);generalize fs[k]=f at c0 c1 c2 c3 Hts Hft;have k1:(0:Int)<=(k:Int):=aH;have k2:(k:Int)<(fs.length:Int):=aH;by_cases he:f.tag=n
   ·have t1:((f.tag:Int) == (n:Int))=true:=by simp[he]
    have Hfin:=Aa (show Av fs n=some f by unfold Av;rw[Hft.o,if_pos dm]);clear he;go_wp2_with fail;exact aF (v:=.tuple #[sfV f,.bool true]) (by simp[results,results81,go_sem,sfV]) rfl ⟨by rw[Hfin.o];rfl,((Ap _ _).alloc (An _) _).alloc aK _⟩
   have t1:((f.tag:Int) == (n:Int))=false:=cw
   have Hin:=Aa (show ∀g∈fs.take (k+1),decide (g.tag=n)=false by
    intro g hg;rw[Hts.o]at hg;rcases af.1 hg with hg|hg
    ·exact hin.o g hg
    simp at hg;subst hg;simpa using he)
   clear he;go_wp2_with fail;go_roundw
   case rel=>exact⟨k+1,by go_num,by omega,Ac,Hin.o⟩
   case measure=>simp[intOf];omega
  ·have Hfin:=@Aa (Av fs n=none) (Pf (fun f hf=>hin.o f dZ));go_wp2_with fail;exact aF (v:=.tuple #[sf0,.bool false]) (by simp[results,results81,go_sem,sf0]) rfl ⟨by rw[Hfin.o];rfl,((Ap _ _).alloc (An _) _).alloc aK _⟩
def Xp:Option (Ty × Value)->Value
 |some x=>.tuple #[Mj x.1 x.2,.bool true]
 |none=>.tuple #[Qo,.bool false]
theorem Xl(v:Value)(xs:List (Ty × Value))(n:List UInt8)(w:World)(h:Gl w v xs):
  Calls prog 45 #[v,n] w fun e w'=>e=.returned (Xp (D8 xs n))/\Below w w w':=by
 obtain⟨A,c,rfl,hl,hr,hf⟩:=h;have Hr:=Aa hr;have Hf:=Aa hf;clear hr hf;go_enter func45,ntmps45;go_wp2_with fail;go_loopw [6] (fun i wr=>∃k:Nat,i=.int .i64 k/\k<=xs.length/\wr=w.alloc (.cells #[.int .u8 0,a6,.slice none 0 0] 86)/\Hid (∀x∈xs.take k,decide (x.1.name=n)=false)) (fun i _=>xs.length - (intOf i).toNat)
 case atStart=>exact⟨0,rfl,ag _,rfl,by intro f hf;simp at hf⟩
 case round=>
  obtain⟨k,rfl,hk,rfl,hin⟩:=hrel;by_cases hlt:k<xs.length
  ·obtain⟨b,off,rfl,hb,c0,c1,c2⟩:=Gl.at_ Hr.o hlt;have Hts:=Aa (Cn xs k hlt);have Hft:=Aa (Vu (p:=fun x=>decide (x.1.name=n)) hlt hin.o);have hfx:=Hf.o _ (ae hlt);generalize xs[k]=x at c0 c1 c2 Hts Hft hfx;obtain⟨t,fv⟩:=x;simp only[]at c0 c1 c2 hfx;obtain⟨A2,d2,hfv,_⟩:=hfx;subst hfv;have k1:(0:Int)<=(k:Int):=aH;have k2:(k:Int)<(xs.length:Int):=aH;by_cases he:t.name=n
   ·have t1:(t.name == n)=true:=by simp[he]
    have Hfin:=Aa (show D8 xs n=some (t,.slice A2 t.fields.length d2)by unfold D8;rw[Hft.o,if_pos dm]);clear he;go_wp2_with fail;refine aF (v:=.tuple #[Mj t (.slice A2 t.fields.length d2),.bool true]) (by simp[results,results45,go_sem,Mj]) rfl ?_;exact kH
   have t1:(t.name == n)=false:=dm
   have Hin:=Aa (show ∀g∈xs.take (k+1),decide (g.1.name=n)=false by
    intro g hg;rw[Hts.o]at hg;rcases af.1 hg with hg|hg
    ·exact hin.o g hg
    simp at hg;subst hg;simpa using he)
   clear he;go_wp2_with fail;go_roundw
   case rel=>exact⟨k+1,by go_num,by omega,Ac,Hin.o⟩
   case measure=>simp[intOf];omega
  ·have Hfin:=@Aa (D8 xs n=none) (Pf (fun f hf=>hin.o f dZ));go_wp2_with fail;refine aF (v:=.tuple #[Qo,.bool false]) (by simp[results,results45,go_sem,Qo]) rfl ?_;exact kH
theorem Qmq{k:Kd}(h:Cq k):(k.signs=[]/\k.base=[64]/\Be k=64::(k.name++[59])/\k.name.length<=3)\/(¬(k.signs=[]/\k.base=[64])/\∃c t,Be k=c::t/\c≠64/\t.length<=12):=by
 obtain⟨h1,h2,h3⟩:=h;cases hs:k.signs with
 |cons c t=>
  refine .inr ⟨by simp,c,t++B6 k,by unfold Be;rw[hs];rfl,?_,?_⟩
  ·rw[hs]at h1;simp only[List.all_cons,aw]at h1;rintro rfl;exact absurd h1.1 aJ
  unfold Be at h3;rw[hs]at h3;simp at h3 ⊢;omega
 |nil=>
  rcases h2 with⟨hb,hn⟩|⟨hb,_⟩
  ·exact .inl ⟨rfl,hb,by unfold Be B6;rw[hs,if_pos hb];rfl,(Dz.1 hn).2.1⟩
  refine .inr ⟨?_,?_⟩
  ·rintro⟨_,h⟩;rcases hb with hb|hb|hb<;>· rw[hb]at h;revert h;decide
  have hc:Be k=k.base:=by
   unfold Be B6;rw[hs,if_neg (by rcases hb with hb|hb|hb<;>· rw[hb];decide)];rfl
  rw[hc];rcases hb with hb|hb|hb<;>· rw[hb];exact⟨_,_,rfl,by decide,by simp⟩
theorem Fb(v:Value)(xs:List (Ty × Value))(k:Kd)(w:World)(h:Gl w v xs)(hk:Cq k):
  Calls prog 75 #[v,.string ⟨(Be k).toArray⟩] w fun e w'=>e=.returned (Xp (J6 xs k))/\Below w w w':=by
 have H:=Aa h;clear h;rcases Qmq hk with⟨h1,h2,h3,h4⟩|⟨h1,c,t,h3,h4,h5⟩
 ·have Hr:=@Aa (J6 xs k=D8 xs k.name) (if_pos ⟨h1,h2⟩);rw[h3];clear h1 h2 h3;go_enter func75,ntmps75;go_wp2_with fail;refine(Qb6 k.name _ aH).mono ?_;rintro e w' ⟨rfl,rfl⟩;go_wp2_with fail;refine(Xl v xs k.name _ (H.o.below ((Ap _ _).alloc (An _) _))).mono ?_;rintro e w2 ⟨rfl,hb⟩;cases hf:D8 xs k.name with
  |none=>
   rw[hf]at Hr;obtain⟨hc,hfz,hz⟩:=Cj hb;have Hb:=Aa (((Ap w.heap.size w).alloc (An _) _).trans (hb.mono aK));clear hb hf;unfold Xp Qo;go_wp2_with fail;refine aF (v:=.tuple #[Qo,.bool false]) (by simp[results,results75,go_sem,Qo,hc]) rfl ?_;exact kI
  |some x=>
   obtain⟨t,fv⟩:=x;have hm:=(Cu hf).1;obtain⟨A,c,_,_,_,hfs⟩:=H.o;obtain⟨A2,d2,e2,_⟩:=hfs _ hm;simp only at e2;subst e2;rw[hf]at Hr;obtain⟨hc,hfz,hz⟩:=Cj hb;have Hb:=Aa (((Ap w.heap.size w).alloc (An _) _).trans (hb.mono aK));clear hb hf hm hfs;unfold Xp Mj;go_wp2_with fail;refine aF (v:=.tuple #[Mj t (.slice A2 t.fields.length d2),.bool true]) (by simp[results,results75,go_sem,Mj,hc]) rfl ?_;exact kI
 have Hr:=@Aa (J6 xs k=none) (if_neg h1);rw[h3];clear h1 h3;go_enter func75,ntmps75;go_wp2_with fail;refine(Qfg c t _ h4 aH).mono ?_;rintro e w' ⟨rfl,rfl⟩;go_wp2_with fail;refine aF (v:=.tuple #[Qo,.bool false]) (by simp[results,results75,go_sem,Qo]) rfl ?_;exact⟨by rw[Hr.o];rfl,(Ap _ _).alloc (An _) _⟩
theorem Qmp(S:List Ty)(n:Nat)(t:Ty)(h:t.sort≠85):Cg S (n+1) t=true:=by
 simp only[Cg,Gg,if_neg h]
theorem Qly(xs:List (Ty × Value))(n:Nat)(t:Ty)(f:Fd)(fs:List Fd)(h:t.sort=85)(hf:t.fields=f::fs):
  Cg (Af xs) (n+1) t=(match J6 xs f.kind with|none=>true|some u=>Cg (Af xs) n u.1):=by
 simp only[Cg,Gg,if_pos h,hf,J6];by_cases hk:f.kind.signs=[]/\f.kind.base=[64]
 ·rw[if_pos hk,if_pos hk,Jc];cases D8 xs f.kind.name<;>rfl
 rw[if_neg hk,if_neg hk]
theorem Qgu{t:Ty}(h:Ft t)(hs:t.sort=85):∃f fs,t.fields=f::fs/\Cq f.kind:=by
 obtain⟨h1,h2,h3,h4,h5⟩:=h;cases hf:t.fields with
 |nil=>have:=h5 hf;rw[hs]at this;exact absurd this aJ
 |cons f fs=>
  refine⟨f,fs,rfl,?_⟩;have:=h3.1 f eF;exact(this.2.2.2.2 eK).1
theorem Qkn{xs:List (Ty × Value)}{k:Kd}{x:Ty × Value}(h:J6 xs k=some x):x∈xs:=by
 unfold J6 at h;split at h
 ·exact(Cu h).1
 cases h
theorem Qh8(v fv:Value)(xs:List (Ty × Value))(t:Ty)(w:World)(h:Gl w v xs)(ht:Ft t)(hft:Dv w fv t.fields)(hok:∀x∈xs,Ft x.1):
  Calls prog 102 #[v,Mj t fv] w fun e w'=>e=.returned (.bool (Cg (Af xs) (xs.length+1) t))/\Below w w w':=by
 have H:=Aa h;have Hok:=Aa hok;obtain⟨A,c,rfl,hxl,_⟩:=h;obtain⟨A1,c1,rfl,hfl,hr1⟩:=hft;have Hr1:=Aa hr1;have Ht:=Aa ht;clear hok hr1 ht;unfold Mj;go_enter func102,ntmps102;go_wp2_with fail
 go_loopw [5] (fun i wr=>∃(n:Nat) (cur:Ty) (A2:Option Addr) (c2:Nat),i=.int .i64 n/\n<=xs.length+1/\Hid (Ft cur)/\Hid (Cd w A2 (cur.fields.length*4) (cur.fields.flatMap Mn)) /\
   Hid (Cg (Af xs) (xs.length+1) t=Cg (Af xs) (xs.length+1 - n) cur)/\Hid (Below w w wr)/\w.heap.size<wr.heap.size /\
   wr.cell? (w,0)=some (.int .u8 (cur.sort.toNat:Int))/\wr.cell? (w,1)=cur.name/\wr.cell? (w,2)=some (.slice A2 cur.fields.length c2) /\
   (∀j,wr.frozen? ⟨w.heap.size,j,none⟩=false)) (fun i _=>xs.length+1 - (intOf i).toNat)
 case atStart=>exact⟨0,t,A1,c1,rfl,ag _,Ht.o,Hr1.o,rfl,(Ap _ _).alloc (An _) _,by simp,by simp,by simp,by simp,by simp⟩
 case round=>
  obtain⟨n,cur,A2,c2,rfl,hn,hcu,hrow,heq,hb,hsz,u0,u1,u2,f1⟩:=hrel;by_cases hlt:n<=xs.length
  ·have k1:(n:Int)<=(xs.length:Int):=aH;obtain⟨m,hm⟩:∃m,xs.length+1 - n=m+1:=⟨xs.length - n,by omega⟩
   have hm2:xs.length+1 - (n+1)=m:=aH;rw[hm]at heq;have hcl:=cur.sort.toNat_lt;by_cases hs:cur.sort=85
   ·have t1:((cur.sort.toNat:Int) != 85)=false:=by have:=Bm hs;simpa using this
    have t2:((cur.sort.toNat:Int) == 85)=true:=Bm hs;obtain⟨f,fs,hfs,hkd⟩:=Qgu hcu.o hs;have Heq:=Aa (show Cg (Af xs) (xs.length+1) t=(match J6 xs f.kind with|none=>true|some u=>Cg (Af xs) m u.1)by rw[heq.o];exact Qly xs m cur f fs hs hfs);have hlf:0<cur.fields.length:=d9;have hf0:cur.fields[0]=f:=by simp[hfs]
    obtain⟨b,off,rfl,hbl,g0,g1,g2,g3⟩:=Dv.at_ (hrow.o.below hb.o) hlf;rw[hf0]at g0 g1 g2 g3;simp only[Nat.zero_mul,Nat.add_zero]at g0 g1 g2 g3;have Hkd:=Aa hkd;have l1:(0:Int)<(cur.fields.length:Int):=aH;clear hs heq hkd hf0 hfs;go_wp2_with fail;refine(Fb (.slice A xs.length c) xs f.kind _ (H.o.below hb.o) Hkd.o).mono ?_;rintro e w4 ⟨rfl,hb4⟩;obtain⟨hc4,hfz4,hz4⟩:=Cj hb4;have Hb5:=Aa (hb.o.trans (hb4.mono (Nat.le_of_lt hsz)));rw[<-hc4 _ _ hsz]at u0 u1 u2;have f1':∀j,w4.frozen? ⟨w.heap.size,j,none⟩=false:=fun j=>(hfz4 _ j hsz).trans (f1 j);have hsz4:=hz4 _ hsz;have Hrow':=Aa (fun(x:Ty × Value) (hx:x∈xs)=>((show ∀x∈xs,Dv w x.2 x.1.fields from(by obtain⟨_,_,_,_,_,hf⟩:=H.o;exact hf)) x hx));have hn1:¬(w4.heap.size=w.heap.size):=aH;have hn2:¬(w.heap.size=w4.heap.size):=aH;clear hb4 hc4 hfz4 hz4 f1 hb;cases hr:J6 xs f.kind with
    |none=>
     rw[hr]at Heq;unfold Xp Qo;go_wp2_with fail;go_ret;exact⟨by rw[Heq.o];first|rfl|trivial,co⟩
    |some x=>
     rw[hr]at Heq;obtain⟨u,uv⟩:=x;have Hm:=Aa (Qkn hr);obtain⟨A5,c5,e5,_,hr5⟩:=Hrow'.out _ Hm.o;simp only[]at e5 hr5;subst e5;have Hr5:=Aa hr5;clear hr hr5;unfold Xp Mj;go_wp2_with fail;go_roundw
     case rel=>
      refine⟨n+1,u,A5,c5,by go_num,by omega,Hok.o _ Hm.o,Hr5.o,by rw[hm2];exact Heq.o,co,by simp;omega,by simp[go_sem,u0,u1,u2,f1',hn1,hn2,hsz4],by simp[go_sem,u0,u1,u2,f1',hn1,hn2,hsz4],by simp[go_sem,u0,u1,u2,f1',hn1,hn2,hsz4],by intro j;simp[go_sem,f1',hn1,hn2,hsz4]⟩
     case measure=>simp[intOf];omega
   have t1:((cur.sort.toNat:Int) != 85)=true:=by have:=Aq hs;simpa using this
   have t2:((cur.sort.toNat:Int) == 85)=false:=Aq hs;have Hend:=Aa (show Cg (Af xs) (xs.length+1) t=true by rw[heq.o];exact Qmp _ m cur hs);clear hs heq;go_wp2_with fail;exact kJ
  ·have k1:¬(n:Int)<=(xs.length:Int):=aH;have Hend:=Aa (show Cg (Af xs) (xs.length+1) t=false by rw[heq.o,show xs.length+1 - n=0 by omega];rfl);clear heq;go_wp2_with fail;exact kJ
end
end Go.Proofs.YtbdibdghphdcdaaGreatDoor
