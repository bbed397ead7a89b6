/- Texts joined. Conditions: as each theorem names them. -/
import Derived.Sort.Walk0
import Derived.Deep.CutBlock
import Derived.Deep.CutRange
import Derived.Deep.DeepCutAuto
import Derived.Test.YtgfmljfjgohdcaaGreatDoorL30
import Derived.Test.YtgfmljfjgohdcaaGreatDoorL31
set_option maxRecDepth 100000
set_option maxHeartbeats 32000000
set_option linter.unusedVariables false
set_option linter.unusedSimpArgs false
namespace Go.Proofs.YtgfmljfjgohdcaaGreatDoor
open Go.RowKit Go.Proofs.Tryz
section
attribute [local go_sem] Qls Qkr Qj4 Qig ByteArray.mk_append_mk
abbrev Qjl(B:Nat)(W:World)(g n c:Nat)(xs:List (List UInt8)):Prop:=W.ownsRow B 9 1 (.slice (g,0) n c) n (Bz xs)
structure ApR(w0:World)(xs:List (List UInt8))(k:Nat)(x:List UInt8)(l0 l4 l9 l10 l14 l15:Bool)(u0 u4 u9 u10 u14 u15:Value)(W:World):Prop where
 bel:Below w0 w0 W
 d10:l10=true->l4=true/\l9=true
 d14:l14=true->l10=true
 d15:l15=true->l14=true
 s0:l0=true->l4=false->∃b,u0=.slice (some ⟨b,0,none⟩) 0 0/\Qjl w0.heap.size W b 0 0 []
 s4:l4=true->l10=false->∃b c,u4=.slice (some ⟨b,0,none⟩) k c/\Qjl w0.heap.size W b k c (xs.take k)
 s9:l9=true->l10=false->∃b,u9=.slice (some ⟨b,0,none⟩) 1 1/\w0.heap.size<=b/\b<W.heap.size/\W.cell? ⟨b,0,none⟩=x/\(l0=true->l4=false->u0.ownBlock≠some b)/\(l4=true->u4.ownBlock≠some b)
 s10:l10=true->l14=false->∃b c,u10=.slice (some ⟨b,0,none⟩) (k+1) c/\Qjl w0.heap.size W b (k+1) c (xs.take k++[x])
 s14:l14=true->∃b c,u14=.slice (some ⟨b,0,none⟩) (xs.length+1) c/\Qjl w0.heap.size W b (xs.length+1) c (xs.take k++x::xs.drop k)
 s15:l15=true->u15=u14
section
variable {w0 W W':World} {xs:List (List UInt8)} {k:Nat} {x:List UInt8} {l0 l4 l9 l10 l14 l15:Bool} {u0 u4 u9 u10 u14 u15:Value}
theorem ApR.start:ApR w0 xs k x false false false false false false u0 u4 u9 u10 u14 u15 w0.drew:=
 ⟨(Ar _ _).drew,by simp,by simp,by simp,by simp,by simp,by simp,by simp,by simp,by simp⟩
end
def Mb(s d x:List UInt8)(w:World)(e:Ending)(w':World):Prop:=Below w w w'/\match Bn s d with
 |none=>∃v q,e=.returned (.tuple #[v,.pointer q,.bool false])
 |some y=>match Mr y.1 y.2 x with
  |none=>∃v q,e=.returned (.tuple #[v,.pointer q,.bool false])
  |some v=>∃xv xs b,e=.returned (.tuple #[xv,.pointer (some ⟨b,0,none⟩),.bool true])/\Af xs=y.1/\Jt w' xv xs/\Fx (fun c=>w.heap.size<=c) w' b (De y.1 y.2 v)
theorem Qcz(p:UInt8->Bool):∀(s:List UInt8) (i:Nat) (hi:i<s.length),(i<(s.takeWhile p).length->p s[i]=true)/\(i=(s.takeWhile p).length->p s[i]=false)
 |[],i,hi=>by simp at hi
 |x::s,0,hi=>by
  by_cases h:p x=true
  ·simp[h]
  simp[h]
 |x::s,i+1,hi=>by
  have ih:=Qcz p s i (by simpa using hi);by_cases h:p x=true
  ·rw[List.takeWhile_cons_of_pos h];simpa using ih
  rw[List.takeWhile_cons_of_neg h];simp
theorem Qq(p:UInt8->Bool)(s:List UInt8):s.take (s.takeWhile p).length=s.takeWhile p/\s.drop (s.takeWhile p).length=s.dropWhile p/\(s.takeWhile p).length<=s.length:=by
 have e:s.takeWhile p++s.dropWhile p=s:=List.takeWhile_append_dropWhile;have h1:(s.takeWhile p++s.dropWhile p).take (s.takeWhile p).length=s.takeWhile p:=List.take_left;have h2:(s.takeWhile p++s.dropWhile p).drop (s.takeWhile p).length=s.dropWhile p:=List.drop_left;rw[e]at h1 h2;have h3:=congrArg List.length e;rw[af]at h3;exact⟨h1,h2,by omega⟩
theorem Se(s:List UInt8)(w:World)(hs:s.length<=4000000):
  Calls prog 172 #[s] w fun e w'=>e=.returned (.int .i64 ((s.takeWhile Az).length:Int))/\w=w':=by
 have HT:=Aa (Qcz Az s);have hle:=(Qq Az s).2.2;generalize hn:(s.takeWhile Az).length=n at *;clear hn;go_enter func172,ntmps172;go_wp2_with fail;go_loop [3] (fun i=>∃k:Nat,i=.int .i64 k/\k<=n) (fun i=>n - (intOf i).toNat)
 case atStart=>exact⟨0,rfl,ae _⟩
 case round=>
  obtain⟨k,rfl,hk⟩:=hrel;by_cases hlt:k<s.length
  ·obtain⟨q1,q2⟩:=HT.o k hlt;have hc:=(s[k]).toNat_lt;by_cases hkn:k<n
   ·obtain⟨h3,h4⟩:=Dd.1 (q1 hkn);clear q1 q2;go_wp2_with fail;go_round
    case rel=>exact⟨k+1,by go_num,by omega⟩
    case measure=>simp[intOf];omega
   have hd:=q2 aF;have hkn2:k=n:=aF;have h2:(s[k]).toNat<48\/(48<=(s[k]).toNat/\57<(s[k]).toNat):=by
    by_cases h3:48<=(s[k]).toNat
    ·refine .inr ⟨h3,?_⟩;by_cases h4:57<(s[k]).toNat
     ·exact h4
     have:=Dd.2 ⟨h3,by omega⟩;rw[hd]at this;cases this
    exact .inl aF
   clear q1 q2 hd;subst hkn2;rcases h2 with h2|⟨h2,h3⟩
   ·go_wp2_with fail;exact gZ
   go_wp2_with fail;exact gZ
  ·have hkn2:k=n:=aF;subst hkn2;go_wp2_with fail;exact gZ
def Bj(S:List Ty)(k:Kd)(o:Option (Vl × List UInt8))(w:World)(e:Ending)(w':World):Prop:=
 (match o with
  |some x=>∃b,e=.returned (.tuple #[.pointer (some ⟨b,0,none⟩),x.2,.bool true])/\Fx (fun c=>w.heap.size<=c) w' b (De S k x.1)
  |none=>∃(q:Option Addr) (r:ByteArray),e=.returned (.tuple #[.pointer q,.string r,.bool false]))/\Below w w w'
theorem Bj.no{S:List Ty}{k:Kd}{o:Option (Vl × List UInt8)}{w w':World}{e:Ending}(ho:o=none){q:Option Addr}{r:ByteArray}(he:e=.returned (.tuple #[.pointer q,.string r,.bool false]))(hb:Below w w w'):Bj S k o w e w':=by
 rw[ho];exact⟨⟨q,r,he⟩,hb⟩
theorem Fx.leaf{P:Nat->Prop}{w:World}{kind text:List UInt8}{T:TypeId}(hP:P w.heap.size):Fx P (w.alloc (.cells #[kind,text,.slice none 0 0,.slice none 0 0] T)) w.heap.size (.mk kind text [] []):=
 .mk kind text [] none none 0 0 [] rfl aH hP aH aH aH aH ⟨rfl,ae _,fun h=>absurd h aH⟩ ⟨rfl,ae _,fun h=>absurd h aH⟩ aH aH (fun _ _ h=>absurd h aH) (fun _ _ h=>absurd h aH) aH
theorem Qiu(s:List UInt8):Qa s=if Do (s.takeWhile Az) 999999 then(Cg (s.takeWhile Az)).map (fun n=>(n,s.dropWhile Az))else none:=by
 unfold Qa Do;cases h:Cg (s.takeWhile Az)with
 |none=>rfl
 |some n=>simp[(Br.1 h).1]
theorem Qgl(S:List Ty)(xv:Value)(hxv:xv.oneCell'=true)(s:List UInt8)(k:Kd)(hs0:k.signs=[])(hb:k.base=[110])(w:World)(hs:s.length<=4000000)(q:Option (Vl × List UInt8))(hq:q=match Qa s with|some (n,r)=>some (.mk 110 (Au n) 0 [],r)|none=>none):
  Calls prog 116 #[.agg #[xv],s,.string ⟨#[110]⟩] w (Bj S k q w):=by
 have hkd:Be k=[110]:=ca;have HQ:=Aa (hq.trans (by rw[Qiu]));obtain⟨e1,e2,hle⟩:=Qq Az s;have Hd:=Aa (fun W=>Se s W hs);have Hn:=Aa (fun W=>C9 (s.takeWhile Az) 999999 W aF aI);have HD:=Aa (fun m (h:Cg (s.takeWhile Az)=some m)=>(Br.1 h).2);have E1:=Aa e1;have E2:=Aa e2;have k1:((s.takeWhile Az).length:Int)<=(s.length:Int):=aF;generalize (s.takeWhile Az).length=n at *;generalize s.takeWhile Az=tw at *;generalize s.dropWhile Az=dw at *;have k2:(0:Int)<=(n:Int):=aF;have k3:((n:Int)).toNat=n:=aF;have hn8:n<=4000000:=aF;clear e1 e2 hs0 hb hq;go_enter func116,ntmps116;go_wp2_with fail;refine(Hd.o _).mono ?_;rintro e w1 ⟨rfl,rfl⟩;go_wp2_with fail;rw[E1.o];refine(Hn.o _).mono ?_;rintro e w2 ⟨m,hm,rfl,hdm,hb2⟩;have Hb2:=Aa (((Ar w.heap.size w).alloc (Am _) (.cells #[xv] 86)).trans (hb2.mono aH));have Hdm:=Aa hdm;have hz2:=Hb2.o.size;have Hok:=Aa (show Do tw 999999=(Cg tw).isSome by unfold Do;cases h:Cg tw with|none=>rfl|some m=>simp[(Br.1 h).1]);generalize Do tw 999999=ok at *;clear hb2 hdm;go_wp2_with fail;refine M0 [26,27,28,29,30,31,32,33,34,35,6,7,8]
  (fun ix v W=>match ix with|0=>v=.string ⟨#[110]⟩|1=>v=(s:List UInt8)|2=>v=(n:Int)|3=>v=(tw:List UInt8)|4=>v=.agg #[.string ⟨#[110]⟩,(tw:List UInt8),.slice none 0 0,.slice none 0 0]|5=>∃c,v=.pointer (some ⟨c,0,none⟩)|6=>v=(s:List UInt8)|7=>v=(n:Int)|8=>v=(dw:List UInt8)|9=>v=.bool ok|10=>∃c,v=.pointer (some ⟨c,0,none⟩)|11=>v=(dw:List UInt8)|12=>v=.bool ok|_=>True)
  (fun L U W=>(L 5=false->Below w2 w2 W)/\(L 5=true->∃W7,W=W7.alloc (.cells #[.string ⟨#[110]⟩,(tw:List UInt8),.slice none 0 0,.slice none 0 0] 158)/\Below w2 w2 W7/\U 5=.pointer (some ⟨W7.heap.size,0,none⟩))/\(L 10=true->U 10=U 5)) (⟨fun _=>(Ar _ _).drew,fun h=>Bool.noConfusion h,fun h=>Bool.noConfusion h⟩) ?_ ?_
 ·repeat (first|exact Ap.nil|(refine Ap.cons ?_ ?_;rotate_left))
  all_goals
   rintro L U W hL hpre HR Hdep K hK;first|(simp[Region.binds]at hpre;done)|simp[Region.binds]at hpre|clear hpre
  iterate 3
   ·exact fD
  ·go_simp;rw[E1.o];exact iX
  ·exact fD
  ·obtain⟨R1,R2,R3⟩:=HR.o;have hB:=R1 hL;have h10:L 10=false:=Dn Hdep.o 10 5 rfl hL;go_simp;exact hK W.heap.size _ _ ⟨_,rfl⟩ Ac ⟨fun h=>by simp at h,fun _=>⟨W,rfl,hB,rfl⟩,fun h=>absurd (h10.symm.trans aV) aI⟩ aG
  iterate 2
   ·exact fD
  ·exact g7
  ·exact fD
  ·exact fQ
  iterate 2
   ·exact fD
 rintro L U W hL hφ hR;have hφ10:U 10=U 5:=hR.2.2 (hL 10 aI);have e11:U 11=(dw:List UInt8):=hφ 11 aI;have e12:U 12=.bool ok:=hφ 12 aI;clear hφ;obtain⟨_,h2,h3⟩:=hR;obtain⟨W7,rfl,hb7,u5⟩:=h2 (hL 5 aI);rw[u5]at hφ10;clear hL h2;simp only[hφ10,e11,e12];clear hφ10;go_wp2_with fail;refine aD (v:=.tuple #[.pointer (some ⟨W7.heap.size,0,none⟩),dw,.bool ok]) (by simp[results,results116,go_sem]) rfl ?_;have hz7:=hb7.size;have Hb7:=((Hb2.o.trans (hb7.mono hz2)).alloc (aa hz2 hz7) (.cells #[.string ⟨#[110]⟩,tw,.slice none 0 0,.slice none 0 0] 158))
 have HQ:=HQ.o;cases ok with
 |false=>exact Bj.no HQ rfl Hb7
 |true=>
  cases hd:Cg tw with
  |none=>rw[hd]at HQ;have:=Hok.o;rw[hd]at this;cases this
  |some m'=>
   rw[hd]at HQ;simp only[if_true,Option.map_some]at HQ;rw[HQ];refine⟨⟨W7.heap.size,rfl,?_⟩,Hb7⟩;rw[Qc9,hkd,<-HD.o m' hd];exact iY
def Nl(c:UInt8):Bool:=c != 39
def Mi(s:List UInt8):Nat:=min (((s.drop 1).takeWhile Nl).length+2) s.length
theorem Qjg(r:List UInt8):(r.takeWhile Nl=r/\∀x∈r,x≠39)\/∃q,r=r.takeWhile Nl++39::q:=by
 induction r with
 |nil=>exact .inl ⟨rfl,by simp⟩
 |cons x r ih=>
  by_cases hx:Nl x=true
  ·rw[List.takeWhile_cons_of_pos hx];rcases ih with⟨h1,h2⟩|⟨q,h⟩
   ·refine .inl ⟨by rw[h1],fun y hy=>?_⟩;rcases ay.1 hy with rfl|hy
    ·simpa [Nl]using hx
    exact h2 y hy
   exact .inr ⟨q,by rw[ar,<-h]⟩
  rw[List.takeWhile_cons_of_neg hx];have:x=39:=by simpa [Nl]using hx
  subst this;exact .inr ⟨r,rfl⟩
theorem Qki(c:UInt8)(r:List UInt8):(Fb ((c::r).take (Mi (c::r)))=false/\Mp (c::r)=none) \/
  ∃x q,Mp (c::r)=some (x,q)/\Fb ((c::r).take (Mi (c::r)))=true/\(c::r).take (Mi (c::r))=39::(x++[39])/\(c::r).drop (Mi (c::r))=q:=by
 rcases Qjg r with⟨h1,h2⟩|⟨q,h⟩
 ·left;have e:Mi (c::r)=(c::r).length:=by unfold Mi;rw[show (c::r).drop 1=r from rfl,h1];simp
  rw[e,List.take_length];have hd:Aq 39 (r.dropWhile B0)=none:=by
   cases hc:r.dropWhile B0 with
   |nil=>rfl
   |cons x z=>
    have hx:x∈r:=(List.dropWhile_sublist _).subset (by rw[hc];simp);simp[Aq,h2 x hx]
  constructor
  ·unfold Fb;by_cases h0:r=[]
   ·subst h0;simp
   have hl:(c::r).getLast?=some (r.getLast h0):=by rw[List.getLast?_cons,List.getLast?_eq_some_getLast h0];rfl
   have:=h2 _ (List.getLast_mem h0);rw[hl];simp[this]
  unfold Mp;by_cases hc:c=39
  ·subst hc;rw[show Aq 39 (39::r)=some r by simp[Aq]];simp only;rw[hd]
  simp[Aq,hc]
 generalize htw:r.takeWhile Nl=tw at *;have hno:∀x∈tw,Nl x=true:=fun x hx=>by rw[<-htw]at hx;exact(List.all_eq_true.1 (List.all_takeWhile)) x hx
 have e:Mi (c::r)=tw.length+2:=by
  unfold Mi;rw[show (c::r).drop 1=r from rfl,htw];have:(c::r).length=tw.length+1+q.length+1:=by rw[h];simp;omega
  omega
 have et:(c::r).take (tw.length+2)=c::(tw++[39]):=by
  rw[List.take_succ_cons,h,List.take_append,aq aF];simp
 have ed:(c::r).drop (tw.length+2)=q:=by
  rw[List.drop_succ_cons,h,List.drop_append,List.drop_of_length_le aF];simp
 have eq:Fb (c::(tw++[39]))=(decide (c=39) && Dk tw):=by
  unfold Fb;have hl:(c::(tw++[39])).getLast?=some 39:=by rw[<-ar,List.getLast?_append];rfl
  rw[hl];simp
 rw[e,et,ed,eq];by_cases hc:c=39
 ·subst hc;by_cases hall:tw.all B0=true
  ·have ha:=List.all_eq_true.1 hall;have t1:r.takeWhile B0=tw:=by rw[h,List.takeWhile_append_of_pos ha];simp[B0,Gx,Az]
   have t2:r.dropWhile B0=39::q:=by rw[h,List.dropWhile_append_of_pos ha];simp[B0,Gx,Az]
   by_cases h12:tw.length<=12
   ·right;exact⟨tw,q,by simp[Mp,Aq,t1,t2,h12],by simp[Dk,h12,hall],rfl,rfl⟩
   left;exact⟨by simp[Dk,h12],by simp[Mp,Aq,t1,t2,h12]⟩
  left;refine⟨by simp[Dk,hall],?_⟩;have:Aq 39 (r.dropWhile B0)=none:=by
   rw[h];clear htw h e et ed eq;induction tw with
   |nil=>simp at hall
   |cons x tw ih=>
    by_cases hx:B0 x=true
    ·rw[ar,List.dropWhile_cons_of_pos hx];exact ih (fun y hy=>hno y ev) (by simpa [hx]using hall)
    rw[ar,List.dropWhile_cons_of_neg hx];have:=hno x aH;simp[Nl]at this;simp[Aq,this]
  unfold Mp;rw[show Aq 39 (39::r)=some r by simp[Aq]];simp only;rw[this]
 left;exact⟨by simp[hc],by simp[Mp,Aq,hc]⟩
theorem Qib(S:List Ty)(xv:Value)(hxv:xv.oneCell'=true)(s:List UInt8)(k:Kd)(hs0:k.signs=[])(hb:k.base=[116])(w:World)(hs:s.length<=4000000)(hne:s≠[])(q:Option (Vl × List UInt8))(hq:q=match Mp s with|some (x,r)=>some (.mk 116 x 0 [],r)|none=>none):
  Calls prog 116 #[.agg #[xv],s,.string ⟨#[116]⟩] w (Bj S k q w):=by
 have hkd:Be k=[116]:=ca;have HQ:=Aa hq
 have Hor:=Aa (show (Fb (s.take (Mi s))=false/\Mp s=none)\/∃x q,Mp s=some (x,q)/\Fb (s.take (Mi s))=true/\s.take (Mi s)=39::(x++[39])/\s.drop (Mi s)=q by
  cases s with
  |nil=>exact absurd rfl hne
  |cons c r=>exact Qki c r)
 have hz:1<=s.length:=by cases s with|nil=>exact absurd rfl hne|cons c r=>simp
 have HT:=Aa (fun i (hi:i+1<s.length)=>(show (i<((s.drop 1).takeWhile Nl).length->s[i+1]≠39)/\(i=((s.drop 1).takeWhile Nl).length->s[i+1]=39)from by
  have h:=Qcz Nl (s.drop 1) i aL;simp only[List.getElem_drop,Nat.add_comm 1 i]at h;exact⟨fun h1=>by simpa [Nl]using h.1 h1,fun h1=>by simpa [Nl]using h.2 h1⟩))
 have hle:((s.drop 1).takeWhile Nl).length+1<=s.length:=by
  have:=(Qq Nl (s.drop 1)).2.2;rw[List.length_drop]at this;omega
 have hqd:Mi s=min (((s.drop 1).takeWhile Nl).length+2) s.length:=rfl;have Hn:=Aa (fun W=>Vm (s.take (Mi s)) W aL);generalize ((s.drop 1).takeWhile Nl).length=m at *;have k1:((Mi s:Nat):Int)<=(s.length:Int):=aF;have Hmin:Hid ((if ((m:Int)+1+1)<=(s.length:Int)then((m:Int)+1+1)else(s.length:Int))=((Mi s:Nat):Int)):=by
  unfold Hid;split<;>omega
 have k3:((Mi s:Nat):Int).toNat=Mi s:=aF;have k2:(0:Int)<=((Mi s:Nat):Int):=aF;generalize Mi s=n at *;generalize hnok:Fb (s.take n)=ok at *;have HI:∃tw dw,tw=s.take n/\dw=s.drop n:=⟨_,_,rfl,rfl⟩
 obtain⟨tw,dw,e1,e2⟩:=HI;rw[<-e1,<-e2]at Hor;rw[<-e1]at Hn hnok;have E1:=Aa e1.symm;have E2:=Aa e2.symm;have Hok:=Aa hnok;clear e1 e2 hs0 hb hq hqd hne hnok;go_enter func116,ntmps116;go_wp2_with fail;go_loop [9] (fun i=>∃j:Nat,i=.int .i64 ((j:Int)+1)/\j<=m) (fun i=>m+1 - (intOf i).toNat)
 case atStart=>exact⟨0,rfl,ae _⟩
 case round=>
  obtain⟨j,rfl,hj⟩:=hrel;by_cases hlt:j+1<s.length
  ·obtain⟨q1,q2⟩:=HT.o j hlt;have hc:=(s[j+1]).toNat_lt;by_cases hjm:j<m
   ·have h3:=q1 hjm;have h4:((s[j+1]).toNat:Int)≠39:=fun h=>h3 (by apply UInt8.toNat_inj.1;simpa using(by exact_mod_cast h:(s[j+1]).toNat=39));clear q1 q2 h3;go_wp2_with fail;go_round
    case rel=>exact⟨j+1,by go_num,by omega⟩
    case measure=>simp[intOf];omega
   have hjm2:j=m:=aF;have h4:((s[j+1]).toNat:Int)=39:=by rw[q2 hjm2];rfl
   clear q1 q2;subst hjm2;clear hjm HT hj hle;have e9:(j:Int)+1+1=(n:Int):=by rw[<-Hmin.o,if_pos aF]
   go_wp2_with fail;refine M0 [55,56,57,58,59,60,61,62,63,64,65,66,67,6,7,8]
    (fun ix v W=>match ix with|0=>v=.string ⟨#[116]⟩|1=>v=(s:List UInt8)|2=>v=(n:Int)|3=>v=.string ⟨(tw:List UInt8).toArray⟩|4=>v=.agg #[.string ⟨#[116]⟩,.string ⟨(tw:List UInt8).toArray⟩,.slice none 0 0,.slice none 0 0]|5=>∃c,v=.pointer (some ⟨c,0,none⟩)|6=>v=(s:List UInt8)|7=>v=(n:Int)|8=>v=.string ⟨(dw:List UInt8).toArray⟩|9=>v=(s:List UInt8)|10=>v=(n:Int)|11=>v=.string ⟨(tw:List UInt8).toArray⟩|12=>v=.bool ok|13=>∃c,v=.pointer (some ⟨c,0,none⟩)|14=>v=.string ⟨(dw:List UInt8).toArray⟩|15=>v=.bool ok|_=>True)
    (fun L U W=>(L 5=false->Below w w W)/\(L 5=true->∃W7,W=W7.alloc (.cells #[.string ⟨#[116]⟩,.string ⟨(tw:List UInt8).toArray⟩,.slice none 0 0,.slice none 0 0] 158)/\Below w w W7/\U 5=.pointer (some ⟨W7.heap.size,0,none⟩))/\(L 13=true->U 13=U 5)) (⟨fun _=>((Ar w.heap.size w).alloc (Am _) _).drew,fun h=>Bool.noConfusion h,fun h=>Bool.noConfusion h⟩) ?_ ?_
   ·exact fG
   rintro L U W hL hφ hR;have hφ10:U 13=U 5:=hR.2.2 (hL 13 aI);have e11:U 14=.string ⟨(dw:List UInt8).toArray⟩:=hφ 14 aI;have e12:U 15=.bool ok:=hφ 15 aI;clear hφ;obtain⟨_,h2,h3⟩:=hR;obtain⟨W7,rfl,hb7,u5⟩:=h2 (hL 5 aI);rw[u5]at hφ10;clear hL h2;simp only[hφ10,e11,e12];clear hφ10;go_wp2_with fail;refine aD (v:=.tuple #[.pointer (some ⟨W7.heap.size,0,none⟩),.string ⟨dw.toArray⟩,.bool ok]) (by simp[results,results116,go_sem]) rfl ?_;have hz7:=hb7.size;have Hb7:=(hb7.alloc aF (.cells #[.string ⟨#[116]⟩,.string ⟨tw.toArray⟩,.slice none 0 0,.slice none 0 0] 158))
   have HQ:=HQ.o;rcases Hor.o with⟨o1,o2⟩|⟨x,q',o1,o2,o3,o4⟩
   ·exact gW
   rw[o1]at HQ;subst o2;rw[HQ];subst o4;refine⟨⟨W7.heap.size,rfl,?_⟩,Hb7⟩;exact iZ
  ·have hjm2:j=m:=aF;subst hjm2;have hj3:(j:Int)<=5000000:=aF;have hj4:(0:Int)<=(j:Int):=aF;have hj5:¬((j:Int)+1+1<=(s.length:Int)):=aF;clear HT hj;have e9:(s.length:Int)=(n:Int):=by rw[<-Hmin.o,if_neg aF]
   go_wp2_with fail;refine M0 [55,56,57,58,59,60,61,62,63,64,65,66,67,6,7,8]
    (fun ix v W=>match ix with|0=>v=.string ⟨#[116]⟩|1=>v=(s:List UInt8)|2=>v=(n:Int)|3=>v=.string ⟨(tw:List UInt8).toArray⟩|4=>v=.agg #[.string ⟨#[116]⟩,.string ⟨(tw:List UInt8).toArray⟩,.slice none 0 0,.slice none 0 0]|5=>∃c,v=.pointer (some ⟨c,0,none⟩)|6=>v=(s:List UInt8)|7=>v=(n:Int)|8=>v=.string ⟨(dw:List UInt8).toArray⟩|9=>v=(s:List UInt8)|10=>v=(n:Int)|11=>v=.string ⟨(tw:List UInt8).toArray⟩|12=>v=.bool ok|13=>∃c,v=.pointer (some ⟨c,0,none⟩)|14=>v=.string ⟨(dw:List UInt8).toArray⟩|15=>v=.bool ok|_=>True)
    (fun L U W=>(L 5=false->Below w w W)/\(L 5=true->∃W7,W=W7.alloc (.cells #[.string ⟨#[116]⟩,.string ⟨(tw:List UInt8).toArray⟩,.slice none 0 0,.slice none 0 0] 158)/\Below w w W7/\U 5=.pointer (some ⟨W7.heap.size,0,none⟩))/\(L 13=true->U 13=U 5)) (⟨fun _=>((Ar w.heap.size w).alloc (Am _) _).drew,fun h=>Bool.noConfusion h,fun h=>Bool.noConfusion h⟩) ?_ ?_
   ·exact fG
   rintro L U W hL hφ hR;have hφ10:U 13=U 5:=hR.2.2 (hL 13 aI);have e11:U 14=.string ⟨(dw:List UInt8).toArray⟩:=hφ 14 aI;have e12:U 15=.bool ok:=hφ 15 aI;clear hφ;obtain⟨_,h2,h3⟩:=hR;obtain⟨W7,rfl,hb7,u5⟩:=h2 (hL 5 aI);rw[u5]at hφ10;clear hL h2;simp only[hφ10,e11,e12];clear hφ10;go_wp2_with fail;refine aD (v:=.tuple #[.pointer (some ⟨W7.heap.size,0,none⟩),.string ⟨dw.toArray⟩,.bool ok]) (by simp[results,results116,go_sem]) rfl ?_;have hz7:=hb7.size;have Hb7:=(hb7.alloc aF (.cells #[.string ⟨#[116]⟩,.string ⟨tw.toArray⟩,.slice none 0 0,.slice none 0 0] 158))
   have HQ:=HQ.o;rcases Hor.o with⟨o1,o2⟩|⟨x,q',o1,o2,o3,o4⟩
   ·exact gW
   rw[o1]at HQ;subst o2;rw[HQ];subst o4;refine⟨⟨W7.heap.size,rfl,?_⟩,Hb7⟩;exact iZ
theorem Qe:∀(p s:List UInt8),Fa p s=if s.take p.length=p then some (s.drop p.length)else none
 |[],s=>by simp[Fa]
 |c::p,[]=>by simp[Fa,Aq]
 |c::p,x::s=>by
  have ih:=Qe p s;unfold Fa;by_cases h:x=c
  ·subst h;simp only[Aq,if_true,List.length_cons,List.take_succ_cons,List.drop_succ_cons,List.cons.injEq,true_and];exact ih
  simp[Aq,h]
theorem Qgk(S:List Ty)(xv:Value)(hxv:xv.oneCell'=true)(s:List UInt8)(k:Kd)(hs0:k.signs=[])(hb:k.base=[102])(w:World)(hs:s.length<=4000000)(q:Option (Vl × List UInt8))(hq:q=match Pc s with|some (b,r)=>some (.mk 102 (if b then Dy else Kh) 0 [],r)|none=>none):
  Calls prog 116 #[.agg #[xv],s,.string ⟨#[102]⟩] w (Bj S k q w):=by
 have hkd:Be k=[102]:=ca;have Hq:=Aa hq;have Hy:=Aa (Qe Dy s);have Hn:=Aa (Qe Kh s);clear hq hs0 hb;go_enter func116,ntmps116;go_wp2_with fail;go_loop [70] (fun i=>(i=.int .i64 0)\/(i=.int .i64 1/\¬s.take 3=Dy)\/(i=.int .i64 2/\¬s.take 3=Dy/\¬s.take 2=Kh)) (fun i=>3 - (intOf i).toNat)
 case atStart=>exact .inl rfl
 case round=>
  obtain rfl|⟨rfl,hny⟩|⟨rfl,hny,hnn⟩:=hrel
  ·by_cases hl:3<=s.length
   ·have hl2:(3:Int)<=(s.length:Int):=aF;by_cases ht:s.take 3=Dy
    ·have HQ:=@Aa (q=some (.mk 102 Dy 0 [],s.drop 3)) (by rw[Hq.o];unfold Pc;rw[Hy.o,if_pos (show s.take Dy.length=Dy from ht)];rfl);generalize hdw:s.drop 3=dw at *;have E2:=Aa hdw;have tb:(s.take 3 == [121,101,115])=true:=by rw[ht];rfl
     clear Hq hdw ht;go_wp2_with fail;have HbW:=Aa (((Ar w.heap.size w).alloc (Am _) (.cells #[xv] 86)).alloc aH (.cells #[.string ⟨#[121,101,115]⟩,.string ⟨#[110,111]⟩] 9));refine M0 [87,88,89,90,91,92,93,94,6,7,8]
      (fun ix v W=>match ix with|0=>v=.string ⟨#[102]⟩|1=>v=.string ⟨#[121,101,115]⟩|2=>v=.agg #[.string ⟨#[102]⟩,.string ⟨#[121,101,115]⟩,.slice none 0 0,.slice none 0 0]|3=>∃c,v=.pointer (some ⟨c,0,none⟩)|4=>v=(s:List UInt8)|5=>v=.string ⟨#[121,101,115]⟩|6=>v=.int .i64 3|7=>v=(dw:List UInt8)|8=>∃c,v=.pointer (some ⟨c,0,none⟩)|9=>v=(dw:List UInt8)|10=>v=.bool true|_=>True)
      (fun L U W=>(L 3=false->Below w w W)/\(L 3=true->∃W7,W=W7.alloc (.cells #[.string ⟨#[102]⟩,.string ⟨#[121,101,115]⟩,.slice none 0 0,.slice none 0 0] 158)/\Below w w W7/\U 3=.pointer (some ⟨W7.heap.size,0,none⟩))/\(L 8=true->U 8=U 3)) (⟨fun _=>HbW.o.drew,fun h=>Bool.noConfusion h,fun h=>Bool.noConfusion h⟩) ?_ ?_
     ·exact fM
     rintro L U W hL hφ hR;have hφ10:U 8=U 3:=hR.2.2 (hL 8 aI);have e11:U 9=(dw:List UInt8):=hφ 9 aI;have e12:U 10=.bool true:=hφ 10 aI;clear hφ;obtain⟨_,h2,h3⟩:=hR;obtain⟨W7,rfl,hb7,u5⟩:=h2 (hL 3 aI);rw[u5]at hφ10;clear hL h2;simp only[hφ10,e11,e12];clear hφ10;go_wp2_with fail;refine aD (v:=.tuple #[.pointer (some ⟨W7.heap.size,0,none⟩),dw,.bool true]) (by simp[results,results116,go_sem]) rfl ?_;have hz7:=hb7.size;have Hb7:=(hb7.alloc aF (.cells #[.string ⟨#[102]⟩,.string ⟨#[121,101,115]⟩,.slice none 0 0,.slice none 0 0] 158))
     rw[HQ.o];refine⟨⟨W7.heap.size,rfl,?_⟩,Hb7⟩;exact j0
    have tb:(s.take 3 == [121,101,115])=false:=by simpa [Dy,Kh]using ht
    go_wp2_with fail;go_round
    case rel=>exact .inr (.inl ⟨rfl,ht⟩)
    case measure=>simp[intOf]
   have hl2:¬((3:Int)<=(s.length:Int)):=aF;have ht:¬s.take 3=Dy:=fun h=>hl ej;go_wp2_with fail;go_round
   case rel=>exact .inr (.inl ⟨rfl,ht⟩)
   case measure=>simp[intOf]
  ·by_cases hl:2<=s.length
   ·have hl2:(2:Int)<=(s.length:Int):=aF;by_cases ht:s.take 2=Kh
    ·have HQ:=@Aa (q=some (.mk 102 Kh 0 [],s.drop 2)) (by rw[Hq.o];unfold Pc;rw[Hy.o,if_neg (show ¬s.take Dy.length=Dy from hny),Hn.o,if_pos (show s.take Kh.length=Kh from ht)];rfl);generalize hdw:s.drop 2=dw at *;have E2:=Aa hdw;have tb:(s.take 2 == [110,111])=true:=by rw[ht];rfl
     clear Hq hdw ht;go_wp2_with fail;have HbW:=Aa (((Ar w.heap.size w).alloc (Am _) (.cells #[xv] 86)).alloc aH (.cells #[.string ⟨#[121,101,115]⟩,.string ⟨#[110,111]⟩] 9));refine M0 [87,88,89,90,91,92,93,94,6,7,8]
      (fun ix v W=>match ix with|0=>v=.string ⟨#[102]⟩|1=>v=.string ⟨#[110,111]⟩|2=>v=.agg #[.string ⟨#[102]⟩,.string ⟨#[110,111]⟩,.slice none 0 0,.slice none 0 0]|3=>∃c,v=.pointer (some ⟨c,0,none⟩)|4=>v=(s:List UInt8)|5=>v=.string ⟨#[110,111]⟩|6=>v=.int .i64 2|7=>v=(dw:List UInt8)|8=>∃c,v=.pointer (some ⟨c,0,none⟩)|9=>v=(dw:List UInt8)|10=>v=.bool true|_=>True)
      (fun L U W=>(L 3=false->Below w w W)/\(L 3=true->∃W7,W=W7.alloc (.cells #[.string ⟨#[102]⟩,.string ⟨#[110,111]⟩,.slice none 0 0,.slice none 0 0] 158)/\Below w w W7/\U 3=.pointer (some ⟨W7.heap.size,0,none⟩))/\(L 8=true->U 8=U 3)) (⟨fun _=>HbW.o.drew,fun h=>Bool.noConfusion h,fun h=>Bool.noConfusion h⟩) ?_ ?_
     ·exact fM
     rintro L U W hL hφ hR;have hφ10:U 8=U 3:=hR.2.2 (hL 8 aI);have e11:U 9=(dw:List UInt8):=hφ 9 aI;have e12:U 10=.bool true:=hφ 10 aI;clear hφ;obtain⟨_,h2,h3⟩:=hR;obtain⟨W7,rfl,hb7,u5⟩:=h2 (hL 3 aI);rw[u5]at hφ10;clear hL h2;simp only[hφ10,e11,e12];clear hφ10;go_wp2_with fail;refine aD (v:=.tuple #[.pointer (some ⟨W7.heap.size,0,none⟩),dw,.bool true]) (by simp[results,results116,go_sem]) rfl ?_;have hz7:=hb7.size;have Hb7:=(hb7.alloc aF (.cells #[.string ⟨#[102]⟩,.string ⟨#[110,111]⟩,.slice none 0 0,.slice none 0 0] 158))
     rw[HQ.o];refine⟨⟨W7.heap.size,rfl,?_⟩,Hb7⟩;exact j0
    have tb:(s.take 2 == [110,111])=false:=by simpa [Dy,Kh]using ht
    go_wp2_with fail;go_round
    case rel=>exact .inr (.inr ⟨rfl,hny,ht⟩)
    case measure=>simp[intOf]
   have hl2:¬((2:Int)<=(s.length:Int)):=aF;have ht:¬s.take 2=Kh:=fun h=>hl ej;go_wp2_with fail;go_round
   case rel=>exact .inr (.inr ⟨rfl,hny,ht⟩)
   case measure=>simp[intOf]
  ·have HQ:=@Aa (q=none) (by rw[Hq.o];simp only[Pc,Hy.o,Hn.o,if_neg (show ¬s.take Dy.length=Dy from hny),if_neg (show ¬s.take Kh.length=Kh from hnn)]);clear Hq;go_wp2_with fail;refine aD (v:=.tuple #[.pointer none,s,.bool false]) (by simp[results,results116,go_sem]) rfl ?_;exact Bj.no HQ.o rfl (((Ar w.heap.size w).alloc (Am _) _).alloc aH _)
end
theorem Qgi:(prog.info? 83).map (fun i=>(i.zero,i.size,i.bytes))=some (some (.pointer none),1,8):=aJ
theorem Qj6:(prog.info? 3).map (fun i=>(i.zero,i.size,i.bytes))=some (some (.int .i64 0),1,8):=aJ
theorem Tm{W:World}{base s1 s2 n1 n2:Nat}{e1 e2:TypeId}{v1 v2:Value}{xs ys:List Value}(h:W.ownsRow base e1 s1 v1 n1 xs)(k:W.ownsRow base e2 s2 v2 n2 ys)(hne:e1≠e2):v1.ownBlock=none\/v1.ownBlock≠v2.ownBlock:=by
 obtain⟨_,⟨rfl,_⟩|⟨g,cap,cur,rfl,_,h3,_⟩⟩:=h
 ·exact .inl rfl
 obtain⟨_,⟨rfl,_⟩|⟨g',cap',cur',rfl,_,k3,_⟩⟩:=k
 ·exact .inr eN
 refine .inr fun e=>?_;injection e with e;simp only at e;subst e;rw[h3]at k3;injection k3 with k3;injection k3 with _ k3;exact hne k3
theorem Tb{base b:Nat}{v:Value}(h:∀k,v.ownBlock=some k->base<=k)(hb:b<base):v.ownBlock=none\/v.ownBlock≠some b:=by
 by_cases hr:v.ownBlock=none
 ·exact .inl hr
 exact .inr fun e=>by have:=h b e;omega
structure Mz(base B:Nat)(W:World)(h0 h1 tu tv ku kv:Value)(gs:List Nat)(xs:List (Nat × SV)):Prop where
 lt:B<W.heap.size
 bs:base<=W.heap.size
 hB:B<base
 bk:Qi W B
 c0:W.cell? (B,0)=some h0
 c1:W.cell? (B,1)=some h1
 c2:W.cell? (B,2)=some tu
 c3:W.cell? (B,3)=some ku
 tags:W.ownsRow base 3 1 tv gs.length (Er gs)
 row:W.ownsRow base 83 1 kv xs.length (Et (xs.map (·.1)))
 kids:∀x∈xs,Fx (fun c=>base<=c/\kv.ownBlock≠some c/\tv.ownBlock≠some c) W x.1 x.2
theorem Mz.after{base B:Nat}{W W':World}{h0 h1 tu tv ku kv:Value}{gs:List Nat}{xs:List (Nat × SV)}(h:Mz base B W h0 h1 tu tv ku kv gs xs)(hb:Below W W W'):Mz base B W' h0 h1 tu tv ku kv gs xs:=by
 obtain⟨hc,_,hz⟩:=Bx hb;exact⟨hz _ h.lt,aa h.bs hb.size,h.hB,h.bk.belowAt h.lt hb,(hc _ _ h.lt).trans h.c0,(hc _ _ h.lt).trans h.c1,(hc _ _ h.lt).trans h.c2,(hc _ _ h.lt).trans h.c3,Co h.tags hb,Co h.row hb,fun x hx=>(h.kids x hx).after hb⟩
theorem Mz.set2{base B:Nat}{W:World}{h0 h1 tu tv ku kv:Value}{gs:List Nat}{xs:List (Nat × SV)}(h:Mz base B W h0 h1 tu tv ku kv gs xs):Mz base B (W.setCell ⟨B,2,none⟩ tv) h0 h1 tv tv ku kv gs xs:=by
 have hg:=A0 W B 2 tv;exact j4
theorem Mz.set3{base B:Nat}{W:World}{h0 h1 tu tv ku kv:Value}{gs:List Nat}{xs:List (Nat × SV)}(h:Mz base B W h0 h1 tu tv ku kv gs xs):Mz base B (W.setCell ⟨B,3,none⟩ kv) h0 h1 tu tv kv kv gs xs:=by
 have hg:=A0 W B 3 kv;exact j4
theorem Mz.appK{base B:Nat}{W W':World}{h0 h1 tu tv ku kv kv':Value}{gs:List Nat}{xs:List (Nat × SV)}{x:Nat × SV}(h:Mz base B W h0 h1 tu tv ku kv gs xs)(hx:Fx (fun c=>base<=c/\kv.ownBlock≠some c/\tv.ownBlock≠some c) W x.1 x.2)
  (hown:W'.ownsRow base 83 1 kv' (xs.length+1) (Et (xs.map (·.1))++[.pointer (some ⟨x.1,0,none⟩)])) (hg:W.grownBy W' kv.ownBlock) (hwh:kv'.ownBlock=kv.ownBlock\/∃k,kv'.ownBlock=some k/\W.heap.size<=k):Mz base B W' h0 h1 tu tv ku kv' gs (xs++[x]):=by
 have hn:some B≠kv.ownBlock:=fun e=>eE;refine⟨a8 h.lt hg.size,aa h.bs hg.size,h.hB,h.bk.grown h.lt hg hn,hg.cell h.c0 hn,hg.cell h.c1 hn,hg.cell h.c2 hn,hg.cell h.c3 hn,h.tags.kept hg (Tm h.tags h.row aI),by simpa [Et]using hown,fun y hy=>?_⟩;have hy':Fx (fun c=>base<=c/\kv.ownBlock≠some c/\tv.ownBlock≠some c) W y.1 y.2:=by
  rcases ad.1 hy with hy|hy
  ·exact h.kids y hy
  rw[an]at hy;subst hy;exact hx
 refine hy'.kept (fun b o v hb _ hv=>hg.cell hv fun e=>hb.2.1 e.symm) hg.size fun c hc hl=>⟨hc.1,?_,hc.2.2⟩
 rcases hwh with e|⟨k,e,hk⟩
 ·rw[e];exact hc.2.1
 exact j5
theorem Mz.appT{base B:Nat}{W W':World}{h0 h1 tu tv tv' ku kv:Value}{gs:List Nat}{xs:List (Nat × SV)}{g:Nat}(h:Mz base B W h0 h1 tu tv ku kv gs xs)
  (hown:W'.ownsRow base 3 1 tv' (gs.length+1) (Er gs++[.int .i64 (g:Int)])) (hg:W.grownBy W' tv.ownBlock) (hwh:tv'.ownBlock=tv.ownBlock\/∃k,tv'.ownBlock=some k/\W.heap.size<=k):Mz base B W' h0 h1 tu tv' ku kv (gs++[g]) xs:=by
 have hn:some B≠tv.ownBlock:=fun e=>by have:=(h.tags.lt B e.symm).1;have:=h.hB;omega
 refine⟨a8 h.lt hg.size,aa h.bs hg.size,h.hB,h.bk.grown h.lt hg hn,hg.cell h.c0 hn,hg.cell h.c1 hn,hg.cell h.c2 hn,hg.cell h.c3 hn,by simpa [Er]using hown,h.row.kept hg (Tm h.row h.tags aI),fun y hy=>?_⟩;refine(h.kids y hy).kept (fun b o v hb _ hv=>hg.cell hv fun e=>hb.2.2 e.symm) hg.size fun c hc hl=>⟨hc.1,hc.2.1,?_⟩
 rcases hwh with e|⟨k,e,hk⟩
 ·rw[e];exact hc.2.2
 exact j5
theorem Qhj{w:World}{base k n m c:Nat}{e:TypeId}{A:Option Addr}{xs:List Value}(h:w.ownsRow base e k (.slice A m c) n xs):m=n:=by
 rcases h.2 with⟨e,h0⟩|⟨g,cap,cur,e,_⟩
 ·injection e with _ e1 e2;omega
 injection e with _ e1 e2
theorem Mz.push{base B n c:Nat}{W W':World}{A:Option Addr}{h0 h1 tu tv ku kv':Value}{gs:List Nat}{xs:List (Nat × SV)}{x:Nat × SV}(h:Mz base B W h0 h1 tu tv ku (.slice A n c) gs xs)(hx:Fx (fun c1=>base<=c1/\(Value.slice A n c).ownBlock≠some c1/\tv.ownBlock≠some c1) W x.1 x.2)
  (hown:W'.ownsRow base 83 1 kv' (xs.length+1) (Et (xs.map (·.1))++[.pointer (some ⟨x.1,0,none⟩)])) (hg:W.grownBy W' (Value.slice A n c).ownBlock) (hwh:kv'.ownBlock=(Value.slice A n c).ownBlock\/∃k,kv'.ownBlock=some k/\W.heap.size<=k):
  ∃A6 c6,kv'=.slice A6 (xs++[x]).length c6/\Mz base B W' h0 h1 tu tv ku kv' gs (xs++[x])/\Below base W W':=by
 have hA:=h.appK hx hown hg hwh;have e:(xs++[x]).length=xs.length+1:=aH;rcases hown.2 with⟨e0,h0⟩|⟨g,cap,cur,e1,_⟩
 ·omega
 exact⟨some ⟨g,0,none⟩,cap,by rw[e,e1],hA,(Ar _ _).grown hg h.bs (fun k hk=>(h.row.lt k hk).1)⟩
theorem Mz.pushT{base B n c g:Nat}{W W':World}{A:Option Addr}{h0 h1 tu tv' ku kv:Value}{gs:List Nat}{xs:List (Nat × SV)}(h:Mz base B W h0 h1 tu (.slice A n c) ku kv gs xs)
  (hown:W'.ownsRow base 3 1 tv' (gs.length+1) (Er gs++[.int .i64 (g:Int)])) (hg:W.grownBy W' (Value.slice A n c).ownBlock) (hwh:tv'.ownBlock=(Value.slice A n c).ownBlock\/∃k,tv'.ownBlock=some k/\W.heap.size<=k):
  ∃A6 c6,tv'=.slice A6 (gs++[g]).length c6/\Mz base B W' h0 h1 tu tv' ku kv (gs++[g]) xs/\Below base W W':=by
 have hA:=h.appT hown hg hwh;have e:(gs++[g]).length=gs.length+1:=aH;rcases hown.2 with⟨e0,h0⟩|⟨g9,cap,cur,e1,_⟩
 ·omega
 exact⟨some ⟨g9,0,none⟩,cap,by rw[e,e1],hA,(Ar _ _).grown hg h.bs (fun k hk=>(h.tags.lt k hk).1)⟩
theorem Qba{w:World}{base n:Nat}{e:TypeId}{v:Value}{xs:List Value}(h:w.ownsRow base e 1 v n xs)(hx:xs.length=n)(hl:n<=1000):∃A c,v=.slice A n c/\Cd w A n xs/\∀g o,0<n->A=some ⟨g,o,none⟩->base<=g:=by
 have h':=h;rcases h.2 with⟨rfl,h0⟩|⟨g,cap,cur,rfl,hbg,hh,hnc,hcm,hcs,htk⟩
 ·subst h0;exact⟨none,0,rfl,⟨hx,ae _,fun hn=>absurd hn aI⟩,fun g o hn _=>absurd hn aI⟩
 refine⟨some ⟨g,0,none⟩,cap,rfl,⟨hx,by unfold maxLen;omega,fun hn=>⟨g,0,rfl,(h'.lt g rfl).2,fun j u hu=>?_⟩⟩,fun g' o _ e=>by injection e with e;injection e with e;subst e;exact hbg⟩;have:=h'.cells (g:=g) rfl j u hu;have e1:(⟨g,0,none⟩:Addr).add j=⟨g,0+j,none⟩:=bn;rwa [e1]at this
theorem Mz.done{base B:Nat}{W:World}{kind text:List UInt8}{tv kv:Value}{gs:List Nat}{xs:List (Nat × SV)}(h:Mz base B W kind text tv tv kv kv gs xs)(hg:gs.length<=1000)(hx:xs.length<=1000):Fx (fun c=>B<=c) W B (.mk kind text gs (xs.map (·.2))):=by
 obtain⟨A1,c1,rfl,r1,p1⟩:=Qba h.tags (by simp[Er]) hg;obtain⟨A2,c2,rfl,r2,p2⟩:=Qba h.row (by simp[Et]) hx;have hB:=h.hB;exact .mk kind text gs A1 A2 c1 c2 xs rfl h.lt (Am _) h.c0 h.c1 h.c2 h.c3 r1 r2 hg hx (fun g o hn e=>by have:=p1 g o hn e;omega) (fun g o hn e=>by have:=p2 g o hn e;omega) fun x hx=>(h.kids x hx).mono fun c hc _=>by have:=hc.1;omega
theorem Mz.new{W:World}{T:TypeId}(h0 h1:Value):Mz (W.heap.size+1) W.heap.size (W.alloc (.cells #[h0,h1,.slice none 0 0,.slice none 0 0] T)) h0 h1 (.slice none 0 0) (.slice none 0 0) (.slice none 0 0) (.slice none 0 0) [] []:=
 ⟨by simp,by simp,by omega,Qi.new _ _ _,by simp[go_sem],by simp[go_sem],by simp[go_sem],by simp[go_sem],World.ownsRow_nil _ _ _ _,World.ownsRow_nil _ _ _ _,by simp⟩
end Go.Proofs.YtgfmljfjgohdcaaGreatDoor
