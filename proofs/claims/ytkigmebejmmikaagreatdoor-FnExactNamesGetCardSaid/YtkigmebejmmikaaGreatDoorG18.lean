/- Texts joined. Conditions: as each theorem names them. -/
import Derived.Sort.Walk0
import Derived.Deep.CutRange
import Derived.Deep.DeepCutAuto
import Derived.Test.YtkigmebejmmikaaGreatDoorG14
set_option maxRecDepth 100000
set_option maxHeartbeats 32000000
set_option linter.unusedVariables false
set_option linter.unusedSimpArgs false
namespace Go.Proofs.YtkigmebejmmikaaGreatDoor
open Go.RowKit Go.Proofs.Tryz
section
attribute [local go_sem] Qjy Qiu Qil Qgp ByteArray.mk_append_mk
abbrev Qhm(B:Nat)(W:World)(g n c:Nat)(xs:List (List UInt8)):Prop:=W.ownsRow B 9 1 (.slice (g,0) n c) n (Br xs)
structure ApR(w0:World)(xs:List (List UInt8))(k:Nat)(x:List UInt8)(l0 l4 l9 l10 l14 l15:Bool)(u0 u4 u9 u10 u14 u15:Value)(W:World):Prop where
 bel:Below w0 w0 W
 d10:l10=true->l4=true/\l9=true
 d14:l14=true->l10=true
 d15:l15=true->l14=true
 s0:l0=true->l4=false->∃b,u0=.slice (some ⟨b,0,none⟩) 0 0/\Qhm w0.heap.size W b 0 0 []
 s4:l4=true->l10=false->∃b c,u4=.slice (some ⟨b,0,none⟩) k c/\Qhm w0.heap.size W b k c (xs.take k)
 s9:l9=true->l10=false->∃b,u9=.slice (some ⟨b,0,none⟩) 1 1/\w0.heap.size<=b/\b<W.heap.size/\W.cell? ⟨b,0,none⟩=x/\(l0=true->l4=false->u0.ownBlock≠some b)/\(l4=true->u4.ownBlock≠some b)
 s10:l10=true->l14=false->∃b c,u10=.slice (some ⟨b,0,none⟩) (k+1) c/\Qhm w0.heap.size W b (k+1) c (xs.take k++[x])
 s14:l14=true->∃b c,u14=.slice (some ⟨b,0,none⟩) (xs.length+1) c/\Qhm w0.heap.size W b (xs.length+1) c (xs.take k++x::xs.drop k)
 s15:l15=true->u15=u14
section
variable {w0 W W':World} {xs:List (List UInt8)} {k:Nat} {x:List UInt8} {l0 l4 l9 l10 l14 l15:Bool} {u0 u4 u9 u10 u14 u15:Value}
theorem ApR.start:ApR w0 xs k x false false false false false false u0 u4 u9 u10 u14 u15 w0.drew:=
 ⟨(Ay _ _).drew,by simp,by simp,by simp,by simp,by simp,by simp,by simp,by simp,by simp⟩
end
def Xu(s d x:List UInt8)(w:World)(e:Ending)(w':World):Prop:=Below w w w'/\match D3 s d with
 |none=>∃v q,e=.returned (.tuple #[v,.pointer q,.bool false])
 |some y=>match Pt y.1 y.2 x with
  |none=>∃v q,e=.returned (.tuple #[v,.pointer q,.bool false])
  |some v=>∃xv xs b,e=.returned (.tuple #[xv,.pointer (some ⟨b,0,none⟩),.bool true])/\Ah xs=y.1/\Mc w' xv xs/\Fh (fun c=>w.heap.size<=c) w' b (Cd y.1 y.2 v)
theorem Yo(p:UInt8->Bool):∀(s:List UInt8) (i:Nat) (hi:i<s.length),(i<(s.takeWhile p).length->p s[i]=true)/\(i=(s.takeWhile p).length->p s[i]=false)
 |[],i,hi=>by simp at hi
 |x::s,0,hi=>by
  by_cases h:p x=true
  ·simp[h]
  simp[h]
 |x::s,i+1,hi=>by
  have ih:=Yo p s i (by simpa using hi);by_cases h:p x=true
  ·rw[List.takeWhile_cons_of_pos h];simpa using ih
  rw[List.takeWhile_cons_of_neg h];simp
theorem J0(p:UInt8->Bool)(s:List UInt8):s.take (s.takeWhile p).length=s.takeWhile p/\s.drop (s.takeWhile p).length=s.dropWhile p/\(s.takeWhile p).length<=s.length:=by
 have e:s.takeWhile p++s.dropWhile p=s:=List.takeWhile_append_dropWhile;have h1:(s.takeWhile p++s.dropWhile p).take (s.takeWhile p).length=s.takeWhile p:=List.take_left;have h2:(s.takeWhile p++s.dropWhile p).drop (s.takeWhile p).length=s.dropWhile p:=List.drop_left;rw[e]at h1 h2;have h3:=congrArg List.length e;rw[ag]at h3;exact⟨h1,h2,by omega⟩
theorem Sp(s:List UInt8)(w:World)(hs:s.length<=4000000):
  Calls prog 85 #[s] w fun e w'=>e=.returned (.int .i64 ((s.takeWhile Bg).length:Int))/\w=w':=by
 have HT:=Aa (Yo Bg s);have hle:=(J0 Bg s).2.2;generalize hn:(s.takeWhile Bg).length=n at *;clear hn;go_enter func85,ntmps85;go_wp2_with fail;go_loop [3] (fun i=>∃k:Nat,i=.int .i64 k/\k<=n) (fun i=>n - (intOf i).toNat)
 case atStart=>exact⟨0,rfl,af _⟩
 case round=>
  obtain⟨k,rfl,hk⟩:=hrel;by_cases hlt:k<s.length
  ·obtain⟨q1,q2⟩:=HT.o k hlt;have hc:=(s[k]).toNat_lt;by_cases hkn:k<n
   ·obtain⟨h3,h4⟩:=Di.1 (q1 hkn);clear q1 q2;go_wp2_with fail;go_round
    case rel=>exact⟨k+1,by go_num,by omega⟩
    case measure=>simp[intOf];omega
   have hd:=q2 aE;have hkn2:k=n:=aE;have h2:(s[k]).toNat<48\/(48<=(s[k]).toNat/\57<(s[k]).toNat):=by
    by_cases h3:48<=(s[k]).toNat
    ·refine .inr ⟨h3,?_⟩;by_cases h4:57<(s[k]).toNat
     ·exact h4
     have:=Di.2 ⟨h3,by omega⟩;rw[hd]at this;cases this
    exact .inl aE
   clear q1 q2 hd;subst hkn2;rcases h2 with h2|⟨h2,h3⟩
   ·go_wp2_with fail;exact ia
   go_wp2_with fail;exact ia
  ·have hkn2:k=n:=aE;subst hkn2;go_wp2_with fail;exact ia
def At(S:List Ty)(k:Kd)(o:Option (Vl × List UInt8))(w:World)(e:Ending)(w':World):Prop:=
 (match o with
  |some x=>∃b,e=.returned (.tuple #[.pointer (some ⟨b,0,none⟩),x.2,.bool true])/\Fh (fun c=>w.heap.size<=c) w' b (Cd S k x.1)
  |none=>∃(q:Option Addr) (r:ByteArray),e=.returned (.tuple #[.pointer q,.string r,.bool false]))/\Below w w w'
theorem At.no{S:List Ty}{k:Kd}{o:Option (Vl × List UInt8)}{w w':World}{e:Ending}(ho:o=none){q:Option Addr}{r:ByteArray}(he:e=.returned (.tuple #[.pointer q,.string r,.bool false]))(hb:Below w w w'):At S k o w e w':=by
 rw[ho];exact⟨⟨q,r,he⟩,hb⟩
theorem Fh.leaf{P:Nat->Prop}{w:World}{kind text:List UInt8}{T:TypeId}(hP:P w.heap.size):Fh P (w.alloc (.cells #[kind,text,.slice none 0 0,.slice none 0 0] T)) w.heap.size (.mk kind text [] []):=
 .mk kind text [] none none 0 0 [] rfl aI hP aI aI aI aI ⟨rfl,af _,fun h=>absurd h aI⟩ ⟨rfl,af _,fun h=>absurd h aI⟩ aI aI (fun _ _ h=>absurd h aI) (fun _ _ h=>absurd h aI) aI
theorem Qh0(s:List UInt8):P8 s=if Dy (s.takeWhile Bg) 999999 then(Cn (s.takeWhile Bg)).map (fun n=>(n,s.dropWhile Bg))else none:=by
 unfold P8 Dy;cases h:Cn (s.takeWhile Bg)with
 |none=>rfl
 |some n=>simp[(Cb.1 h).1]
theorem Qab(S:List Ty)(xv:Value)(hxv:xv.oneCell'=true)(s:List UInt8)(k:Kd)(hs0:k.signs=[])(hb:k.base=[110])(w:World)(hs:s.length<=4000000)(q:Option (Vl × List UInt8))(hq:q=match P8 s with|some (n,r)=>some (.mk 110 (Az n) 0 [],r)|none=>none):
  Calls prog 50 #[.agg #[xv],s,.string ⟨#[110]⟩] w (At S k q w):=by
 have hkd:Bi k=[110]:=ca;have HQ:=Aa (hq.trans (by rw[Qh0]));obtain⟨e1,e2,hle⟩:=J0 Bg s;have Hd:=Aa (fun W=>Sp s W hs);have Hn:=Aa (fun W=>Dn (s.takeWhile Bg) 999999 W aE aH);have HD:=Aa (fun m (h:Cn (s.takeWhile Bg)=some m)=>(Cb.1 h).2);have E1:=Aa e1;have E2:=Aa e2;have k1:((s.takeWhile Bg).length:Int)<=(s.length:Int):=aE;generalize (s.takeWhile Bg).length=n at *;generalize s.takeWhile Bg=tw at *;generalize s.dropWhile Bg=dw at *;have k2:(0:Int)<=(n:Int):=aE;have k3:((n:Int)).toNat=n:=aE;have hn8:n<=4000000:=aE;clear e1 e2 hs0 hb hq;go_enter func50,ntmps50;go_wp2_with fail;refine(Hd.o _).mono ?_;rintro e w1 ⟨rfl,rfl⟩;go_wp2_with fail;rw[E1.o];refine(Hn.o _).mono ?_;rintro e w2 ⟨m,hm,rfl,hdm,hb2⟩;have Hb2:=Aa (((Ay w.heap.size w).alloc (As _) (.cells #[xv] 35)).trans (hb2.mono aI));have Hdm:=Aa hdm;have hz2:=Hb2.o.size;have Hok:=Aa (show Dy tw 999999=(Cn tw).isSome by unfold Dy;cases h:Cn tw with|none=>rfl|some m=>simp[(Cb.1 h).1]);generalize Dy tw 999999=ok at *;clear hb2 hdm;go_wp2_with fail;refine Sy [26,27,28,29,30,31,32,33,34,35,6,7,8]
  (fun ix v W=>match ix with|0=>v=.string ⟨#[110]⟩|1=>v=(s:List UInt8)|2=>v=(n:Int)|3=>v=(tw:List UInt8)|4=>v=.agg #[.string ⟨#[110]⟩,(tw:List UInt8),.slice none 0 0,.slice none 0 0]|5=>∃c,v=.pointer (some ⟨c,0,none⟩)|6=>v=(s:List UInt8)|7=>v=(n:Int)|8=>v=(dw:List UInt8)|9=>v=.bool ok|10=>∃c,v=.pointer (some ⟨c,0,none⟩)|11=>v=(dw:List UInt8)|12=>v=.bool ok|_=>True)
  (fun L U W=>(L 5=false->Below w2 w2 W)/\(L 5=true->∃W7,W=W7.alloc (.cells #[.string ⟨#[110]⟩,(tw:List UInt8),.slice none 0 0,.slice none 0 0] 68)/\Below w2 w2 W7/\U 5=.pointer (some ⟨W7.heap.size,0,none⟩))/\(L 10=true->U 10=U 5)) (⟨fun _=>(Ay _ _).drew,fun h=>Bool.noConfusion h,fun h=>Bool.noConfusion h⟩) ?_ ?_
 ·repeat (first|exact Ba.nil|(refine Ba.cons ?_ ?_;rotate_left))
  all_goals
   rintro L U W hL hpre HR Hdep K hK;first|(simp[Region.binds]at hpre;done)|simp[Region.binds]at hpre|clear hpre
  iterate 3
   ·exact fG
  ·go_simp;rw[E1.o];exact j7
  ·exact fG
  ·obtain⟨R1,R2,R3⟩:=HR.o;have hB:=R1 hL;have h10:L 10=false:=Ce Hdep.o 10 5 rfl hL;go_simp;exact hK W.heap.size _ _ ⟨_,rfl⟩ Ad ⟨fun h=>by simp at h,fun _=>⟨W,rfl,hB,rfl⟩,fun h=>absurd (h10.symm.trans bg) aH⟩ aF
  iterate 2
   ·exact fG
  ·exact ga
  ·exact fG
  ·exact fR
  iterate 2
   ·exact fG
 rintro L U W hL hφ hR;have hφ10:U 10=U 5:=hR.2.2 (hL 10 aH);have e11:U 11=(dw:List UInt8):=hφ 11 aH;have e12:U 12=.bool ok:=hφ 12 aH;clear hφ;obtain⟨_,h2,h3⟩:=hR;obtain⟨W7,rfl,hb7,u5⟩:=h2 (hL 5 aH);rw[u5]at hφ10;clear hL h2;simp only[hφ10,e11,e12];clear hφ10;go_wp2_with fail;refine aC (v:=.tuple #[.pointer (some ⟨W7.heap.size,0,none⟩),dw,.bool ok]) (by simp[results,results50,go_sem]) rfl ?_;have hz7:=hb7.size;have Hb7:=((Hb2.o.trans (hb7.mono hz2)).alloc (ac hz2 hz7) (.cells #[.string ⟨#[110]⟩,tw,.slice none 0 0,.slice none 0 0] 68))
 have HQ:=HQ.o;cases ok with
 |false=>exact At.no HQ rfl Hb7
 |true=>
  cases hd:Cn tw with
  |none=>rw[hd]at HQ;have:=Hok.o;rw[hd]at this;cases this
  |some m'=>
   rw[hd]at HQ;simp only[if_true,Option.map_some]at HQ;rw[HQ];refine⟨⟨W7.heap.size,rfl,?_⟩,Hb7⟩;rw[Qbk,hkd,<-HD.o m' hd];exact j8
def Nm(c:UInt8):Bool:=c != 39
def Mn(s:List UInt8):Nat:=min (((s.drop 1).takeWhile Nm).length+2) s.length
theorem Qhq(r:List UInt8):(r.takeWhile Nm=r/\∀x∈r,x≠39)\/∃q,r=r.takeWhile Nm++39::q:=by
 induction r with
 |nil=>exact .inl ⟨rfl,by simp⟩
 |cons x r ih=>
  by_cases hx:Nm x=true
  ·rw[List.takeWhile_cons_of_pos hx];rcases ih with⟨h1,h2⟩|⟨q,h⟩
   ·refine .inl ⟨by rw[h1],fun y hy=>?_⟩;rcases ax.1 hy with rfl|hy
    ·simpa [Nm]using hx
    exact h2 y hy
   exact .inr ⟨q,by rw[aq,<-h]⟩
  rw[List.takeWhile_cons_of_neg hx];have:x=39:=by simpa [Nm]using hx
  subst this;exact .inr ⟨r,rfl⟩
theorem Qis(c:UInt8)(r:List UInt8):(Fm ((c::r).take (Mn (c::r)))=false/\Mj (c::r)=none) \/
  ∃x q,Mj (c::r)=some (x,q)/\Fm ((c::r).take (Mn (c::r)))=true/\(c::r).take (Mn (c::r))=39::(x++[39])/\(c::r).drop (Mn (c::r))=q:=by
 rcases Qhq r with⟨h1,h2⟩|⟨q,h⟩
 ·left;have e:Mn (c::r)=(c::r).length:=by unfold Mn;rw[show (c::r).drop 1=r from rfl,h1];simp
  rw[e,List.take_length];have hd:Ae 39 (r.dropWhile Cg)=none:=by
   cases hc:r.dropWhile Cg with
   |nil=>rfl
   |cons x z=>
    have hx:x∈r:=(List.dropWhile_sublist _).subset (by rw[hc];simp);simp[Ae,h2 x hx]
  constructor
  ·unfold Fm;by_cases h0:r=[]
   ·subst h0;simp
   have hl:(c::r).getLast?=some (r.getLast h0):=by rw[List.getLast?_cons,List.getLast?_eq_some_getLast h0];rfl
   have:=h2 _ (List.getLast_mem h0);rw[hl];simp[this]
  unfold Mj;by_cases hc:c=39
  ·subst hc;rw[show Ae 39 (39::r)=some r by simp[Ae]];simp only;rw[hd]
  simp[Ae,hc]
 generalize htw:r.takeWhile Nm=tw at *;have hno:∀x∈tw,Nm x=true:=fun x hx=>by rw[<-htw]at hx;exact(List.all_eq_true.1 (List.all_takeWhile)) x hx
 have e:Mn (c::r)=tw.length+2:=by
  unfold Mn;rw[show (c::r).drop 1=r from rfl,htw];have:(c::r).length=tw.length+1+q.length+1:=by rw[h];simp;omega
  omega
 have et:(c::r).take (tw.length+2)=c::(tw++[39]):=by
  rw[List.take_succ_cons,h,List.take_append,ap aE];simp
 have ed:(c::r).drop (tw.length+2)=q:=by
  rw[List.drop_succ_cons,h,List.drop_append,List.drop_of_length_le aE];simp
 have eq:Fm (c::(tw++[39]))=(decide (c=39) && Dq tw):=by
  unfold Fm;have hl:(c::(tw++[39])).getLast?=some 39:=by rw[<-aq,List.getLast?_append];rfl
  rw[hl];simp
 rw[e,et,ed,eq];by_cases hc:c=39
 ·subst hc;by_cases hall:tw.all Cg=true
  ·have ha:=List.all_eq_true.1 hall;have t1:r.takeWhile Cg=tw:=by rw[h,List.takeWhile_append_of_pos ha];simp[Cg,Ao,Bg]
   have t2:r.dropWhile Cg=39::q:=by rw[h,List.dropWhile_append_of_pos ha];simp[Cg,Ao,Bg]
   by_cases h12:tw.length<=12
   ·right;exact⟨tw,q,by simp[Mj,Ae,t1,t2,h12],by simp[Dq,h12,hall],rfl,rfl⟩
   left;exact⟨by simp[Dq,h12],by simp[Mj,Ae,t1,t2,h12]⟩
  left;refine⟨by simp[Dq,hall],?_⟩;have:Ae 39 (r.dropWhile Cg)=none:=by
   rw[h];clear htw h e et ed eq;induction tw with
   |nil=>simp at hall
   |cons x tw ih=>
    by_cases hx:Cg x=true
    ·rw[aq,List.dropWhile_cons_of_pos hx];exact ih (fun y hy=>hno y f5) (by simpa [hx]using hall)
    rw[aq,List.dropWhile_cons_of_neg hx];have:=hno x aI;simp[Nm]at this;simp[Ae,this]
  unfold Mj;rw[show Ae 39 (39::r)=some r by simp[Ae]];simp only;rw[this]
 left;exact⟨by simp[hc],by simp[Mj,Ae,hc]⟩
theorem Z7(S:List Ty)(xv:Value)(hxv:xv.oneCell'=true)(s:List UInt8)(k:Kd)(hs0:k.signs=[])(hb:k.base=[116])(w:World)(hs:s.length<=4000000)(hne:s≠[])(q:Option (Vl × List UInt8))(hq:q=match Mj s with|some (x,r)=>some (.mk 116 x 0 [],r)|none=>none):
  Calls prog 50 #[.agg #[xv],s,.string ⟨#[116]⟩] w (At S k q w):=by
 have hkd:Bi k=[116]:=ca;have HQ:=Aa hq
 have Hor:=Aa (show (Fm (s.take (Mn s))=false/\Mj s=none)\/∃x q,Mj s=some (x,q)/\Fm (s.take (Mn s))=true/\s.take (Mn s)=39::(x++[39])/\s.drop (Mn s)=q by
  cases s with
  |nil=>exact absurd rfl hne
  |cons c r=>exact Qis c r)
 have hz:1<=s.length:=by cases s with|nil=>exact absurd rfl hne|cons c r=>simp
 have HT:=Aa (fun i (hi:i+1<s.length)=>(show (i<((s.drop 1).takeWhile Nm).length->s[i+1]≠39)/\(i=((s.drop 1).takeWhile Nm).length->s[i+1]=39)from by
  have h:=Yo Nm (s.drop 1) i aM;simp only[List.getElem_drop,Nat.add_comm 1 i]at h;exact⟨fun h1=>by simpa [Nm]using h.1 h1,fun h1=>by simpa [Nm]using h.2 h1⟩))
 have hle:((s.drop 1).takeWhile Nm).length+1<=s.length:=by
  have:=(J0 Nm (s.drop 1)).2.2;rw[List.length_drop]at this;omega
 have hqd:Mn s=min (((s.drop 1).takeWhile Nm).length+2) s.length:=rfl;have Hn:=Aa (fun W=>Th (s.take (Mn s)) W aM);generalize ((s.drop 1).takeWhile Nm).length=m at *;have k1:((Mn s:Nat):Int)<=(s.length:Int):=aE;have Hmin:Hid ((if ((m:Int)+1+1)<=(s.length:Int)then((m:Int)+1+1)else(s.length:Int))=((Mn s:Nat):Int)):=by
  unfold Hid;split<;>omega
 have k3:((Mn s:Nat):Int).toNat=Mn s:=aE;have k2:(0:Int)<=((Mn s:Nat):Int):=aE;generalize Mn s=n at *;generalize hnok:Fm (s.take n)=ok at *;have HI:∃tw dw,tw=s.take n/\dw=s.drop n:=⟨_,_,rfl,rfl⟩
 obtain⟨tw,dw,e1,e2⟩:=HI;rw[<-e1,<-e2]at Hor;rw[<-e1]at Hn hnok;have E1:=Aa e1.symm;have E2:=Aa e2.symm;have Hok:=Aa hnok;clear e1 e2 hs0 hb hq hqd hne hnok;go_enter func50,ntmps50;go_wp2_with fail;go_loop [9] (fun i=>∃j:Nat,i=.int .i64 ((j:Int)+1)/\j<=m) (fun i=>m+1 - (intOf i).toNat)
 case atStart=>exact⟨0,rfl,af _⟩
 case round=>
  obtain⟨j,rfl,hj⟩:=hrel;by_cases hlt:j+1<s.length
  ·obtain⟨q1,q2⟩:=HT.o j hlt;have hc:=(s[j+1]).toNat_lt;by_cases hjm:j<m
   ·have h3:=q1 hjm;have h4:((s[j+1]).toNat:Int)≠39:=fun h=>h3 (by apply UInt8.toNat_inj.1;simpa using(by exact_mod_cast h:(s[j+1]).toNat=39));clear q1 q2 h3;go_wp2_with fail;go_round
    case rel=>exact⟨j+1,by go_num,by omega⟩
    case measure=>simp[intOf];omega
   have hjm2:j=m:=aE;have h4:((s[j+1]).toNat:Int)=39:=by rw[q2 hjm2];rfl
   clear q1 q2;subst hjm2;clear hjm HT hj hle;have e9:(j:Int)+1+1=(n:Int):=by rw[<-Hmin.o,if_pos aE]
   go_wp2_with fail;refine Sy [55,56,57,58,59,60,61,62,63,64,65,66,67,6,7,8]
    (fun ix v W=>match ix with|0=>v=.string ⟨#[116]⟩|1=>v=(s:List UInt8)|2=>v=(n:Int)|3=>v=.string ⟨(tw:List UInt8).toArray⟩|4=>v=.agg #[.string ⟨#[116]⟩,.string ⟨(tw:List UInt8).toArray⟩,.slice none 0 0,.slice none 0 0]|5=>∃c,v=.pointer (some ⟨c,0,none⟩)|6=>v=(s:List UInt8)|7=>v=(n:Int)|8=>v=.string ⟨(dw:List UInt8).toArray⟩|9=>v=(s:List UInt8)|10=>v=(n:Int)|11=>v=.string ⟨(tw:List UInt8).toArray⟩|12=>v=.bool ok|13=>∃c,v=.pointer (some ⟨c,0,none⟩)|14=>v=.string ⟨(dw:List UInt8).toArray⟩|15=>v=.bool ok|_=>True)
    (fun L U W=>(L 5=false->Below w w W)/\(L 5=true->∃W7,W=W7.alloc (.cells #[.string ⟨#[116]⟩,.string ⟨(tw:List UInt8).toArray⟩,.slice none 0 0,.slice none 0 0] 68)/\Below w w W7/\U 5=.pointer (some ⟨W7.heap.size,0,none⟩))/\(L 13=true->U 13=U 5)) (⟨fun _=>((Ay w.heap.size w).alloc (As _) _).drew,fun h=>Bool.noConfusion h,fun h=>Bool.noConfusion h⟩) ?_ ?_
   ·exact fJ
   rintro L U W hL hφ hR;have hφ10:U 13=U 5:=hR.2.2 (hL 13 aH);have e11:U 14=.string ⟨(dw:List UInt8).toArray⟩:=hφ 14 aH;have e12:U 15=.bool ok:=hφ 15 aH;clear hφ;obtain⟨_,h2,h3⟩:=hR;obtain⟨W7,rfl,hb7,u5⟩:=h2 (hL 5 aH);rw[u5]at hφ10;clear hL h2;simp only[hφ10,e11,e12];clear hφ10;go_wp2_with fail;refine aC (v:=.tuple #[.pointer (some ⟨W7.heap.size,0,none⟩),.string ⟨dw.toArray⟩,.bool ok]) (by simp[results,results50,go_sem]) rfl ?_;have hz7:=hb7.size;have Hb7:=(hb7.alloc aE (.cells #[.string ⟨#[116]⟩,.string ⟨tw.toArray⟩,.slice none 0 0,.slice none 0 0] 68))
   have HQ:=HQ.o;rcases Hor.o with⟨o1,o2⟩|⟨x,q',o1,o2,o3,o4⟩
   ·exact hM
   rw[o1]at HQ;subst o2;rw[HQ];subst o4;refine⟨⟨W7.heap.size,rfl,?_⟩,Hb7⟩;exact j9
  ·have hjm2:j=m:=aE;subst hjm2;have hj3:(j:Int)<=5000000:=aE;have hj4:(0:Int)<=(j:Int):=aE;have hj5:¬((j:Int)+1+1<=(s.length:Int)):=aE;clear HT hj;have e9:(s.length:Int)=(n:Int):=by rw[<-Hmin.o,if_neg aE]
   go_wp2_with fail;refine Sy [55,56,57,58,59,60,61,62,63,64,65,66,67,6,7,8]
    (fun ix v W=>match ix with|0=>v=.string ⟨#[116]⟩|1=>v=(s:List UInt8)|2=>v=(n:Int)|3=>v=.string ⟨(tw:List UInt8).toArray⟩|4=>v=.agg #[.string ⟨#[116]⟩,.string ⟨(tw:List UInt8).toArray⟩,.slice none 0 0,.slice none 0 0]|5=>∃c,v=.pointer (some ⟨c,0,none⟩)|6=>v=(s:List UInt8)|7=>v=(n:Int)|8=>v=.string ⟨(dw:List UInt8).toArray⟩|9=>v=(s:List UInt8)|10=>v=(n:Int)|11=>v=.string ⟨(tw:List UInt8).toArray⟩|12=>v=.bool ok|13=>∃c,v=.pointer (some ⟨c,0,none⟩)|14=>v=.string ⟨(dw:List UInt8).toArray⟩|15=>v=.bool ok|_=>True)
    (fun L U W=>(L 5=false->Below w w W)/\(L 5=true->∃W7,W=W7.alloc (.cells #[.string ⟨#[116]⟩,.string ⟨(tw:List UInt8).toArray⟩,.slice none 0 0,.slice none 0 0] 68)/\Below w w W7/\U 5=.pointer (some ⟨W7.heap.size,0,none⟩))/\(L 13=true->U 13=U 5)) (⟨fun _=>((Ay w.heap.size w).alloc (As _) _).drew,fun h=>Bool.noConfusion h,fun h=>Bool.noConfusion h⟩) ?_ ?_
   ·exact fJ
   rintro L U W hL hφ hR;have hφ10:U 13=U 5:=hR.2.2 (hL 13 aH);have e11:U 14=.string ⟨(dw:List UInt8).toArray⟩:=hφ 14 aH;have e12:U 15=.bool ok:=hφ 15 aH;clear hφ;obtain⟨_,h2,h3⟩:=hR;obtain⟨W7,rfl,hb7,u5⟩:=h2 (hL 5 aH);rw[u5]at hφ10;clear hL h2;simp only[hφ10,e11,e12];clear hφ10;go_wp2_with fail;refine aC (v:=.tuple #[.pointer (some ⟨W7.heap.size,0,none⟩),.string ⟨dw.toArray⟩,.bool ok]) (by simp[results,results50,go_sem]) rfl ?_;have hz7:=hb7.size;have Hb7:=(hb7.alloc aE (.cells #[.string ⟨#[116]⟩,.string ⟨tw.toArray⟩,.slice none 0 0,.slice none 0 0] 68))
   have HQ:=HQ.o;rcases Hor.o with⟨o1,o2⟩|⟨x,q',o1,o2,o3,o4⟩
   ·exact hM
   rw[o1]at HQ;subst o2;rw[HQ];subst o4;refine⟨⟨W7.heap.size,rfl,?_⟩,Hb7⟩;exact j9
theorem P1:∀(p s:List UInt8),Dt p s=if s.take p.length=p then some (s.drop p.length)else none
 |[],s=>by simp[Dt]
 |c::p,[]=>by simp[Dt,Ae]
 |c::p,x::s=>by
  have ih:=P1 p s;unfold Dt;by_cases h:x=c
  ·subst h;simp only[Ae,if_true,List.length_cons,List.take_succ_cons,List.drop_succ_cons,List.cons.injEq,true_and];exact ih
  simp[Ae,h]
theorem Qaj(S:List Ty)(xv:Value)(hxv:xv.oneCell'=true)(s:List UInt8)(k:Kd)(hs0:k.signs=[])(hb:k.base=[102])(w:World)(hs:s.length<=4000000)(q:Option (Vl × List UInt8))(hq:q=match Ni s with|some (b,r)=>some (.mk 102 (if b then Ei else Ma) 0 [],r)|none=>none):
  Calls prog 50 #[.agg #[xv],s,.string ⟨#[102]⟩] w (At S k q w):=by
 have hkd:Bi k=[102]:=ca;have Hq:=Aa hq;have Hy:=Aa (P1 Ei s);have Hn:=Aa (P1 Ma s);clear hq hs0 hb;go_enter func50,ntmps50;go_wp2_with fail;go_loop [70] (fun i=>(i=.int .i64 0)\/(i=.int .i64 1/\¬s.take 3=Ei)\/(i=.int .i64 2/\¬s.take 3=Ei/\¬s.take 2=Ma)) (fun i=>3 - (intOf i).toNat)
 case atStart=>exact .inl rfl
 case round=>
  obtain rfl|⟨rfl,hny⟩|⟨rfl,hny,hnn⟩:=hrel
  ·by_cases hl:3<=s.length
   ·have hl2:(3:Int)<=(s.length:Int):=aE;by_cases ht:s.take 3=Ei
    ·have HQ:=@Aa (q=some (.mk 102 Ei 0 [],s.drop 3)) (by rw[Hq.o];unfold Ni;rw[Hy.o,if_pos (show s.take Ei.length=Ei from ht)];rfl);generalize hdw:s.drop 3=dw at *;have E2:=Aa hdw;have tb:(s.take 3 == [121,101,115])=true:=by rw[ht];rfl
     clear Hq hdw ht;go_wp2_with fail;have HbW:=Aa (((Ay w.heap.size w).alloc (As _) (.cells #[xv] 35)).alloc aI (.cells #[.string ⟨#[121,101,115]⟩,.string ⟨#[110,111]⟩] 9));refine Sy [87,88,89,90,91,92,93,94,6,7,8]
      (fun ix v W=>match ix with|0=>v=.string ⟨#[102]⟩|1=>v=.string ⟨#[121,101,115]⟩|2=>v=.agg #[.string ⟨#[102]⟩,.string ⟨#[121,101,115]⟩,.slice none 0 0,.slice none 0 0]|3=>∃c,v=.pointer (some ⟨c,0,none⟩)|4=>v=(s:List UInt8)|5=>v=.string ⟨#[121,101,115]⟩|6=>v=.int .i64 3|7=>v=(dw:List UInt8)|8=>∃c,v=.pointer (some ⟨c,0,none⟩)|9=>v=(dw:List UInt8)|10=>v=.bool true|_=>True)
      (fun L U W=>(L 3=false->Below w w W)/\(L 3=true->∃W7,W=W7.alloc (.cells #[.string ⟨#[102]⟩,.string ⟨#[121,101,115]⟩,.slice none 0 0,.slice none 0 0] 68)/\Below w w W7/\U 3=.pointer (some ⟨W7.heap.size,0,none⟩))/\(L 8=true->U 8=U 3)) (⟨fun _=>HbW.o.drew,fun h=>Bool.noConfusion h,fun h=>Bool.noConfusion h⟩) ?_ ?_
     ·exact fN
     rintro L U W hL hφ hR;have hφ10:U 8=U 3:=hR.2.2 (hL 8 aH);have e11:U 9=(dw:List UInt8):=hφ 9 aH;have e12:U 10=.bool true:=hφ 10 aH;clear hφ;obtain⟨_,h2,h3⟩:=hR;obtain⟨W7,rfl,hb7,u5⟩:=h2 (hL 3 aH);rw[u5]at hφ10;clear hL h2;simp only[hφ10,e11,e12];clear hφ10;go_wp2_with fail;refine aC (v:=.tuple #[.pointer (some ⟨W7.heap.size,0,none⟩),dw,.bool true]) (by simp[results,results50,go_sem]) rfl ?_;have hz7:=hb7.size;have Hb7:=(hb7.alloc aE (.cells #[.string ⟨#[102]⟩,.string ⟨#[121,101,115]⟩,.slice none 0 0,.slice none 0 0] 68))
     rw[HQ.o];refine⟨⟨W7.heap.size,rfl,?_⟩,Hb7⟩;exact ja
    have tb:(s.take 3 == [121,101,115])=false:=by simpa [Ei,Ma]using ht
    go_wp2_with fail;go_round
    case rel=>exact .inr (.inl ⟨rfl,ht⟩)
    case measure=>simp[intOf]
   have hl2:¬((3:Int)<=(s.length:Int)):=aE;have ht:¬s.take 3=Ei:=fun h=>hl en;go_wp2_with fail;go_round
   case rel=>exact .inr (.inl ⟨rfl,ht⟩)
   case measure=>simp[intOf]
  ·by_cases hl:2<=s.length
   ·have hl2:(2:Int)<=(s.length:Int):=aE;by_cases ht:s.take 2=Ma
    ·have HQ:=@Aa (q=some (.mk 102 Ma 0 [],s.drop 2)) (by rw[Hq.o];unfold Ni;rw[Hy.o,if_neg (show ¬s.take Ei.length=Ei from hny),Hn.o,if_pos (show s.take Ma.length=Ma from ht)];rfl);generalize hdw:s.drop 2=dw at *;have E2:=Aa hdw;have tb:(s.take 2 == [110,111])=true:=by rw[ht];rfl
     clear Hq hdw ht;go_wp2_with fail;have HbW:=Aa (((Ay w.heap.size w).alloc (As _) (.cells #[xv] 35)).alloc aI (.cells #[.string ⟨#[121,101,115]⟩,.string ⟨#[110,111]⟩] 9));refine Sy [87,88,89,90,91,92,93,94,6,7,8]
      (fun ix v W=>match ix with|0=>v=.string ⟨#[102]⟩|1=>v=.string ⟨#[110,111]⟩|2=>v=.agg #[.string ⟨#[102]⟩,.string ⟨#[110,111]⟩,.slice none 0 0,.slice none 0 0]|3=>∃c,v=.pointer (some ⟨c,0,none⟩)|4=>v=(s:List UInt8)|5=>v=.string ⟨#[110,111]⟩|6=>v=.int .i64 2|7=>v=(dw:List UInt8)|8=>∃c,v=.pointer (some ⟨c,0,none⟩)|9=>v=(dw:List UInt8)|10=>v=.bool true|_=>True)
      (fun L U W=>(L 3=false->Below w w W)/\(L 3=true->∃W7,W=W7.alloc (.cells #[.string ⟨#[102]⟩,.string ⟨#[110,111]⟩,.slice none 0 0,.slice none 0 0] 68)/\Below w w W7/\U 3=.pointer (some ⟨W7.heap.size,0,none⟩))/\(L 8=true->U 8=U 3)) (⟨fun _=>HbW.o.drew,fun h=>Bool.noConfusion h,fun h=>Bool.noConfusion h⟩) ?_ ?_
     ·exact fN
     rintro L U W hL hφ hR;have hφ10:U 8=U 3:=hR.2.2 (hL 8 aH);have e11:U 9=(dw:List UInt8):=hφ 9 aH;have e12:U 10=.bool true:=hφ 10 aH;clear hφ;obtain⟨_,h2,h3⟩:=hR;obtain⟨W7,rfl,hb7,u5⟩:=h2 (hL 3 aH);rw[u5]at hφ10;clear hL h2;simp only[hφ10,e11,e12];clear hφ10;go_wp2_with fail;refine aC (v:=.tuple #[.pointer (some ⟨W7.heap.size,0,none⟩),dw,.bool true]) (by simp[results,results50,go_sem]) rfl ?_;have hz7:=hb7.size;have Hb7:=(hb7.alloc aE (.cells #[.string ⟨#[102]⟩,.string ⟨#[110,111]⟩,.slice none 0 0,.slice none 0 0] 68))
     rw[HQ.o];refine⟨⟨W7.heap.size,rfl,?_⟩,Hb7⟩;exact ja
    have tb:(s.take 2 == [110,111])=false:=by simpa [Ei,Ma]using ht
    go_wp2_with fail;go_round
    case rel=>exact .inr (.inr ⟨rfl,hny,ht⟩)
    case measure=>simp[intOf]
   have hl2:¬((2:Int)<=(s.length:Int)):=aE;have ht:¬s.take 2=Ma:=fun h=>hl en;go_wp2_with fail;go_round
   case rel=>exact .inr (.inr ⟨rfl,hny,ht⟩)
   case measure=>simp[intOf]
  ·have HQ:=@Aa (q=none) (by rw[Hq.o];simp only[Ni,Hy.o,Hn.o,if_neg (show ¬s.take Ei.length=Ei from hny),if_neg (show ¬s.take Ma.length=Ma from hnn)]);clear Hq;go_wp2_with fail;refine aC (v:=.tuple #[.pointer none,s,.bool false]) (by simp[results,results50,go_sem]) rfl ?_;exact At.no HQ.o rfl (((Ay w.heap.size w).alloc (As _) _).alloc aI _)
end
theorem Qf:(prog.info? 31).map (fun i=>(i.zero,i.size,i.bytes))=some (some (.pointer none),1,8):=aJ
theorem Xx:(prog.info? 3).map (fun i=>(i.zero,i.size,i.bytes))=some (some (.int .i64 0),1,8):=aJ
theorem Nf{W:World}{base s1 s2 n1 n2:Nat}{e1 e2:TypeId}{v1 v2:Value}{xs ys:List Value}(h:W.ownsRow base e1 s1 v1 n1 xs)(k:W.ownsRow base e2 s2 v2 n2 ys)(hne:e1≠e2):v1.ownBlock=none\/v1.ownBlock≠v2.ownBlock:=by
 obtain⟨_,⟨rfl,_⟩|⟨g,cap,cur,rfl,_,h3,_⟩⟩:=h
 ·exact .inl rfl
 obtain⟨_,⟨rfl,_⟩|⟨g',cap',cur',rfl,_,k3,_⟩⟩:=k
 ·exact .inr db
 refine .inr fun e=>?_;injection e with e;simp only at e;subst e;rw[h3]at k3;injection k3 with k3;injection k3 with _ k3;exact hne k3
theorem Kz{base b:Nat}{v:Value}(h:∀k,v.ownBlock=some k->base<=k)(hb:b<base):v.ownBlock=none\/v.ownBlock≠some b:=by
 by_cases hr:v.ownBlock=none
 ·exact .inl hr
 exact .inr fun e=>by have:=h b e;omega
structure Nk(base B:Nat)(W:World)(h0 h1 tu tv ku kv:Value)(gs:List Nat)(xs:List (Nat × SV)):Prop where
 lt:B<W.heap.size
 bs:base<=W.heap.size
 hB:B<base
 bk:Mu W B
 c0:W.cell? (B,0)=some h0
 c1:W.cell? (B,1)=some h1
 c2:W.cell? (B,2)=some tu
 c3:W.cell? (B,3)=some ku
 tags:W.ownsRow base 3 1 tv gs.length (B6 gs)
 row:W.ownsRow base 31 1 kv xs.length (Cy (xs.map (·.1)))
 kids:∀x∈xs,Fh (fun c=>base<=c/\kv.ownBlock≠some c/\tv.ownBlock≠some c) W x.1 x.2
theorem Nk.after{base B:Nat}{W W':World}{h0 h1 tu tv ku kv:Value}{gs:List Nat}{xs:List (Nat × SV)}(h:Nk base B W h0 h1 tu tv ku kv gs xs)(hb:Below W W W'):Nk base B W' h0 h1 tu tv ku kv gs xs:=by
 obtain⟨hc,_,hz⟩:=B4 hb;exact⟨hz _ h.lt,ac h.bs hb.size,h.hB,h.bk.belowAt h.lt hb,(hc _ _ h.lt).trans h.c0,(hc _ _ h.lt).trans h.c1,(hc _ _ h.lt).trans h.c2,(hc _ _ h.lt).trans h.c3,Bm h.tags hb,Bm h.row hb,fun x hx=>(h.kids x hx).after hb⟩
theorem Nk.set2{base B:Nat}{W:World}{h0 h1 tu tv ku kv:Value}{gs:List Nat}{xs:List (Nat × SV)}(h:Nk base B W h0 h1 tu tv ku kv gs xs):Nk base B (W.setCell ⟨B,2,none⟩ tv) h0 h1 tv tv ku kv gs xs:=by
 have hg:=Ap W B 2 tv;exact jb
theorem Nk.set3{base B:Nat}{W:World}{h0 h1 tu tv ku kv:Value}{gs:List Nat}{xs:List (Nat × SV)}(h:Nk base B W h0 h1 tu tv ku kv gs xs):Nk base B (W.setCell ⟨B,3,none⟩ kv) h0 h1 tu tv kv kv gs xs:=by
 have hg:=Ap W B 3 kv;exact jb
theorem Nk.appK{base B:Nat}{W W':World}{h0 h1 tu tv ku kv kv':Value}{gs:List Nat}{xs:List (Nat × SV)}{x:Nat × SV}(h:Nk base B W h0 h1 tu tv ku kv gs xs)(hx:Fh (fun c=>base<=c/\kv.ownBlock≠some c/\tv.ownBlock≠some c) W x.1 x.2)
  (hown:W'.ownsRow base 31 1 kv' (xs.length+1) (Cy (xs.map (·.1))++[.pointer (some ⟨x.1,0,none⟩)])) (hg:W.grownBy W' kv.ownBlock) (hwh:kv'.ownBlock=kv.ownBlock\/∃k,kv'.ownBlock=some k/\W.heap.size<=k):Nk base B W' h0 h1 tu tv ku kv' gs (xs++[x]):=by
 have hn:some B≠kv.ownBlock:=fun e=>eI;refine⟨ab h.lt hg.size,ac h.bs hg.size,h.hB,h.bk.grown h.lt hg hn,hg.cell h.c0 hn,hg.cell h.c1 hn,hg.cell h.c2 hn,hg.cell h.c3 hn,h.tags.kept hg (Nf h.tags h.row aH),by simpa [Cy]using hown,fun y hy=>?_⟩;have hy':Fh (fun c=>base<=c/\kv.ownBlock≠some c/\tv.ownBlock≠some c) W y.1 y.2:=by
  rcases ae.1 hy with hy|hy
  ·exact h.kids y hy
  rw[an]at hy;subst hy;exact hx
 refine hy'.kept (fun b o v hb _ hv=>hg.cell hv fun e=>hb.2.1 e.symm) hg.size fun c hc hl=>⟨hc.1,?_,hc.2.2⟩
 rcases hwh with e|⟨k,e,hk⟩
 ·rw[e];exact hc.2.1
 exact iR
theorem Nk.appT{base B:Nat}{W W':World}{h0 h1 tu tv tv' ku kv:Value}{gs:List Nat}{xs:List (Nat × SV)}{g:Nat}(h:Nk base B W h0 h1 tu tv ku kv gs xs)
  (hown:W'.ownsRow base 3 1 tv' (gs.length+1) (B6 gs++[.int .i64 (g:Int)])) (hg:W.grownBy W' tv.ownBlock) (hwh:tv'.ownBlock=tv.ownBlock\/∃k,tv'.ownBlock=some k/\W.heap.size<=k):Nk base B W' h0 h1 tu tv' ku kv (gs++[g]) xs:=by
 have hn:some B≠tv.ownBlock:=fun e=>by have:=(h.tags.lt B e.symm).1;have:=h.hB;omega
 refine⟨ab h.lt hg.size,ac h.bs hg.size,h.hB,h.bk.grown h.lt hg hn,hg.cell h.c0 hn,hg.cell h.c1 hn,hg.cell h.c2 hn,hg.cell h.c3 hn,by simpa [B6]using hown,h.row.kept hg (Nf h.row h.tags aH),fun y hy=>?_⟩;refine(h.kids y hy).kept (fun b o v hb _ hv=>hg.cell hv fun e=>hb.2.2 e.symm) hg.size fun c hc hl=>⟨hc.1,hc.2.1,?_⟩
 rcases hwh with e|⟨k,e,hk⟩
 ·rw[e];exact hc.2.2
 exact iR
theorem Qay{w:World}{base k n m c:Nat}{e:TypeId}{A:Option Addr}{xs:List Value}(h:w.ownsRow base e k (.slice A m c) n xs):m=n:=by
 rcases h.2 with⟨e,h0⟩|⟨g,cap,cur,e,_⟩
 ·injection e with _ e1 e2;omega
 injection e with _ e1 e2
theorem Nk.push{base B n c:Nat}{W W':World}{A:Option Addr}{h0 h1 tu tv ku kv':Value}{gs:List Nat}{xs:List (Nat × SV)}{x:Nat × SV}(h:Nk base B W h0 h1 tu tv ku (.slice A n c) gs xs)(hx:Fh (fun c1=>base<=c1/\(Value.slice A n c).ownBlock≠some c1/\tv.ownBlock≠some c1) W x.1 x.2)
  (hown:W'.ownsRow base 31 1 kv' (xs.length+1) (Cy (xs.map (·.1))++[.pointer (some ⟨x.1,0,none⟩)])) (hg:W.grownBy W' (Value.slice A n c).ownBlock) (hwh:kv'.ownBlock=(Value.slice A n c).ownBlock\/∃k,kv'.ownBlock=some k/\W.heap.size<=k):
  ∃A6 c6,kv'=.slice A6 (xs++[x]).length c6/\Nk base B W' h0 h1 tu tv ku kv' gs (xs++[x])/\Below base W W':=by
 have hA:=h.appK hx hown hg hwh;have e:(xs++[x]).length=xs.length+1:=aI;rcases hown.2 with⟨e0,h0⟩|⟨g,cap,cur,e1,_⟩
 ·omega
 exact⟨some ⟨g,0,none⟩,cap,by rw[e,e1],hA,(Ay _ _).grown hg h.bs (fun k hk=>(h.row.lt k hk).1)⟩
theorem Nk.pushT{base B n c g:Nat}{W W':World}{A:Option Addr}{h0 h1 tu tv' ku kv:Value}{gs:List Nat}{xs:List (Nat × SV)}(h:Nk base B W h0 h1 tu (.slice A n c) ku kv gs xs)
  (hown:W'.ownsRow base 3 1 tv' (gs.length+1) (B6 gs++[.int .i64 (g:Int)])) (hg:W.grownBy W' (Value.slice A n c).ownBlock) (hwh:tv'.ownBlock=(Value.slice A n c).ownBlock\/∃k,tv'.ownBlock=some k/\W.heap.size<=k):
  ∃A6 c6,tv'=.slice A6 (gs++[g]).length c6/\Nk base B W' h0 h1 tu tv' ku kv (gs++[g]) xs/\Below base W W':=by
 have hA:=h.appT hown hg hwh;have e:(gs++[g]).length=gs.length+1:=aI;rcases hown.2 with⟨e0,h0⟩|⟨g9,cap,cur,e1,_⟩
 ·omega
 exact⟨some ⟨g9,0,none⟩,cap,by rw[e,e1],hA,(Ay _ _).grown hg h.bs (fun k hk=>(h.tags.lt k hk).1)⟩
theorem N3{w:World}{base n:Nat}{e:TypeId}{v:Value}{xs:List Value}(h:w.ownsRow base e 1 v n xs)(hx:xs.length=n)(hl:n<=1000):∃A c,v=.slice A n c/\B8 w A n xs/\∀g o,0<n->A=some ⟨g,o,none⟩->base<=g:=by
 have h':=h;rcases h.2 with⟨rfl,h0⟩|⟨g,cap,cur,rfl,hbg,hh,hnc,hcm,hcs,htk⟩
 ·subst h0;exact⟨none,0,rfl,⟨hx,af _,fun hn=>absurd hn aH⟩,fun g o hn _=>absurd hn aH⟩
 refine⟨some ⟨g,0,none⟩,cap,rfl,⟨hx,by unfold maxLen;omega,fun hn=>⟨g,0,rfl,(h'.lt g rfl).2,fun j u hu=>?_⟩⟩,fun g' o _ e=>by injection e with e;injection e with e;subst e;exact hbg⟩;have:=h'.cells (g:=g) rfl j u hu;have e1:(⟨g,0,none⟩:Addr).add j=⟨g,0+j,none⟩:=bj;rwa [e1]at this
theorem Nk.done{base B:Nat}{W:World}{kind text:List UInt8}{tv kv:Value}{gs:List Nat}{xs:List (Nat × SV)}(h:Nk base B W kind text tv tv kv kv gs xs)(hg:gs.length<=1000)(hx:xs.length<=1000):Fh (fun c=>B<=c) W B (.mk kind text gs (xs.map (·.2))):=by
 obtain⟨A1,c1,rfl,r1,p1⟩:=N3 h.tags (by simp[B6]) hg;obtain⟨A2,c2,rfl,r2,p2⟩:=N3 h.row (by simp[Cy]) hx;have hB:=h.hB;exact .mk kind text gs A1 A2 c1 c2 xs rfl h.lt (As _) h.c0 h.c1 h.c2 h.c3 r1 r2 hg hx (fun g o hn e=>by have:=p1 g o hn e;omega) (fun g o hn e=>by have:=p2 g o hn e;omega) fun x hx=>(h.kids x hx).mono fun c hc _=>by have:=hc.1;omega
theorem Nk.new{W:World}{T:TypeId}(h0 h1:Value):Nk (W.heap.size+1) W.heap.size (W.alloc (.cells #[h0,h1,.slice none 0 0,.slice none 0 0] T)) h0 h1 (.slice none 0 0) (.slice none 0 0) (.slice none 0 0) (.slice none 0 0) [] []:=
 ⟨by simp,by simp,by omega,Mu.new _ _ _,by simp[go_sem],by simp[go_sem],by simp[go_sem],by simp[go_sem],World.ownsRow_nil _ _ _ _,World.ownsRow_nil _ _ _ _,by simp⟩
section
attribute [local go_sem] Qjy Qiu Qil Qgp ByteArray.mk_append_mk
structure Fw(Q:World->Value->Value->Value->Prop)(w1:World)(c m x y z a b e:Bool)(uc um ux uy uz ua ub ue:Value)(W:World):Prop where
 no:c=false->W=w1
 yes:c=true->∃vp vr vk,Q W vp vr vk/\uc=.tuple #[vp,vr,vk]/\(m=true->um=.tuple #[vp,vr,vk])/\(x=true->ux=vp)/\(y=true->uy=vr)/\(z=true->uz=vk)/\(a=true->ua=vp)/\(b=true->ub=vr)/\(e=true->ue=vk)
def SrQ(w1:World)(S:List Ty)(k:Kd)(o:Option (Vl × List UInt8))(W:World)(vp vr vk:Value):Prop:=
 Below w1 w1 W/\match o with
  |some x=>(∃b,vp=.pointer (some ⟨b,0,none⟩)/\Fh (fun c=>w1.heap.size<=c) W b (Cd S k x.1))/\vr=x.2/\vk=.bool true
  |none=>(∃q,vp=.pointer q)/\(∃r,vr=.string r)/\vk=.bool false
theorem At.q{S:List Ty}{k:Kd}{o:Option (Vl × List UInt8)}{w w':World}{e:Ending}(h:At S k o w e w'):∃vp vr vk,e=.returned (.tuple #[vp,vr,vk])/\SrQ w S k o w' vp vr vk:=by
 obtain⟨h,hb⟩:=h;cases o with
 |none=>obtain⟨q,r,rfl⟩:=h;exact⟨_,_,_,rfl,hb,⟨q,rfl⟩,⟨r,rfl⟩,rfl⟩
 |some x=>obtain⟨b,rfl,hs⟩:=h;exact⟨_,_,_,rfl,hb,⟨b,rfl,hs⟩,rfl,rfl⟩
def SrC(w0:World)(S:List Ty)(xv:Value)(k:Kd)(d:Nat):Prop:=∀(s:List UInt8) (W:World),Below w0 w0 W->s.length<=1000000 ->
 Calls prog 30 #[.agg #[xv],s,.string ⟨(Bi k).toArray⟩,(d:Int)] W (At S k (Ak S 20 d k s) W)
def Qd6(K:List UInt8->Option (Vl × List UInt8))(s:List UInt8):Option (Vl × List UInt8):=match Ae 93 s with
 |some z=>some (.mk 91 [] 0 [],z)
 |none=>match A0 K 20 s with|some (vs,z)=>some (.mk 91 [] 0 vs,z)|none=>none
structure Qi4(w:World)(xv h0 h1:Value)(S:List Ty)(k:Kd)(K:List UInt8->Option (Vl × List UInt8))(s:List UInt8)(wr:World)(v:Value)(xs:List (Nat × SV))(vs:List Vl)(tt:List UInt8):Prop where
 bel:Below w w wr
 st:Nk (w.heap.size+2) (w.heap.size+1) wr h0 h1 (.slice none 0 0) (.slice none 0 0) v v [] xs
 box:wr.cell? (w,0)=some xv
 len:xs.length=vs.length
 eq:xs.map (·.2)=vs.map (Cd S k.part)
 it:A0 K 20 s=G0 vs (A0 K (20 - vs.length) tt)
 le:tt.length<=s.length
theorem Qd1(w0:World)(S:List Ty)(xv:Value)(hxv:xv.oneCell'=true)(k:Kd)(sg:List UInt8)(hsg:k.signs=91::sg)(hkl:(Bi k).length<=100)(d:Nat)(hd:d<=1000)(s:List UInt8)(w:World)(hw:Below w0 w0 w)(hs:s.length<=1000000)
  (H:SrC w0 S xv k.part d) (HG:∀s v r,Ak S 20 d k.part s=some (v,r)->s=Au v++r) (q:Option (Vl × List UInt8)) (hq:q=Qd6 (Ak S 20 d k.part) s):
  Calls prog 66 #[.agg #[xv],.string ⟨s.toArray⟩,.string ⟨(Bi k).toArray⟩,.int .i64 ((d+1:Nat):Int)] w (At S k q w):=by
 have hkp:Bi k=91::Bi k.part:=by unfold Bi Kd.part;rw[hsg];rfl
 have HQ:=Aa hq;have HH:=Aa H;have HG:=Aa HG;have HW:=Aa hw;have Hsv:=Aa (fun ks=>hkp ▸ Qv S k ks);have hkl2:(Bi k.part).length<=100:=by rw[hkp]at hkl;simp at hkl;omega
 rw[hkp];generalize hkk:Bi k.part=kp at *;have Hkk:=Aa hkk;have ed:(((d+1:Nat):Int)) - 1=(d:Int):=aE;have ed2:(((d+1:Nat):Int))<=1001:=aE;have ed3:(0:Int)<=(((d+1:Nat):Int)):=aE;generalize (((d+1:Nat):Int))=dd at *;clear H hw hq hkp hkl hkk hsg;by_cases h93:∃z,s=93::z
 ·obtain⟨z,rfl⟩:=h93;go_enter func66,ntmps66;go_wp2_with fail;go_quiet (fail)
  go_wp2_with fail;refine aC (v:=.tuple #[(w,1,0),.string ⟨z.toArray⟩,.bool true]) (by simp[results,results66,go_sem]) rfl ?_;rw[HQ.o,show Qd6 (Ak S 20 d k.part) (93::z)=some (.mk 91 [] 0 [],z)from by simp[Qd6,Ae]];have hl:=Fh.leaf (P:=fun c=>w.heap.size<=c) (w:=w.alloc (.cells #[xv] 35)) (kind:=91::kp) (text:=[]) (T:=68) aI;refine⟨⟨w.heap.size+1,rfl,?_⟩,below_drewN (((Ay w.heap.size w).alloc (As _) _).alloc aI _) _⟩;rw[Hsv.o];have hl2:Fh (fun c=>w.heap.size<=c) ((w.alloc (.cells #[xv] 35)).alloc (.cells #[(91::kp:List UInt8),a8,.slice none 0 0,.slice none 0 0] 68)) (w.heap.size+1) (.mk (91::kp) [] [] []):=eG;exact hl2.after (below_drewN (Ay _ _) _)
 have hne:Ae 93 s=none:=by
  cases s with
  |nil=>rfl
  |cons c z=>exact Bl (fun e=>h93 ⟨z,by rw[e]⟩) z
 have HQ2:=@Aa (q=match A0 (Ak S 20 d k.part) 20 s with|some (vs,z)=>some (.mk 91 [] 0 vs,z)|none=>none) (by rw[HQ.o];unfold Qd6;rw[hne])
 have Hst:=Aa (show Nk (w.heap.size+2) (w.heap.size+1) ((w.alloc (.cells #[xv] 35)).alloc (.cells #[(91::kp:List UInt8),a8,.slice none 0 0,.slice none 0 0] 68)) (91::kp:List UInt8) a8 (.slice none 0 0) (.slice none 0 0) (.slice none 0 0) (.slice none 0 0) [] []from by
  have:=Nk.new (W:=w.alloc (.cells #[xv] 35)) (T:=68) (91::kp:List UInt8) a8;simpa using this)
 have hc0:s≠[]->∀h,((s[0]'h).toNat:Int)≠93:=by
  intro hn h e;cases s with
  |nil=>exact hn rfl
  | cons c z => exact h93 ⟨z, by have:c=93:=by apply UInt8.toNat_inj.1;simpa using(by exact_mod_cast e:c.toNat=93)
                                 rw[this]⟩
 clear h93 hne;obtain⟨W1,hW1⟩:∃W1,W1=(w.alloc (.cells #[xv] 35)).alloc (.cells #[(91::kp:List UInt8),a8,.slice none 0 0,.slice none 0 0] 68):=⟨_,rfl⟩
 have Hb1:=@Aa (Below w w W1) (by rw[hW1];exact((Ay w.heap.size w).alloc (As _) _).alloc aI _);have Hx1:=@Aa (W1.cell? (w,0)=some xv) (by rw[hW1];go_simp);rw[<-hW1]at Hst;go_enter func66,ntmps66;go_upto_region 2 with fail
 rw[<-hW1];clear hW1;go_cut [1,24]from 18 to 27 (fun s0 bt wx=>s0=.string ⟨s.toArray⟩/\bt=.bool false/\wx=W1)
 case first=>
  by_cases hs0:s=[]
  ·have he:s.isEmpty=true:=by rw[hs0];rfl
   clear hs0 hc0;go_wp2_with fail;go_meet
   exact⟨rfl,rfl,rfl⟩
  ·have he:s.isEmpty=false:=by cases s with|nil=>exact absurd rfl hs0|cons c z=>rfl
   have hs1:0<s.length:=by cases s with|nil=>exact absurd rfl hs0|cons c z=>simp
   have hs2:(((s[0]'hs1).toNat:Int) == 93)=false:=by simpa using hc0 hs0 hs1
   clear hs0 hc0;go_wp2_with fail;go_meet
   exact⟨rfl,rfl,rfl⟩
 case rest=>
  clear hc0;obtain⟨rfl,rfl,rfl⟩:=hcut;have L0:=@Aa (Qi4 w xv (91::kp:List UInt8) a8 S k (Ak S 20 d k.part) s wc (.slice none 0 0) [] [] s) ⟨Hb1.o,Hst.o,Hx1.o,rfl,rfl,by cases h:A0 (Ak S 20 d k.part) 20 s<;>simp[G0,h],As _⟩;clear Hb1 Hst Hx1;go_wp2_with fail;go_loopw [1] (fun s0 wr=>∃(A:Option Addr) (c:Nat) (xs:List (Nat × SV)) (vs:List Vl) (tt:List UInt8),s0=tt/\tt.length<=s.length/\Hid (Qi4 w xv (91::kp:List UInt8) a8 S k (Ak S 20 d k.part) s wr (.slice A xs.length c) xs vs tt)) (fun s0 _=>J6 s0)
  case atStart=>exact⟨none,0,[],[],s,rfl,As _,L0.o⟩
  case round=>
   obtain⟨A,c,xs,vs,tt,rfl,htl,HL⟩:=hrel;have c3:=HL.o.st.c3;have c0:=HL.o.box;have hlt:=HL.o.st.lt;by_cases h20:xs.length<20
   ·have t20:decide ((xs.length:Int)<20)=true:=aA aE;have HC:=@Aa (∀W,Below w0 w0 W->Calls prog 30 #[.agg #[xv],tt,kp,(d:Int)] W (At S k.part (Ak S 20 d k.part tt) W)) (fun W hW=>by have:=HH.o tt W hW aE;rw[Hkk.o]at this;exact this);have HWr:=@Aa (Below w0 w0 wr.drew) ((HW.o.trans (HL.o.bel.mono HW.o.size)).drew);have t20i:(xs.length:Int)<20:=aE;have hx20:xs.length<=19:=aE;have d1:(0:Int)<=(d:Int):=aE;have d2:(d:Int)<=1000:=aE;have hwd:IntKind.i64.wrap (d:Int)=(d:Int):=IntWalk.i64_in _ aE;clear t20 h20;go_wp2_with fail;refine Sy [35,36,37,38,39,40,41,34,42,43,44,12,13,14]
     (fun ix v W=>match ix with|0=>v=.agg #[xv]|1=>v=(tt:List UInt8)|2=>v=(91::kp:List UInt8)|3=>v=(kp:List UInt8)|4=>v=.int .i64 dd|5=>v=(d:Int)|_=>True)
     (fun L U W=>Fw (SrQ wr.drew S k.part (Ak S 20 d k.part tt)) wr.drew (L 6) (L 7) (L 8) (L 9) (L 10) (L 11) (L 12) (L 13) (U 6) (U 7) (U 8) (U 9) (U 10) (U 11) (U 12) (U 13) W) (⟨fun _=>rfl,fun h=>Bool.noConfusion h⟩) ?_ ?_
    ·repeat (first|exact Ba.nil|(refine Ba.cons ?_ ?_;rotate_left))
     all_goals
      rintro L U W hL hpre HR Hdep K hK;first|(simp[Region.binds]at hpre;done)|simp[Region.binds]at hpre|clear hpre
     ·have h6:L 6=false:=Ce Hdep.o 6 0 rfl hL;have hW:=HR.o.no h6;exact jc
     iterate 2
      ·exact fG
     ·go_simp;rw[if_pos aE];go_simp;exact hK kp _ _ rfl Ad HR.o aF
     ·exact fG
     ·exact gI
     ·have h7:L 7=false:=Ce Hdep.o 7 6 rfl hL;have h8:L 8=false:=Ce Hdep.o 8 7 rfl h7;have h9:L 9=false:=Ce Hdep.o 9 7 rfl h7;have h10:L 10=false:=Ce Hdep.o 10 7 rfl h7;have h11:L 11=false:=Ce Hdep.o 11 8 rfl h8;have h12:L 12=false:=Ce Hdep.o 12 9 rfl h9;have h13:L 13=false:=Ce Hdep.o 13 10 rfl h10;have hW:=HR.o.no hL;subst hW;go_simp;refine(HC.o _ HWr.o).mono ?_;rintro e w5 hp;obtain⟨vp,vr,vk,rfl,hq5⟩:=hp.q;go_simp;refine hK (.tuple #[vp,vr,vk]) _ _ Ad Ad ⟨fun h=>by simp at h,fun _=>⟨vp,vr,vk,hq5,rfl,?_,?_,?_,?_,?_,?_,?_⟩⟩ aF;all_goals (intro h;simp_all)
     ·have l6:=hpre;obtain⟨vp,vr,vk,q1,q2,q3,q4,q5,q6,q7,q8,q9⟩:=HR.o.yes l6;go_simp;exact hK (U 6) _ _ Ad Ad ⟨fun h=>absurd (l6.symm.trans h) aH,fun _=>⟨vp,vr,vk,q1,q2,fun _=>q2,q4,q5,q6,q7,q8,q9⟩⟩ dM
     ·have l7:=hpre;have l6:L 6=true:=Nj (Ce Hdep.o 7 6 rfl) l7;obtain⟨vp,vr,vk,q1,q2,q3,q4,q5,q6,q7,q8,q9⟩:=HR.o.yes l6;have u7:=q3 l7;simp only[u7];go_simp;exact hK vp _ _ Ad Ad ⟨fun h=>absurd (l6.symm.trans h) aH,fun _=>⟨vp,vr,vk,q1,q2,q3,fun _=>rfl,q5,q6,q7,q8,q9⟩⟩ ew
     ·have l7:=hpre;have l6:L 6=true:=Nj (Ce Hdep.o 7 6 rfl) l7;obtain⟨vp,vr,vk,q1,q2,q3,q4,q5,q6,q7,q8,q9⟩:=HR.o.yes l6;have u7:=q3 l7;simp only[u7];go_simp;exact hK vr _ _ Ad Ad ⟨fun h=>absurd (l6.symm.trans h) aH,fun _=>⟨vp,vr,vk,q1,q2,q3,q4,fun _=>rfl,q6,q7,q8,q9⟩⟩ ew
     ·have l7:=hpre;have l6:L 6=true:=Nj (Ce Hdep.o 7 6 rfl) l7;obtain⟨vp,vr,vk,q1,q2,q3,q4,q5,q6,q7,q8,q9⟩:=HR.o.yes l6;have u7:=q3 l7;simp only[u7];go_simp;exact hK vk _ _ Ad Ad ⟨fun h=>absurd (l6.symm.trans h) aH,fun _=>⟨vp,vr,vk,q1,q2,q3,q4,q5,fun _=>rfl,q7,q8,q9⟩⟩ ew
     ·have l8:=hpre.1;have l7:L 7=true:=Nj (Ce Hdep.o 8 7 rfl) l8;have l6:L 6=true:=Nj (Ce Hdep.o 7 6 rfl) l7;obtain⟨vp,vr,vk,q1,q2,q3,q4,q5,q6,q7,q8,q9⟩:=HR.o.yes l6;go_simp;exact hK (U 8) _ _ Ad Ad ⟨fun h=>absurd (l6.symm.trans h) aH,fun _=>⟨vp,vr,vk,q1,q2,q3,q4,q5,q6,fun _=>q4 l8,q8,q9⟩⟩ (by simp[Act.put,hpre,q2,q3 l7,q4,q5,q6,q7,q8,q9,l8])
     ·have l9:=hpre.1;have l7:L 7=true:=Nj (Ce Hdep.o 9 7 rfl) l9;have l6:L 6=true:=Nj (Ce Hdep.o 7 6 rfl) l7;obtain⟨vp,vr,vk,q1,q2,q3,q4,q5,q6,q7,q8,q9⟩:=HR.o.yes l6;go_simp;exact hK (U 9) _ _ Ad Ad ⟨fun h=>absurd (l6.symm.trans h) aH,fun _=>⟨vp,vr,vk,q1,q2,q3,q4,q5,q6,q7,fun _=>q5 l9,q9⟩⟩ (by simp[Act.put,hpre,q2,q3 l7,q4,q5,q6,q7,q8,q9,l9])
     ·have l10:=hpre.1;have l7:L 7=true:=Nj (Ce Hdep.o 10 7 rfl) l10;have l6:L 6=true:=Nj (Ce Hdep.o 7 6 rfl) l7;obtain⟨vp,vr,vk,q1,q2,q3,q4,q5,q6,q7,q8,q9⟩:=HR.o.yes l6;go_simp;exact hK (U 10) _ _ Ad Ad ⟨fun h=>absurd (l6.symm.trans h) aH,fun _=>⟨vp,vr,vk,q1,q2,q3,q4,q5,q6,q7,q8,fun _=>q6 l10⟩⟩ (by simp[Act.put,hpre,q2,q3 l7,q4,q5,q6,q7,q8,q9,l10])
    rintro L U W hL hφ hR;clear hφ;obtain⟨vp,vr,vk,hq5,_,_,_,_,_,q7,q8,q9⟩:=hR.yes (hL 6 aH);have u11:=q7 (hL 11 aH);have u12:=q8 (hL 12 aH);have u13:=q9 (hL 13 aH);simp only[u11,u12,u13];clear hR hL q7 q8 q9 u11 u12 u13;obtain⟨hb5,hm⟩:=hq5;have HB5:=@Aa (Below wr wr W) ((Ay _ _).drew.trans hb5);have HS5:=Aa (HL.o.st.after HB5.o);have Hw5:=Aa (HL.o.bel.trans (HB5.o.mono HL.o.bel.size));have Hx5:=@Aa (W.cell? (w,0)=some xv) ((HB5.o.cell (p:=⟨w.heap.size,0,none⟩) (by show w.heap.size<wr.heap.size;omega)).trans c0);have hz5:=hb5.size;have Hit:=@Aa (A0 (Ak S 20 d k.part) 20 s=G0 vs (A0 (Ak S 20 d k.part) (19 - vs.length+1) tt)) (by rw[HL.o.it];congr 2;have:=HL.o.len;omega);clear c3 c0 hb5;cases hk:Ak S 20 d k.part tt with
    |none=>
     rw[hk]at hm;obtain⟨⟨q0,rfl⟩,⟨r0,rfl⟩,rfl⟩:=hm;have HN:=@Aa (q=none) (by rw[HQ2.o,Hit.o];unfold A0;rw[hk];simp[G0]);clear hk;go_wp2_with fail;refine aC (v:=.tuple #[.pointer none,tt,.bool false]) (by simp[results,results66,go_sem]) rfl ?_;exact At.no HN.o rfl Hw5.o
    |some y=>
     obtain⟨v,r⟩:=y;rw[hk]at hm;obtain⟨⟨b,rfl,hsv⟩,rfl,rfl⟩:=hm;have hrl:r.length<=tt.length:=by rw[HG.o tt v r hk];simp
     have Hsv5:=Aa (show Fh (fun c1=>w.heap.size+2<=c1/\(Value.slice A xs.length c).ownBlock≠some c1/\(Value.slice none 0 0).ownBlock≠some c1) W b (Cd S k.part v)from by
      refine hsv.mono fun c1 hc _=>⟨ac HL.o.st.bs hc,fun e=>?_,by simp[Value.ownBlock]⟩
      have h1:=(HL.o.st.row.lt c1 e).2;have h2:wr.heap.size<=c1:=hc;omega)
     have HI:=@Aa (A0 (Ak S 20 d k.part) 20 s=G0 vs (match Ae 44 r with|some q=>(match A0 (Ak S 20 d k.part) (19 - vs.length) q with|some (vs,z)=>some (v::vs,z)|none=>none)|none=>match Ae 93 r with|some q=>some ([v],q)|none=>none)) (by rw[Hit.o];simp only[A0,hk];rfl);clear hk hsv;cases r with
     |nil=>
      have HN:=@Aa (q=none) (by rw[HQ2.o,HI.o];simp[Ae,G0]);go_wp2_with fail;refine aC (v:=.tuple #[.pointer none,tt,.bool false]) (by simp[results,results66,go_sem]) rfl ?_;exact At.no HN.o rfl Hw5.o
     |cons c9 z=>
      by_cases h44:c9=44
      ·have HSV:=Hsv5;clear Hsv5;subst h44;have h9:((((44:UInt8).toNat:Nat):Int) != 44)=false:=rfl;have h8:((((44:UInt8).toNat:Nat):Int) == 93)=false:=rfl;have s3:=HS5.o.c3;have s4:=HS5.o.lt;go_wp2_with (at_builtin;go_loud (refine Dg _ rfl _ _ 66 rfl (w.heap.size+2) 31 (.pointer none) 8 underlying66 Qf rfl W b rfl rfl (.slice A xs.length c) xs.length (Cy (xs.map (·.1))) rfl rfl HS5.o.row aW aE HS5.o.bs ?_;intro v6 w6 hown6 hg6 hwh6;obtain⟨A6,c6,e6,hS6,hb6⟩:=HS5.o.push (x:=(b,Cd S k.part v)) HSV.o hown6 hg6 hwh6;subst e6;have HS6:=Aa hS6;have HB6:=Aa hb6;have p3:=hS6.c3;have f3:=hS6.bk.live 3;have hz6:=hS6.lt;clear hS6 hb6 hown6 hg6 hwh6))
       have hw6:=HB6.o.mono (show w.heap.size<=w.heap.size+2 by omega);have Hbel:=Aa ((Hw5.o.trans hw6).setCell (p:=⟨w.heap.size+1,3,none⟩) (show w.heap.size<=w.heap.size+1 by omega) (.slice A6 (xs++[(b,Cd S k.part v)]).length c6));have Hst7:=Aa HS6.o.set3;have Hbx7:=Aa ((Ap w6 (w.heap.size+1) 3 (.slice A6 (xs++[(b,Cd S k.part v)]).length c6)).cell ((HB6.o.cell (p:=⟨w.heap.size,0,none⟩) (show w.heap.size<w.heap.size+2 by omega)).trans Hx5.o) aI);have Heq7:=@Aa ((xs++[(b,Cd S k.part v)]).map (·.2)=(vs++[v]).map (Cd S k.part)) (by simp[HL.o.eq]);have el:(xs++[(b,Cd S k.part v)]).length=xs.length+1:=aI;rw[el]at Hbel Hst7 Hbx7
       have Hit7:=Aa (show A0 (Ak S 20 d k.part) 20 s=G0 (vs++[v]) (A0 (Ak S 20 d k.part) (20 - (vs++[v]).length) z)from by
        rw[HI.o,show 20 - (vs++[v]).length=19 - vs.length by simp];simp only[Ae,if_true];cases A0 (Ak S 20 d k.part) (19 - vs.length) z<;>simp[G0])
       have Hlen7:=@Aa ((xs++[(b,Cd S k.part v)]).length=(vs++[v]).length) (by simp[HL.o.len]);go_roundw
       case rel=>exact⟨A6,c6,_,vs++[v],z,rfl,by simp at hrl;omega,⟨Hbel.o,by rw[el];exact Hst7.o,Hbx7.o,Hlen7.o,Heq7.o,Hit7.o,by simp at hrl;omega⟩⟩
       case measure=>simp[J6,ByteArray.size]at hrl ⊢;omega
      by_cases h93:c9=93
      ·have HSV:=Hsv5;clear Hsv5;subst h93;have h9:((((93:UInt8).toNat:Nat):Int) != 44)=true:=rfl;have h7:((((93:UInt8).toNat:Nat):Int) != 93)=false:=rfl;have h8:((((93:UInt8).toNat:Nat):Int) == 93)=true:=rfl;have s3:=HS5.o.c3;have s4:=HS5.o.lt;clear h44;go_wp2_with (at_builtin;go_loud (refine Dg _ rfl _ _ 66 rfl (w.heap.size+2) 31 (.pointer none) 8 underlying66 Qf rfl W b rfl rfl (.slice A xs.length c) xs.length (Cy (xs.map (·.1))) rfl rfl HS5.o.row aW aE HS5.o.bs ?_;intro v6 w6 hown6 hg6 hwh6;obtain⟨A6,c6,e6,hS6,hb6⟩:=HS5.o.push (x:=(b,Cd S k.part v)) HSV.o hown6 hg6 hwh6;subst e6;have HS6:=Aa hS6;have HB6:=Aa hb6;have p3:=hS6.c3;have f3:=hS6.bk.live 3;have hz6:=hS6.lt;clear hS6 hb6 hown6 hg6 hwh6))
       have hw6:=HB6.o.mono (show w.heap.size<=w.heap.size+2 by omega);have Hbel:=Aa ((Hw5.o.trans hw6).setCell (p:=⟨w.heap.size+1,3,none⟩) (show w.heap.size<=w.heap.size+1 by omega) (.slice A6 (xs++[(b,Cd S k.part v)]).length c6));have Hst7:=Aa HS6.o.set3;have Hbx7:=Aa ((Ap w6 (w.heap.size+1) 3 (.slice A6 (xs++[(b,Cd S k.part v)]).length c6)).cell ((HB6.o.cell (p:=⟨w.heap.size,0,none⟩) (show w.heap.size<w.heap.size+2 by omega)).trans Hx5.o) aI);have Heq7:=@Aa ((xs++[(b,Cd S k.part v)]).map (·.2)=(vs++[v]).map (Cd S k.part)) (by simp[HL.o.eq]);have el:(xs++[(b,Cd S k.part v)]).length=xs.length+1:=aI;rw[el]at Hbel Hst7 Hbx7;have HY:=@Aa (q=some (.mk 91 [] 0 (vs++[v]),z)) (by rw[HQ2.o,HI.o];simp[Ae,G0]);refine aC (v:=.tuple #[(w,1,0),.string ⟨z.toArray⟩,.bool true]) (by simp[results,results66,go_sem]) rfl ?_;rw[HY.o];refine⟨⟨w.heap.size+1,rfl,?_⟩,Hbel.o⟩;rw[Hsv.o,<-Heq7.o];have hd:=Hst7.o.done (kind:=91::kp) (text:=[]) aI aM;exact hd.mono fun c1 hc _=>by have:w.heap.size+1<=c1:=hc;show w.heap.size<=c1;omega
      have HN:=@Aa (q=none) (by rw[HQ2.o,HI.o];simp[Ae,G0,h44,h93]);have t44:((c9.toNat:Int) != 44)=true:=by have:=Am h44;simpa using this
      have t93:((c9.toNat:Int) != 93)=true:=by have:=Am h93;simpa using this
      clear h44 h93;go_wp2_with fail;refine aC (v:=.tuple #[.pointer none,tt,.bool false]) (by simp[results,results66,go_sem]) rfl ?_;exact At.no HN.o rfl Hw5.o
   ·have t20:decide ((xs.length:Int)<20)=false:=az aE;go_wp2_with fail;refine aC (v:=.tuple #[.pointer none,tt,.bool false]) (by simp[results,results66,go_sem]) rfl ?_;refine At.no ?_ rfl HL.o.bel;have h0:=HL.o.it;rw[show 20 - vs.length=0 by have:=HL.o.len;omega]at h0;rw[HQ2.o,h0];simp[A0,G0]
theorem SrQ.post{S:List Ty}{k:Kd}{o:Option (Vl × List UInt8)}{w w1 w':World}{vp vr vk:Value}(hb:Below w w w1)(h:SrQ w1 S k o w' vp vr vk):At S k o w (.returned (.tuple #[vp,vr,vk])) w':=by
 obtain⟨h1,h2⟩:=h;refine⟨?_,hb.trans (h1.mono hb.size)⟩;cases o with
 |none=>obtain⟨⟨q,rfl⟩,⟨r,rfl⟩,rfl⟩:=h2;exact⟨q,r,rfl⟩
 |some x=>obtain⟨⟨b,rfl,hs⟩,rfl,rfl⟩:=h2;exact⟨b,rfl,hs.mono fun c hc _=>ac hb.size hc⟩
theorem Qes(S:List Ty)(m d:Nat)(k:Kd)(hs0:k.signs=[])(hb:k.base=[110]\/k.base=[116]\/k.base=[102]):Ak S m (d+1) k []=none:=by
 unfold Ak;rw[hs0];rcases hb with hb|hb|hb<;>rw[hb]<;>rfl
theorem Qap(S:List Ty)(xv:Value)(hxv:xv.oneCell'=true)(k:Kd)(hs0:k.signs=[])(hb:k.base=[110]\/k.base=[116]\/k.base=[102])(d:Nat)(hd:d<=1000)(s:List UInt8)(w:World)(hs:s.length<=1000000):
  Calls prog 30 #[.agg #[xv],s,.string ⟨(Bi k).toArray⟩,.int .i64 ((d+1:Nat):Int)] w (At S k (Ak S 20 (d+1) k s) w):=by
 have HN:=Aa (Qes S 20 d k hs0 hb);have d1:¬((((d+1:Nat):Int))<1):=aE;have d2:(((d+1:Nat):Int))<=1001:=aE;by_cases hne:s=[]
 ·subst hne;generalize hq:Ak S 20 (d+1) k []=q at *
  have hk2:∃kb:List UInt8,kb.length<=20/\Bi k=kb:=⟨_,by
   have:Bi k=k.base:=by unfold Bi Ca;rw[hs0];rcases hb with hb|hb|hb<;>rw[hb]<;>rfl
   rw[this];rcases hb with hb|hb|hb<;>rw[hb]<;>decide,rfl⟩
  obtain⟨kb,hkl,hkb⟩:=hk2;rw[hkb];generalize (((d+1:Nat):Int))=dd at *;clear hq hb hs0 hkb;go_enter func30,ntmps30;go_wp2_with fail;refine aC (v:=.tuple #[.pointer none,a8,.bool false]) (by simp[results,results30,go_sem]) rfl ?_;exact jd
 have he:s.isEmpty=false:=cK;have HP:∀W,Calls prog 50 #[.agg #[xv],s,.string ⟨(Bi k).toArray⟩] W (At S k (Ak S 20 (d+1) k s) W):=by
  intro W;rcases hb with hb|hb|hb
  ·have hk:Bi k=[110]:=ca;rw[hk];exact Qab S xv hxv s k hs0 hb W aE _ ey
  ·have hk:Bi k=[116]:=ca;rw[hk];exact Z7 S xv hxv s k hs0 hb W aE hne _ ey
  have hk:Bi k=[102]:=ca;rw[hk];exact Qaj S xv hxv s k hs0 hb W aE _ ey
 have hk2:∃kb:UInt8,(kb=110\/kb=116\/kb=102)/\Bi k=[kb]:=by
  rcases hb with hb|hb|hb
  ·exact⟨110,.inl rfl,by unfold Bi Ca;rw[hs0,hb];rfl⟩
  ·exact⟨116,.inr (.inl rfl),by unfold Bi Ca;rw[hs0,hb];rfl⟩
  exact⟨102,.inr (.inr rfl),by unfold Bi Ca;rw[hs0,hb];rfl⟩
 obtain⟨kb,hkl,hkb⟩:=hk2;rw[hkb]at HP ⊢;generalize hq:Ak S 20 (d+1) k s=q at *;generalize (((d+1:Nat):Int))=dd at *;have HP:=Aa HP;clear hq hb hs0 hkb hne;rcases hkl with rfl|rfl|rfl<;>
 ·go_enter func30,ntmps30;go_wp2_with fail;refine(HP.o _).mono ?_;rintro e w5 hp;obtain⟨vp,vr,vk,rfl,hq5⟩:=hp.q;have Hq5:=Aa hq5;clear hq5 hp;go_wp2_with fail;refine aC (v:=.tuple #[vp,vr,vk]) (by simp[results,results30,go_sem]) rfl ?_;exact Hq5.o.post ((Ay _ _).alloc (As _) _)
theorem Ta(K:List UInt8->Option (Vl × List UInt8)):∀(m:Nat) (s:List UInt8) (vs:List Vl) (q:List UInt8),A0 K m s=some (vs,q)->vs.length<=m
 |0,s,vs,q,h=>by simp[A0]at h
 |m+1,s,vs,q,h=>by
  unfold A0 at h;cases hk:K s with
  |none=>rw[hk]at h;cases h
  |some y=>
   rw[hk]at h;simp only at h;cases h1:Ae 44 y.2 with
   |some z=>
    rw[h1]at h;simp only at h;cases h2:A0 K m z with
    |none=>rw[h2]at h;cases h
    |some x=>
     rw[h2]at h;injection h with h;injection h with h _;have:=Ta K m z x.1 x.2 h2;rw[<-h];simp;omega
   |none=>
    rw[h1]at h;simp only at h;cases h2:Ae 93 y.2 with
    |none=>rw[h2]at h;cases h
    |some z=>rw[h2]at h;injection h with h;injection h with h _;rw[<-h];simp
theorem Qdc(K:List UInt8->Option (Vl × List UInt8))(z:List UInt8):Kl K 20 (91::z)=Qd6 K z:=by
 unfold Kl Qd6;rw[Aq];simp only;cases Ae 93 z with
 |some q=>rfl
 |none=>
  simp only;cases h:A0 K 20 z with
  |none=>rfl
  |some x=>simp[Ta K 20 z x.1 x.2 h]
theorem Qd9(w0:World)(S:List Ty)(xv:Value)(hxv:xv.oneCell'=true)(k:Kd)(sg:List UInt8)(hsg:k.signs=91::sg)(hkl:(Bi k).length<=100)(d:Nat)(hd:d<=1000)(s:List UInt8)(w:World)(hw:Below w0 w0 w)(hs:s.length<=1000000)
  (H:SrC w0 S xv k.part d) (HG:∀s v r,Ak S 20 d k.part s=some (v,r)->s=Au v++r):
  Calls prog 30 #[.agg #[xv],.string ⟨s.toArray⟩,.string ⟨(Bi k).toArray⟩,.int .i64 ((d+1:Nat):Int)] w (At S k (Ak S 20 (d+1) k s) w):=by
 have hq:Ak S 20 (d+1) k s=Kl (Ak S 20 d k.part) 20 s:=by unfold Ak;rw[hsg];rfl
 have HN:=@Aa (Ae 91 s=none->Ak S 20 (d+1) k s=none) (fun h=>by rw[hq];unfold Kl;rw[h])
 have HC:=Aa (show ∀z,s=91::z->∀W,Below w0 w0 W->Calls prog 66 #[.agg #[xv],.string ⟨z.toArray⟩,.string ⟨(Bi k).toArray⟩,.int .i64 ((d+1:Nat):Int)] W (At S k (Ak S 20 (d+1) k s) W)from by
  rintro z rfl W hW;exact Qd1 w0 S xv hxv k sg hsg hkl d hd z W hW ff H HG _ (by rw[hq,Qdc]))
 have hkp:Bi k=91::Bi k.part:=by unfold Bi Kd.part;rw[hsg];rfl
 have d1:¬((((d+1:Nat):Int))<1):=aE;have d2:(((d+1:Nat):Int))<=1001:=aE;have HW:=@Aa (Below w0 w0 (w.alloc (.cells #[xv] 35)).drew) ((hw.alloc hw.size _).drew);rw[hkp]at HC hkl ⊢;generalize Bi k.part=kp at *;generalize Ak S 20 (d+1) k s=q at *;generalize (((d+1:Nat):Int))=dd at *;have hkl2:kp.length<=100:=by simp at hkl;omega
 clear H HG hq hkp hsg hkl hw hd;cases s with
 |nil=>
  have HN:=Aa (HN.o rfl);go_enter func30,ntmps30;go_wp2_with fail;refine aC (v:=.tuple #[.pointer none,a8,.bool false]) (by simp[results,results30,go_sem]) rfl ?_;exact jd
 |cons c z=>
  by_cases hc:c=91
  ·subst hc;have HC:=Aa (fun W=>HC.o z rfl W);go_enter func30,ntmps30;go_wp2_with fail;refine Sy [29,30,31,32,33,34,35,36,37,8,9,10]
    (fun ix v W=>match ix with|0=>v=.agg #[xv]|1=>v=.string ⟨(91::z:List UInt8).toArray⟩|2=>v=.string ⟨(z:List UInt8).toArray⟩|3=>v=(91::kp:List UInt8)|4=>v=.int .i64 dd|_=>True)
    (fun L U W=>Fw (SrQ (w.alloc (.cells #[xv] 35)).drew S k q) ((w.alloc (.cells #[xv] 35)).drew) (L 5) (L 5) (L 6) (L 7) (L 8) (L 9) (L 10) (L 11) (U 5) (U 5) (U 6) (U 7) (U 8) (U 9) (U 10) (U 11) W) (⟨fun _=>rfl,fun h=>Bool.noConfusion h⟩) ?_ ?_
   ·repeat (first|exact Ba.nil|(refine Ba.cons ?_ ?_;rotate_left))
    all_goals
     rintro L U W hL hpre HR Hdep K hK;first|(simp[Region.binds]at hpre;done)|simp[Region.binds]at hpre|clear hpre
    ·have h5:L 5=false:=Ce Hdep.o 5 0 rfl hL;have hW:=HR.o.no h5;exact jc
    ·exact fG
    ·go_simp;rw[if_pos aE];go_simp;exact hK (.string ⟨z.toArray⟩) _ _ rfl Ad HR.o aF
    iterate 2
     ·exact fG
    ·have h6:L 6=false:=Ce Hdep.o 6 5 rfl hL;have h7:L 7=false:=Ce Hdep.o 7 5 rfl hL;have h8:L 8=false:=Ce Hdep.o 8 5 rfl hL;have h9:L 9=false:=Ce Hdep.o 9 6 rfl h6;have h10:L 10=false:=Ce Hdep.o 10 7 rfl h7;have h11:L 11=false:=Ce Hdep.o 11 8 rfl h8;have hW:=HR.o.no hL;subst hW;go_simp;refine(HC.o _ HW.o).mono ?_;rintro e w5 hp;obtain⟨vp,vr,vk,rfl,hq5⟩:=hp.q;go_simp;refine hK (.tuple #[vp,vr,vk]) _ _ Ad Ad ⟨fun h=>by simp at h,fun _=>⟨vp,vr,vk,hq5,rfl,fun _=>rfl,?_,?_,?_,?_,?_,?_⟩⟩ aF;all_goals (intro h;simp_all)
    ·have l5:=hpre;obtain⟨vp,vr,vk,q1,q2,q3,q4,q5,q6,q7,q8,q9⟩:=HR.o.yes l5;simp only[q2];go_simp;exact hK vp _ _ Ad Ad ⟨fun h=>absurd (l5.symm.trans h) aH,fun _=>⟨vp,vr,vk,q1,q2,q3,fun _=>rfl,q5,q6,q7,q8,q9⟩⟩ dM
    ·have l5:=hpre;obtain⟨vp,vr,vk,q1,q2,q3,q4,q5,q6,q7,q8,q9⟩:=HR.o.yes l5;simp only[q2];go_simp;exact hK vr _ _ Ad Ad ⟨fun h=>absurd (l5.symm.trans h) aH,fun _=>⟨vp,vr,vk,q1,q2,q3,q4,fun _=>rfl,q6,q7,q8,q9⟩⟩ dM
    ·have l5:=hpre;obtain⟨vp,vr,vk,q1,q2,q3,q4,q5,q6,q7,q8,q9⟩:=HR.o.yes l5;simp only[q2];go_simp;exact hK vk _ _ Ad Ad ⟨fun h=>absurd (l5.symm.trans h) aH,fun _=>⟨vp,vr,vk,q1,q2,q3,q4,q5,fun _=>rfl,q7,q8,q9⟩⟩ dM
    ·have l6:=hpre.1;have l5:L 5=true:=Nj (Ce Hdep.o 6 5 rfl) l6;obtain⟨vp,vr,vk,q1,q2,q3,q4,q5,q6,q7,q8,q9⟩:=HR.o.yes l5;go_simp;exact hK (U 6) _ _ Ad Ad ⟨fun h=>absurd (l5.symm.trans h) aH,fun _=>⟨vp,vr,vk,q1,q2,q3,q4,q5,q6,fun _=>q4 l6,q8,q9⟩⟩ (by simp[Act.put,hpre,q2,q4,q5,q6,q7,q8,q9,l6])
    ·have l7:=hpre.1;have l5:L 5=true:=Nj (Ce Hdep.o 7 5 rfl) l7;obtain⟨vp,vr,vk,q1,q2,q3,q4,q5,q6,q7,q8,q9⟩:=HR.o.yes l5;go_simp;exact hK (U 7) _ _ Ad Ad ⟨fun h=>absurd (l5.symm.trans h) aH,fun _=>⟨vp,vr,vk,q1,q2,q3,q4,q5,q6,q7,fun _=>q5 l7,q9⟩⟩ (by simp[Act.put,hpre,q2,q4,q5,q6,q7,q8,q9,l7])
    ·have l8:=hpre.1;have l5:L 5=true:=Nj (Ce Hdep.o 8 5 rfl) l8;obtain⟨vp,vr,vk,q1,q2,q3,q4,q5,q6,q7,q8,q9⟩:=HR.o.yes l5;go_simp;exact hK (U 8) _ _ Ad Ad ⟨fun h=>absurd (l5.symm.trans h) aH,fun _=>⟨vp,vr,vk,q1,q2,q3,q4,q5,q6,q7,q8,fun _=>q6 l8⟩⟩ (by simp[Act.put,hpre,q2,q4,q5,q6,q7,q8,q9,l8])
   rintro L U W hL hφ hR;clear hφ;obtain⟨vp,vr,vk,hq5,_,_,_,_,_,q7,q8,q9⟩:=hR.yes (hL 5 aH);have u11:=q7 (hL 9 aH);have u12:=q8 (hL 10 aH);have u13:=q9 (hL 11 aH);simp only[u11,u12,u13];have Hq5:=Aa hq5;clear hR hL q7 q8 q9 u11 u12 u13 hq5;go_wp2_with fail;refine aC (v:=.tuple #[vp,vr,vk]) (by simp[results,results30,go_sem]) rfl ?_;exact Hq5.o.post ((Ay _ _).alloc (As _) _).drew
  have HN:=Aa (HN.o (Bl hc z));have hcn:((c.toNat:Int) != 91)=true:=by have:=Am hc;simpa using this
  clear hc;go_enter func30,ntmps30;go_wp2_with fail;refine aC (v:=.tuple #[.pointer none,.string ⟨(c::z:List UInt8).toArray⟩,.bool false]) (by simp[results,results30,go_sem]) rfl ?_;exact jd
theorem Qdt(w0:World)(S:List Ty)(xv:Value)(hxv:xv.oneCell'=true)(k:Kd)(sg:List UInt8)(hsg:k.signs=63::sg)(hkl:(Bi k).length<=100)(d:Nat)(hd:d<=1000)(s:List UInt8)(w:World)(hw:Below w0.heap.size w0 w)(hs:s.length<=1000000)
  (H:SrC w0 S xv k.part d):
  Calls prog 30 #[.agg #[xv],.string ⟨s.toArray⟩,.string ⟨(Bi k).toArray⟩,.int .i64 ((d+1:Nat):Int)] w (At S k (Ak S 20 (d+1) k s) w):=by
 have hq:Ak S 20 (d+1) k s=Vu (Ak S 20 d k.part) s:=by unfold Ak;rw[hsg];rfl
 have HN:=Aa (show Ae 45 s=none->Ae 43 s=none->Ak S 20 (d+1) k s=none from fun h h2=>by rw[hq];unfold Vu;rw[h];simp only;rw[h2])
 have HM:=Aa (show ∀z,s=45::z->Ak S 20 (d+1) k s=some (.mk 63 [] 0 [],z)from by rintro z rfl;rw[hq];rfl)
 have HP:=Aa (show ∀z,s=43::z->Ak S 20 (d+1) k s=match Ak S 20 d k.part z with|some (v,q)=>some (.mk 63 [] 0 [v],q)|none=>none from by rintro z rfl;rw[hq];rfl)
 have hkp:Bi k=63::Bi k.part:=by unfold Bi Kd.part;rw[hsg];rfl
 have Hsv:=Aa (fun ks=>hkp ▸ My S k ks)
 have HC:=Aa (show ∀z,z.length<=1000000->∀W,Below w0.heap.size w0 W->Calls prog 30 #[.agg #[xv],.string ⟨z.toArray⟩,.string ⟨(Bi k.part).toArray⟩,.int .i64 (d:Int)] W (At S k.part (Ak S 20 d k.part z) W)from fun z hz W hW=>H z W hW hz)
 have d1:¬((((d+1:Nat):Int))<1):=by omega
 have d2:(((d+1:Nat):Int))<=1001:=by omega
 have d3:(((d+1:Nat):Int)) - 1=(d:Int):=by omega
 have d4:(0:Int)<=(d:Int):=by omega
 have d5:(d:Int)<=1000:=by omega
 have hwd:IntKind.i64.wrap (d:Int)=(d:Int):=IntWalk.i64_in _ (by omega)
 have HW:=Aa (show Below w0.heap.size w0 (w.alloc (.cells #[xv] 35)).drew from(hw.alloc hw.size _).drew)
 rw[hkp]at hkl ⊢
 generalize Bi k.part=kp at *
 generalize Ak S 20 (d+1) k s=q at *
 generalize (((d+1:Nat):Int))=dd at *
 have hkl2:kp.length<=100:=by simp at hkl;omega
 clear H hq hkp hsg hkl hw hd
 cases s with
 |nil=>
  have HN:=Aa (HN.o rfl rfl)
  go_enter func30,ntmps30
  go_wp2_with fail
  refine bodyPost_ret (v:=.tuple #[.pointer none,.string ⟨#[]⟩,.bool false]) (by simp[results,results30,go_sem]) rfl ?_
  exact At.no HN.o rfl ((Ay _ _).alloc (As _) _)
 |cons c z=>
  by_cases hc:c=45
  ·subst hc
   have HM:=Aa (HM.o z rfl)
   go_enter func30,ntmps30
   go_wp2_with fail
   refine Sy [43,44,45,46,47,8,9,10]
    (fun ix v W=>match ix with|0=>v=.string ⟨(63::kp:List UInt8).toArray⟩|1=>v=.agg #[.string ⟨(63::kp:List UInt8).toArray⟩,.string ⟨#[]⟩,.slice none 0 0,.slice none 0 0]|2=>∃c,v=.pointer (some ⟨c,0,none⟩)|3=>v=.string ⟨(45::z:List UInt8).toArray⟩|4=>v=.string ⟨(z:List UInt8).toArray⟩|5=>∃c,v=.pointer (some ⟨c,0,none⟩)|6=>v=.string ⟨(z:List UInt8).toArray⟩|7=>v=.bool true|_=>True)
    (fun L U W=>(L 2=false->Below w.heap.size w W)/\(L 2=true->∃W7,W=W7.alloc (.cells #[.string ⟨(63::kp:List UInt8).toArray⟩,.string ⟨#[]⟩,.slice none 0 0,.slice none 0 0] 68)/\Below w.heap.size w W7/\U 2=.pointer (some ⟨W7.heap.size,0,none⟩))/\(L 5=true->U 5=U 2)) (⟨fun _=>((Ay w.heap.size w).alloc (As _) _).drew,fun h=>Bool.noConfusion h,fun h=>Bool.noConfusion h⟩) ?_ ?_
   ·repeat (first|exact Ba.nil|(refine Ba.cons ?_ ?_;rotate_left))
    all_goals
     rintro L U W hL hpre HR Hdep K hK
     first|(simp[Region.binds]at hpre;done)|simp[Region.binds]at hpre|clear hpre
    iterate 2
     ·go_simp
      first|exact hK _ _ _ rfl Ad HR.o rfl|exact kF hK HR.o|exact hK undef _ _ Ad Ad HR.o (by simp[Act.put,hpre])|exact hK _ _ _ Ad Ad HR.o rfl|exact kF hK HR.o
    ·obtain⟨R1,R2,R3⟩:=HR.o
     have hB:=R1 hL
     have h10:L 5=false:=Ce Hdep.o 5 2 rfl hL
     go_simp
     exact hK (.pointer (some ⟨W.heap.size,0,none⟩)) _ _ ⟨_,rfl⟩ Ad ⟨fun h=>by simp at h,fun _=>⟨W,rfl,hB,rfl⟩,fun h=>absurd (h10.symm.trans (by simpa using h)) (by decide)⟩ (by simp[Act.put,hpre])
    ·go_simp
     first|exact hK _ _ _ rfl Ad HR.o rfl|exact kF hK HR.o|exact hK undef _ _ Ad Ad HR.o (by simp[Act.put,hpre])|exact hK _ _ _ Ad Ad HR.o rfl|exact kF hK HR.o
    ·go_simp
     rw[if_pos (by omega)]
     go_simp
     exact hK (.string ⟨z.toArray⟩) _ _ rfl Ad HR.o (by simp[Act.put,hpre])
    ·obtain⟨R1,R2,R3⟩:=HR.o
     obtain⟨c,u5⟩:=hpre.1.2
     clear R1 R2 R3
     go_simp
     obtain⟨R1,R2,R3⟩:=HR.o
     exact hK (.pointer (some ⟨c,0,none⟩)) _ _ ⟨c,rfl⟩ Ad ⟨R1,R2,fun _=>u5.symm⟩ (by simp[Act.put,hpre,u5])
    iterate 2
     ·go_simp
      first|exact hK _ _ _ rfl Ad HR.o rfl|exact kF hK HR.o|exact hK undef _ _ Ad Ad HR.o (by simp[Act.put,hpre])|exact hK _ _ _ Ad Ad HR.o rfl|exact kF hK HR.o
   rintro L U W hL hφ hR
   have hφ10:U 5=U 2:=hR.2.2 (hL 5 (by decide))
   have e11:U 6=.string ⟨(z:List UInt8).toArray⟩:=hφ 6 (by decide)
   have e12:U 7=.bool true:=hφ 7 (by decide)
   clear hφ
   obtain⟨_,h2,h3⟩:=hR
   obtain⟨W7,rfl,hb7,u5⟩:=h2 (hL 2 (by decide))
   rw[u5]at hφ10
   clear hL h2
   simp only[hφ10,e11,e12]
   clear hφ10
   go_wp2_with fail
   refine bodyPost_ret (v:=.tuple #[.pointer (some ⟨W7.heap.size,0,none⟩),.string ⟨z.toArray⟩,.bool true]) (by simp[results,results30,go_sem]) rfl ?_
   have hz7:=hb7.size
   have Hb7:=(hb7.alloc (by omega) (.cells #[.string ⟨(63::kp:List UInt8).toArray⟩,.string ⟨#[]⟩,.slice none 0 0,.slice none 0 0] 68))
   rw[HM.o]
   refine⟨⟨W7.heap.size,rfl,?_⟩,Hb7⟩
   rw[Hsv.o]
   exact Fh.leaf (P:=fun c=>w.heap.size<=c) (kind:=63::kp) (text:=[]) (by omega)
  by_cases hc2:c=43
  ·subst hc2
   have HP:=Aa (HP.o z rfl)
   have HC:=Aa (fun W hW=>HC.o z (by simp at hs;omega) W hW)
   clear hc
   go_enter func30,ntmps30
   go_wp2_with fail
   refine Sy [53,54,55,56,57,58,59,60,52,61,62,63,11,12,13]
    (fun ix v W=>match ix with|0=>v=.agg #[xv]|1=>v=.string ⟨(43::z:List UInt8).toArray⟩|2=>v=.string ⟨(z:List UInt8).toArray⟩|3=>v=.string ⟨(63::kp:List UInt8).toArray⟩|4=>v=.string ⟨(kp:List UInt8).toArray⟩|5=>v=.int .i64 dd|6=>v=.int .i64 (d:Int)|_=>True)
    (fun L U W=>Fw (SrQ (w.alloc (.cells #[xv] 35)).drew S k.part (Ak S 20 d k.part z)) ((w.alloc (.cells #[xv] 35)).drew) (L 7) (L 8) (L 9) (L 10) (L 11) (L 12) (L 13) (L 14) (U 7) (U 8) (U 9) (U 10) (U 11) (U 12) (U 13) (U 14) W) (⟨fun _=>rfl,fun h=>Bool.noConfusion h⟩) ?_ ?_
   ·repeat (first|exact Ba.nil|(refine Ba.cons ?_ ?_;rotate_left))
    all_goals
     rintro L U W hL hpre HR Hdep K hK
     first|(simp[Region.binds]at hpre;done)|simp[Region.binds]at hpre|clear hpre
    ·have h7:L 7=false:=Ce Hdep.o 7 0 rfl hL
     have hW:=HR.o.no h7
     subst hW
     go_simp
     first|exact hK _ _ _ rfl Ad HR.o rfl|exact kF hK HR.o
    ·go_simp
     first|exact hK _ _ _ rfl Ad HR.o rfl|exact kF hK HR.o|exact hK undef _ _ Ad Ad HR.o (by simp[Act.put,hpre])|exact hK _ _ _ Ad Ad HR.o rfl|exact kF hK HR.o
    ·go_simp
     rw[if_pos (by omega)]
     go_simp
     exact hK (.string ⟨z.toArray⟩) _ _ rfl Ad HR.o (by simp[Act.put,hpre])
    ·go_simp
     first|exact hK _ _ _ rfl Ad HR.o rfl|exact kF hK HR.o|exact hK undef _ _ Ad Ad HR.o (by simp[Act.put,hpre])|exact hK _ _ _ Ad Ad HR.o rfl|exact kF hK HR.o
    ·go_simp
     rw[if_pos (by omega)]
     go_simp
     exact hK (.string ⟨kp.toArray⟩) _ _ rfl Ad HR.o (by simp[Act.put,hpre])
    ·go_simp
     first|exact hK _ _ _ rfl Ad HR.o rfl|exact kF hK HR.o|exact hK undef _ _ Ad Ad HR.o (by simp[Act.put,hpre])|exact hK _ _ _ Ad Ad HR.o rfl|exact kF hK HR.o
    ·go_simp
     exact hK (.int .i64 (d:Int)) _ _ rfl Ad HR.o (by simp[Act.put,hpre,hwd])
    ·have h8:L 8=false:=Ce Hdep.o 8 7 rfl hL
     have h9:L 9=false:=Ce Hdep.o 9 8 rfl h8
     have h10:L 10=false:=Ce Hdep.o 10 8 rfl h8
     have h11:L 11=false:=Ce Hdep.o 11 8 rfl h8
     have h12:L 12=false:=Ce Hdep.o 12 9 rfl h9
     have h13:L 13=false:=Ce Hdep.o 13 10 rfl h10
     have h14:L 14=false:=Ce Hdep.o 14 11 rfl h11
     have hW:=HR.o.no hL
     subst hW
     go_simp
     refine(HC.o _ HW.o).mono ?_
     rintro e w5 hp
     obtain⟨vp,vr,vk,rfl,hq5⟩:=hp.q
     go_simp
     refine hK (.tuple #[vp,vr,vk]) _ _ Ad Ad ⟨fun h=>by simp at h,fun _=>⟨vp,vr,vk,hq5,rfl,?_,?_,?_,?_,?_,?_,?_⟩⟩ (by simp[Act.put,hpre])
     all_goals (intro h;simp_all)
    ·have l7:=hpre
     obtain⟨vp,vr,vk,q1,q2,q3,q4,q5,q6,q7,q8,q9⟩:=HR.o.yes l7
     go_simp
     exact hK (U 7) _ _ Ad Ad ⟨fun h=>absurd (l7.symm.trans h) (by decide),fun _=>⟨vp,vr,vk,q1,q2,fun _=>q2,q4,q5,q6,q7,q8,q9⟩⟩ (by simp[Act.put,hpre,q2])
    ·have l8:=hpre
     have l7:L 7=true:=Nj (Ce Hdep.o 8 7 rfl) l8
     obtain⟨vp,vr,vk,q1,q2,q3,q4,q5,q6,q7,q8,q9⟩:=HR.o.yes l7
     have u7:=q3 l8
     simp only[u7]
     go_simp
     exact hK vp _ _ Ad Ad ⟨fun h=>absurd (l7.symm.trans h) (by decide),fun _=>⟨vp,vr,vk,q1,q2,q3,fun _=>rfl,q5,q6,q7,q8,q9⟩⟩ (by simp[Act.put,hpre,u7,q2])
    ·have l8:=hpre
     have l7:L 7=true:=Nj (Ce Hdep.o 8 7 rfl) l8
     obtain⟨vp,vr,vk,q1,q2,q3,q4,q5,q6,q7,q8,q9⟩:=HR.o.yes l7
     have u7:=q3 l8
     simp only[u7]
     go_simp
     exact hK vr _ _ Ad Ad ⟨fun h=>absurd (l7.symm.trans h) (by decide),fun _=>⟨vp,vr,vk,q1,q2,q3,q4,fun _=>rfl,q6,q7,q8,q9⟩⟩ (by simp[Act.put,hpre,u7,q2])
    ·have l8:=hpre
     have l7:L 7=true:=Nj (Ce Hdep.o 8 7 rfl) l8
     obtain⟨vp,vr,vk,q1,q2,q3,q4,q5,q6,q7,q8,q9⟩:=HR.o.yes l7
     have u7:=q3 l8
     simp only[u7]
     go_simp
     exact hK vk _ _ Ad Ad ⟨fun h=>absurd (l7.symm.trans h) (by decide),fun _=>⟨vp,vr,vk,q1,q2,q3,q4,q5,fun _=>rfl,q7,q8,q9⟩⟩ (by simp[Act.put,hpre,u7,q2])
    ·have l9:=hpre.1
     have l8:L 8=true:=Nj (Ce Hdep.o 9 8 rfl) l9
     have l7:L 7=true:=Nj (Ce Hdep.o 8 7 rfl) l8
     obtain⟨vp,vr,vk,q1,q2,q3,q4,q5,q6,q7,q8,q9⟩:=HR.o.yes l7
     go_simp
     exact hK (U 9) _ _ Ad Ad ⟨fun h=>absurd (l7.symm.trans h) (by decide),fun _=>⟨vp,vr,vk,q1,q2,q3,q4,q5,q6,fun _=>q4 l9,q8,q9⟩⟩ (by simp[Act.put,hpre,q2,q3 l8,q4,q5,q6,q7,q8,q9,l9])
    ·have l10:=hpre.1
     have l8:L 8=true:=Nj (Ce Hdep.o 10 8 rfl) l10
     have l7:L 7=true:=Nj (Ce Hdep.o 8 7 rfl) l8
     obtain⟨vp,vr,vk,q1,q2,q3,q4,q5,q6,q7,q8,q9⟩:=HR.o.yes l7
     go_simp
     exact hK (U 10) _ _ Ad Ad ⟨fun h=>absurd (l7.symm.trans h) (by decide),fun _=>⟨vp,vr,vk,q1,q2,q3,q4,q5,q6,q7,fun _=>q5 l10,q9⟩⟩ (by simp[Act.put,hpre,q2,q3 l8,q4,q5,q6,q7,q8,q9,l10])
    ·have l11:=hpre.1
     have l8:L 8=true:=Nj (Ce Hdep.o 11 8 rfl) l11
     have l7:L 7=true:=Nj (Ce Hdep.o 8 7 rfl) l8
     obtain⟨vp,vr,vk,q1,q2,q3,q4,q5,q6,q7,q8,q9⟩:=HR.o.yes l7
     go_simp
     exact hK (U 11) _ _ Ad Ad ⟨fun h=>absurd (l7.symm.trans h) (by decide),fun _=>⟨vp,vr,vk,q1,q2,q3,q4,q5,q6,q7,q8,fun _=>q6 l11⟩⟩ (by simp[Act.put,hpre,q2,q3 l8,q4,q5,q6,q7,q8,q9,l11])
   rintro L U W hL hφ hR
   clear hφ
   obtain⟨vp,vr,vk,hq5,_,_,_,_,_,q7,q8,q9⟩:=hR.yes (hL 7 (by decide))
   have u11:=q7 (hL 12 (by decide))
   have u12:=q8 (hL 13 (by decide))
   have u13:=q9 (hL 14 (by decide))
   simp only[u11,u12,u13]
   clear hR hL q7 q8 q9 u11 u12 u13
   obtain⟨hb5,hm⟩:=hq5
   have Hb5:=Aa (show Below w.heap.size w W from((Ay w.heap.size w).alloc (As _) (.cells #[xv] 35)).drew.trans (hb5.mono (by simp)))
   have hz5:=Hb5.o.size
   generalize Ak S 20 d k.part z=o at *
   have HP:=HP
   cases o with
   |none=>
    have HN:=Aa (HP.o)
    obtain⟨⟨q0,rfl⟩,⟨r0,rfl⟩,rfl⟩:=hm
    clear hb5 HP
    go_wp2_with fail
    refine bodyPost_ret (v:=.tuple #[.pointer (some ⟨W.heap.size+1,0,none⟩),.string r0,.bool false]) (by simp[results,results30,go_sem]) rfl ?_
    exact At.no HN.o rfl ((Hb5.o.alloc Hb5.o.size _).alloc (by simp;omega) _)
   |some y=>
    obtain⟨v,r⟩:=y
    obtain⟨⟨b,rfl,hsv⟩,rfl,rfl⟩:=hm
    have HY:=Aa (show q=some (.mk 63 [] 0 [v],r)from HP.o)
    have Hsv5:=Aa (hsv.mono (Q:=fun c=>w.heap.size<=c) fun c1 hc _=>Nat.le_trans (by simp) hc)
    clear hb5 HP hsv
    go_wp2_with fail
    refine bodyPost_ret (v:=.tuple #[.pointer (some ⟨W.heap.size+1,0,none⟩),.string ⟨r.toArray⟩,.bool true]) (by simp[results,results30,go_sem]) rfl ?_
    rw[HY.o]
    refine⟨⟨W.heap.size+1,rfl,?_⟩,((Hb5.o.alloc Hb5.o.size _).alloc (by simp;omega) _)⟩
    rw[Hsv.o]
    refine .mk (63::kp) [] [] none (some ⟨W.heap.size,0,none⟩) 0 1 [(b,Cd S k.part v)] rfl (by simp) (by show w.heap.size<=W.heap.size+1;omega) (by go_simp) (by go_simp) (by go_simp) (by go_simp) ⟨rfl,Nat.zero_le _,fun h=>absurd h (by simp)⟩ ⟨rfl,by simp[maxLen],fun _=>⟨W.heap.size,0,rfl,by simp;omega,fun j u hu=>?_⟩⟩ (by simp) (by simp) (fun _ _ h=>absurd h (by simp)) (fun g o _ e=>?_) (fun x hx=>?_)
    ·match j,hu with
     |0,hu=>
      simp[Cy]at hu
      subst hu
      go_simp
     |j+1,hu=>simp[Cy]at hu
    ·injection e with e;injection e with e;subst e;exact hz5
    simp at hx
    subst hx
    exact Hsv5.o.after (((Ay _ _).alloc (As _) _).alloc (by simp) _)
  have HN:=Aa (HN.o (Bl hc z) (Bl hc2 z))
  have hcn:((c.toNat:Int) == 45)=false:=by have:=Am hc;simpa using this
  have hcn2:((c.toNat:Int) != 43)=true:=by have:=Am hc2;simpa using this
  clear hc hc2
  go_enter func30,ntmps30
  go_wp2_with fail
  refine bodyPost_ret (v:=.tuple #[.pointer none,.string ⟨(c::z:List UInt8).toArray⟩,.bool false]) (by simp[results,results30,go_sem]) rfl ?_
  exact At.no HN.o rfl ((Ay _ _).alloc (As _) _)
theorem Vp(S:List Ty)(m d:Nat)(k:Kd)(hs0:k.signs=[])(hb:k.base=[64]):Ak S m (d+1) k []=none:=by
 unfold Ak;rw[hs0,hb];simp only[];rw[if_neg aH,if_neg aH,if_neg aH];cases B0 S k.name with
 |none=>rfl
 |some t=>simp[Ha,Ae]
theorem Qeh(w0:World)(S:List Ty)(xv:Value)(hxv:xv.oneCell'=true)(k:Kd)(hs0:k.signs=[])(hb:k.base=[64])(hkl:k.name.length<=100)(d:Nat)(hd:d<=1000)(s:List UInt8)(w:World)(hw:Below w0 w0 w)(hs:s.length<=1000000)
  (H:∀W,Below w0 w0 W->s≠[]->Calls prog 67 #[.agg #[xv],s,.string ⟨(Bi k).toArray⟩,.int .i64 ((d+1:Nat):Int)] W (At S k (Ak S 20 (d+1) k s) W)):
  Calls prog 30 #[.agg #[xv],s,.string ⟨(Bi k).toArray⟩,.int .i64 ((d+1:Nat):Int)] w (At S k (Ak S 20 (d+1) k s) w):=by
 have HN:=Aa (Vp S 20 d k hs0 hb);have hkb:Bi k=64::(k.name++[59]):=ca;have d1:¬((((d+1:Nat):Int))<1):=aE;have d2:(((d+1:Nat):Int))<=1001:=aE;have HW:=@Aa (Below w0 w0 (w.alloc (.cells #[xv] 35))) (hw.alloc hw.size _);have HH:=Aa H;rw[hkb]at HH ⊢;generalize hnm:k.name++[59]=kn at *;have hkn:kn.length<=101:=by rw[<-hnm];simp;omega
 by_cases hne:s=[]
 ·subst hne;generalize Ak S 20 (d+1) k []=q at *;generalize (((d+1:Nat):Int))=dd at *;clear H hb hs0 hkb hnm HH hw;go_enter func30,ntmps30;go_wp2_with fail;refine aC (v:=.tuple #[.pointer none,a8,.bool false]) (by simp[results,results30,go_sem]) rfl ?_;exact jd
 have he:s.isEmpty=false:=cK;have HP:=Aa (fun W hW=>HH.o W hW hne);generalize Ak S 20 (d+1) k s=q at *;generalize (((d+1:Nat):Int))=dd at *;clear H hb hs0 hkb hnm hne HH hw;go_enter func30,ntmps30;go_wp2_with fail;refine(HP.o _ HW.o).mono ?_;rintro e w5 hp;obtain⟨vp,vr,vk,rfl,hq5⟩:=hp.q;have Hq5:=Aa hq5;clear hq5 hp;go_wp2_with fail;refine aC (v:=.tuple #[vp,vr,vk]) (by simp[results,results30,go_sem]) rfl ?_;exact Hq5.o.post ((Ay _ _).alloc (As _) _)
theorem Qb3(S:List Ty)(xv:Value)(hxv:xv.oneCell'=true)(k:Kd)(hkl:(Bi k).length<=100)(s:List UInt8)(w:World)(hs:s.length<=1000000):
  Calls prog 30 #[.agg #[xv],s,.string ⟨(Bi k).toArray⟩,.int .i64 ((0:Nat):Int)] w (At S k (Ak S 20 0 k s) w):=by
 have HN:=@Aa (Ak S 20 0 k s=none) rfl;generalize Bi k=kb at *;generalize Ak S 20 0 k s=q at *;by_cases hne:s=[]
 ·subst hne;go_enter func30,ntmps30;go_wp2_with fail;refine aC (v:=.tuple #[.pointer none,a8,.bool false]) (by simp[results,results30,go_sem]) rfl ?_;exact jd
 have he:s.isEmpty=false:=cK;clear hne;go_enter func30,ntmps30;go_wp2_with fail;refine aC (v:=.tuple #[.pointer none,s,.bool false]) (by simp[results,results30,go_sem]) rfl ?_;exact jd
def NmC(w0:World)(S:List Ty)(xv:Value):Prop:=∀d,d<=1000->(∀k,C0 k->SrC w0 S xv k d)->∀k,C0 k->k.signs=[]->k.base=[64]->∀(s:List UInt8),s.length<=1000000->∀W,Below w0 w0 W->s≠[] ->
 Calls prog 67 #[.agg #[xv],s,.string ⟨(Bi k).toArray⟩,.int .i64 ((d+1:Nat):Int)] W (At S k (Ak S 20 (d+1) k s) W)
theorem Qdd(w0:World)(S:List Ty)(hS:∀t∈S,Ed t)(xv:Value)(hxv:xv.oneCell'=true)(HNm:NmC w0 S xv):∀d,d<=1001->∀k,C0 k->SrC w0 S xv k d:=by
 intro d;induction d with
 |zero=>
  intro _ k hk s W hW hs;exact Qb3 S xv hxv k cY s W hs
 |succ d ih=>
  intro hd k hk s W hW hs;have ih:=ih aE;have hkl:=hk.2.2;have hp:=(Gh hk).1;obtain⟨h1,h2,h3⟩:=hk;cases hsg:k.signs with
  |cons c sg=>
   rw[hsg]at h1;simp only[List.all_cons,ar,Bo,Bool.or_eq_true,beq_iff_eq]at h1;rcases h1.1 with rfl|rfl
   ·exact Qd9 w0 S xv hxv k sg hsg aE d aE s W hW hs (ih _ hp) (fun s v r h=>(E9 hS 20 d k.part s v r hp h).2)
   exact Qdt w0 S xv hxv k sg hsg aE d aE s W hW hs (ih _ hp)
  |nil=>
   rcases h2 with⟨hb,hn⟩|⟨hb,_⟩
   ·exact Qeh w0 S xv hxv k hsg hb (by have:=hn;rw[Ep]at this;have:=this.2.1;omega) d aE s W hW hs (fun W' hW' hne=>HNm d aE ih k ⟨h1,.inl ⟨hb,hn⟩,h3⟩ hsg hb s hs W' hW' hne)
   exact Qap S xv hxv k hsg (by rcases hb with h|h|h<;>simp[h]) d aE s W hs
theorem Qdl(s:List UInt8)(w:World)(h4:s.length<=400)(h9:¬9<(Ai 10 s).length)(hlast:(Ai 10 s).getLast?=some []):
  Calls prog 41 #[s] w (Jb (Ci s) w):=by
 have HL:=Aa (Qdi h9 hlast);have Hcut:=Aa (fun W=>Cl s 10 10 rfl W aE);have hne:=Ee 10 s;have Hpl:=Aa (Al 10 s);generalize Ai 10 s=L at h9 hlast HL Hcut hne Hpl;go_enter func41,ntmps41;go_wp2_with fail;refine(Hcut.o _).mono ?_;rintro e w1 ⟨v,rfl,ho,hb⟩;obtain⟨g,c,rfl,hg1,hg2,hcells⟩:=Mw ho hne;have hpos:0<L.length:=List.length_pos_iff.2 hne;have Hb:=Aa hb;have Hcells:=Aa hcells;have hz1:=hb.size;have k1:(0:Int)<=(L.length:Int) - 1:=aE;have k2:(L.length:Int) - 1<(L.length:Int):=aE;have k3:((L.length:Int) - 1).toNat=L.length - 1:=aE;have q1:¬(400:Int)<(s.length:Int):=aE;have q2:¬(9:Int)<(L.length:Int):=aE;have cl:=hcells (L.length - 1) aE;have he:L[L.length - 1]=[]:=by
  rw[List.getLast?_eq_getElem?,List.getElem?_eq_getElem aE]at hlast;simpa using hlast
 rw[he]at cl;have hDl:L.dropLast.length=L.length - 1:=aI;clear he hlast hcells ho hb hne;go_wp2_with fail
 go_loopw [5,6] (fun v i wr=>∃(xs:List (Ty × Value)),i=.int .i64 (xs.length:Nat)/\xs.length+1<=L.length/\Hid (Fa L.dropLast=(Fa (L.dropLast.drop xs.length)).map (Ah xs ++ ·)) /\
   Hid (wr.ownsRow w1 95 3 v xs.length (xs.flatMap stc))/\Hid (Kf wr w1.heap.size xs)/\Hid (Below w1 w1 wr)/\w1.heap.size<=wr.heap.size) (fun _ i _=>L.length - (intOf i).toNat)
 case atStart=>exact⟨[],rfl,by simp;omega,by simp[Hid,Ah],World.ownsRow_lit (base:=w1.heap.size) (e:=95) (size:=3) w1 #[] 0 (As _) (af _) rfl,by intro x hx;simp at hx,(Ay _ _).alloc (As _) _,by simp⟩
 case round=>
  obtain⟨xs,rfl,hxl,hty,hown,htys,hbr,hszr⟩:=hrel;obtain⟨A,cA,rfl,hrA⟩:=B8.ownK hown.o aW;have HrA:=Aa hrA;have HbW:=Aa (Hb.o.trans (hbr.o.mono hz1));clear hrA;by_cases hlt:xs.length+1<L.length
  ·have j1:(xs.length:Int)+1<(L.length:Int):=aE;have j2:(0:Int)<=(xs.length:Int):=aE;have j3:(xs.length:Int)<(L.length:Int):=aE;have cell:_:=(hbr.o.cell (p:=⟨g,xs.length,none⟩) hg2).trans (Hcells.o xs.length aE);have hstep:=Qax (L:=L.dropLast) (k:=xs.length) aE hty.o;have hge:L.dropLast[xs.length]' aE=L[xs.length]:=aI;rw[hge]at hstep;have hpl:=Hpl.o _ (ad (show xs.length<L.length by omega));have Hstep:=Aa hstep;generalize L[xs.length]=p at cell Hstep hpl;have Hread:=Aa (fun W=>Vj p W aE);have Htok:=Aa (fun t (h:Dh p=some t)=>(Fe.1 ((Z6 p).symm.trans h)).1);generalize Dh p=o at Hstep Hread Htok;clear hstep hge hty;go_wp2_with fail;refine(Hread.o _).mono ?_;rintro e w4 ⟨hcase,hb4⟩;have HbW4:=Aa (HbW.o.trans (hb4.mono HbW.o.size));cases o with
   |none=>
    obtain⟨x,a,A2,n2,c2,rfl⟩:=hcase;have Hno:=@Aa (Ci s=none) (Jl (.inr (HL.o.trans Hstep.o)));clear hb4;go_wp2_with fail;refine aC (v:=.tuple #[.slice none 0 0,.bool false]) (by simp[results,results41,go_sem]) rfl ?_;exact Jb.no Hno.o rfl (by(repeat (first|exact HbW4.o|refine Below.setCell ?_ dO _|refine Below.alloc ?_ dO _|refine Below.drew ?_)))
   |some t=>
    obtain⟨fv,rfl,hfv⟩:=hcase;have htk:=Htok.o t rfl;have h8:=htk.2.2.2.1;obtain⟨A2,c2,rfl,_⟩:=B8.ownK hfv aW;have Hstep2:=@Aa (Fa L.dropLast=(Fa (L.dropLast.drop (xs.length+1))).map ((Ah xs++[t]) ++ ·)) Hstep.o;have Hw5:=Aa ((Bm hown.o hb4).alloc (.cells #[.int .u8 (t.sort.toNat:Int),t.name,.slice A2 t.fields.length c2] 95));have Hbb:=@Aa (Below w1 w1 (w4.alloc (.cells #[.int .u8 (t.sort.toNat:Int),t.name,.slice A2 t.fields.length c2] 95))) ((hbr.o.trans (hb4.mono hszr)).alloc (ac hszr hb4.size) _)
    have Hty5:=Aa (show Kf (w4.alloc (.cells #[.int .u8 (t.sort.toNat:Int),t.name,.slice A2 t.fields.length c2] 95)) w1.heap.size (xs++[(t,.slice A2 t.fields.length c2)])from by
     intro x hx;rcases ae.1 hx with hx|hx
     ·exact⟨(Bm ((htys.o x hx).1) hb4).alloc _,(htys.o x hx).2⟩
     simp at hx;subst hx;exact⟨(Q8 hfv hszr).alloc _,htk⟩)
    have hz5:w1.heap.size<=w4.heap.size+1:=by have:=hb4.size;omega
    have Hsz5:=@Aa ((w4.alloc (.cells #[.int .u8 (t.sort.toNat:Int),t.name,.slice A2 t.fields.length c2] 95)).heap.size=w4.heap.size+1) aI;clear hfv htk hb4;unfold Qd;go_wp2_with (at_builtin;go_loud (refine Qau _ rfl _ _ 30 rfl w1 95 (.agg #[.int .u8 0,a8,.slice none 0 0]) 3 48 underlying30 Tryz.infoSt rfl aH (w4.alloc (.cells #[.int .u8 (t.sort.toNat:Int),t.name,.slice A2 t.fields.length c2] 95)) [.int .u8 (t.sort.toNat:Int),t.name,.slice A2 t.fields.length c2] rfl rfl bY _ xs.length (xs.flatMap stc) rfl (by rw[Hsz5.o];rfl) Hw5.o aW aE aM ?_;intro v5 w5 hown5 hb5 hg5;have Hty6:=Aa ((Hty5.o.below ((Ay _ _).alloc (As _) _)).grown (Hw5.o.alloc _) aH hg5);have Hown5:=Aa hown5;have Hb5:=Aa (Hbb.o.trans hb5);clear hown5 hb5 hg5))
    go_roundw
    case rel=>
     refine⟨xs++[(t,Value.slice A2 t.fields.length c2)],by rw[ag];go_num,by simp;omega,?_,?_,?_,Hb5.o,Hb5.o.size⟩
     ·show Fa L.dropLast=_;rw[Hstep2.o];simp[Ah]
     ·show World.ownsRow _ _ _ _ _ _ _;rw[List.flatMap_append,ag];exact Hown5.o
     ·exact Hty6.o
    case measure=>simp[intOf];omega
  ·have j1:¬(xs.length:Int)+1<(L.length:Int):=aE
   have Hlin:=Aa (show M5 s=some (Ah xs)by
    rw[HL.o,hty.o,List.drop_of_length_le aE];simp[Fa])
   have Hval:=Aa (fun(_:Unit)=>Qcc (.slice A xs.length cA) xs wr (Mc.own hown.o aE htys.o) (fun x hx=>(htys.o x hx).2));have Hs:=Aa (Mc.own hown.o aE htys.o);clear hty;go_wp2_with fail;refine(Hval.o ()).mono ?_;rintro e w4 ⟨⟨b,rfl,hbv⟩,hb4⟩;have Hfin:=Aa (Vq h4 Hlin.o b hbv);have HbW4:=Aa (HbW.o.trans (hb4.mono HbW.o.size));have Hs4:=Aa (Hs.o.below hb4);clear hb4 hbv;cases b with
   |true=>
    go_wp2_with fail;refine aC (v:=.tuple #[.slice A xs.length cA,.bool true]) (by simp[results,results41,go_sem]) rfl ?_;exact Jb.yes (xs:=xs) Hfin.o rfl Hs4.o HbW4.o
   |false=>
    go_wp2_with fail;refine aC (v:=.tuple #[.slice A xs.length cA,.bool false]) (by simp[results,results41,go_sem]) rfl ?_;exact Jb.no Hfin.o rfl HbW4.o
theorem Xz(s:List UInt8)(w:World)(hs:s.length<=4000000):
  Calls prog 41 #[s] w (Jb (Ci s) w):=by
 by_cases h1:400<s.length
 ·exact Rj s w hs (.inl h1)
 by_cases h2:9<(Ai 10 s).length
 ·exact Rj s w hs (.inr (.inl h2))
 by_cases h3:(Ai 10 s).getLast?=some []
 ·exact Qdl s w aE h2 h3
 exact Rj s w hs (.inr (.inr h3))
def G9(o:Option (List Ty × Kd))(w:World)(e:Ending)(w':World):Prop:=
 (match o with
  |some x=>∃v xs,e=.returned (.tuple #[v,.bool true])/\Ah xs=x.1/\Mc w' v xs
  |none=>∃A n c,e=.returned (.tuple #[.slice A n c,.bool false]))/\Below w w w'
theorem G9.no{w w':World}{e:Ending}{o:Option (List Ty × Kd)}(ho:o=none){A:Option Addr}{n c:Nat}(he:e=.returned (.tuple #[.slice A n c,.bool false]))(hb:Below w w w'):G9 o w e w':=by
 rw[ho];exact⟨⟨A,n,c,he⟩,hb⟩
theorem Tu(s d:List UInt8)(w:World)(hs:s.length<=4000000)(h:Ci s=none):
  Calls prog 19 #[s,d] w (G9 (D3 s d) w):=by
 have HF:=Aa (show D3 s d=none by unfold D3;rw[h]);have Hof:=Aa (fun W=>Xz s W hs);rw[h]at Hof;clear h;go_enter func19,ntmps19;go_wp2_with fail;refine(Hof.o _).mono ?_;rintro e w1 ⟨⟨A,n,c,rfl⟩,hb⟩;go_wp2_with fail;refine aC (v:=.tuple #[.slice none 0 0,.bool false]) (by simp[results,results19,go_sem]) rfl ?_;exact G9.no HF.o rfl hb
theorem Yw(s d:List UInt8)(w:World)(hs:s.length<=4000000)(hd:d.length<=4000000)(S:List Ty)(h:Ci s=some S)(hk:Co d=none):
  Calls prog 19 #[s,d] w (G9 (D3 s d) w):=by
 have HF:=Aa (show D3 s d=none by unfold D3;rw[h,hk]);have Hof:=Aa (fun W=>Xz s W hs);have Hkd:=Aa (fun W=>M8 d.length d W (As _) aE);rw[h]at Hof;rw[hk]at Hkd;clear h hk;go_enter func19,ntmps19;go_wp2_with fail;refine(Hof.o _).mono ?_;rintro e w1 ⟨⟨v,xs,rfl,hx,hsc⟩,hb⟩;clear hsc;go_wp2_with fail;refine(Hkd.o _).mono ?_;rintro e w2 ⟨rfl,rfl⟩;go_wp2_with fail;refine aC (v:=.tuple #[.slice none 0 0,.bool false]) (by simp[results,results19,go_sem]) rfl ?_;exact G9.no HF.o rfl hb
theorem G9.of{w w':World}{e:Ending}{S:List Ty}{k:Kd}{v:Value}{xs:List (Ty × Value)}{b:Bool}{o:Option (List Ty × Kd)}(ho:o=if b=true then some (S,k)else none)(he:e=.returned (.tuple #[v,.bool b]))(hx:Ah xs=S)(hs:Mc w' v xs)(hb:Below w w w'):G9 o w e w':=by
 cases b with
 |true=>rw[ho];exact⟨⟨v,xs,he,hx,hs⟩,hb⟩
 |false=>
  obtain⟨A,c,rfl,_⟩:=hs;rw[ho];exact⟨⟨A,_,c,he⟩,hb⟩
theorem Qd2(s d:List UInt8)(w:World)(hs:s.length<=4000000)(S:List Ty)(h:Ci s=some S)(k:Kd)(hk:Co d=some k):
  Calls prog 19 #[s,d] w (G9 (D3 s d) w):=by
 obtain⟨hok,rfl⟩:=Er.1 hk;have HF:=Aa (show D3 s (Bi k)=if B9 S k then some (S,k)else none by unfold D3;rw[h,hk]);have Hof:=Aa (fun W=>Xz s W hs);have hl:=hok.2.2;have Hkd:=Aa (fun W=>M8 (Bi k).length (Bi k) W (As _) aE);have Hok:=Aa hok;rw[h]at Hof;rw[hk]at Hkd;clear h hk hok;go_enter func19,ntmps19;go_wp2_with fail;refine(Hof.o _).mono ?_;rintro e w1 ⟨⟨v,xs,rfl,hx,hsc⟩,hb⟩;subst hx;have Hsc:=Aa hsc;obtain⟨A,c,rfl,_,_,hfds⟩:=hsc;have Hfds:=Aa hfds;have Hb:=Aa hb;clear hb hfds;go_wp2_with fail;refine(Hkd.o _).mono ?_;rintro e w2 ⟨rfl,rfl⟩;go_wp2_with fail;refine(Sl k Hok.o _).mono ?_;rintro e w2 ⟨rfl,rfl⟩;go_wp2_with fail;refine(Px k Hok.o _).mono ?_;rintro e w2 ⟨rfl,rfl⟩;go_wp2_with fail;refine(Rg _ xs (Sf k) _ Hsc.o).mono ?_;rintro e w2 ⟨rfl,hb2⟩;have Hb2:=Aa (Hb.o.trans (hb2.mono Hb.o.size));have Hs2:=Aa (Hsc.o.below hb2);clear hb2;cases hx2:E0 xs (Sf k)with
 |none=>
  unfold Sv Nn;rcases hir:Sj k with _|_
  ·have Hr:=Aa (show (if B9 (Ah xs) k then some (Ah xs,k)else none)=if (true:Bool)=true then some (Ah xs,k)else none by
    have:=J2 xs k;rw[hx2,hir]at this;simp at this;simp[this])
   go_wp2_with fail;refine aC (v:=.tuple #[.slice A xs.length c,.bool true]) (by simp[results,results19,go_sem]) rfl ?_;exact je
  have Hr:=Aa (show (if B9 (Ah xs) k then some (Ah xs,k)else none)=if (false:Bool)=true then some (Ah xs,k)else none by
   have:=J2 xs k;rw[hx2,hir]at this;simp at this;simp[this])
  go_wp2_with fail;refine aC (v:=.tuple #[.slice A xs.length c,.bool false]) (by simp[results,results19,go_sem]) rfl ?_;exact G9.of (b:=false) (HF.o.trans Hr.o) rfl rfl (Hs2.o.below ((Ay _ _).alloc (As _) _)) aU
 |some y=>
  obtain⟨ty,yv⟩:=y;obtain⟨A5,c5,e5,_⟩:=Hfds.o _ (Ek hx2).1;simp only[]at e5;subst e5;unfold Sv Qd;rcases hir:Sj k with _|_
  ·have Hr:=Aa (show (if B9 (Ah xs) k then some (Ah xs,k)else none)=if (true:Bool)=true then some (Ah xs,k)else none by
    have:=J2 xs k;rw[hx2,hir]at this;simp at this;simp[this])
   go_wp2_with fail;refine aC (v:=.tuple #[.slice A xs.length c,.bool true]) (by simp[results,results19,go_sem]) rfl ?_;exact je
  have Hr:=Aa (show (if B9 (Ah xs) k then some (Ah xs,k)else none)=if (true:Bool)=true then some (Ah xs,k)else none by
   have:=J2 xs k;rw[hx2,hir]at this;simp at this;simp[this])
  go_wp2_with fail;refine aC (v:=.tuple #[.slice A xs.length c,.bool true]) (by simp[results,results19,go_sem]) rfl ?_;exact je
theorem Qem(s d:List UInt8)(w:World)(hs:s.length<=4000000)(hd:d.length<=4000000):
  Calls prog 19 #[s,d] w (G9 (D3 s d) w):=by
 cases h:Ci s with
 |none=>exact Tu s d w hs h
 |some S=>cases hk:Co d with
  |none=>exact Yw s d w hs hd S h hk
  |some k=>exact Qd2 s d w hs S h k hk
theorem Xu.no{s d x:List UInt8}{w w':World}{v:Value}{q:Option Addr}(hb:Below w w w')(h:∀y,D3 s d=some y->Pt y.1 y.2 x=none):Xu s d x w (.returned (.tuple #[v,.pointer q,.bool false])) w':=by
 refine⟨hb,?_⟩;cases hy:D3 s d with
 |none=>exact⟨v,q,rfl⟩
 |some y=>simp only;rw[h y hy];exact⟨v,q,rfl⟩
end
end Go.Proofs.YtkigmebejmmikaaGreatDoor
