/- Texts joined. Conditions: as each theorem names them. -/
import Derived.Test.YtkgkoicedddkmaaGreatDoorR03
set_option maxRecDepth 100000
set_option maxHeartbeats 32000000
set_option linter.unusedVariables false
set_option linter.unusedSimpArgs false
namespace Go.Proofs.YtkgkoicedddkmaaGreatDoor
open Go.RowKit Go.Proofs.Tryz
section
attribute [local go_sem] Qiz Qii Qib Qgw ByteArray.mk_append_mk
theorem Qf(S:List Ty)(hT:∀t∈S,Ep t):∀(n:Nat) (k:Kd),(C9 S n k).length<=6*n
 |0,_=>by simp[C9]
 |n+1,k=>by
  unfold C9;split
  ·simp;omega
  split
  ·simp;omega
  split
  ·simp;omega
  split
  ·simp;omega
  split
  ·simp;omega
  cases hf:Bp S k.name with
  |none=>simp
  |some t=>
   simp only;split
   ·simp;omega
   cases hfs:t.fields with
   |nil=>simp
   |cons f fs=>
    have h1:=((hT t (Cu hf).1).2.2.1.1 f cT).2.1;have h2:=Qe5 2 f.tag cq;have ih:=Qf S hT n f.kind;simp only;split
    ·simp;omega
    simp;omega
def Tp(b:List UInt8):List UInt8:=if b=[110]then[48]else if b=[116]then[39,39]else[110,111]
theorem Za(b:List UInt8)(w:World)(hb:b=[110]\/b=[116]\/b=[102]):
  Calls prog 96 #[b] w fun e w'=>e=.returned (.string ⟨(Tp b).toArray⟩)/\w=w':=by
 rcases hb with rfl|rfl|rfl
 ·exact jK
 ·exact jK
 go_enter func96,ntmps96;go_wp2_with fail;go_ret;exact⟨rfl,rfl⟩
def Qc4(c:UInt8):List UInt8:=if c=91 then[91,93]else[45]
theorem Rl(v:Value)(c:UInt8)(t:List UInt8)(w:World)(hc:c=91\/c=63)(hl:t.length<=1000):
  Calls prog 70 #[v,.string ⟨(c::t).toArray⟩] w fun e w'=>e=.returned (.string ⟨(Qc4 c).toArray⟩)/\w=w':=by
 rcases hc with rfl|rfl
 ·go_enter func70,ntmps70;go_wp2_with fail;go_ret;exact⟨rfl,rfl⟩
 go_enter func70,ntmps70;go_wp2_with fail;go_ret;exact⟨rfl,rfl⟩
theorem Mt{k:Kd}(h:Cw k)(hs:k.signs=[])(hb:k.base≠[64]):Bj k=k.base/\(k.base=[110]\/k.base=[116]\/k.base=[102]):=by
 refine⟨by unfold Bj Bs;rw[hs,if_neg hb];rfl,?_⟩;rcases h.2.1 with h|h
 ·exact absurd h.1 hb
 exact h.1
theorem N3(v:Value)(xs:List (Ty × Value))(k:Kd)(w:World)(hsc:Jq w v xs)(hk:Cw k)(hs:k.signs=[])(hb:k.base≠[64]):
  Calls prog 70 #[v,.string ⟨(Bj k).toArray⟩] w fun e w'=>e=.returned (.string ⟨(Tp k.base).toArray⟩)/\Below w w w':=by
 have Hr:=Aa (fun W h=>Fu v xs k W h hk);have hx:Kz xs k=none:=if_neg (fun h=>hb h.2);rw[hx]at Hr;obtain⟨e1,e2⟩:=Mt hk hs hb;rw[e1]at Hr ⊢;have Hsc:=Aa hsc;have Hp:=Aa (fun W=>Za k.base W e2);have He2:=Aa e2;unfold Rn Nq at Hr;generalize k.base=b at *;clear hs hb e1 hsc hx;obtain⟨c,hc,t1,t2⟩:∃c,b=[c]/\((c.toNat:Int) == 91)=false/\((c.toNat:Int) == 63)=false:=by
  rcases e2 with rfl|rfl|rfl
  ·exact⟨110,rfl,by decide,by decide⟩
  ·exact⟨116,rfl,by decide,by decide⟩
  exact⟨102,rfl,by decide,by decide⟩
 clear e2;subst hc;go_enter func70,ntmps70;go_wp2_with fail;refine(Hr.o _ Hsc.o).mono ?_;rintro e w1 ⟨rfl,hb1⟩;go_wp2_with fail;refine(Hp.o _).mono ?_;rintro e w2 ⟨rfl,rfl⟩;go_wp2_with fail;go_ret;exact⟨rfl,hb1.alloc hb1.size _⟩
def Gc(l:List UInt8)(w:World)(e:Ending)(w':World):Prop:=e=.returned l/\Below w w w'
theorem Yy(xv:Value)(xs:List (Ty × Value))(hok:∀x∈xs,Ep x.1)(n:Nat)(k:Kd)(w:World)(hsc:Jq w xv xs)(hk:Cw k)(hs:k.signs=[])(hb:k.base=[64])(t:Ty)(fv:Value)(hx:Dq xs k.name=some (t,fv))
  (hn:n<=9) (ih:t.sort=85->∀f fs,t.fields=f::fs->∀W,Jq W xv xs->Calls prog 70 #[xv,.string ⟨(Bj f.kind).toArray⟩] W (Gc (C9 (Af xs) n f.kind) W)):
  Calls prog 70 #[xv,.string ⟨(Bj k).toArray⟩] w (Gc (C9 (Af xs) (n+1) k) w):=by
 have Hr:=Aa (fun W h=>Fu xv xs k W h hk);have Hlen:=Aa (Qf (Af xs) (fun t ht=>by obtain⟨x,hx,rfl⟩:=ax.1 ht;exact hok x hx));have hrx:Kz xs k=some (t,fv):=(if_pos ⟨hs,hb⟩).trans hx
 have HF:=Aa (show C9 (Af xs) (n+1) k=if t.sort=82 then[123,125]else match t.fields with|[]=>[]|f::_=>if t.sort=69 then 35::Bb f.tag else 60::(Bb f.tag++61::(C9 (Af xs) n f.kind++[62]))from by
  rw[C9,if_neg eD,if_neg eD,if_neg bS,if_neg bS,if_neg bS,G6,hx];rfl)
 have hto:=hok _ (Dj hx).1;have hkb:Bj k=64::(k.name++[59]):=dk;have hnl:k.name.length<=3:=by
  rcases hk.2.1 with h|h
  ·exact(Dk.1 h.2).2.1
  rw[hb]at h;exact absurd h.1 aK
 have hfd:Er w fv t.fields:=by obtain⟨_,_,_,_,_,hf⟩:=hsc;exact hf _ (Dj hx).1
 rw[hrx]at Hr;rw[hkb]at Hr ⊢;obtain⟨A,c,rfl,hfl,hrow⟩:=hfd;have Hsc:=Aa hsc;have Hrow:=Aa hrow;have Hto:=Aa hto;have Ih:=Aa ih;unfold Rn Kx at Hr;simp only[]at hto;clear hsc hk hs hb hx hkb hrow hto hrx ih hok;by_cases h82:t.sort=82
 ·have t82:((t.sort.toNat:Int) == 82)=true:=Be (d:=82) h82;have HF2:=Aa (HF.o.trans (if_pos h82));clear h82 HF;go_enter func70,ntmps70;go_wp2_with fail;refine(Hr.o _ Hsc.o).mono ?_;rintro e w1 ⟨rfl,hb1⟩;go_wp2_with fail;go_ret;exact⟨by rw[HF2.o];rfl,hb1.alloc hb1.size _⟩
 have t82:((t.sort.toNat:Int) == 82)=false:=Am (d:=82) h82;have HF2:=Aa (HF.o.trans (if_neg h82));have hne:t.fields≠[]:=fun h=>h82 (Hto.o.2.2.2.2 h);obtain⟨f,fs,hfs⟩:∃f fs,t.fields=f::fs:=by
  cases h:t.fields with
  |nil=>exact absurd h hne
  |cons f fs=>exact⟨f,fs,rfl⟩
 have hf0:0<t.fields.length:=cT;have hge:t.fields[0]=f:=by simp[hfs]
 have hft:=Hto.o.2.2.1.1 f cT;have htag:f.tag<=200:=hft.2.1;have hdl:=Qe5 2 f.tag cq;have Hd:=Aa (fun W=>Jh f.tag f.tag W (Ap _) aH);have hi0:(0:Int)<(t.fields.length:Int):=aH;have HF3:=@Aa (C9 (Af xs) (n+1) k=if t.sort=69 then 35::Bb f.tag else 60::(Bb f.tag++61::(C9 (Af xs) n f.kind++[62]))) (by rw[HF2.o,hfs]);have Hfs:=Aa hfs;have Hge:=Aa hge;obtain⟨b,off,rfl,hbl,g0,g1,g2,g3⟩:=Er.at_ Hrow.o hf0;rw[hge]at g0 g1 g2 g3;simp only[Nat.zero_mul,Nat.add_zero]at g0 g1 g2 g3;have H82:=Aa h82;clear HF2 HF h82 hne hfs hge hft g1 g3;by_cases h69:t.sort=69
 ·have t69:((t.sort.toNat:Int) == 69)=true:=Be (d:=69) h69;have HF4:=Aa (HF3.o.trans (if_pos h69));clear h69 HF3;go_enter func70,ntmps70;go_wp2_with fail;refine(Hr.o _ Hsc.o).mono ?_;rintro e w1 ⟨rfl,hb1⟩;have g0':=(hb1.cell (p:=⟨b,off,none⟩) hbl).trans g0;have hbl1:b<w1.heap.size:=ac hbl hb1.size;have hbn:¬(b=w1.heap.size):=aH;have Hb1:=Aa hb1;clear hb1 g0 g2;go_wp2_with fail;refine(Hd.o _).mono ?_;rintro e w2 ⟨rfl,hb2⟩;go_wp2_with fail;go_ret;exact⟨by rw[HF4.o];simp,(Hb1.o.alloc Hb1.o.size _).trans (hb2.mono (by have:=Hb1.o.size;simp;omega))⟩
 have t69:((t.sort.toNat:Int) == 69)=false:=Am (d:=69) h69;have HF4:=Aa (HF3.o.trans (if_neg h69));have h85:t.sort=85:=by
  rcases Hto.o.1 with h|h|h
  ·exact absurd h H82.o
  ·exact h
  exact absurd h h69
 have Ih2:=Aa (Ih.o h85 f fs Hfs.o);have hsl:=Hlen.o n f.kind;generalize C9 (Af xs) n f.kind=sl at *;generalize Bj f.kind=kd at *;clear h69 HF3 h85 Ih;go_enter func70,ntmps70;go_wp2_with fail;refine(Hr.o _ Hsc.o).mono ?_;rintro e w1 ⟨rfl,hb1⟩;have g0':=(hb1.cell (p:=⟨b,off,none⟩) hbl).trans g0;have g2':=(hb1.cell (p:=⟨b,off+2,none⟩) hbl).trans g2;have hbl1:b<w1.heap.size:=ac hbl hb1.size;have hbn:¬(b=w1.heap.size):=aH;have Hb1:=Aa hb1;clear hb1 g0 g2;go_wp2_with fail;obtain⟨W0,hW0⟩:∃W0,W0=w1.alloc (.cells #[.int .u8 (t.sort.toNat:Int),t.name,.slice (some ⟨b,off,none⟩) t.fields.length c] 100):=⟨_,rfl⟩
 rw[<-hW0];have y2:W0.cell? (w1,2)=some (.slice (some ⟨b,off,none⟩) t.fields.length c):=by rw[hW0];simp
 have y0:W0.cell? ⟨b,off,none⟩=(f.tag:Int):=by rw[hW0,World.cell?_alloc_old _ _ _ hbn];exact g0'
 have y3:W0.cell? ⟨b,off+2,none⟩=kd:=by rw[hW0,World.cell?_alloc_old _ _ _ hbn];exact g2'
 have hz0:W0.heap.size=w1.heap.size+1:=by rw[hW0];simp
 have hB5:w1.heap.size<W0.heap.size:=aH;have hb5:b<W0.heap.size:=aH;have Hb0:=@Aa (Below w w W0) (by rw[hW0];exact Hb1.o.alloc Hb1.o.size _);have Hsc0:=Aa (Hsc.o.below Hb0.o);generalize w1.heap.size=B5 at *;clear hW0 hz0 g0' g2';refine Ge [39,40,41,42,43,44,45,46,47,48,49,50,51,52,53,54,55,4]
  (fun i v W=>match i with|0=>v=(B5,2)|1=>v=.slice (some ⟨b,off,none⟩) t.fields.length c|2=>v=.pointer (some ⟨b,off,none⟩)|3=>v=.pointer (some ⟨b,off,none⟩)|4=>v=(f.tag:Int)|5=>v=.string ⟨(Bb f.tag).toArray⟩|6=>v=.string ⟨(60::Bb f.tag).toArray⟩|7=>v=.string ⟨(60::(Bb f.tag++[61])).toArray⟩|8=>v=xv|9=>v=(B5,2)|10=>v=.slice (some ⟨b,off,none⟩) t.fields.length c|11=>v=.pointer (some ⟨b,off,none⟩)|12=>v=.pointer (some ⟨b,off+2,none⟩)|13=>v=kd|14=>v=sl|15=>v=.string ⟨(60::(Bb f.tag++61::sl)).toArray⟩|16=>v=.string ⟨(60::(Bb f.tag++61::(sl++[62]))).toArray⟩|17=>v=.string ⟨(60::(Bb f.tag++61::(sl++[62]))).toArray⟩|_=>True)
  (fun L U W=>Below W0 W0 W) ((Aq _ _).drew) ?_ ?_
 ·repeat (first|exact Ah.nil|(refine Ah.cons ?_ ?_;rotate_left))
  all_goals
   rintro L U W hL hpre HR Hdep K hK;have hB:=HR.o;have c2:=(hB.cell (p:=⟨B5,2,none⟩) hB5).trans y2;have c0:=(hB.cell (p:=⟨b,off,none⟩) hb5).trans y0;have c3:=(hB.cell (p:=⟨b,off+2,none⟩) hb5).trans y3;first|(simp[Region.binds]at hpre;done)|simp[Region.binds]at hpre|clear hpre
  iterate 5
   ·exact hG
  ·exact jq
  ·exact ig
  ·exact ig
  iterate 6
   ·exact hG
  ·exact jf
  ·exact ig
  ·exact ig
  ·exact hG
 rintro L U W hL hφ hR;have e17:U 17=.string ⟨(60::(Bb f.tag++61::(sl++[62]))).toArray⟩:=hφ 17 aK;simp only[e17];clear hφ;have Hb9:=Aa (Hb0.o.trans (hR.mono Hb0.o.size));clear hR;go_wp2_with fail;go_ret;exact⟨by rw[HF4.o];rfl,Hb9.o⟩
theorem Ny(S:List Ty)(n:Nat)(k:Kd)(c:UInt8)(t:List UInt8)(h:k.signs=c::t)(hc:c=91\/c=63):C9 S (n+1) k=Qc4 c:=by
 unfold C9 Qc4;rw[h];rcases hc with rfl|rfl
 ·rfl
 rfl
theorem Mj(S:List Ty)(n:Nat)(k:Kd)(h:k.signs=[])(hb:k.base=[110]\/k.base=[116]\/k.base=[102]):C9 S (n+1) k=Tp k.base:=by
 unfold C9 Tp;rw[h];rcases hb with hb|hb|hb<;>rw[hb]<;>rfl
theorem Qk{k:Kd}(h:Cw k){c:UInt8}{t:List UInt8}(hs:k.signs=c::t):c=91\/c=63:=by
 have:=h.1;rw[hs,List.all_cons,aw]at this;have:=this.1;unfold Bo at this;simpa using this
theorem Qap(xv:Value)(xs:List (Ty × Value))(hok:∀x∈xs,Ep x.1)(hS:Fw (Af xs)):∀(n:Nat),n<=9->∀(k:Kd) (w:World),Jq w xv xs->Cw k->Bx (Af xs) k->Tv (Af xs) n k ->
  Calls prog 70 #[xv,.string ⟨(Bj k).toArray⟩] w (Gc (C9 (Af xs) (n+1) k) w):=by
 intro n;induction n with
 |zero=>
  intro _ k w hsc hk hr he;cases hs:k.signs with
  |cons c t=>
   have hc:=Qk hk hs;have hkb:Bj k=c::(t++Bs k):=dH;have hl:=hk.2.2;rw[hkb]at hl ⊢;rw[Ny _ _ k c t hs hc];refine(Rl xv c (t++Bs k) w hc fT).mono ?_;rintro e w' ⟨rfl,rfl⟩;exact⟨rfl,Aq _ _⟩
  |nil=>
   by_cases hb:k.base=[64]
   ·obtain⟨t,_,h⟩:=he hs hb;exact absurd h (by simp[Bv])
   rw[Mj _ _ k hs (Mt hk hs hb).2];exact N3 xv xs k w hsc hk hs hb
 |succ n ih=>
  intro hn k w hsc hk hr he;cases hs:k.signs with
  |cons c t=>
   have hc:=Qk hk hs;have hkb:Bj k=c::(t++Bs k):=dH;have hl:=hk.2.2;rw[hkb]at hl ⊢;rw[Ny _ _ k c t hs hc];refine(Rl xv c (t++Bs k) w hc fT).mono ?_;rintro e w' ⟨rfl,rfl⟩;exact⟨rfl,Aq _ _⟩
  |nil=>
   by_cases hb:k.base=[64]
   ·have h1:=hr hb;rw[G6]at h1;cases hx:Dq xs k.name with
    |none=>rw[hx]at h1;cases h1
    |some x=>
     obtain⟨t,fv⟩:=x;have hft:Bp (Af xs) k.name=some t:=(Dj hx).2.2;have hto:Ep t:=hok _ (Dj hx).1;refine Yy xv xs hok (n+1) k w hsc hk hs hb t fv hx hn (fun h85 f fs hfs W hW=>?_);have hrf:Bx (Af xs) f.kind:=hS t (Cu hft).1 ee f cT;have hkf:Cw f.kind:=((hto.2.2.1.1 f cT).2.2.2.2 ee).1;exact ih aH f.kind W hW hkf hrf (Sq he hs hb hft h85 hfs hrf)
   rw[Mj _ _ k hs (Mt hk hs hb).2];exact N3 xv xs k w hsc hk hs hb
theorem Yi{S:List Ty}(h:Jc S){k:Kd}(hr:Bx S k):Tv S 9 k:=by
 intro hs hb;have h1:=hr hb;cases hf:Bp S k.name with
 |none=>rw[hf]at h1;cases h1
 |some t=>exact⟨t,rfl,h.2.2 t (Cu hf).1⟩
theorem Qa5(xv:Value)(xs:List (Ty × Value))(h:Jc (Af xs))(k:Kd)(w:World)(hsc:Jq w xv xs)(hk:Cw k)(hr:Bx (Af xs) k):
  Calls prog 70 #[xv,.string ⟨(Bj k).toArray⟩] w (Gc (Ry (Af xs) k) w):=
 Qap xv xs (fun x hx=>h.1.1 x.1 (ap hx)) h.2.1 9 (Ap _) k w hsc hk hr (Yi h hr)
theorem Nc(xv:Value)(xs:List (Ty × Value))(h:Jc (Af xs))(f:Fd)(w:World)(hsc:Jq w xv xs)(hk:Cw f.kind)(hr:Bx (Af xs) f.kind)(hl:f.given.length<=1000):
  Calls prog 46 #[xv,sfV f] w (Gc (Jp (Af xs) f) w):=by
 have HF:=@Aa (Jp (Af xs) f=if f.given=[]then Ry (Af xs) f.kind else f.given) rfl;have Hs:=Aa (fun W (h1:Jq W xv xs)=>Qa5 xv xs h f.kind W h1 hk hr);have Hsc:=Aa hsc;unfold sfV;generalize Bj f.kind=kd at *;clear h hk hr hsc;by_cases hg:f.given=[]
 ·have HF2:=Aa (HF.o.trans (if_pos hg));rw[hg];clear hg HF;go_enter func46,ntmps46;go_wp2_with fail;refine(Hs.o _ (Hsc.o.below ((Aq _ _).alloc (Ap _) _))).mono ?_;rintro e w1 ⟨rfl,hb1⟩;go_wp2_with fail;go_ret;exact⟨by rw[HF2.o];rfl,((Aq _ _).alloc (Ap _) _).trans (hb1.mono aL)⟩
 have HF2:=Aa (HF.o.trans (if_neg hg));have t1:f.given.isEmpty=false:=by simpa using hg
 have t2:(!f.given.isEmpty)=true:=by simp[t1]
 clear hg HF;go_enter func46,ntmps46;go_wp2_with fail;go_ret;exact⟨by rw[HF2.o];rfl,(Aq _ _).alloc (Ap _) _⟩
theorem Tk(s:List UInt8)(f k:Nat)(hf:f<=k)(hk:k<s.length):(s.drop f).take (k+1 - f)=(s.drop f).take (k - f)++[s[k]]:=by
 have h1:k - f<(s.drop f).length:=aM;rw[show k+1 - f=(k - f)+1 by omega,Ch _ _ h1];simp[show f+(k - f)=k by omega]
theorem Qbc(s:List UInt8)(f k:Nat)(hf:f<=k)(hk:k<s.length):s.drop f=(s.drop f).take (k - f)++s[k]::s.drop (k+1):=by
 have e1:(s.drop f).drop (k - f)=s[k]::s.drop (k+1):=by
  rw[List.drop_drop,show f+(k - f)=k by omega];exact List.drop_eq_getElem_cons hk
 rw[<-e1,List.take_append_drop]
theorem Cg(s:List UInt8)(c:UInt8)(m:Int)(hm:m=(c.toNat:Int))(w:World)(hs:s.length<=4000000):
  Calls prog 87 #[s,.int .u8 m] w fun e w'=>
   ∃v,e=.returned v/\w'.ownsRow w 9 1 v (Ai c s).length (Bt (Ai c s))/\Below w w w':=by
 have Hm:=Aa hm;have Hlen:=Aa (E7 c s);clear hm;go_enter func87,ntmps87;go_wp2_with fail
 go_loopw [5,6,7] (fun v y i wr=>∃(ps:List (List UInt8)) (f k:Nat),i=.int .i64 k/\k<=s.length/\y=.int .i64 f/\f<=k/\ps.length<=k/\Hid (Ai c s=ps++Ai c (s.drop f))/\Hid (c∉(s.drop f).take (k - f)) /\
   Hid (wr.ownsRow w 9 1 v ps.length (Bt ps))/\Hid (Below w w wr)) (fun _ _ i _=>s.length - (intOf i).toNat)
 case atStart=>exact⟨[],0,0,rfl,ag _,rfl,Ap _,by simp,rfl,by simp[Hid],World.ownsRow_lit (base:=w.heap.size) (e:=9) (size:=1) w #[] 0 (Ap _) (ag _) rfl,(Aq _ _).alloc (Ap _) _⟩
 case round=>
  obtain⟨ps,f,k,rfl,hk,rfl,hf,hps,hsp,hno,hown,hb⟩:=hrel;by_cases hlt:k<s.length
  ·have hc:=(s[k]).toNat_lt;by_cases he:s[k]=c
   ·have t1:(((s[k]).toNat:Int) == m)=true:=by rw[Hm.o];exact Be he
    have Hsp:=Aa (show Ai c s=(ps++[(s.drop f).take (k - f)])++Ai c (s.drop (k+1))by
     rw[hsp.o,Qbc s f k hf hlt,he,Kh c _ _ hno.o];simp only[List.append_assoc,List.singleton_append];have e2:=Qbc s f k hf hlt;rw[he]at e2;rw[<-e2])
    have Hz:=Aa hb.o.size;clear he;have k1:(0:Int)<=(f:Int):=aH;have k2:(f:Int)<=(k:Int):=aH;have k3:(k:Int)<=(s.length:Int):=aH;go_wp2_with (at_builtin;refine Pi _ rfl _ _ 72 rfl w 9 a8 16 underlying72 Ta rfl wr _ rfl rfl _ _ _ rfl rfl hown.o aZ aH Hz.o ?_;intro v' w' hown' hb';have Ho:=Aa (show w'.ownsRow w 9 1 v' (ps++[(s.drop f).take (k - f)]).length (Bt (ps++[(s.drop f).take (k - f)]))by rw[N5,ah];exact hown');have Hb:=Aa (hb.o.trans hb');clear hown' hb')
    go_roundw
    case rel=>exact⟨ps++[(s.drop f).take (k - f)],k+1,k+1,by go_num,by omega,by go_num,Ap _,by rw[ah];simp;omega,Hsp.o,by simp[Hid],Ho.o,Hb.o⟩
    case measure=>simp[intOf];omega
   have t1:(((s[k]).toNat:Int) == m)=false:=by rw[Hm.o];exact Am he
   have Hno:=Aa (show c∉(s.drop f).take (k+1 - f)by
    rw[Tk s f k hf hlt];simp only[af,aq,not_or];exact⟨hno.o,fun h=>he h.symm⟩)
   clear he;go_wp2_with fail;go_roundw
   case rel=>exact⟨ps,f,k+1,by go_num,by omega,rfl,by omega,by omega,hsp.o,Hno.o,hown.o,hb.o⟩
   case measure=>simp[intOf];omega
  ·obtain rfl:k=s.length:=aH
   have Hsp:=Aa (show Ai c s=ps++[s.drop f]by
    have h:=hno.o;rw[au aL]at h;rw[hsp.o,Fx c _ h])
   have Hz:=Aa hb.o.size;have k1:(0:Int)<=(f:Int):=aH;have k2:(f:Int)<=(s.length:Int):=aH;go_wp2_with (at_builtin;refine Pi _ rfl _ _ 72 rfl w 9 a8 16 underlying72 Ta rfl wr _ rfl rfl _ _ _ rfl rfl hown.o aZ aH Hz.o ?_;intro v' w' hown' hb';have Ho:=Aa (show w'.ownsRow w 9 1 v' (ps++[s.drop f]).length (Bt (ps++[s.drop f]))by rw[N5,ah];exact hown');have Hb:=Aa (hb.o.trans hb');clear hown' hb')
   go_ret;refine⟨_,rfl,?_,Hb.o⟩;rw[Hsp.o];exact Ho.o
theorem Xi{b s:List UInt8}(h1:b≠[110])(h2:b≠[116])(h3:b≠[102]):Bz b s=false:=by
 unfold Bz;rw[if_neg h1,if_neg h2,if_neg h3]
theorem Qic(s:List UInt8):Bz [116] s=(Fk s && !(s == [39,39])):=by
 show (decide (2<s.length) && decide (s.head?=some 39) && decide (s.getLast?=some 39) && Dl (s.drop 1).dropLast)=((decide (2<=s.length) && decide (s.head?=some 39) && decide (s.getLast?=some 39) && Dl (s.drop 1).dropLast) && !(s == [39,39]));rcases aG 2 s.length with h|h
 ·have e1:decide (2<s.length)=true:=bg;have e2:decide (2<=s.length)=true:=aM;have e3:(s == [39,39])=false:=by
   rw[beq_eq_false_iff_ne];rintro rfl;simp at h
  rw[e1,e2,e3];simp
 have e1:decide (2<s.length)=false:=aM;rw[e1];match s,h with
 |[],_=>rfl
 |[_],_=>rfl
 |[a,b],_=>
  by_cases ha:a=39
  ·by_cases hb:b=39
   ·subst ha;subst hb;rfl
   simp[hb]
  simp[ha]
theorem Sl(b s:List UInt8)(w:World)(hs:s.length<=4000000):
  Calls prog 123 #[b,s] w fun e w'=>e=.returned (.bool (Bz b s))/\Below w w w':=by
 by_cases h1:b=[110]
 ·subst h1;have Hp:=Aa (fun W=>Dg s 999999 W hs aH);have hf:Bz [110] s=(match Cn s with|some n=>decide (0<n)|none=>false):=rfl;have hv:(Dp s 999999 && (s != [48]))=Bz [110] s:=by
   rw[hf];cases hd:Cn s with
   |none=>rw[Mr hd];rfl
   |some n=>
    obtain⟨h9,e⟩:=Ca.1 hd;rw[Mn hd];have e1:decide (n<=999999)=true:=by simpa using h9
    rw[e1,Bool.true_and];by_cases h0:n=0
    ·subst h0;rw[e,Eb aH];decide
    have hne:s≠[48]:=by
     intro h;rw[e]at h;have:Bb n=Bb 0:=by rw[h,Eb (n:=0) aH];decide
     exact h0 (Qf6 this)
    have e2:(s != [48])=true:=by simpa using hne
    rw[e2];simp;omega
  have Hv:=Aa hv;clear hf hv;go_enter func123,ntmps123;go_wp2_with fail;refine(Hp.o _).mono ?_;rintro e w' ⟨n,hn,rfl,_,hb⟩;have Hb:=Aa hb;clear hb;rcases Bool.eq_false_or_eq_true (Dp s 999999)with ho|ho
  ·have Ho:=Aa ho;rw[ho];clear ho;go_wp2_with fail;go_ret;exact⟨Ea (Cs (by rw[<-Hv.o,Ho.o];rfl)),Hb.o⟩
  have Ho:=Aa ho;rw[ho];clear ho;go_wp2_with fail;go_ret;exact⟨Ea (Cs (by rw[<-Hv.o,Ho.o];rfl)),Hb.o⟩
 by_cases h2:b=[116]
 ·subst h2;have Hp:=Aa (fun W=>Vg s W hs);have Hv:=Aa (Qic s);clear h1;go_enter func123,ntmps123;go_wp2_with fail;refine(Hp.o _).mono ?_;rintro e w' ⟨rfl,rfl⟩;rcases Bool.eq_false_or_eq_true (Fk s)with ho|ho
  ·have Ho:=Aa ho;rw[ho];clear ho;rcases Bool.eq_false_or_eq_true (s == [39,39])with hq|hq
   ·have Hq:=Aa hq;have hq2:(s != [39,39])=false:=by simp[bne,hq]
    go_wp2_with fail;go_ret;exact⟨Ea (Cs (by rw[Hv.o,Ho.o,Hq.o];rfl)),Aq _ _⟩
   have Hq:=Aa hq;have hq2:(s != [39,39])=true:=by simp[bne,hq]
   go_wp2_with fail;go_ret;exact⟨Ea (Cs (by rw[Hv.o,Ho.o,Hq.o];rfl)),Aq _ _⟩
  have Ho:=Aa ho;rw[ho];clear ho;go_wp2_with fail;go_ret;exact⟨Ea (Cs (by rw[Hv.o,Ho.o];rfl)),Aq _ _⟩
 by_cases h3:b=[102]
 ·subst h3;have Hv:=Aa (show Bz [102] s=(s == [121,101,115])by show decide (s=[121,101,115])=_;by_cases h:s=[121,101,115]<;>simp[h]);clear h1 h2;go_enter func123,ntmps123;go_wp2_with fail;go_ret;exact⟨Ea (Cs Hv.o.symm),Aq _ _⟩
 have Hv:=Aa (Xi (s:=s) h1 h2 h3);have q1:(b == [110])=false:=f9;have q2:(b == [116])=false:=fa;have q3:(b == [102])=false:=by simpa using h3
 clear h1 h2 h3;go_enter func123,ntmps123;go_wp2_with fail;go_ret;exact⟨Ea (Cs Hv.o.symm),Aq _ _⟩
def Cp(o:Option Fd)(w:World)(e:Ending)(w':World):Prop:=
 (match o with
  |some f=>e=.returned (.tuple #[sfV f,.bool true])
  |none=>∃(x:Int) (a b c:ByteArray),e=.returned (.tuple #[.agg #[.int .i64 x,.string a,.string b,.string c],.bool false]))/\Below w w w'
theorem Cp.no{w w':World}{e:Ending}{o:Option Fd}(ho:o=none){x:Int}{a b c:ByteArray}(he:e=.returned (.tuple #[.agg #[.int .i64 x,.string a,.string b,.string c],.bool false]))(hb:Below w w w'):Cp o w e w':=by
 rw[ho];exact⟨⟨x,a,b,c,he⟩,hb⟩
theorem Cp.yes{w w':World}{e:Ending}{o:Option Fd}{f:Fd}(ho:o=some f)(he:e=.returned (.tuple #[sfV f,.bool true]))(hb:Below w w w'):Cp o w e w':=by
 rw[ho];exact⟨he,hb⟩
theorem Nb{w:World}{base:Nat}{v:Value}{a b:List UInt8}(h:w.ownsRow base 9 1 v [a,b].length (Bt [a,b])):
  ∃g c,v=.slice (some ⟨g,0,none⟩) 2 c/\base<=g/\g<w.heap.size/\w.cell? ⟨g,0,none⟩=a/\w.cell? ⟨g,1,none⟩=b:=by
 rcases h.2 with⟨_,h0⟩|⟨g,cap,cur,rfl,hb,hh,_⟩
 ·simp at h0
 have hc:=fun j u hu=>h.cells (g:=g) rfl j u hu;have e1:∀j,(⟨g,0,none⟩:Addr).add j=⟨g,j,none⟩:=fun j=>bB;refine⟨g,cap,rfl,hb,(h.lt g rfl).2,?_,?_⟩
 ·have:=hc 0 _ rfl;rwa [e1]at this
 have:=hc 1 _ rfl;rwa [e1]at this
theorem Ga{w:World}{base:Nat}{v:Value}{a b d:List UInt8}(h:w.ownsRow base 9 1 v [a,b,d].length (Bt [a,b,d])):
  ∃g c,v=.slice (some ⟨g,0,none⟩) 3 c/\base<=g/\g<w.heap.size/\w.cell? ⟨g,0,none⟩=a/\w.cell? ⟨g,1,none⟩=b/\w.cell? ⟨g,2,none⟩=d:=by
 rcases h.2 with⟨_,h0⟩|⟨g,cap,cur,rfl,hb,hh,_⟩
 ·simp at h0
 have hc:=fun j u hu=>h.cells (g:=g) rfl j u hu;have e1:∀j,(⟨g,0,none⟩:Addr).add j=⟨g,j,none⟩:=fun j=>bB;refine⟨g,cap,rfl,hb,(h.lt g rfl).2,?_,?_,?_⟩
 ·have:=hc 0 _ rfl;rwa [e1]at this
 ·have:=hc 1 _ rfl;rwa [e1]at this
 have:=hc 2 _ rfl;rwa [e1]at this
theorem Sa(st:UInt8)(s:List UInt8)(w:World)(hs:s.length<=1000)(hp:(Ai 58 s).length≠(if st=69 then 2 else 3)):
  Calls prog 109 #[s,.int .u8 (st.toNat:Int)] w (Cp (Br st s) w):=by
 have hno:Br st s=none:=by
  unfold Br;by_cases h:st=69
  ·rw[if_pos h]at hp ⊢;have:J2 (Ai 58 s)=none:=by
    cases hh:J2 (Ai 58 s)with
    |none=>rfl
    |some x=>rw[(Qh7 (n:=x.1) (b:=x.2)).1 hh |>.1]at hp;simp at hp
   rw[this]
  rw[if_neg h]at hp ⊢;have:Kw (Ai 58 s)=none:=by
   cases hh:Kw (Ai 58 s)with
   |none=>rfl
   |some x=>rw[(Fy (n:=x.1) (b:=x.2.1) (c:=x.2.2)).1 hh |>.1]at hp;simp at hp
  rw[this]
 have Hno:=Aa hno;have Hl:=Aa (E7 58 s);have hst:=st.toNat_lt;clear hno;have Hcut:=Aa (fun W=>Cg s 58 58 rfl W aH);generalize Ai 58 s=ps at hp Hl Hcut;by_cases h69:st=69
 ·rw[if_pos h69]at hp;have t1:((st.toNat:Int) != 69)=false:=by have:=Be h69;simpa using this
  have t2:((st.toNat:Int) == 69)=true:=Be h69;have t3:((ps.length:Int) != 2)=true:=eW;clear h69 hp;go_enter func109,ntmps109;go_wp2_with fail;refine(Hcut.o _).mono ?_;rintro e w1 ⟨v,rfl,ho,hb⟩;obtain⟨A,c,rfl,_⟩:=B9.own ho;obtain⟨hc,hfz,hz⟩:=By hb;have Hb:=Aa (((Aq w.heap.size w).alloc (Ap _) _).trans (hb.mono aL));clear hb ho;go_wp2_with fail;all_goals
   refine aF (v:=.tuple #[sf0,.bool false]) (by simp[results,results109,go_sem,sf0,hc]) rfl ?_;exact Cp.no Hno.o rfl ((((Hb.o.setCell (Ap _) _).setCell (Ap _) _).setCell (Ap _) _).setCell (Ap _) _)
 rw[if_neg h69]at hp;have t1:((st.toNat:Int) != 69)=true:=by have:=Am h69;simpa using this
 have t2:((st.toNat:Int) == 69)=false:=Am h69;have t3:((ps.length:Int) != 3)=true:=eW;clear h69 hp;go_enter func109,ntmps109;go_wp2_with fail;refine(Hcut.o _).mono ?_;rintro e w1 ⟨v,rfl,ho,hb⟩;obtain⟨A,c,rfl,_⟩:=B9.own ho;obtain⟨hc,hfz,hz⟩:=By hb;have Hb:=Aa (((Aq w.heap.size w).alloc (Ap _) _).trans (hb.mono aL));clear hb ho;go_wp2_with fail;all_goals
  refine aF (v:=.tuple #[sf0,.bool false]) (by simp[results,results109,go_sem,sf0,hc]) rfl ?_;exact Cp.no Hno.o rfl ((((Hb.o.setCell (Ap _) _).setCell (Ap _) _).setCell (Ap _) _).setCell (Ap _) _)
theorem Sx(a b:List UInt8):Dp a 200=false\/(Dp a 200=true/\Cn a=some 0)\/(∃n,Dp a 200=true/\Cn a=some n/\1<=n/\n<=200/\Aw b=false)\/(∃n,Dp a 200=true/\Cn a=some n/\1<=n/\n<=200/\Aw b=true):=by
 cases hd:Cn a with
 |none=>exact .inl (Mr hd)
 |some n=>
  rw[Mn hd];by_cases h:n<=200
  ·have e:decide (n<=200)=true:=bg;rw[e];by_cases h0:n=0
   ·subst h0;exact .inr (.inl ⟨rfl,rfl⟩)
   rcases Bool.eq_false_or_eq_true (Aw b)with hb|hb
   ·exact .inr (.inr (.inr ⟨n,rfl,rfl,by omega,h,hb⟩))
   exact .inr (.inr (.inl ⟨n,rfl,rfl,by omega,h,hb⟩))
  left;simpa using h
theorem To{a b:List UInt8}(h:Dp a 200=false\/Cn a=some 0\/Aw b=false):J2 [a,b]=none:=by
 cases hh:J2 [a,b]with
 |none=>rfl
 |some x=>
  obtain⟨n,c⟩:=x;obtain⟨e,h1,h2,h3⟩:=Qh7.1 hh;simp at e;obtain⟨rfl,rfl⟩:=e;have hd:Cn (Bb n)=some n:=Ca.2 ⟨by omega,rfl⟩;rcases h with h|h|h
  ·rw[Mn hd]at h;simp at h;omega
  ·rw[hd]at h;injection h with h;omega
  rw[h3]at h;cases h
theorem Vq{a b c:List UInt8}(h:Dp a 200=false\/Cn a=some 0\/Aw b=false):Kw [a,b,c]=none:=by
 cases hh:Kw [a,b,c]with
 |none=>rfl
 |some x=>
  obtain⟨n,d,f⟩:=x;obtain⟨e,h1,h2,h3⟩:=Fy.1 hh;simp at e;obtain⟨rfl,rfl,rfl⟩:=e;have hd:Cn (Bb n)=some n:=Ca.2 ⟨by omega,rfl⟩;rcases h with h|h|h
  ·rw[Mn hd]at h;simp at h;omega
  ·rw[hd]at h;injection h with h;omega
  rw[h3]at h;cases h
theorem Qeq{a b:List UInt8}{n:Nat}(hd:Cn a=some n)(h1:1<=n)(h2:n<=200)(hb:Aw b=true):J2 [a,b]=some (n,b):=Qh7.2 ⟨by rw[(Ca.1 hd).2],h1,h2,hb⟩
theorem J8{a b c:List UInt8}{n:Nat}(hd:Cn a=some n)(h1:1<=n)(h2:n<=200)(hb:Aw b=true):Kw [a,b,c]=some (n,b,c):=Fy.2 ⟨by rw[(Ca.1 hd).2],h1,h2,hb⟩
theorem Qgn(s a b:List UInt8)(w:World)(hs:s.length<=1000)(hp:Ai 58 s=[a,b])(ho:Dp a 200=false):
  Calls prog 109 #[s,.int .u8 69] w (Cp (Br 69 s) w):=by
 have hal:=Ak 58 s a bz;have hbl:=Ak 58 s b bz;have hF:Br 69 s=(match J2 [a,b]with|some (n,b)=>some ⟨n,b,Kd.nil,[]⟩|none=>none):=cF;have Hcut:=Aa (fun W=>Cg s 58 58 rfl W aH);rw[hp]at Hcut;have Hnum:=Aa (fun W=>Dg a 200 W aH aH);have Hname:=Aa (fun W=>Cd b W aH);clear hp;rw[To (.inl ho)]at hF;have HF:=Aa hF;have Ho:=Aa ho;clear hF ho;go_enter func109,ntmps109;go_wp2_with fail;refine(Hcut.o _).mono ?_;rintro e w1 ⟨v,rfl,ho,hb⟩;obtain⟨g,c,rfl,hg1,hg2,c0,c1⟩:=Nb ho;simp at hg1;obtain⟨hc,hfz,hz⟩:=By hb;have Hb:=Aa (((Aq w.heap.size w).alloc (Ap _) _).trans (hb.mono aL));have hzz:=hz w.heap.size aL;clear hb ho;go_wp2_with fail;refine(Hnum.o _).mono ?_;rintro e w2 ⟨n,hn,rfl,hdn,hb2⟩;rw[Ho.o];obtain⟨hc2,hfz2,hz2⟩:=By hb2;have Hb2:=Aa (Hb.o.trans (hb2.mono Hb.o.size));have hsz:=Hb2.o.size;have hz3:=hz2 _ hzz;clear hb2;go_wp2_with fail;refine aF (v:=.tuple #[.agg #[.int .i64 n,b,a8,a8],.bool false]) (by simp[results,results109,go_sem,hc,hc2,hzz,hz3]) rfl ?_;exact Cp.no HF.o rfl aU
theorem Qgv(s a b:List UInt8)(w:World)(hs:s.length<=1000)(hp:Ai 58 s=[a,b])(ho:Dp a 200=true)(hd:Cn a=some 0):
  Calls prog 109 #[s,.int .u8 69] w (Cp (Br 69 s) w):=by
 have hal:=Ak 58 s a bz;have hbl:=Ak 58 s b bz;have hF:Br 69 s=(match J2 [a,b]with|some (n,b)=>some ⟨n,b,Kd.nil,[]⟩|none=>none):=cF;have Hcut:=Aa (fun W=>Cg s 58 58 rfl W aH);rw[hp]at Hcut;have Hnum:=Aa (fun W=>Dg a 200 W aH aH);have Hname:=Aa (fun W=>Cd b W aH);clear hp;rw[To (.inr (.inl hd))]at hF;have HF:=Aa hF;have Ho:=Aa ho;have Hd:=Aa hd;clear hF ho hd;go_enter func109,ntmps109;go_wp2_with fail;refine(Hcut.o _).mono ?_;rintro e w1 ⟨v,rfl,ho,hb⟩;obtain⟨g,c,rfl,hg1,hg2,c0,c1⟩:=Nb ho;simp at hg1;obtain⟨hc,hfz,hz⟩:=By hb;have Hb:=Aa (((Aq w.heap.size w).alloc (Ap _) _).trans (hb.mono aL));have hzz:=hz w.heap.size aL;clear hb ho;go_wp2_with fail;refine(Hnum.o _).mono ?_;rintro e w2 ⟨n,hn,rfl,hdn,hb2⟩;rw[Ho.o];obtain⟨hc2,hfz2,hz2⟩:=By hb2;have Hb2:=Aa (Hb.o.trans (hb2.mono Hb.o.size));have hsz:=Hb2.o.size;have hz3:=hz2 _ hzz;clear hb2;obtain rfl:=hdn 0 Hd.o;clear hdn;go_wp2_with fail;refine aF (v:=.tuple #[.agg #[.int .i64 0,b,a8,a8],.bool false]) (by simp[results,results109,go_sem,hc,hc2,hzz,hz3]) rfl ?_;exact Cp.no HF.o rfl aU
theorem Qgf(s a b:List UInt8)(w:World)(hs:s.length<=1000)(hp:Ai 58 s=[a,b])(n0:Nat)(ho:Dp a 200=true)(hd:Cn a=some n0)(h1:1<=n0)(h2:n0<=200)(hnm:Aw b=false):
  Calls prog 109 #[s,.int .u8 69] w (Cp (Br 69 s) w):=by
 have hal:=Ak 58 s a bz;have hbl:=Ak 58 s b bz;have hF:Br 69 s=(match J2 [a,b]with|some (n,b)=>some ⟨n,b,Kd.nil,[]⟩|none=>none):=cF;have Hcut:=Aa (fun W=>Cg s 58 58 rfl W aH);rw[hp]at Hcut;have Hnum:=Aa (fun W=>Dg a 200 W aH aH);have Hname:=Aa (fun W=>Cd b W aH);clear hp;rw[To (.inr (.inr hnm))]at hF;have HF:=Aa hF;have Ho:=Aa ho;have Hd:=Aa hd;have Hnm:=Aa hnm;clear hF ho hd hnm;go_enter func109,ntmps109;go_wp2_with fail;refine(Hcut.o _).mono ?_;rintro e w1 ⟨v,rfl,ho,hb⟩;obtain⟨g,c,rfl,hg1,hg2,c0,c1⟩:=Nb ho;simp at hg1;obtain⟨hc,hfz,hz⟩:=By hb;have Hb:=Aa (((Aq w.heap.size w).alloc (Ap _) _).trans (hb.mono aL));have hzz:=hz w.heap.size aL;clear hb ho;go_wp2_with fail;refine(Hnum.o _).mono ?_;rintro e w2 ⟨n,hn,rfl,hdn,hb2⟩;rw[Ho.o];obtain⟨hc2,hfz2,hz2⟩:=By hb2;have Hb2:=Aa (Hb.o.trans (hb2.mono Hb.o.size));have hsz:=Hb2.o.size;have hz3:=hz2 _ hzz;clear hb2;obtain rfl:=hdn n0 Hd.o;clear hdn;go_wp2_with fail;refine(Hname.o _).mono ?_;rintro e w3 ⟨rfl,rfl⟩;rw[Hnm.o];go_wp2_with fail;refine aF (v:=.tuple #[.agg #[.int .i64 n0,b,a8,a8],.bool false]) (by simp[results,results109,go_sem,hc,hc2,hzz,hz3]) rfl ?_;exact Cp.no HF.o rfl aU
theorem Qfo(s a b:List UInt8)(w:World)(hs:s.length<=1000)(hp:Ai 58 s=[a,b])(n0:Nat)(ho:Dp a 200=true)(hd:Cn a=some n0)(h1:1<=n0)(h2:n0<=200)(hnm:Aw b=true):
  Calls prog 109 #[s,.int .u8 69] w (Cp (Br 69 s) w):=by
 have hal:=Ak 58 s a bz;have hbl:=Ak 58 s b bz;have hF:Br 69 s=(match J2 [a,b]with|some (n,b)=>some ⟨n,b,Kd.nil,[]⟩|none=>none):=cF;have Hcut:=Aa (fun W=>Cg s 58 58 rfl W aH);rw[hp]at Hcut;have Hnum:=Aa (fun W=>Dg a 200 W aH aH);have Hname:=Aa (fun W=>Cd b W aH);clear hp;rw[Qeq hd h1 h2 hnm]at hF;have HF:=Aa hF;have Ho:=Aa ho;have Hd:=Aa hd;have Hnm:=Aa hnm;clear hF ho hd hnm;go_enter func109,ntmps109;go_wp2_with fail;refine(Hcut.o _).mono ?_;rintro e w1 ⟨v,rfl,ho,hb⟩;obtain⟨g,c,rfl,hg1,hg2,c0,c1⟩:=Nb ho;simp at hg1;obtain⟨hc,hfz,hz⟩:=By hb;have Hb:=Aa (((Aq w.heap.size w).alloc (Ap _) _).trans (hb.mono aL));have hzz:=hz w.heap.size aL;clear hb ho;go_wp2_with fail;refine(Hnum.o _).mono ?_;rintro e w2 ⟨n,hn,rfl,hdn,hb2⟩;rw[Ho.o];obtain⟨hc2,hfz2,hz2⟩:=By hb2;have Hb2:=Aa (Hb.o.trans (hb2.mono Hb.o.size));have hsz:=Hb2.o.size;have hz3:=hz2 _ hzz;clear hb2;obtain rfl:=hdn n0 Hd.o;clear hdn;go_wp2_with fail;refine(Hname.o _).mono ?_;rintro e w3 ⟨rfl,rfl⟩;rw[Hnm.o];go_wp2_with fail;refine aF (v:=.tuple #[sfV ⟨n0,b,Kd.nil,[]⟩,.bool true]) (by simp[results,results109,go_sem,sfV,Kd.nil,Bj,Bs,hc,hc2,hzz,hz3]) rfl ?_;exact Cp.yes HF.o rfl aU
theorem S6(s a b:List UInt8)(w:World)(hs:s.length<=1000)(hp:Ai 58 s=[a,b]):
  Calls prog 109 #[s,.int .u8 69] w (Cp (Br 69 s) w):=by
 rcases Sx a b with ho|⟨ho,hd⟩|⟨n0,ho,hd,h1,h2,hnm⟩|⟨n0,ho,hd,h1,h2,hnm⟩
 ·exact Qgn s a b w hs hp ho
 ·exact Qgv s a b w hs hp ho hd
 ·exact Qgf s a b w hs hp n0 ho hd h1 h2 hnm
 exact Qfo s a b w hs hp n0 ho hd h1 h2 hnm
end
end Go.Proofs.YtkgkoicedddkmaaGreatDoor
