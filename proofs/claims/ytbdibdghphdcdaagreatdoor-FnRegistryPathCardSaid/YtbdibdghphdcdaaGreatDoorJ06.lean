/- Texts joined. Conditions: as each theorem names them. -/
import Derived.Test.YtbdibdghphdcdaaGreatDoorJ03
set_option maxRecDepth 100000
set_option maxHeartbeats 32000000
set_option linter.unusedVariables false
set_option linter.unusedSimpArgs false
namespace Go.Proofs.YtbdibdghphdcdaaGreatDoor
open Go.RowKit Go.Proofs.Tryz
section
attribute [local go_sem] Qo7 Qok Qoa Ql9 ByteArray.mk_append_mk
theorem S8(S:List Ty)(hT:∀t∈S,Ft t):∀(n:Nat) (k:Kd),(Dt S n k).length<=6*n
 |0,_=>by simp[Dt]
 |n+1,k=>by
  unfold Dt;split
  ·simp;omega
  split
  ·simp;omega
  split
  ·simp;omega
  split
  ·simp;omega
  split
  ·simp;omega
  cases hf:Bt S k.name with
  |none=>simp
  |some t=>
   simp only;split
   ·simp;omega
   cases hfs:t.fields with
   |nil=>simp
   |cons f fs=>
    have h1:=((hT t (Cp hf).1).2.2.1.1 f d9).2.1;have h2:=Dk 2 f.tag bY;have ih:=S8 S hT n f.kind;simp only;split
    ·simp;omega
    simp;omega
def Zc(b:List UInt8):List UInt8:=if b=[110]then[48]else if b=[116]then[39,39]else[110,111]
theorem Qdc(b:List UInt8)(w:World)(hb:b=[110]\/b=[116]\/b=[102]):
  Calls prog 127 #[b] w fun e w'=>e=.returned (.string ⟨(Zc b).toArray⟩)/\w=w':=by
 rcases hb with rfl|rfl|rfl
 ·exact jL
 ·exact jL
 go_enter func127,ntmps127;go_wp2_with fail;exact kg
def Qh4(c:UInt8):List UInt8:=if c=91 then[91,93]else[45]
theorem Vn(v:Value)(c:UInt8)(t:List UInt8)(w:World)(hc:c=91\/c=63)(hl:t.length<=1000):
  Calls prog 103 #[v,.string ⟨(c::t).toArray⟩] w fun e w'=>e=.returned (.string ⟨(Qh4 c).toArray⟩)/\w=w':=by
 rcases hc with rfl|rfl
 ·go_enter func103,ntmps103;go_wp2_with fail;exact kg
 go_enter func103,ntmps103;go_wp2_with fail;exact kg
theorem Ps{k:Kd}(h:Cq k)(hs:k.signs=[])(hb:k.base≠[64]):Be k=k.base/\(k.base=[110]\/k.base=[116]\/k.base=[102]):=by
 refine⟨by unfold Be B6;rw[hs,if_neg hb];rfl,?_⟩;rcases h.2.1 with h|h
 ·exact absurd h.1 hb
 exact h.1
theorem Rs(v:Value)(xs:List (Ty × Value))(k:Kd)(w:World)(hsc:Gl w v xs)(hk:Cq k)(hs:k.signs=[])(hb:k.base≠[64]):
  Calls prog 103 #[v,.string ⟨(Be k).toArray⟩] w fun e w'=>e=.returned (.string ⟨(Zc k.base).toArray⟩)/\Below w w w':=by
 have Hr:=Aa (fun W h=>Fb v xs k W h hk);have hx:J6 xs k=none:=if_neg (fun h=>hb h.2);rw[hx]at Hr;obtain⟨e1,e2⟩:=Ps hk hs hb;rw[e1]at Hr ⊢;have Hsc:=Aa hsc;have Hp:=Aa (fun W=>Qdc k.base W e2);have He2:=Aa e2;unfold Xp Qo at Hr;generalize k.base=b at *;clear hs hb e1 hsc hx;obtain⟨c,hc,t1,t2⟩:∃c,b=[c]/\((c.toNat:Int) == 91)=false/\((c.toNat:Int) == 63)=false:=by
  rcases e2 with rfl|rfl|rfl
  ·exact⟨110,rfl,by decide,by decide⟩
  ·exact⟨116,rfl,by decide,by decide⟩
  exact⟨102,rfl,by decide,by decide⟩
 clear e2;subst hc;go_enter func103,ntmps103;go_wp2_with fail;refine(Hr.o _ Hsc.o).mono ?_;rintro e w1 ⟨rfl,hb1⟩;go_wp2_with fail;refine(Hp.o _).mono ?_;rintro e w2 ⟨rfl,rfl⟩;go_wp2_with fail;go_ret;exact⟨rfl,hb1.alloc hb1.size _⟩
def Ja(l:List UInt8)(w:World)(e:Ending)(w':World):Prop:=e=.returned l/\Below w w w'
theorem Qdo(xv:Value)(xs:List (Ty × Value))(hok:∀x∈xs,Ft x.1)(n:Nat)(k:Kd)(w:World)(hsc:Gl w xv xs)(hk:Cq k)(hs:k.signs=[])(hb:k.base=[64])(t:Ty)(fv:Value)(hx:D8 xs k.name=some (t,fv))
  (hn:n<=9) (ih:t.sort=85->∀f fs,t.fields=f::fs->∀W,Gl W xv xs->Calls prog 103 #[xv,.string ⟨(Be f.kind).toArray⟩] W (Ja (Dt (Af xs) n f.kind) W)):
  Calls prog 103 #[xv,.string ⟨(Be k).toArray⟩] w (Ja (Dt (Af xs) (n+1) k) w):=by
 have Hr:=Aa (fun W h=>Fb xv xs k W h hk);have Hlen:=Aa (S8 (Af xs) (fun t ht=>by obtain⟨x,hx,rfl⟩:=ax.1 ht;exact hok x hx));have hrx:J6 xs k=some (t,fv):=(if_pos ⟨hs,hb⟩).trans hx
 have HF:=Aa (show Dt (Af xs) (n+1) k=if t.sort=82 then[123,125]else match t.fields with|[]=>[]|f::_=>if t.sort=69 then 35::Bb f.tag else 60::(Bb f.tag++61::(Dt (Af xs) n f.kind++[62]))from by
  rw[Dt,if_neg eK,if_neg eK,if_neg bL,if_neg bL,if_neg bL,Jc,hx];rfl)
 have hto:=hok _ (Cu hx).1;have hkb:Be k=64::(k.name++[59]):=dA;have hnl:k.name.length<=3:=by
  rcases hk.2.1 with h|h
  ·exact(Dz.1 h.2).2.1
  rw[hb]at h;exact absurd h.1 aJ
 have hfd:Dv w fv t.fields:=by obtain⟨_,_,_,_,_,hf⟩:=hsc;exact hf _ (Cu hx).1
 rw[hrx]at Hr;rw[hkb]at Hr ⊢;obtain⟨A,c,rfl,hfl,hrow⟩:=hfd;have Hsc:=Aa hsc;have Hrow:=Aa hrow;have Hto:=Aa hto;have Ih:=Aa ih;unfold Xp Mj at Hr;simp only[]at hto;clear hsc hk hs hb hx hkb hrow hto hrx ih hok;by_cases h82:t.sort=82
 ·have t82:((t.sort.toNat:Int) == 82)=true:=Bm (d:=82) h82;have HF2:=Aa (HF.o.trans (if_pos h82));clear h82 HF;go_enter func103,ntmps103;go_wp2_with fail;refine(Hr.o _ Hsc.o).mono ?_;rintro e w1 ⟨rfl,hb1⟩;go_wp2_with fail;go_ret;exact⟨by rw[HF2.o];rfl,hb1.alloc hb1.size _⟩
 have t82:((t.sort.toNat:Int) == 82)=false:=Aq (d:=82) h82;have HF2:=Aa (HF.o.trans (if_neg h82));have hne:t.fields≠[]:=fun h=>h82 (Hto.o.2.2.2.2 h);obtain⟨f,fs,hfs⟩:∃f fs,t.fields=f::fs:=by
  cases h:t.fields with
  |nil=>exact absurd h hne
  |cons f fs=>exact⟨f,fs,rfl⟩
 have hf0:0<t.fields.length:=d9;have hge:t.fields[0]=f:=by simp[hfs]
 have hft:=Hto.o.2.2.1.1 f d9;have htag:f.tag<=200:=hft.2.1;have hdl:=Dk 2 f.tag bY;have Hd:=Aa (fun W=>Gr f.tag f.tag W (An _) aH);have hi0:(0:Int)<(t.fields.length:Int):=aH;have HF3:=@Aa (Dt (Af xs) (n+1) k=if t.sort=69 then 35::Bb f.tag else 60::(Bb f.tag++61::(Dt (Af xs) n f.kind++[62]))) (by rw[HF2.o,hfs]);have Hfs:=Aa hfs;have Hge:=Aa hge;obtain⟨b,off,rfl,hbl,g0,g1,g2,g3⟩:=Dv.at_ Hrow.o hf0;rw[hge]at g0 g1 g2 g3;simp only[Nat.zero_mul,Nat.add_zero]at g0 g1 g2 g3;have H82:=Aa h82;clear HF2 HF h82 hne hfs hge hft g1 g3;by_cases h69:t.sort=69
 ·have t69:((t.sort.toNat:Int) == 69)=true:=Bm (d:=69) h69;have HF4:=Aa (HF3.o.trans (if_pos h69));clear h69 HF3;go_enter func103,ntmps103;go_wp2_with fail;refine(Hr.o _ Hsc.o).mono ?_;rintro e w1 ⟨rfl,hb1⟩;have g0':=(hb1.cell (p:=⟨b,off,none⟩) hbl).trans g0;have hbl1:b<w1.heap.size:=ac hbl hb1.size;have hbn:¬(b=w1.heap.size):=aH;have Hb1:=Aa hb1;clear hb1 g0 g2;go_wp2_with fail;refine(Hd.o _).mono ?_;rintro e w2 ⟨rfl,hb2⟩;go_wp2_with fail;go_ret;exact⟨by rw[HF4.o];simp,(Hb1.o.alloc Hb1.o.size _).trans (hb2.mono (by have:=Hb1.o.size;simp;omega))⟩
 have t69:((t.sort.toNat:Int) == 69)=false:=Aq (d:=69) h69;have HF4:=Aa (HF3.o.trans (if_neg h69));have h85:t.sort=85:=by
  rcases Hto.o.1 with h|h|h
  ·exact absurd h H82.o
  ·exact h
  exact absurd h h69
 have Ih2:=Aa (Ih.o h85 f fs Hfs.o);have hsl:=Hlen.o n f.kind;generalize Dt (Af xs) n f.kind=sl at *;generalize Be f.kind=kd at *;clear h69 HF3 h85 Ih;go_enter func103,ntmps103;go_wp2_with fail;refine(Hr.o _ Hsc.o).mono ?_;rintro e w1 ⟨rfl,hb1⟩;have g0':=(hb1.cell (p:=⟨b,off,none⟩) hbl).trans g0;have g2':=(hb1.cell (p:=⟨b,off+2,none⟩) hbl).trans g2;have hbl1:b<w1.heap.size:=ac hbl hb1.size;have hbn:¬(b=w1.heap.size):=aH;have Hb1:=Aa hb1;clear hb1 g0 g2;go_wp2_with fail;obtain⟨W0,hW0⟩:∃W0,W0=w1.alloc (.cells #[.int .u8 (t.sort.toNat:Int),t.name,.slice (some ⟨b,off,none⟩) t.fields.length c] 86):=⟨_,rfl⟩
 rw[<-hW0];have y2:W0.cell? (w1,2)=some (.slice (some ⟨b,off,none⟩) t.fields.length c):=by rw[hW0];simp
 have y0:W0.cell? ⟨b,off,none⟩=(f.tag:Int):=by rw[hW0,World.cell?_alloc_old _ _ _ hbn];exact g0'
 have y3:W0.cell? ⟨b,off+2,none⟩=kd:=by rw[hW0,World.cell?_alloc_old _ _ _ hbn];exact g2'
 have hz0:W0.heap.size=w1.heap.size+1:=by rw[hW0];simp
 have hB5:w1.heap.size<W0.heap.size:=aH;have hb5:b<W0.heap.size:=aH;have Hb0:=@Aa (Below w w W0) (by rw[hW0];exact Hb1.o.alloc Hb1.o.size _);have Hsc0:=Aa (Hsc.o.below Hb0.o);generalize w1.heap.size=B5 at *;clear hW0 hz0 g0' g2';refine Jo [39,40,41,42,43,44,45,46,47,48,49,50,51,52,53,54,55,4]
  (fun i v W=>match i with|0=>v=(B5,2)|1=>v=.slice (some ⟨b,off,none⟩) t.fields.length c|2=>v=.pointer (some ⟨b,off,none⟩)|3=>v=.pointer (some ⟨b,off,none⟩)|4=>v=(f.tag:Int)|5=>v=.string ⟨(Bb f.tag).toArray⟩|6=>v=.string ⟨(60::Bb f.tag).toArray⟩|7=>v=.string ⟨(60::(Bb f.tag++[61])).toArray⟩|8=>v=xv|9=>v=(B5,2)|10=>v=.slice (some ⟨b,off,none⟩) t.fields.length c|11=>v=.pointer (some ⟨b,off,none⟩)|12=>v=.pointer (some ⟨b,off+2,none⟩)|13=>v=kd|14=>v=sl|15=>v=.string ⟨(60::(Bb f.tag++61::sl)).toArray⟩|16=>v=.string ⟨(60::(Bb f.tag++61::(sl++[62]))).toArray⟩|17=>v=.string ⟨(60::(Bb f.tag++61::(sl++[62]))).toArray⟩|_=>True)
  (fun L U W=>Below W0 W0 W) ((Ap _ _).drew) ?_ ?_
 ·repeat (first|exact Ak.nil|(refine Ak.cons ?_ ?_;rotate_left))
  all_goals
   rintro L U W hL hpre HR Hdep K hK;have hB:=HR.o;have c2:=(hB.cell (p:=⟨B5,2,none⟩) hB5).trans y2;have c0:=(hB.cell (p:=⟨b,off,none⟩) hb5).trans y0;have c3:=(hB.cell (p:=⟨b,off+2,none⟩) hb5).trans y3;first|(simp[Region.binds]at hpre;done)|simp[Region.binds]at hpre|clear hpre
  iterate 5
   ·exact ip
  ·exact jA
  ·exact iv
  ·exact iv
  iterate 6
   ·exact ip
  ·exact ju
  ·exact iv
  ·exact iv
  ·exact ip
 rintro L U W hL hφ hR;have e17:U 17=.string ⟨(60::(Bb f.tag++61::(sl++[62]))).toArray⟩:=hφ 17 aJ;simp only[e17];clear hφ;have Hb9:=Aa (Hb0.o.trans (hR.mono Hb0.o.size));clear hR;go_wp2_with fail;go_ret;exact⟨by rw[HF4.o];rfl,Hb9.o⟩
theorem Q8(S:List Ty)(n:Nat)(k:Kd)(c:UInt8)(t:List UInt8)(h:k.signs=c::t)(hc:c=91\/c=63):Dt S (n+1) k=Qh4 c:=by
 unfold Dt Qh4;rw[h];rcases hc with rfl|rfl
 ·rfl
 rfl
theorem Pe(S:List Ty)(n:Nat)(k:Kd)(h:k.signs=[])(hb:k.base=[110]\/k.base=[116]\/k.base=[102]):Dt S (n+1) k=Zc k.base:=by
 unfold Dt Zc;rw[h];rcases hb with hb|hb|hb<;>rw[hb]<;>rfl
theorem To{k:Kd}(h:Cq k){c:UInt8}{t:List UInt8}(hs:k.signs=c::t):c=91\/c=63:=by
 have:=h.1;rw[hs,List.all_cons,aw]at this;have:=this.1;unfold Bo at this;simpa using this
theorem Qe0(xv:Value)(xs:List (Ty × Value))(hok:∀x∈xs,Ft x.1)(hS:Jl (Af xs)):∀(n:Nat),n<=9->∀(k:Kd) (w:World),Gl w xv xs->Cq k->Cc (Af xs) k->Xi (Af xs) n k ->
  Calls prog 103 #[xv,.string ⟨(Be k).toArray⟩] w (Ja (Dt (Af xs) (n+1) k) w):=by
 intro n;induction n with
 |zero=>
  intro _ k w hsc hk hr he;cases hs:k.signs with
  |cons c t=>
   have hc:=To hk hs;have hkb:Be k=c::(t++B6 k):=dV;have hl:=hk.2.2;rw[hkb]at hl ⊢;rw[Q8 _ _ k c t hs hc];refine(Vn xv c (t++B6 k) w hc gn).mono ?_;rintro e w' ⟨rfl,rfl⟩;exact kK
  |nil=>
   by_cases hb:k.base=[64]
   ·obtain⟨t,_,h⟩:=he hs hb;exact absurd h (by simp[Cg])
   exact kL
 |succ n ih=>
  intro hn k w hsc hk hr he;cases hs:k.signs with
  |cons c t=>
   have hc:=To hk hs;have hkb:Be k=c::(t++B6 k):=dV;have hl:=hk.2.2;rw[hkb]at hl ⊢;rw[Q8 _ _ k c t hs hc];refine(Vn xv c (t++B6 k) w hc gn).mono ?_;rintro e w' ⟨rfl,rfl⟩;exact kK
  |nil=>
   by_cases hb:k.base=[64]
   ·have h1:=hr hb;rw[Jc]at h1;cases hx:D8 xs k.name with
    |none=>rw[hx]at h1;cases h1
    |some x=>
     obtain⟨t,fv⟩:=x;have hft:Bt (Af xs) k.name=some t:=(Cu hx).2.2;have hto:Ft t:=hok _ (Cu hx).1;refine Qdo xv xs hok (n+1) k w hsc hk hs hb t fv hx hn (fun h85 f fs hfs W hW=>?_);have hrf:Cc (Af xs) f.kind:=hS t (Cp hft).1 ew f d9;exact kM
   exact kL
theorem Xe{S:List Ty}(h:Gy S){k:Kd}(hr:Cc S k):Xi S 9 k:=by
 intro hs hb;have h1:=hr hb;cases hf:Bt S k.name with
 |none=>rw[hf]at h1;cases h1
 |some t=>exact⟨t,rfl,h.2.2 t (Cp hf).1⟩
theorem Qdv(xv:Value)(xs:List (Ty × Value))(h:Gy (Af xs))(k:Kd)(w:World)(hsc:Gl w xv xs)(hk:Cq k)(hr:Cc (Af xs) k):
  Calls prog 103 #[xv,.string ⟨(Be k).toArray⟩] w (Ja (Xg (Af xs) k) w):=
 Qe0 xv xs (fun x hx=>h.1.1 x.1 (ap hx)) h.2.1 9 (An _) k w hsc hk hr (Xe h hr)
theorem Nh(xv:Value)(xs:List (Ty × Value))(h:Gy (Af xs))(f:Fd)(w:World)(hsc:Gl w xv xs)(hk:Cq f.kind)(hr:Cc (Af xs) f.kind)(hl:f.given.length<=1000):
  Calls prog 76 #[xv,sfV f] w (Ja (J4 (Af xs) f) w):=by
 have HF:=@Aa (J4 (Af xs) f=if f.given=[]then Xg (Af xs) f.kind else f.given) rfl;have Hs:=Aa (fun W (h1:Gl W xv xs)=>Qdv xv xs h f.kind W h1 hk hr);have Hsc:=Aa hsc;unfold sfV;generalize Be f.kind=kd at *;clear h hk hr hsc;by_cases hg:f.given=[]
 ·have HF2:=Aa (HF.o.trans (if_pos hg));rw[hg];clear hg HF;go_enter func76,ntmps76;go_wp2_with fail;refine(Hs.o _ (Hsc.o.below ((Ap _ _).alloc (An _) _))).mono ?_;rintro e w1 ⟨rfl,hb1⟩;go_wp2_with fail;go_ret;exact⟨by rw[HF2.o];rfl,((Ap _ _).alloc (An _) _).trans (hb1.mono aK)⟩
 have HF2:=Aa (HF.o.trans (if_neg hg));have t1:f.given.isEmpty=false:=by simpa using hg
 have t2:(!f.given.isEmpty)=true:=by simp[t1]
 clear hg HF;go_enter func76,ntmps76;go_wp2_with fail;go_ret;exact⟨by rw[HF2.o];rfl,(Ap _ _).alloc (An _) _⟩
theorem Qaw(s:List UInt8)(f k:Nat)(hf:f<=k)(hk:k<s.length):(s.drop f).take (k+1 - f)=(s.drop f).take (k - f)++[s[k]]:=by
 have h1:k - f<(s.drop f).length:=aM;rw[show k+1 - f=(k - f)+1 by omega,Cn _ _ h1];simp[show f+(k - f)=k by omega]
theorem Qft(s:List UInt8)(f k:Nat)(hf:f<=k)(hk:k<s.length):s.drop f=(s.drop f).take (k - f)++s[k]::s.drop (k+1):=by
 have e1:(s.drop f).drop (k - f)=s[k]::s.drop (k+1):=by
  rw[List.drop_drop,show f+(k - f)=k by omega];exact List.drop_eq_getElem_cons hk
 rw[<-e1,List.take_append_drop]
theorem C9(s:List UInt8)(c:UInt8)(m:Int)(hm:m=(c.toNat:Int))(w:World)(hs:s.length<=4000000):
  Calls prog 69 #[s,.int .u8 m] w fun e w'=>
   ∃v,e=.returned v/\w'.ownsRow w 9 1 v (Al c s).length (Cb (Al c s))/\Below w w w':=by
 have Hm:=Aa hm;have Hlen:=Aa (Jz c s);clear hm;go_enter func69,ntmps69;go_wp2_with fail
 go_loopw [5,6,7] (fun v y i wr=>∃(ps:List (List UInt8)) (f k:Nat),i=.int .i64 k/\k<=s.length/\y=.int .i64 f/\f<=k/\ps.length<=k/\Hid (Al c s=ps++Al c (s.drop f))/\Hid (c∉(s.drop f).take (k - f)) /\
   Hid (wr.ownsRow w 9 1 v ps.length (Cb ps))/\Hid (Below w w wr)) (fun _ _ i _=>s.length - (intOf i).toNat)
 case atStart=>exact⟨[],0,0,rfl,ag _,rfl,An _,by simp,rfl,by simp[Hid],World.ownsRow_lit (base:=w.heap.size) (e:=9) (size:=1) w #[] 0 (An _) (ag _) rfl,(Ap _ _).alloc (An _) _⟩
 case round=>
  obtain⟨ps,f,k,rfl,hk,rfl,hf,hps,hsp,hno,hown,hb⟩:=hrel;by_cases hlt:k<s.length
  ·have hc:=(s[k]).toNat_lt;by_cases he:s[k]=c
   ·have t1:(((s[k]).toNat:Int) == m)=true:=by rw[Hm.o];exact Bm he
    have Hsp:=Aa (show Al c s=(ps++[(s.drop f).take (k - f)])++Al c (s.drop (k+1))by
     rw[hsp.o,Qft s f k hf hlt,he,Nj c _ _ hno.o];simp only[List.append_assoc,List.singleton_append];have e2:=Qft s f k hf hlt;rw[he]at e2;rw[<-e2])
    have Hz:=Aa hb.o.size;clear he;have k1:(0:Int)<=(f:Int):=aH;have k2:(f:Int)<=(k:Int):=aH;have k3:(k:Int)<=(s.length:Int):=aH;go_wp2_with (at_builtin;refine Ri _ rfl _ _ 64 rfl w 9 a6 16 underlying64 Qe rfl wr _ rfl rfl _ _ _ rfl rfl hown.o aU aH Hz.o ?_;intro v' w' hown' hb';have Ho:=Aa (show w'.ownsRow w 9 1 v' (ps++[(s.drop f).take (k - f)]).length (Cb (ps++[(s.drop f).take (k - f)]))by rw[J0,ah];exact hown');have Hb:=Aa (hb.o.trans hb');clear hown' hb')
    go_roundw
    case rel=>exact⟨ps++[(s.drop f).take (k - f)],k+1,k+1,by go_num,by omega,by go_num,An _,by rw[ah];simp;omega,Hsp.o,by simp[Hid],Ho.o,Hb.o⟩
    case measure=>simp[intOf];omega
   have t1:(((s[k]).toNat:Int) == m)=false:=by rw[Hm.o];exact Aq he
   have Hno:=Aa (show c∉(s.drop f).take (k+1 - f)by
    rw[Qaw s f k hf hlt];simp only[af,aq,not_or];exact⟨hno.o,fun h=>he h.symm⟩)
   clear he;go_wp2_with fail;go_roundw
   case rel=>exact⟨ps,f,k+1,by go_num,by omega,rfl,by omega,by omega,hsp.o,Hno.o,hown.o,hb.o⟩
   case measure=>simp[intOf];omega
  ·obtain rfl:k=s.length:=aH
   have Hsp:=Aa (show Al c s=ps++[s.drop f]by
    have h:=hno.o;rw[au aK]at h;rw[hsp.o,Jk c _ h])
   have Hz:=Aa hb.o.size;have k1:(0:Int)<=(f:Int):=aH;have k2:(f:Int)<=(s.length:Int):=aH;go_wp2_with (at_builtin;refine Ri _ rfl _ _ 64 rfl w 9 a6 16 underlying64 Qe rfl wr _ rfl rfl _ _ _ rfl rfl hown.o aU aH Hz.o ?_;intro v' w' hown' hb';have Ho:=Aa (show w'.ownsRow w 9 1 v' (ps++[s.drop f]).length (Cb (ps++[s.drop f]))by rw[J0,ah];exact hown');have Hb:=Aa (hb.o.trans hb');clear hown' hb')
   go_ret;refine⟨_,rfl,?_,Hb.o⟩;rw[Hsp.o];exact Ho.o
theorem Qa1{b s:List UInt8}(h1:b≠[110])(h2:b≠[116])(h3:b≠[102]):Ck b s=false:=by
 unfold Ck;rw[if_neg h1,if_neg h2,if_neg h3]
theorem Qoc(s:List UInt8):Ck [116] s=(Gx s && !(s == [39,39])):=by
 show (decide (2<s.length) && decide (s.head?=some 39) && decide (s.getLast?=some 39) && Dy (s.drop 1).dropLast)=((decide (2<=s.length) && decide (s.head?=some 39) && decide (s.getLast?=some 39) && Dy (s.drop 1).dropLast) && !(s == [39,39]));rcases aG 2 s.length with h|h
 ·have e1:decide (2<s.length)=true:=aQ;have e2:decide (2<=s.length)=true:=aM;have e3:(s == [39,39])=false:=by
   rw[beq_eq_false_iff_ne];rintro rfl;simp at h
  rw[e1,e2,e3];simp
 have e1:decide (2<s.length)=false:=aM;rw[e1];match s,h with
 |[],_=>rfl
 |[_],_=>rfl
 |[a,b],_=>
  by_cases ha:a=39
  ·by_cases hb:b=39
   ·subst ha;subst hb;rfl
   simp[hb]
  simp[ha]
theorem Xr(b s:List UInt8)(w:World)(hs:s.length<=4000000):
  Calls prog 126 #[b,s] w fun e w'=>e=.returned (.bool (Ck b s))/\Below w w w':=by
 by_cases h1:b=[110]
 ·subst h1;have Hp:=Aa (fun W=>Ea s 999999 W hs aH);have hf:Ck [110] s=(match Dc s with|some n=>decide (0<n)|none=>false):=rfl;have hv:(Ei s 999999 && (s != [48]))=Ck [110] s:=by
   rw[hf];cases hd:Dc s with
   |none=>rw[Pg hd];rfl
   |some n=>
    obtain⟨h9,e⟩:=Co.1 hd;rw[Pv hd];have e1:decide (n<=999999)=true:=by simpa using h9
    rw[e1,Bool.true_and];by_cases h0:n=0
    ·subst h0;rw[e,Ff aH];decide
    have hne:s≠[48]:=by
     intro h;rw[e]at h;have:Bb n=Bb 0:=by rw[h,Ff (n:=0) aH];decide
     exact h0 (Qle this)
    have e2:(s != [48])=true:=by simpa using hne
    rw[e2];simp;omega
  have Hv:=Aa hv;clear hf hv;go_enter func126,ntmps126;go_wp2_with fail;refine(Hp.o _).mono ?_;rintro e w' ⟨n,hn,rfl,_,hb⟩;have Hb:=Aa hb;clear hb;rcases Bool.eq_false_or_eq_true (Ei s 999999)with ho|ho
  ·have Ho:=Aa ho;rw[ho];clear ho;go_wp2_with fail;exact kO
  have Ho:=Aa ho;rw[ho];clear ho;go_wp2_with fail;exact kO
 by_cases h2:b=[116]
 ·subst h2;have Hp:=Aa (fun W=>Qab s W hs);have Hv:=Aa (Qoc s);clear h1;go_enter func126,ntmps126;go_wp2_with fail;refine(Hp.o _).mono ?_;rintro e w' ⟨rfl,rfl⟩;rcases Bool.eq_false_or_eq_true (Gx s)with ho|ho
  ·have Ho:=Aa ho;rw[ho];clear ho;rcases Bool.eq_false_or_eq_true (s == [39,39])with hq|hq
   ·have Hq:=Aa hq;have hq2:(s != [39,39])=false:=by simp[bne,hq]
    go_wp2_with fail;exact kP
   have Hq:=Aa hq;have hq2:(s != [39,39])=true:=by simp[bne,hq]
   go_wp2_with fail;exact kP
  have Ho:=Aa ho;rw[ho];clear ho;go_wp2_with fail;go_ret;exact⟨Eu (Dg (by rw[Hv.o,Ho.o];rfl)),Ap _ _⟩
 by_cases h3:b=[102]
 ·subst h3;have Hv:=Aa (show Ck [102] s=(s == [121,101,115])by show decide (s=[121,101,115])=_;by_cases h:s=[121,101,115]<;>simp[h]);clear h1 h2;go_enter func126,ntmps126;go_wp2_with fail;go_ret;exact⟨Eu (Dg Hv.o.symm),Ap _ _⟩
 have Hv:=Aa (Qa1 (s:=s) h1 h2 h3);have q1:(b == [110])=false:=fh;have q2:(b == [116])=false:=fi;have q3:(b == [102])=false:=by simpa using h3
 clear h1 h2 h3;go_enter func126,ntmps126;go_wp2_with fail;go_ret;exact⟨Eu (Dg Hv.o.symm),Ap _ _⟩
def Dh(o:Option Fd)(w:World)(e:Ending)(w':World):Prop:=
 (match o with
  |some f=>e=.returned (.tuple #[sfV f,.bool true])
  |none=>∃(x:Int) (a b c:ByteArray),e=.returned (.tuple #[.agg #[.int .i64 x,.string a,.string b,.string c],.bool false]))/\Below w w w'
theorem Dh.no{w w':World}{e:Ending}{o:Option Fd}(ho:o=none){x:Int}{a b c:ByteArray}(he:e=.returned (.tuple #[.agg #[.int .i64 x,.string a,.string b,.string c],.bool false]))(hb:Below w w w'):Dh o w e w':=by
 rw[ho];exact⟨⟨x,a,b,c,he⟩,hb⟩
theorem Dh.yes{w w':World}{e:Ending}{o:Option Fd}{f:Fd}(ho:o=some f)(he:e=.returned (.tuple #[sfV f,.bool true]))(hb:Below w w w'):Dh o w e w':=by
 rw[ho];exact⟨he,hb⟩
theorem Qf{w:World}{base:Nat}{v:Value}{a b:List UInt8}(h:w.ownsRow base 9 1 v [a,b].length (Cb [a,b])):
  ∃g c,v=.slice (some ⟨g,0,none⟩) 2 c/\base<=g/\g<w.heap.size/\w.cell? ⟨g,0,none⟩=a/\w.cell? ⟨g,1,none⟩=b:=by
 rcases h.2 with⟨_,h0⟩|⟨g,cap,cur,rfl,hb,hh,_⟩
 ·simp at h0
 have hc:=fun j u hu=>h.cells (g:=g) rfl j u hu;have e1:∀j,(⟨g,0,none⟩:Addr).add j=⟨g,j,none⟩:=fun j=>bD;refine⟨g,cap,rfl,hb,(h.lt g rfl).2,?_,?_⟩
 ·have:=hc 0 _ rfl;rwa [e1]at this
 have:=hc 1 _ rfl;rwa [e1]at this
theorem Je{w:World}{base:Nat}{v:Value}{a b d:List UInt8}(h:w.ownsRow base 9 1 v [a,b,d].length (Cb [a,b,d])):
  ∃g c,v=.slice (some ⟨g,0,none⟩) 3 c/\base<=g/\g<w.heap.size/\w.cell? ⟨g,0,none⟩=a/\w.cell? ⟨g,1,none⟩=b/\w.cell? ⟨g,2,none⟩=d:=by
 rcases h.2 with⟨_,h0⟩|⟨g,cap,cur,rfl,hb,hh,_⟩
 ·simp at h0
 have hc:=fun j u hu=>h.cells (g:=g) rfl j u hu;have e1:∀j,(⟨g,0,none⟩:Addr).add j=⟨g,j,none⟩:=fun j=>bD;refine⟨g,cap,rfl,hb,(h.lt g rfl).2,?_,?_,?_⟩
 ·have:=hc 0 _ rfl;rwa [e1]at this
 ·have:=hc 1 _ rfl;rwa [e1]at this
 have:=hc 2 _ rfl;rwa [e1]at this
theorem Vv(st:UInt8)(s:List UInt8)(w:World)(hs:s.length<=1000)(hp:(Al 58 s).length≠(if st=69 then 2 else 3)):
  Calls prog 101 #[s,.int .u8 (st.toNat:Int)] w (Dh (Ch st s) w):=by
 have hno:Ch st s=none:=by
  unfold Ch;by_cases h:st=69
  ·rw[if_pos h]at hp ⊢;have:Mv (Al 58 s)=none:=by
    cases hh:Mv (Al 58 s)with
    |none=>rfl
    |some x=>rw[(Kn (n:=x.1) (b:=x.2)).1 hh |>.1]at hp;simp at hp
   rw[this]
  rw[if_neg h]at hp ⊢;have:Ns (Al 58 s)=none:=by
   cases hh:Ns (Al 58 s)with
   |none=>rfl
   |some x=>rw[(Ji (n:=x.1) (b:=x.2.1) (c:=x.2.2)).1 hh |>.1]at hp;simp at hp
  rw[this]
 have Hno:=Aa hno;have Hl:=Aa (Jz 58 s);have hst:=st.toNat_lt;clear hno;have Hcut:=Aa (fun W=>C9 s 58 58 rfl W aH);generalize Al 58 s=ps at hp Hl Hcut;by_cases h69:st=69
 ·rw[if_pos h69]at hp;have t1:((st.toNat:Int) != 69)=false:=by have:=Bm h69;simpa using this
  have t2:((st.toNat:Int) == 69)=true:=Bm h69;have t3:((ps.length:Int) != 2)=true:=fa;clear h69 hp;go_enter func101,ntmps101;go_wp2_with fail;refine(Hcut.o _).mono ?_;rintro e w1 ⟨v,rfl,ho,hb⟩;obtain⟨A,c,rfl,_⟩:=Cd.own ho;obtain⟨hc,hfz,hz⟩:=Cj hb;have Hb:=Aa (((Ap w.heap.size w).alloc (An _) _).trans (hb.mono aK));clear hb ho;go_wp2_with fail;all_goals
   refine aF (v:=.tuple #[sf0,.bool false]) (by simp[results,results101,go_sem,sf0,hc]) rfl ?_;exact kQ
 rw[if_neg h69]at hp;have t1:((st.toNat:Int) != 69)=true:=by have:=Aq h69;simpa using this
 have t2:((st.toNat:Int) == 69)=false:=Aq h69;have t3:((ps.length:Int) != 3)=true:=fa;clear h69 hp;go_enter func101,ntmps101;go_wp2_with fail;refine(Hcut.o _).mono ?_;rintro e w1 ⟨v,rfl,ho,hb⟩;obtain⟨A,c,rfl,_⟩:=Cd.own ho;obtain⟨hc,hfz,hz⟩:=Cj hb;have Hb:=Aa (((Ap w.heap.size w).alloc (An _) _).trans (hb.mono aK));clear hb ho;go_wp2_with fail;all_goals
  refine aF (v:=.tuple #[sf0,.bool false]) (by simp[results,results101,go_sem,sf0,hc]) rfl ?_;exact kQ
theorem Xt(a b:List UInt8):Ei a 200=false\/(Ei a 200=true/\Dc a=some 0)\/(∃n,Ei a 200=true/\Dc a=some n/\1<=n/\n<=200/\Bh b=false)\/(∃n,Ei a 200=true/\Dc a=some n/\1<=n/\n<=200/\Bh b=true):=by
 cases hd:Dc a with
 |none=>exact .inl (Pg hd)
 |some n=>
  rw[Pv hd];by_cases h:n<=200
  ·have e:decide (n<=200)=true:=aQ;rw[e];by_cases h0:n=0
   ·subst h0;exact .inr (.inl ⟨rfl,rfl⟩)
   rcases Bool.eq_false_or_eq_true (Bh b)with hb|hb
   ·exact .inr (.inr (.inr ⟨n,rfl,rfl,by omega,h,hb⟩))
   exact .inr (.inr (.inl ⟨n,rfl,rfl,by omega,h,hb⟩))
  left;simpa using h
theorem Zp{a b:List UInt8}(h:Ei a 200=false\/Dc a=some 0\/Bh b=false):Mv [a,b]=none:=by
 cases hh:Mv [a,b]with
 |none=>rfl
 |some x=>
  obtain⟨n,c⟩:=x;obtain⟨e,h1,h2,h3⟩:=Kn.1 hh;simp at e;obtain⟨rfl,rfl⟩:=e;have hd:Dc (Bb n)=some n:=Co.2 ⟨by omega,rfl⟩;rcases h with h|h|h
  ·rw[Pv hd]at h;simp at h;omega
  ·rw[hd]at h;injection h with h;omega
  rw[h3]at h;cases h
theorem Zt{a b c:List UInt8}(h:Ei a 200=false\/Dc a=some 0\/Bh b=false):Ns [a,b,c]=none:=by
 cases hh:Ns [a,b,c]with
 |none=>rfl
 |some x=>
  obtain⟨n,d,f⟩:=x;obtain⟨e,h1,h2,h3⟩:=Ji.1 hh;simp at e;obtain⟨rfl,rfl,rfl⟩:=e;have hd:Dc (Bb n)=some n:=Co.2 ⟨by omega,rfl⟩;rcases h with h|h|h
  ·rw[Pv hd]at h;simp at h;omega
  ·rw[hd]at h;injection h with h;omega
  rw[h3]at h;cases h
theorem Qi6{a b:List UInt8}{n:Nat}(hd:Dc a=some n)(h1:1<=n)(h2:n<=200)(hb:Bh b=true):Mv [a,b]=some (n,b):=Kn.2 ⟨by rw[(Co.1 hd).2],h1,h2,hb⟩
theorem My{a b c:List UInt8}{n:Nat}(hd:Dc a=some n)(h1:1<=n)(h2:n<=200)(hb:Bh b=true):Ns [a,b,c]=some (n,b,c):=Ji.2 ⟨by rw[(Co.1 hd).2],h1,h2,hb⟩
theorem Qkh(s a b:List UInt8)(w:World)(hs:s.length<=1000)(hp:Al 58 s=[a,b])(ho:Ei a 200=false):
  Calls prog 101 #[s,.int .u8 69] w (Dh (Ch 69 s) w):=by
 have hal:=As 58 s a bz;have hbl:=As 58 s b bz;have hF:Ch 69 s=(match Mv [a,b]with|some (n,b)=>some ⟨n,b,Kd.nil,[]⟩|none=>none):=cP;have Hcut:=Aa (fun W=>C9 s 58 58 rfl W aH);rw[hp]at Hcut;have Hnum:=Aa (fun W=>Ea a 200 W aH aH);have Hname:=Aa (fun W=>Da b W aH);clear hp;rw[Zp (.inl ho)]at hF;have HF:=Aa hF;have Ho:=Aa ho;clear hF ho;go_enter func101,ntmps101;go_wp2_with fail;refine(Hcut.o _).mono ?_;rintro e w1 ⟨v,rfl,ho,hb⟩;obtain⟨g,c,rfl,hg1,hg2,c0,c1⟩:=Qf ho;simp at hg1;obtain⟨hc,hfz,hz⟩:=Cj hb;have Hb:=Aa (((Ap w.heap.size w).alloc (An _) _).trans (hb.mono aK));have hzz:=hz w.heap.size aK;clear hb ho;go_wp2_with fail;refine(Hnum.o _).mono ?_;rintro e w2 ⟨n,hn,rfl,hdn,hb2⟩;rw[Ho.o];obtain⟨hc2,hfz2,hz2⟩:=Cj hb2;have Hb2:=Aa (Hb.o.trans (hb2.mono Hb.o.size));have hsz:=Hb2.o.size;have hz3:=hz2 _ hzz;clear hb2;go_wp2_with fail;refine aF (v:=.tuple #[.agg #[.int .i64 n,b,a6,a6],.bool false]) (by simp[results,results101,go_sem,hc,hc2,hzz,hz3]) rfl ?_;exact kR
theorem Qlw(s a b:List UInt8)(w:World)(hs:s.length<=1000)(hp:Al 58 s=[a,b])(ho:Ei a 200=true)(hd:Dc a=some 0):
  Calls prog 101 #[s,.int .u8 69] w (Dh (Ch 69 s) w):=by
 have hal:=As 58 s a bz;have hbl:=As 58 s b bz;have hF:Ch 69 s=(match Mv [a,b]with|some (n,b)=>some ⟨n,b,Kd.nil,[]⟩|none=>none):=cP;have Hcut:=Aa (fun W=>C9 s 58 58 rfl W aH);rw[hp]at Hcut;have Hnum:=Aa (fun W=>Ea a 200 W aH aH);have Hname:=Aa (fun W=>Da b W aH);clear hp;rw[Zp (.inr (.inl hd))]at hF;have HF:=Aa hF;have Ho:=Aa ho;have Hd:=Aa hd;clear hF ho hd;go_enter func101,ntmps101;go_wp2_with fail;refine(Hcut.o _).mono ?_;rintro e w1 ⟨v,rfl,ho,hb⟩;obtain⟨g,c,rfl,hg1,hg2,c0,c1⟩:=Qf ho;simp at hg1;obtain⟨hc,hfz,hz⟩:=Cj hb;have Hb:=Aa (((Ap w.heap.size w).alloc (An _) _).trans (hb.mono aK));have hzz:=hz w.heap.size aK;clear hb ho;go_wp2_with fail;refine(Hnum.o _).mono ?_;rintro e w2 ⟨n,hn,rfl,hdn,hb2⟩;rw[Ho.o];obtain⟨hc2,hfz2,hz2⟩:=Cj hb2;have Hb2:=Aa (Hb.o.trans (hb2.mono Hb.o.size));have hsz:=Hb2.o.size;have hz3:=hz2 _ hzz;clear hb2;obtain rfl:=hdn 0 Hd.o;clear hdn;go_wp2_with fail;refine aF (v:=.tuple #[.agg #[.int .i64 0,b,a6,a6],.bool false]) (by simp[results,results101,go_sem,hc,hc2,hzz,hz3]) rfl ?_;exact kR
theorem Qk2(s a b:List UInt8)(w:World)(hs:s.length<=1000)(hp:Al 58 s=[a,b])(n0:Nat)(ho:Ei a 200=true)(hd:Dc a=some n0)(h1:1<=n0)(h2:n0<=200)(hnm:Bh b=false):
  Calls prog 101 #[s,.int .u8 69] w (Dh (Ch 69 s) w):=by
 have hal:=As 58 s a bz;have hbl:=As 58 s b bz;have hF:Ch 69 s=(match Mv [a,b]with|some (n,b)=>some ⟨n,b,Kd.nil,[]⟩|none=>none):=cP;have Hcut:=Aa (fun W=>C9 s 58 58 rfl W aH);rw[hp]at Hcut;have Hnum:=Aa (fun W=>Ea a 200 W aH aH);have Hname:=Aa (fun W=>Da b W aH);clear hp;rw[Zp (.inr (.inr hnm))]at hF;have HF:=Aa hF;have Ho:=Aa ho;have Hd:=Aa hd;have Hnm:=Aa hnm;clear hF ho hd hnm;go_enter func101,ntmps101;go_wp2_with fail;refine(Hcut.o _).mono ?_;rintro e w1 ⟨v,rfl,ho,hb⟩;obtain⟨g,c,rfl,hg1,hg2,c0,c1⟩:=Qf ho;simp at hg1;obtain⟨hc,hfz,hz⟩:=Cj hb;have Hb:=Aa (((Ap w.heap.size w).alloc (An _) _).trans (hb.mono aK));have hzz:=hz w.heap.size aK;clear hb ho;go_wp2_with fail;refine(Hnum.o _).mono ?_;rintro e w2 ⟨n,hn,rfl,hdn,hb2⟩;rw[Ho.o];obtain⟨hc2,hfz2,hz2⟩:=Cj hb2;have Hb2:=Aa (Hb.o.trans (hb2.mono Hb.o.size));have hsz:=Hb2.o.size;have hz3:=hz2 _ hzz;clear hb2;obtain rfl:=hdn n0 Hd.o;clear hdn;go_wp2_with fail;refine(Hname.o _).mono ?_;rintro e w3 ⟨rfl,rfl⟩;rw[Hnm.o];go_wp2_with fail;refine aF (v:=.tuple #[.agg #[.int .i64 n0,b,a6,a6],.bool false]) (by simp[results,results101,go_sem,hc,hc2,hzz,hz3]) rfl ?_;exact kR
theorem Qkj(s a b:List UInt8)(w:World)(hs:s.length<=1000)(hp:Al 58 s=[a,b])(n0:Nat)(ho:Ei a 200=true)(hd:Dc a=some n0)(h1:1<=n0)(h2:n0<=200)(hnm:Bh b=true):
  Calls prog 101 #[s,.int .u8 69] w (Dh (Ch 69 s) w):=by
 have hal:=As 58 s a bz;have hbl:=As 58 s b bz;have hF:Ch 69 s=(match Mv [a,b]with|some (n,b)=>some ⟨n,b,Kd.nil,[]⟩|none=>none):=cP;have Hcut:=Aa (fun W=>C9 s 58 58 rfl W aH);rw[hp]at Hcut;have Hnum:=Aa (fun W=>Ea a 200 W aH aH);have Hname:=Aa (fun W=>Da b W aH);clear hp;rw[Qi6 hd h1 h2 hnm]at hF;have HF:=Aa hF;have Ho:=Aa ho;have Hd:=Aa hd;have Hnm:=Aa hnm;clear hF ho hd hnm;go_enter func101,ntmps101;go_wp2_with fail;refine(Hcut.o _).mono ?_;rintro e w1 ⟨v,rfl,ho,hb⟩;obtain⟨g,c,rfl,hg1,hg2,c0,c1⟩:=Qf ho;simp at hg1;obtain⟨hc,hfz,hz⟩:=Cj hb;have Hb:=Aa (((Ap w.heap.size w).alloc (An _) _).trans (hb.mono aK));have hzz:=hz w.heap.size aK;clear hb ho;go_wp2_with fail;refine(Hnum.o _).mono ?_;rintro e w2 ⟨n,hn,rfl,hdn,hb2⟩;rw[Ho.o];obtain⟨hc2,hfz2,hz2⟩:=Cj hb2;have Hb2:=Aa (Hb.o.trans (hb2.mono Hb.o.size));have hsz:=Hb2.o.size;have hz3:=hz2 _ hzz;clear hb2;obtain rfl:=hdn n0 Hd.o;clear hdn;go_wp2_with fail;refine(Hname.o _).mono ?_;rintro e w3 ⟨rfl,rfl⟩;rw[Hnm.o];go_wp2_with fail;refine aF (v:=.tuple #[sfV ⟨n0,b,Kd.nil,[]⟩,.bool true]) (by simp[results,results101,go_sem,sfV,Kd.nil,Be,B6,hc,hc2,hzz,hz3]) rfl ?_;exact Dh.yes HF.o rfl aS
theorem Yi(s a b:List UInt8)(w:World)(hs:s.length<=1000)(hp:Al 58 s=[a,b]):
  Calls prog 101 #[s,.int .u8 69] w (Dh (Ch 69 s) w):=by
 rcases Xt a b with ho|⟨ho,hd⟩|⟨n0,ho,hd,h1,h2,hnm⟩|⟨n0,ho,hd,h1,h2,hnm⟩
 ·exact Qkh s a b w hs hp ho
 ·exact Qlw s a b w hs hp ho hd
 ·exact Qk2 s a b w hs hp n0 ho hd h1 h2 hnm
 exact Qkj s a b w hs hp n0 ho hd h1 h2 hnm
end
end Go.Proofs.YtbdibdghphdcdaaGreatDoor
