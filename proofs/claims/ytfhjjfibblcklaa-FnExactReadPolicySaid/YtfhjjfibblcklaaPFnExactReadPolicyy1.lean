import Derived.Test.YtfhjjfibblcklaaPFnExactReadPolicyy0
namespace Go.Proofs.Ytfhjjfibblcklaa.PFnExactReadPolicy
open Go.RowKit Go.Proofs.YtfhjjfibblcklaaW.PrintWords Go.Proofs.YtfhjjfibblcklaaW.PrintLast Go.Proofs.YtfhjjfibblcklaaW.PrintMore Go.Proofs.YtfhjjfibblcklaaW.Z
open Kd
attribute [local go_sem] isS max2_int min2_int max_two min_two max_three min_three max_four min_four
set_option linter.unusedVariables false
set_option linter.unusedSimpArgs false
def spec_l08Word.l0:Nat→ByteArray→Int→Int→Int→Int→Option (Int)
  | 0,_,_,_,_,_=>none
  | k+1,q,j,ai,aj,t=>if t<(q.size:Int)then(if 0≤t then(if(bt q t)≥ai then(if(bt q t)≤aj then(spec_l08Word.l0 k q j ai aj (wrap64 (t+1)))else(some (wrap64 (t - j))))else(some (wrap64 (t - j))))else(none))else(some (wrap64 (t - j)))
def spec_l08Word.f (k:Nat) (a:ByteArray) (b:Int) (i:Int) (z:Int):Option (Int):=spec_l08Word.l0 k a b i z b
set_option maxHeartbeats 8000000 in
set_option maxRecDepth 100000 in
theorem spec_l08Word.calls {k:Nat}{a:ByteArray}{b:Int}{i:Int}{z:Int}{r:Int}{w:World}(h:spec_l08Word.f k a b i z=some r) :
 Calls Try.prog 24 #[.string a,.int .i64 b,.int .u8 i,.int .u8 z] w fun e w'=>e= .returned (.int .i64 r)∧Drawn0 w w':=by
 have H:(spec_l08Word.l0 k a b i z b)=some r:=h;clear h;have H':=aM H;clear H;go_enter Try.func24,Try.ntmps24;go_wp2
 go_loopg [9] k (fun kq ar w'=> ∃ (d:Int),ar= .int .i64 d∧Aside0 (spec_l08Word.l0 kq a b i z d=some r)∧Aside0 (kq≤k)∧Drawn0 w w')
 case atStart=>exact⟨(b),rS,H',⟨Nat.le_refl _⟩,by repeat(first|exact Drawn0.refl _|apply Drawn0.step)⟩
 case round=>
  clear H';obtain⟨d,rfl,HA,HK1,⟨m1,rfl⟩⟩:=hrel
  cases gk with
  | zero=>exact absurd HA.out (by simp[spec_l08Word.l0])
  | succ k1=>
   have H:=HA.out;clear HA;simp only[spec_l08Word.l0]at H;by_cases l:d<(a.size:Int)
   ·rw[if_pos l]at H;have Y:=decide_eq_true l;clear l;replace H:=gD H;obtain⟨au,H⟩:=H;by_cases p:(bt a d)≥i
    ·rw[if_pos p]at H;have ak:decide (i≤(bt a d))=true:=decide_eq_true p;clear p;by_cases E:(bt a d)≤z
     ·rw[if_pos E]at H;have al:=decide_eq_true E;clear E;have H':=aM H;clear H;have u:0≤(d:Int):=dA;have v:d<(a.size:Int):=dA;have am:=bt_at a d;replace u:=eq_true u;replace v:=eq_true v;have J:0≤(d:Int):=dA;have L:d<(a.size:Int):=dA;have av:=bt_at a d;replace J:=eq_true J;replace L:=eq_true L;go_wp2;go_roundg k1
      case measure=>exact oK
      case rel=>exact⟨(wrap64 (d+1)),rS,H',⟨oK⟩,by repeat(first|exact Drawn0.refl _|apply Drawn0.step)⟩
     ·rw[if_neg E]at H;have al:=decide_eq_false E;clear E;obtain rfl:=Option.some.inj H;have u:0≤(d:Int):=dA;have v:d<(a.size:Int):=dA;have am:=bt_at a d;replace u:=eq_true u;replace v:=eq_true v;have J:0≤(d:Int):=dA;have L:d<(a.size:Int):=dA;have av:=bt_at a d;replace J:=eq_true J;replace L:=eq_true L;go_wp2;go_ret
      exact⟨by first|rfl|(simp;done)|(simp[*];done),by repeat(first|exact Drawn0.refl _|apply Drawn0.step)⟩
    ·rw[if_neg p]at H;have ak:decide (i≤(bt a d))=false:=decide_eq_false p;clear p;obtain rfl:=Option.some.inj H;have u:0≤(d:Int):=dA;have v:d<(a.size:Int):=dA;have am:=bt_at a d;replace u:=eq_true u;replace v:=eq_true v;go_wp2;go_ret
     exact⟨by first|rfl|(simp;done)|(simp[*];done),by repeat(first|exact Drawn0.refl _|apply Drawn0.step)⟩
   ·rw[if_neg l]at H;have Y:=decide_eq_false l;clear l;obtain rfl:=Option.some.inj H;go_wp2;go_ret
    exact⟨by first|rfl|(simp;done)|(simp[*];done),by repeat(first|exact Drawn0.refl _|apply Drawn0.step)⟩
def spec_l01In.f (a:Int) (b:Int) (i:Int):Option (Bool):=if a≥b then(some (decide (a≤i)))else(some false)
set_option maxHeartbeats 8000000 in
set_option maxRecDepth 100000 in
theorem spec_l01In.calls {a:Int}{b:Int}{i:Int}{r:Bool}{w:World}(h:spec_l01In.f a b i=some r) :
 Calls Try.prog 54 #[.int .i64 a,.int .i64 b,.int .i64 i] w fun e w'=>e= .returned (.bool r)∧Drawn0 w w':=by
 have H:(if a≥b then(some (decide (a≤i)))else(some false))=some r:=h;clear h;by_cases G:a≥b
 ·rw[if_pos G]at H;have aw:decide (b≤a)=true:=decide_eq_true G;clear G;obtain rfl:=Option.some.inj H;go_enter Try.func54,Try.ntmps54;go_wp2;go_ret
  exact⟨by first|rfl|(simp;done)|(simp[*];done),by repeat(first|exact Drawn0.refl _|apply Drawn0.step)⟩
 ·rw[if_neg G]at H;have aw:decide (b≤a)=false:=decide_eq_false G;clear G;obtain rfl:=Option.some.inj H;go_enter Try.func54,Try.ntmps54;go_wp2;go_ret
  exact⟨by first|rfl|(simp;done)|(simp[*];done),by repeat(first|exact Drawn0.refl _|apply Drawn0.step)⟩
def spec_HalfOk.f (a:Int):Option (Bool):=(spec_l01In.f a 0 4294967295).bind fun an=>(some an)
set_option maxHeartbeats 8000000 in
set_option maxRecDepth 100000 in
theorem spec_HalfOk.calls {a:Int}{r:Bool}{w:World}(h:spec_HalfOk.f a=some r) :
 Calls Try.prog 25 #[.int .i64 a] w fun e w'=>e= .returned (.bool r)∧Drawn0 w w':=by
 unfold spec_HalfOk.f at h;have H:=h
 clear h;replace H:=bE H;obtain⟨an,ax,H⟩:=H;obtain rfl:=Option.some.inj H;go_enter Try.func25,Try.ntmps25
 go_wp2_with (first|((with_reducible refine gF 54 ?_);refine gX (some 4) Try.func54 (spec_l01In.calls ax.out) ?_;rintro w' ⟨nd,rfl⟩))
 go_ret
 exact⟨by first|rfl|(simp;done)|(simp[*];done),by repeat(first|exact Drawn0.refl _|apply Drawn0.step)⟩
def spec_l08Marks.f  :Option (List ByteArray):=some (([(⟨#[61,61]⟩ :ByteArray),(⟨#[33,61]⟩ :ByteArray),(⟨#[60,61]⟩ :ByteArray),(⟨#[62,61]⟩ :ByteArray),(⟨#[60]⟩ :ByteArray),(⟨#[62]⟩ :ByteArray),(⟨#[38]⟩ :ByteArray),(⟨#[58]⟩ :ByteArray),(⟨#[59]⟩ :ByteArray),(⟨#[44]⟩ :ByteArray)] :List ByteArray))
set_option maxHeartbeats 8000000 in
set_option maxRecDepth 100000 in
theorem spec_l08Marks.calls {r:List ByteArray}{w:World}(h:spec_l08Marks.f  = some r) :
 Calls Try.prog 55 #[] w fun e w'=> ∃ v0_:Value,e= .returned (v0_)∧Kd.R Kd.string 9 w' w.heap.size (fun _=>True) v0_ r∧Below w.heap.size w w':=by
 have HB:=rW w;have H:(some (([(⟨#[61,61]⟩ :ByteArray),(⟨#[33,61]⟩ :ByteArray),(⟨#[60,61]⟩ :ByteArray),(⟨#[62,61]⟩ :ByteArray),(⟨#[60]⟩ :ByteArray),(⟨#[62]⟩ :ByteArray),(⟨#[38]⟩ :ByteArray),(⟨#[58]⟩ :ByteArray),(⟨#[59]⟩ :ByteArray),(⟨#[44]⟩ :ByteArray)] :List ByteArray)))=some r:=h;clear h;obtain⟨aK,aa⟩ : ∃ y_:List ByteArray,Aside0 (y_=(([(⟨#[61,61]⟩ :ByteArray),(⟨#[33,61]⟩ :ByteArray),(⟨#[60,61]⟩ :ByteArray),(⟨#[62,61]⟩ :ByteArray),(⟨#[60]⟩ :ByteArray),(⟨#[62]⟩ :ByteArray),(⟨#[38]⟩ :ByteArray),(⟨#[58]⟩ :ByteArray),(⟨#[59]⟩ :ByteArray),(⟨#[44]⟩ :ByteArray)] :List ByteArray))):=⟨_,⟨rfl⟩⟩;rw[← aa.out]at H;obtain rfl:=Option.some.inj H;go_enter Try.func55,Try.ntmps55
 go_wp2_with (first|((with_reducible refine gN 1 ?_);refine R_lit Kd.string _ 9 ?hg (N:=1) ?hd (xs:=([(⟨#[61,61]⟩ :ByteArray),(⟨#[33,61]⟩ :ByteArray),(⟨#[60,61]⟩ :ByteArray),(⟨#[62,61]⟩ :ByteArray),(⟨#[60]⟩ :ByteArray),(⟨#[62]⟩ :ByteArray),(⟨#[38]⟩ :ByteArray),(⟨#[58]⟩ :ByteArray),(⟨#[59]⟩ :ByteArray),(⟨#[44]⟩ :ByteArray)] :List ByteArray)) (inner:=[.string (⟨#[61,61]⟩ :ByteArray),.string (⟨#[33,61]⟩ :ByteArray),.string (⟨#[60,61]⟩ :ByteArray),.string (⟨#[62,61]⟩ :ByteArray),.string (⟨#[60]⟩ :ByteArray),.string (⟨#[62]⟩ :ByteArray),.string (⟨#[38]⟩ :ByteArray),.string (⟨#[58]⟩ :ByteArray),.string (⟨#[59]⟩ :ByteArray),.string (⟨#[44]⟩ :ByteArray)]) (ok:=fun _=>True) (okp:=fun _=>True) ?hr ?hp (fun _ hk=>hk) trivial (Below.refl _ _) (Nat.le_refl _) (by simp) ?_;(case hd=>rfl);(case hg=>rfl);(case hr=>exact rG);(case hp=>exact(Reps.one (show Kd.M Kd.string _ _ _ (⟨#[61,61]⟩ :ByteArray) [.string (⟨#[61,61]⟩ :ByteArray)]from rfl) (Reps.one (show Kd.M Kd.string _ _ _ (⟨#[33,61]⟩ :ByteArray) [.string (⟨#[33,61]⟩ :ByteArray)]from rfl) (Reps.one (show Kd.M Kd.string _ _ _ (⟨#[60,61]⟩ :ByteArray) [.string (⟨#[60,61]⟩ :ByteArray)]from rfl) (Reps.one (show Kd.M Kd.string _ _ _ (⟨#[62,61]⟩ :ByteArray) [.string (⟨#[62,61]⟩ :ByteArray)]from rfl) (Reps.one (show Kd.M Kd.string _ _ _ (⟨#[60]⟩ :ByteArray) [.string (⟨#[60]⟩ :ByteArray)]from rfl) (Reps.one (show Kd.M Kd.string _ _ _ (⟨#[62]⟩ :ByteArray) [.string (⟨#[62]⟩ :ByteArray)]from rfl) (Reps.one (show Kd.M Kd.string _ _ _ (⟨#[38]⟩ :ByteArray) [.string (⟨#[38]⟩ :ByteArray)]from rfl) (Reps.one (show Kd.M Kd.string _ _ _ (⟨#[58]⟩ :ByteArray) [.string (⟨#[58]⟩ :ByteArray)]from rfl) (Reps.one (show Kd.M Kd.string _ _ _ (⟨#[59]⟩ :ByteArray) [.string (⟨#[59]⟩ :ByteArray)]from rfl) (Reps.one (show Kd.M Kd.string _ _ _ (⟨#[44]⟩ :ByteArray) [.string (⟨#[44]⟩ :ByteArray)]from rfl) (Reps.none _ _))))))))))));intro aL aN O hb hg_ hnew_;clear hg_ hnew_;(first|rw[← aa.out]at O|(simp only[Int.reduceToNat]at O;rw[← aa.out]at O));have ay:=rL O;replace HB:=sB hb;clear hb O))
 go_ret;exact⟨_,rE,mR ay,cB⟩
def spec_l08Mark.l0:Nat→ByteArray→Int→List ByteArray→Int→Option (ByteArray)
  | 0,_,_,_,_=>none
  | k+1,q,j,x,s=>if s<(x.length:Int)then(if 0≤s then(if(wrap64 (j+((rdOf ByteArray.empty x s).size:Int)))≤(q.size:Int)then(if 0≤j then(if j≤(wrap64 (j+((rdOf ByteArray.empty x s).size:Int)))then(if(q.extract (j:Int).toNat ((wrap64 (j+((rdOf ByteArray.empty x s).size:Int))):Int).toNat).toList=(rdOf ByteArray.empty x s).toList then(some (rdOf ByteArray.empty x s))else(spec_l08Mark.l0 k q j x (wrap64 (s+1))))else(none))else(none))else(spec_l08Mark.l0 k q j x (wrap64 (s+1))))else(none))else(some (⟨#[]⟩ :ByteArray))
def spec_l08Mark.f (k:Nat) (a:ByteArray) (b:Int):Option (ByteArray):=(spec_l08Marks.f).bind fun g=>(spec_l08Mark.l0 k a b g 0)
set_option maxHeartbeats 8000000 in
set_option maxRecDepth 100000 in
theorem spec_l08Mark.calls {k:Nat}{a:ByteArray}{b:Int}{r:ByteArray}{w:World}(h:spec_l08Mark.f k a b=some r) :
 Calls Try.prog 26 #[.string a,.int .i64 b] w fun e w'=>e= .returned (.string r)∧Below w.heap.size w w':=by
 have HB:=rW w
 unfold spec_l08Mark.f at h;have H:=h
 clear h;replace H:=bE H;obtain⟨g,ab,H⟩:=H;have H':=aM H;clear H;go_enter Try.func26,Try.ntmps26
 go_wp2_with (first|(go_at_call 55;(with_reducible refine(spec_l08Marks.calls ab.out).mono ?_);rintro e ao ⟨ac,rfl,y,hb⟩;have ad:=rL y;replace HB:=sB hb;(try clear hb);(try clear y)))
 repeat(go_quiet (first|(go_at_call 55;(with_reducible refine(spec_l08Marks.calls ab.out).mono ?_);rintro e ao ⟨ac,rfl,y,hb⟩;have n0_:=rL y;have n1_:=sB hb;clear HB;have ad:=n0_;have HB:=n1_;clear n0_ n1_;(try clear hb);(try clear hb2);(try clear hk);(try clear hi);(try clear y)));try go_wp2_with (first|(go_at_call 55;(with_reducible refine(spec_l08Marks.calls ab.out).mono ?_);rintro e ao ⟨ac,rfl,y,hb⟩;have n0_:=rL y;have n1_:=sB hb;clear HB;have ad:=n0_;have HB:=n1_;clear n0_ n1_;(try clear hb);(try clear hb2);(try clear hk);(try clear hi);(try clear y))))
 go_loopg [6] k (fun kq az w'=> ∃ (c:Int),az= .int .i64 c∧Aside0 (spec_l08Mark.l0 kq a b g c=some r)∧Aside0 (kq≤k)∧Aside0 (Kd.R Kd.string 9 w' w.heap.size (fun _=>True) ac g)∧Aside0 (Below w.heap.size w w'))
 case atStart=>exact⟨(0),rS,H',⟨Nat.le_refl _⟩,⟨mR ad⟩,⟨cB⟩⟩
 case round=>
  clear H';obtain⟨c,rfl,HA,HK1,m,HB⟩:=hrel
  cases gk with
  | zero=>exact absurd HA.out (by simp[spec_l08Mark.l0])
  | succ k1=>
   have H:=HA.out;clear HA;simp only[spec_l08Mark.l0]at H;by_cases l:c<(g.length:Int)
   ·rw[if_pos l]at H;have Y:=decide_eq_true l;clear l;replace H:=gD H;obtain⟨au,H⟩:=H;by_cases I:(wrap64 (b+((rdOf ByteArray.empty g c).size:Int)))≤(a.size:Int)
    ·rw[if_pos I]at H;have aA:=decide_eq_true I;clear I;replace H:=gC H;obtain⟨p,H⟩:=H;have ak:=eq_true p;have aO:decide (0≤b)=true:=decide_eq_true p;clear p;replace H:=gC H;obtain⟨ap,H⟩:=H;have aP:=eq_true ap;have aQ:decide (b≤(wrap64 (b+((rdOf ByteArray.empty g c).size:Int))))=true:=decide_eq_true ap;have al:=eq_true (dA:(wrap64 (b+((rdOf ByteArray.empty g c).size:Int)))≤(a.size:Int));by_cases U:(a.extract (b:Int).toNat ((wrap64 (b+((rdOf ByteArray.empty g c).size:Int))):Int).toNat).toList=(rdOf ByteArray.empty g c).toList
     ·rw[if_pos U]at H;obtain⟨aB,aC⟩:=eT U;clear U;obtain rfl:=Option.some.inj H;obtain⟨aR,aS,aD⟩:=R_slice m.out;subst aD;have n:0≤(c:Int):=dA;have o:c<(g.length:Int):=dA;obtain⟨W,X,aq⟩:=at_string (R_reads' m.out).2.2 c n o;cases X;replace n:=eq_true n;replace o:=eq_true o;have A:0≤(c:Int):=dA;have D:c<(g.length:Int):=dA;obtain⟨ae,af,aE⟩:=at_string (R_reads' m.out).2.2 c A D
      obtain rfl:W=ae:=(by injection af)
      replace A:=eq_true A;replace D:=eq_true D;have ag:0≤(c:Int):=dA;have ah:c<(g.length:Int):=dA;obtain⟨aF,aG,aT⟩:=at_string (R_reads' m.out).2.2 c ag ah
      obtain rfl:W=aF:=(by injection aG)
      replace ag:=eq_true ag;replace ah:=eq_true ah;go_wp2
      repeat(go_quiet (fail);try go_wp2)
      go_ret;exact⟨rE,cB⟩
     ·rw[if_neg U]at H;obtain⟨aB,aC⟩:=eF U;have H':=aM H;clear H;obtain⟨aU,aV,aH⟩:=R_slice m.out;subst aH;have n:0≤(c:Int):=dA;have o:c<(g.length:Int):=dA;obtain⟨W,X,aq⟩:=at_string (R_reads' m.out).2.2 c n o;cases X;replace n:=eq_true n;replace o:=eq_true o;have A:0≤(c:Int):=dA;have D:c<(g.length:Int):=dA;obtain⟨ae,af,aE⟩:=at_string (R_reads' m.out).2.2 c A D
      obtain rfl:W=ae:=(by injection af)
      replace A:=eq_true A;replace D:=eq_true D;go_wp2
      repeat(go_quiet (fail);try go_wp2)
      go_roundg k1
      case measure=>exact oK
      case rel=>exact⟨(wrap64 (c+1)),rS,H',⟨oK⟩,⟨mR m⟩,⟨cB⟩⟩
    ·rw[if_neg I]at H;have aA:=decide_eq_false I;clear I;have H':=aM H;clear H;obtain⟨aW,aX,aI⟩:=R_slice m.out;subst aI;have n:0≤(c:Int):=dA;have o:c<(g.length:Int):=dA;obtain⟨W,X,aq⟩:=at_string (R_reads' m.out).2.2 c n o;cases X;replace n:=eq_true n;replace o:=eq_true o;go_wp2
     repeat(go_quiet (fail);try go_wp2)
     go_roundg k1
     case measure=>exact oK
     case rel=>exact⟨(wrap64 (c+1)),rS,H',⟨oK⟩,⟨mR m⟩,⟨cB⟩⟩
   ·rw[if_neg l]at H;have Y:=decide_eq_false l;clear l;obtain rfl:=Option.some.inj H;obtain⟨aY,aZ,aJ⟩:=R_slice m.out;subst aJ;go_wp2
    repeat(go_quiet (fail);try go_wp2)
    go_ret;exact⟨rE,cB⟩
end Go.Proofs.Ytfhjjfibblcklaa.PFnExactReadPolicy
