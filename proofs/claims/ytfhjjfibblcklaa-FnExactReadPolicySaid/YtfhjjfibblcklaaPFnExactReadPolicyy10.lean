import Derived.Test.YtfhjjfibblcklaaPFnExactReadPolicyy0
namespace Go.Proofs.Ytfhjjfibblcklaa.PFnExactReadPolicy
open Go.RowKit Go.Proofs.YtfhjjfibblcklaaW.PrintWords Go.Proofs.YtfhjjfibblcklaaW.PrintLast Go.Proofs.YtfhjjfibblcklaaW.PrintMore Go.Proofs.YtfhjjfibblcklaaW.Z
open Kd
attribute [local go_sem] isS max2_int min2_int max_two min_two max_three min_three max_four min_four
set_option linter.unusedVariables false
set_option linter.unusedSimpArgs false
def impl_isLetter.f (a:Int):Option (Bool):=if a≥97 then(some (decide (a≤122)))else(some false)
set_option maxHeartbeats 8000000 in
set_option maxRecDepth 100000 in
theorem impl_isLetter.calls {a:Int}{r:Bool}{w:World}(h:impl_isLetter.f a=some r) :
 Calls Try.prog 35 #[.int .u8 a] w fun e w'=>e= .returned (.bool r)∧Drawn0 w w':=by
 have H:(if a≥97 then(some (decide (a≤122)))else(some false))=some r:=h;clear h;by_cases j:a≥97
 ·rw[if_pos j]at H;have I:decide (97≤a)=true:=decide_eq_true j;clear j;obtain rfl:=Option.some.inj H;go_enter Try.func35,Try.ntmps35;go_wp2;go_ret
  exact⟨by first|rfl|(simp;done)|(simp[*];done),by repeat(first|exact Drawn0.refl _|apply Drawn0.step)⟩
 ·rw[if_neg j]at H;have I:decide (97≤a)=false:=decide_eq_false j;clear j;obtain rfl:=Option.some.inj H;go_enter Try.func35,Try.ntmps35;go_wp2;go_ret
  exact⟨by first|rfl|(simp;done)|(simp[*];done),by repeat(first|exact Drawn0.refl _|apply Drawn0.step)⟩
def impl_isFigure.f (a:Int):Option (Bool):=if a≥48 then(some (decide (a≤57)))else(some false)
set_option maxHeartbeats 8000000 in
set_option maxRecDepth 100000 in
theorem impl_isFigure.calls {a:Int}{r:Bool}{w:World}(h:impl_isFigure.f a=some r) :
 Calls Try.prog 37 #[.int .u8 a] w fun e w'=>e= .returned (.bool r)∧Drawn0 w w':=by
 have H:(if a≥48 then(some (decide (a≤57)))else(some false))=some r:=h;clear h;by_cases j:a≥48
 ·rw[if_pos j]at H;have I:decide (48≤a)=true:=decide_eq_true j;clear j;obtain rfl:=Option.some.inj H;go_enter Try.func37,Try.ntmps37;go_wp2;go_ret
  exact⟨by first|rfl|(simp;done)|(simp[*];done),by repeat(first|exact Drawn0.refl _|apply Drawn0.step)⟩
 ·rw[if_neg j]at H;have I:decide (48≤a)=false:=decide_eq_false j;clear j;obtain rfl:=Option.some.inj H;go_enter Try.func37,Try.ntmps37;go_wp2;go_ret
  exact⟨by first|rfl|(simp;done)|(simp[*];done),by repeat(first|exact Drawn0.refl _|apply Drawn0.step)⟩
def impl_markAt.l0:Nat→ByteArray→Int→List ByteArray→Int→Int→Option (ByteArray)
  | 0,_,_,_,_,_=>none
  | k+1,l,c,t,J,n=>if n<J then(if 0≤n then(if n<(t.length:Int)then(if(wrap64 ((l.size:Int) - c))≥((rdOf ByteArray.empty t n).size:Int)then(if 0≤c then(if c≤(wrap64 (c+((rdOf ByteArray.empty t n).size:Int)))then(if(wrap64 (c+((rdOf ByteArray.empty t n).size:Int)))≤(l.size:Int)then(if(l.extract (c:Int).toNat ((wrap64 (c+((rdOf ByteArray.empty t n).size:Int))):Int).toNat).toList=(rdOf ByteArray.empty t n).toList then(some (rdOf ByteArray.empty t n))else(impl_markAt.l0 k l c t J (wrap64 (n+1))))else(none))else(none))else(none))else(impl_markAt.l0 k l c t J (wrap64 (n+1))))else(none))else(none))else(some (⟨#[]⟩ :ByteArray))
def impl_markAt.f (k:Nat) (a:ByteArray) (b:Int):Option (ByteArray):=(some (([(⟨#[61,61]⟩ :ByteArray),(⟨#[33,61]⟩ :ByteArray),(⟨#[60,61]⟩ :ByteArray),(⟨#[62,61]⟩ :ByteArray),(⟨#[60]⟩ :ByteArray),(⟨#[62]⟩ :ByteArray),(⟨#[38]⟩ :ByteArray),(⟨#[58]⟩ :ByteArray),(⟨#[59]⟩ :ByteArray),(⟨#[44]⟩ :ByteArray)] :List ByteArray):List ByteArray)).bind fun i=>(impl_markAt.l0 k a b i (i.length:Int) 0)
set_option maxHeartbeats 8000000 in
set_option maxRecDepth 100000 in
theorem impl_markAt.calls {k:Nat}{a:ByteArray}{b:Int}{r:ByteArray}{w:World}(h:impl_markAt.f k a b=some r) :
 Calls Try.prog 38 #[.string a,.int .i64 b] w fun e w'=>e= .returned (.string r)∧Below w.heap.size w w':=by
 have HB:=rW w
 unfold impl_markAt.f at h;have H:=h
 clear h;replace H:=nE H;obtain⟨i,aa,H⟩:=H;have H':=aM H;clear H;go_enter Try.func38,Try.ntmps38
 go_wp2_with (first|((with_reducible refine gN 7 ?_);(try(refine gate_guard (by rfl) ?_;dsimp only));refine R_lit Kd.string _ 9 ?hg (N:=7) ?hd (xs:=([(⟨#[61,61]⟩ :ByteArray),(⟨#[33,61]⟩ :ByteArray),(⟨#[60,61]⟩ :ByteArray),(⟨#[62,61]⟩ :ByteArray),(⟨#[60]⟩ :ByteArray),(⟨#[62]⟩ :ByteArray),(⟨#[38]⟩ :ByteArray),(⟨#[58]⟩ :ByteArray),(⟨#[59]⟩ :ByteArray),(⟨#[44]⟩ :ByteArray)] :List ByteArray)) (inner:=[.string (⟨#[61,61]⟩ :ByteArray),.string (⟨#[33,61]⟩ :ByteArray),.string (⟨#[60,61]⟩ :ByteArray),.string (⟨#[62,61]⟩ :ByteArray),.string (⟨#[60]⟩ :ByteArray),.string (⟨#[62]⟩ :ByteArray),.string (⟨#[38]⟩ :ByteArray),.string (⟨#[58]⟩ :ByteArray),.string (⟨#[59]⟩ :ByteArray),.string (⟨#[44]⟩ :ByteArray)]) (ok:=fun _=>True) (okp:=fun _=>True) ?hr ?hp (fun _ hk=>hk) trivial (Below.refl _ _) (Nat.le_refl _) (by simp) ?_;(case hd=>rfl);(case hg=>rfl);(case hr=>exact rG);(case hp=>exact(Reps.one (show Kd.M Kd.string _ _ _ (⟨#[61,61]⟩ :ByteArray) [.string (⟨#[61,61]⟩ :ByteArray)]from rfl) (Reps.one (show Kd.M Kd.string _ _ _ (⟨#[33,61]⟩ :ByteArray) [.string (⟨#[33,61]⟩ :ByteArray)]from rfl) (Reps.one (show Kd.M Kd.string _ _ _ (⟨#[60,61]⟩ :ByteArray) [.string (⟨#[60,61]⟩ :ByteArray)]from rfl) (Reps.one (show Kd.M Kd.string _ _ _ (⟨#[62,61]⟩ :ByteArray) [.string (⟨#[62,61]⟩ :ByteArray)]from rfl) (Reps.one (show Kd.M Kd.string _ _ _ (⟨#[60]⟩ :ByteArray) [.string (⟨#[60]⟩ :ByteArray)]from rfl) (Reps.one (show Kd.M Kd.string _ _ _ (⟨#[62]⟩ :ByteArray) [.string (⟨#[62]⟩ :ByteArray)]from rfl) (Reps.one (show Kd.M Kd.string _ _ _ (⟨#[38]⟩ :ByteArray) [.string (⟨#[38]⟩ :ByteArray)]from rfl) (Reps.one (show Kd.M Kd.string _ _ _ (⟨#[58]⟩ :ByteArray) [.string (⟨#[58]⟩ :ByteArray)]from rfl) (Reps.one (show Kd.M Kd.string _ _ _ (⟨#[59]⟩ :ByteArray) [.string (⟨#[59]⟩ :ByteArray)]from rfl) (Reps.one (show Kd.M Kd.string _ _ _ (⟨#[44]⟩ :ByteArray) [.string (⟨#[44]⟩ :ByteArray)]from rfl) (Reps.none _ _))))))))))));intro ap aq y hb hg_ hnew_;clear hg_ hnew_;(first|rw[← aa.out]at y|(simp only[Int.reduceToNat]at y;rw[← aa.out]at y));have ab:=rL y;replace HB:=sB hb;clear hb y;obtain⟨ag,ah,ai⟩:=R_slice ab.out;subst ai))
 go_loopg [9] k (fun kq aj w'=> ∃ (g:Int),aj= .int .i64 g∧Aside0 (impl_markAt.l0 kq a b i (i.length:Int) g=some r)∧Aside0 (kq≤k)∧Aside0 (Kd.R Kd.string 9 w' w.heap.size (fun _=>True) (.slice ag i.length ah) i)∧Aside0 (Below w.heap.size w w'))
 case atStart=>exact⟨(0),rS,H',⟨Nat.le_refl _⟩,⟨mR ab⟩,⟨cB⟩⟩
 case round=>
  clear H';obtain⟨g,rfl,HA,HK1,z,HB⟩:=hrel
  cases gk with
  | zero=>exact absurd HA.out (by simp[impl_markAt.l0])
  | succ k1=>
   have H:=HA.out;clear HA;simp only[impl_markAt.l0]at H;by_cases v:g<(i.length:Int)
   ·rw[if_pos v]at H;have ak:=decide_eq_true v;clear v;replace H:=gD H;obtain⟨ar,H⟩:=H;replace H:=gD H;obtain⟨au,H⟩:=H;by_cases x:(wrap64 ((a.size:Int) - b))≥((rdOf ByteArray.empty i g).size:Int)
    ·rw[if_pos x]at H;have al:decide (((rdOf ByteArray.empty i g).size:Int)≤(wrap64 ((a.size:Int) - b)))=true:=decide_eq_true x;clear x;replace H:=gC H;obtain⟨L,H⟩:=H;have av:=eq_true L;have aw:decide (0≤b)=true:=decide_eq_true L;clear L;replace H:=gC H;obtain⟨ac,H⟩:=H;have ax:=eq_true ac;have ay:decide (b≤(wrap64 (b+((rdOf ByteArray.empty i g).size:Int))))=true:=decide_eq_true ac;replace H:=gC H;obtain⟨ad,H⟩:=H;have az:=eq_true ad;have aA:decide ((wrap64 (b+((rdOf ByteArray.empty i g).size:Int)))≤(a.size:Int))=true:=decide_eq_true ad;by_cases A:(a.extract (b:Int).toNat ((wrap64 (b+((rdOf ByteArray.empty i g).size:Int))):Int).toNat).toList=(rdOf ByteArray.empty i g).toList
     ·rw[if_pos A]at H;obtain⟨am,an⟩:=eT A;clear A;obtain rfl:=Option.some.inj H;have o:0≤(g:Int):=dA;have p:g<(i.length:Int):=dA;obtain⟨ae,D,af⟩:=at_string (R_reads' z.out).2.2 g o p;cases D;replace o:=eq_true o;replace p:=eq_true p;go_wp2;go_ret;exact⟨rE,cB⟩
     ·rw[if_neg A]at H;obtain⟨am,an⟩:=eF A;have H':=aM H;clear H;have o:0≤(g:Int):=dA;have p:g<(i.length:Int):=dA;obtain⟨ae,D,af⟩:=at_string (R_reads' z.out).2.2 g o p;cases D;replace o:=eq_true o;replace p:=eq_true p;go_wp2;go_roundg k1
      case measure=>exact oK
      case rel=>exact⟨(wrap64 (g+1)),rS,H',⟨oK⟩,⟨mR z⟩,⟨cB⟩⟩
    ·rw[if_neg x]at H;have al:decide (((rdOf ByteArray.empty i g).size:Int)≤(wrap64 ((a.size:Int) - b)))=false:=decide_eq_false x;clear x;have H':=aM H;clear H;have o:0≤(g:Int):=dA;have p:g<(i.length:Int):=dA;obtain⟨ae,D,af⟩:=at_string (R_reads' z.out).2.2 g o p;cases D;replace o:=eq_true o;replace p:=eq_true p;go_wp2;go_roundg k1
     case measure=>exact oK
     case rel=>exact⟨(wrap64 (g+1)),rS,H',⟨oK⟩,⟨mR z⟩,⟨cB⟩⟩
   ·rw[if_neg v]at H;have ak:=decide_eq_false v;clear v;obtain rfl:=Option.some.inj H;go_wp2;go_ret;exact⟨rE,cB⟩
def impl_runOf_35.l0:Nat→ByteArray→Int→Option (Int)
  | 0,_,_=>none
  | k+1,l,c=>if c<(l.size:Int)then(if 0≤c then((impl_isLetter.f (bt l c)).bind fun O=>(if O=true then(impl_runOf_35.l0 k l (wrap64 (c+1)))else(some c)))else(none))else(some c)
def impl_runOf_35.f (k:Nat) (a:ByteArray) (b:Int) (E:Unit):Option (Int):=impl_runOf_35.l0 k a b
set_option maxHeartbeats 8000000 in
set_option maxRecDepth 100000 in
theorem impl_runOf_35.calls {k:Nat}{a:ByteArray}{b:Int}{E:Unit}{r:Int}{w:World}(h:impl_runOf_35.f k a b E=some r) :
 Calls Try.prog 36 #[.string a,.int .i64 b,.func (.func 35) #[] #[]] w fun e w'=>e= .returned (.int .i64 r)∧Drawn0 w w':=by
 have H:(impl_runOf_35.l0 k a b)=some r:=h;clear h;have H':=aM H;clear H;go_enter Try.func36,Try.ntmps36;go_wp2
 go_loopg [1] k (fun kq U w'=> ∃ (d:Int),U= .int .i64 d∧Aside0 (impl_runOf_35.l0 kq a d=some r)∧Aside0 (kq≤k)∧Drawn0 w w')
 case atStart=>exact⟨(b),rS,H',⟨Nat.le_refl _⟩,by repeat(first|exact Drawn0.refl _|apply Drawn0.step)⟩
 case round=>
  clear H';obtain⟨d,rfl,HA,HK1,⟨m1,rfl⟩⟩:=hrel
  cases gk with
  | zero=>exact absurd HA.out (by simp[impl_runOf_35.l0])
  | succ k1=>
   have H:=HA.out;clear HA;simp only[impl_runOf_35.l0]at H;by_cases m:d<(a.size:Int)
   ·rw[if_pos m]at H;have W:=decide_eq_true m;clear m;replace H:=gD H;obtain⟨ao,H⟩:=H;replace H:=bE H;obtain⟨O,G,H⟩:=H;by_cases u:O=true
    ·subst u;replace H:=iT H;have H':=aM H;clear H;have q:0≤(d:Int):=dA;have s:d<(a.size:Int):=dA;have X:=bt_at a d;replace q:=eq_true q;replace s:=eq_true s
     go_wp2_with (first|(go_at_call 35;(with_reducible refine(impl_isLetter.calls G.out).mono ?_);rintro e w' ⟨rfl,⟨nd,rfl⟩⟩))
     go_roundg k1
     case measure=>exact oK
     case rel=>exact⟨(wrap64 (d+1)),rS,H',⟨oK⟩,by repeat(first|exact Drawn0.refl _|apply Drawn0.step)⟩
    ·replace u:=Bool.eq_false_iff.mpr u;subst u;replace H:=iF H;obtain rfl:=Option.some.inj H;have q:0≤(d:Int):=dA;have s:d<(a.size:Int):=dA;have X:=bt_at a d;replace q:=eq_true q;replace s:=eq_true s
     go_wp2_with (first|(go_at_call 35;(with_reducible refine(impl_isLetter.calls G.out).mono ?_);rintro e w' ⟨rfl,⟨nd,rfl⟩⟩))
     go_ret
     exact⟨by first|rfl|(simp;done)|(simp[*];done),by repeat(first|exact Drawn0.refl _|apply Drawn0.step)⟩
   ·rw[if_neg m]at H;have W:=decide_eq_false m;clear m;obtain rfl:=Option.some.inj H;go_wp2;go_ret
    exact⟨by first|rfl|(simp;done)|(simp[*];done),by repeat(first|exact Drawn0.refl _|apply Drawn0.step)⟩
def impl_runOf_37.l0:Nat→ByteArray→Int→Option (Int)
  | 0,_,_=>none
  | k+1,l,c=>if c<(l.size:Int)then(if 0≤c then((impl_isFigure.f (bt l c)).bind fun Y=>(if Y=true then(impl_runOf_37.l0 k l (wrap64 (c+1)))else(some c)))else(none))else(some c)
def impl_runOf_37.f (k:Nat) (a:ByteArray) (b:Int) (E:Unit):Option (Int):=impl_runOf_37.l0 k a b
set_option maxHeartbeats 8000000 in
set_option maxRecDepth 100000 in
theorem impl_runOf_37.calls {k:Nat}{a:ByteArray}{b:Int}{E:Unit}{r:Int}{w:World}(h:impl_runOf_37.f k a b E=some r) :
 Calls Try.prog 36 #[.string a,.int .i64 b,.func (.func 37) #[] #[]] w fun e w'=>e= .returned (.int .i64 r)∧Drawn0 w w':=by
 have H:(impl_runOf_37.l0 k a b)=some r:=h;clear h;have H':=aM H;clear H;go_enter Try.func36,Try.ntmps36;go_wp2
 go_loopg [1] k (fun kq U w'=> ∃ (d:Int),U= .int .i64 d∧Aside0 (impl_runOf_37.l0 kq a d=some r)∧Aside0 (kq≤k)∧Drawn0 w w')
 case atStart=>exact⟨(b),rS,H',⟨Nat.le_refl _⟩,by repeat(first|exact Drawn0.refl _|apply Drawn0.step)⟩
 case round=>
  clear H';obtain⟨d,rfl,HA,HK1,⟨m1,rfl⟩⟩:=hrel
  cases gk with
  | zero=>exact absurd HA.out (by simp[impl_runOf_37.l0])
  | succ k1=>
   have H:=HA.out;clear HA;simp only[impl_runOf_37.l0]at H;by_cases m:d<(a.size:Int)
   ·rw[if_pos m]at H;have W:=decide_eq_true m;clear m;replace H:=gD H;obtain⟨ao,H⟩:=H;replace H:=bE H;obtain⟨Y,G,H⟩:=H;by_cases u:Y=true
    ·subst u;replace H:=iT H;have H':=aM H;clear H;have q:0≤(d:Int):=dA;have s:d<(a.size:Int):=dA;have X:=bt_at a d;replace q:=eq_true q;replace s:=eq_true s
     go_wp2_with (first|(go_at_call 37;(with_reducible refine(impl_isFigure.calls G.out).mono ?_);rintro e w' ⟨rfl,⟨nd,rfl⟩⟩))
     go_roundg k1
     case measure=>exact oK
     case rel=>exact⟨(wrap64 (d+1)),rS,H',⟨oK⟩,by repeat(first|exact Drawn0.refl _|apply Drawn0.step)⟩
    ·replace u:=Bool.eq_false_iff.mpr u;subst u;replace H:=iF H;obtain rfl:=Option.some.inj H;have q:0≤(d:Int):=dA;have s:d<(a.size:Int):=dA;have X:=bt_at a d;replace q:=eq_true q;replace s:=eq_true s
     go_wp2_with (first|(go_at_call 37;(with_reducible refine(impl_isFigure.calls G.out).mono ?_);rintro e w' ⟨rfl,⟨nd,rfl⟩⟩))
     go_ret
     exact⟨by first|rfl|(simp;done)|(simp[*];done),by repeat(first|exact Drawn0.refl _|apply Drawn0.step)⟩
   ·rw[if_neg m]at H;have W:=decide_eq_false m;clear m;obtain rfl:=Option.some.inj H;go_wp2;go_ret
    exact⟨by first|rfl|(simp;done)|(simp[*];done),by repeat(first|exact Drawn0.refl _|apply Drawn0.step)⟩
end Go.Proofs.Ytfhjjfibblcklaa.PFnExactReadPolicy
