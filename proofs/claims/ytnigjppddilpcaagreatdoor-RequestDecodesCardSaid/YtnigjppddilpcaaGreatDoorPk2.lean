/- Integers and their bytes, plainly; words for pure proofs. -/
import Derived.Test.YtnigjppddilpcaaGreatDoorAbs29
import Derived.KernelRfl
namespace Go.Proofs.YtnigjppddilpcaaGreatDoor
open Go Abs
set_option linter.unusedSimpArgs false
set_option linter.unusedVariables false
def zz (n:Int):Nat:=if 0≤n then (2*n).toNat else (2*(-(n+1))+1).toNat
def aCa (u:Nat):Int:=if u % 2=1 then -((u / 2:Nat):Int) - 1 else ((u / 2:Nat):Int)
def aAW (u:Nat):List UInt8:=if h:u<128 then [UInt8.ofNat u] else UInt8.ofNat (128+u % 128) :: aAW (u / 128)
termination_by u
decreasing_by omega
theorem aIG {u:Nat} (h:u<128):aAW u=[UInt8.ofNat u]:=by rw [aAW];simp [h]
theorem aLH {u:Nat} (h:¬u<128):aAW u=UInt8.ofNat (128+u % 128) :: aAW (u / 128):=by rw [aAW];simp [h]
theorem aRE (k:Nat):∀ u,u<128 ^ (k+1)→(aAW u).length≤k+1:=by
 induction k with
 | zero=>intro u h;rw [aIG (by simpa using h)];simp
 | succ k ih =>
  intro u h
  by_cases hu:u<128
  ·
   rw [aIG hu];simp
  ·
   rw [aLH hu]
   have:=ih (u / 128) (by rw [qN (by omega)];rw [pT] at h;exact h)
   simp only [fU]
   omega
theorem aJB {u:Nat} (h:u<18446744073709551616):(aAW u).length≤10:=aRE 9 u (by omega)
theorem aO7 {n:Int} (h1:-9223372036854775808≤n) (h2:n≤9223372036854775807):zz n<18446744073709551616:=by unfold zz;split <;> omega
theorem aSK (n:Int):aCa (zz n)=n:=by unfold aCa zz;split <;> split <;> omega
theorem aSJ {u:Nat} (h:u<18446744073709551616):-9223372036854775808≤aCa u∧aCa u≤9223372036854775807:=by unfold aCa;split <;> omega
theorem aLZ (x y:Int):mU .xor .u64 x y=IntKind.u64.wrap ((BitVec.ofInt 64 x ^^^ BitVec.ofInt 64 y).toNat:Int):=rfl
theorem aOp {n:Int} (h1:-9223372036854775808≤n) (h2:n≤9223372036854775807) :
  mU .xor .u64 (IntKind.u64.wrap (IntKind.u64.wrap n*2)) (IntKind.u64.wrap (n.fdiv 9223372036854775808))=(zz n:Nat):=by
 rw [aLZ]
 by_cases h0:0≤n
 ·
  have e:n.fdiv 9223372036854775808=0:=by rw [nW _ (by omega)];omega
  have e2:BitVec.ofInt 64 (IntKind.u64.wrap 0)=0#64:=by decide
  rw [e,e2,BitVec.xor_zero,lK]
  simp only [zz,h0,dP,IntKind.wrap_u64]
  omega
 ·
  have e:n.fdiv 9223372036854775808=-1:=by rw [nW _ (by omega)];omega
  have e2:BitVec.ofInt 64 (IntKind.u64.wrap (-1))=BitVec.allOnes 64:=by decide
  rw [e,e2,BitVec.xor_allOnes,BitVec.toNat_not,lK]
  simp only [zz,h0,eU,IntKind.wrap_u64]
  omega
theorem aP2:((List.range 256).all fun x=>decide (mU .or .u8 (x:Int) 128=((128+x % 128:Nat):Int)))=true:=by kernel_rfl
theorem aUC {u:Nat}:mU .or .u8 (IntKind.u8.wrap u) 128=((128+u % 128:Nat):Int):=by
 have h:=cR.1 aP2 (u % 256) (fB.2 (by omega))
 rw [IntKind.wrap_u8,show (u:Int) % 256=((u % 256:Nat):Int) by omega,gR h]
 omega
theorem aU1 {u:Nat}:(u:Int).fdiv 128=((u / 128:Nat):Int):=by rw [nW _ (by omega)];omega
theorem aSI {u:Nat} (h:u<256):(IntKind.u8.wrap (u:Int))=((UInt8.ofNat u).toNat:Int):=by
 rw [IntKind.wrap_u8];simp
theorem aQs {u:Nat} (h:u<256):(u:Int)=((UInt8.ofNat u).toNat:Int):=by simp;omega
def xK (k u:Nat):List UInt8→Nat ⊕ (Nat × Nat)
 | []=>if 10≤k then .inl 3 else .inl 4
 | c :: r=>if 10≤k then .inl 3 else if 128≤c.toNat then xK (k+1) (u+c.toNat % 128*128 ^ k) r
  else if (0<k∧c.toNat=0)∨(k=9∧1<c.toNat) then .inl 3 else .inr (u+c.toNat*128 ^ k,k+1)
def nN (rest:List UInt8) (low high:Int):Int × Nat × Nat:=match xK 0 0 rest with
 | .inl e=>(0,0,e)
 | .inr (u,k)=>if aCa u<low∨high<aCa u then (0,k,14) else (aCa u,k,0)
theorem aNs:((List.range 256).all fun x=>decide (mU .and .u8 (x:Int) 127=((x % 128:Nat):Int)))=true:=by kernel_rfl
theorem aS9 (c:UInt8):mU .and .u8 (c.toNat:Int) 127=((c.toNat % 128:Nat):Int) :=
 gR (cR.1 aNs c.toNat (fB.2 (by have:=c.toNat_lt;omega)))
theorem aNm (x y:Int):mU .or .u64 x y=IntKind.u64.wrap ((BitVec.ofInt 64 x ||| BitVec.ofInt 64 y).toNat:Int):=rfl
theorem aLY (x y:Int):mU .and .u64 x y=IntKind.u64.wrap ((BitVec.ofInt 64 x &&& BitVec.ofInt 64 y).toNat:Int):=rfl
theorem aKV (x y:Int):mU .xor .i64 x y=IntKind.i64.wrap ((BitVec.ofInt 64 x ^^^ BitVec.ofInt 64 y).toNat:Int):=rfl
theorem aTt {u x i:Nat} (hu:u<2 ^ i) (hx:2 ^ i*x<18446744073709551616) (hu2:u<18446744073709551616):mU .or .u64 (u:Int) ((2 ^ i*x:Nat):Int)=((u+2 ^ i*x:Nat):Int):=by
 have h1:2 ^ i*x+u=2 ^ i*x ||| u:=Nat.two_pow_add_eq_or_of_lt hu x
 have h2:(2 ^ i*x ||| u)<2 ^ 64:=Nat.or_lt_two_pow (by omega) (by omega)
 rw [aNm,BitVec.toNat_or,lK,lK]
 have e1:((u:Int) % ((2 ^ 64:Nat):Int)).toNat=u:=by omega
 have e2:(((2 ^ i*x:Nat):Int) % ((2 ^ 64:Nat):Int)).toNat=2 ^ i*x:=by omega
 rw [e1,e2,Nat.or_comm,← h1,IntKind.wrap_u64]
 omega
theorem aRe (k:Nat):128 ^ k=2 ^ (7*k):=by rw [Nat.pow_mul]
theorem aSa {u:Nat} (c:UInt8) {k:Nat} (hk:k≤9) (hu:u<128 ^ k) (hc:k≤8∨c.toNat≤1) :
  mU .or .u64 (u:Int) (IntKind.u64.wrap (IntKind.u64.wrap ((c.toNat % 128:Nat):Int)*2 ^ min (IntKind.i64.wrap (7*(k:Int))).toNat IntKind.u64.bits))=((u+c.toNat % 128*128 ^ k:Nat):Int):=by
 have h7:(IntKind.i64.wrap (7*(k:Int))).toNat=7*k:=by
  have e:IntKind.i64.wrap (7*(k:Int))=7*(k:Int):=by rw [IntKind.wrap_i64];omega
  rw [e];omega
 have hm:min (7*k) IntKind.u64.bits=7*k:=by show min (7*k) 64=7*k;omega
 rw [h7,hm]
 have hx:2 ^ (7*k)*(c.toNat % 128)<18446744073709551616:=by
  have hlt:=c.toNat_lt
  have:k=0∨k=1∨k=2∨k=3∨k=4∨k=5∨k=6∨k=7∨k=8∨k=9:=by omega
  rcases this with rfl | rfl | rfl | rfl | rfl | rfl | rfl | rfl | rfl | rfl <;> omega
 have hu64:u<18446744073709551616:=by
  have:(128:Nat) ^ k≤128 ^ 9:=Nat.pow_le_pow_right (by omega) hk
  omega
 rw [aRe] at hu
 have e:IntKind.u64.wrap (IntKind.u64.wrap ((c.toNat % 128:Nat):Int)*2 ^ (7*k))=((2 ^ (7*k)*(c.toNat % 128):Nat):Int):=by
  have e1:IntKind.u64.wrap ((c.toNat % 128:Nat):Int)=((c.toNat % 128:Nat):Int):=by rw [IntKind.wrap_u64];omega
  rw [e1,IntKind.wrap_u64]
  have e2:((c.toNat % 128:Nat):Int)*2 ^ (7*k)=((2 ^ (7*k)*(c.toNat % 128):Nat):Int):=by
   rw [Int.natCast_mul,Int.natCast_pow,Int.mul_comm];rfl
  rw [e2]
  omega
 rw [e,aTt hu hx hu64,aRe,rP]
theorem aP4 {u:Nat} (hu:u<18446744073709551616) :
  mU .xor .i64 (IntKind.i64.wrap ((u:Int).fdiv 2)) (IntKind.i64.wrap (0 - IntKind.i64.wrap (mU .and .u64 (u:Int) 1)))=aCa u:=by
 have ea:mU .and .u64 (u:Int) 1=((u % 2:Nat):Int):=by
  rw [aLY,BitVec.toNat_and,lK,lK]
  have e1:((u:Int) % ((2 ^ 64:Nat):Int)).toNat=u:=by omega
  have e2:((1:Int) % ((2 ^ 64:Nat):Int)).toNat=1:=by decide
  rw [e1,e2,Nat.and_one_is_mod,IntKind.wrap_u64]
  omega
 have ef:(u:Int).fdiv 2=((u / 2:Nat):Int):=by rw [nW _ (by omega)];omega
 rw [ea,ef,aKV]
 unfold aCa
 split
 ·
  rename_i h
  have e2:BitVec.ofInt 64 (IntKind.i64.wrap (0 - IntKind.i64.wrap ((u % 2:Nat):Int)))=BitVec.allOnes 64:=by rw [h];decide
  rw [e2,BitVec.xor_allOnes,BitVec.toNat_not,lK]
  simp only [IntKind.wrap_i64]
  omega
 ·
  rename_i h
  have h0:u % 2=0:=by omega
  have e2:BitVec.ofInt 64 (IntKind.i64.wrap (0 - IntKind.i64.wrap ((u % 2:Nat):Int)))=0#64:=by rw [h0];decide
  rw [e2,BitVec.xor_zero,lK]
  simp only [IntKind.wrap_i64]
  omega
theorem aRT {a k:Nat} (ha:a≤1000000000000) (hk:k≤9):IntKind.i64.wrap ((a:Int)+IntKind.i64.wrap ((k:Int)+1))=((a+(k+1):Nat):Int):=by
 rw [show IntKind.i64.wrap ((k:Int)+1)=(k:Int)+1 by rw [IntKind.wrap_i64];omega,IntKind.wrap_i64];omega
theorem w64 {x:Int} (h1:-9223372036854775808≤x) (h2:x≤9223372036854775807):IntKind.i64.wrap x=x:=by rw [IntKind.wrap_i64];omega
theorem aVg {x:Int} (h1:0≤x) (h2:x≤18446744073709551615):IntKind.u64.wrap x=x:=by rw [IntKind.wrap_u64];omega
theorem sh1:(2:Int) ^ min (Int.toNat 1) IntKind.u64.bits=2:=by decide
theorem aU0:(2:Int) ^ min (Int.toNat 63) IntKind.i64.bits=9223372036854775808:=by decide
theorem sh7:(2:Int) ^ min (Int.toNat 7) IntKind.u64.bits=128:=by decide
theorem aKx {n:Int}{x:UInt8} (h:n=(x.toNat:Int)):aDD n=some x:=by rw [h,aNI]
theorem aIO {n:Nat} (h:n<256):aDD (n:Int)=some (UInt8.ofNat n):=aKx (aQs h)
theorem wW {α:Type}{k:Nat}{xs ys:List α} (h:(xs.length+ys.length)*k≤140737488355328):app k xs ys=some (xs++ys):=by rw [app,bH h]
theorem aQt {xs ys:List UInt8} (h:xs.length+ys.length≤9223372036854775807):cat xs ys=some (xs++ys):=by rw [cat,bH h]
theorem aT4 {b:Int} (h:0≤b):nn b=some b:=by rw [nn,bH h]
theorem aGK {α:Type}{xs:List α}{l:Int} (h:0≤l∧l≤xs.length):aM3 xs l=some (xs.drop l.toNat):=by rw [aM3,bH h]
theorem aLw {α:Type}{xs:List α}{l:Int} (h:0≤l∧l≤xs.length):aPX xs l=some (xs.take l.toNat):=by rw [aPX,bH h]
theorem aSl {α:Type}{xs:List α}{l h:Int} (hh:0≤l∧l≤h∧h≤xs.length):aSk xs l h=some ((xs.take h.toNat).drop l.toNat):=by rw [aSk,bH hh]
theorem dW {p:Prop} [Decidable p] {α:Type}{x y:α}:cond (decide p) x y=if p then x else y:=by by_cases h:p <;> simp [h]
theorem aB2 {p:Prop} [Decidable p] {α:Type}{x y:α}:cond (!decide p) x y=if p then y else x:=by by_cases h:p <;> simp [h]
theorem mX {σ ρ:Type}{body:σ→Option (dU σ ρ)}{s s':σ} (h:body s=some (.next s')):fK body s=fK body s':=by rw [aDm,h];rfl
theorem pY {σ ρ:Type}{body:σ→Option (dU σ ρ)}{s:σ}{r:ρ} (h:body s=some (.out r)):fK body s=some r:=by rw [aDm,h];rfl
def LeO {α:Type} (a b:Option α):Prop:=∀ r,a=some r→b=some r
theorem aCV {α:Type} (a:Option α):LeO a a:=fun _ h=>h
theorem aDH {α β:Type}{a b:Option α}{f g:α→Option β} (h:LeO a b) (k:∀ x,LeO (f x) (g x)):LeO (a.bind f) (b.bind g):=fun r e=>by
 obtain ⟨x,hx,e⟩:=iW e
 rw [h x hx];exact k x r e
theorem aDI {α:Type}{c:Bool}{a b a2 b2:Option α} (h:LeO a a2) (k:LeO b b2):LeO (cond c a b) (cond c a2 b2):=by cases c <;> assumption
theorem aI4 {α:Type} [Inhabited α] {c:Bool}{a b:Option α} (h:LeO a b):LeO (gd c a) (gd c b):=by
 cases c
 ·
  exact fun _ h=>h
 ·
  exact h
theorem aDJ {τ κ:Type}{x:Fl τ κ}{f g:κ→Option τ} (h:∀ j,LeO (f j) (g j)):LeO (Fl.next x f) (Fl.next x g):=by
 cases x
 ·
  exact fun _ h=>h
 ·
  exact h _
theorem aMw {σ ρ:Type}{b c:σ→Option (dU σ ρ)} (h:∀ s,LeO (b s) (c s)):∀ n s,LeO (aCr b n s) (aCr c n s)
 | 0,_=>fun _ h=>by cases h
 | n+1,s=>fun r e=>by
  simp only [aCr] at e ⊢
  cases hb:b s with
  | none=>rw [hb] at e;cases e
  | some x =>
   rw [hb] at e;rw [h s _ hb]
   cases x with
   | out y=>exact e
   | next t=>exact aMw h n t r e
theorem aCq {σ ρ:Type}{b c:σ→Option (dU σ ρ)}{s:σ} (h:∀ s,LeO (b s) (c s)):LeO (fK b s) (fK c s):=fun r e=>by
 obtain ⟨n,hn⟩:=aDK e
 exact aGr (aMw h n s r hn)
theorem aNZ {β:Type}{n:Nat}{f:Nat→Option β}{r:β} (h:f n=some r) (mono:∀ m,n≤m→LeO (f n) (f m)):lim f=some r:=aAb n fun m hm=>mono m hm r h
