/- Integers and their bytes, plainly; words for pure proofs. -/
import Derived.Test.YtnigjppddilpcaaGreatDoorAbs29
import Derived.KernelRfl
namespace Go.Proofs.YtnigjppddilpcaaGreatDoor
open Go Abs
set_option linter.unusedSimpArgs false
set_option linter.unusedVariables false
def zz (n:Int):Nat:=if 0≤n then (2*n).toNat else (2*(-(n+1))+1).toNat
def aBX (u:Nat):Int:=if u % 2=1 then -((u / 2:Nat):Int) - 1 else ((u / 2:Nat):Int)
def uF (u:Nat):List UInt8:=if h:u<128 then [UInt8.ofNat u] else UInt8.ofNat (128+u % 128) :: uF (u / 128)
termination_by u
decreasing_by omega
theorem aG9 {u:Nat} (h:u<128):uF u=[UInt8.ofNat u]:=by rw [uF];simp [h]
theorem aJg {u:Nat} (h:¬u<128):uF u=UInt8.ofNat (128+u % 128) :: uF (u / 128):=by rw [uF];simp [h]
theorem aSQ (k:Nat):∀ u,u<128 ^ (k+1)→(uF u).length≤k+1:=by
 induction k with
 | zero=>intro u h;rw [aG9 (by simpa using h)];simp
 | succ k ih =>
  intro u h
  by_cases hu:u<128
  ·
   rw [aG9 hu];simp
  ·
   rw [aJg hu]
   have:=ih (u / 128) (by rw [pR (by omega)];rw [oW] at h;exact h)
   simp only [fB]
   omega
theorem aCB {u:Nat} (h:u<18446744073709551616):(uF u).length≤10:=aSQ 9 u (by omega)
theorem aIu {n:Int} (h1:-9223372036854775808≤n) (h2:n≤9223372036854775807):zz n<18446744073709551616:=by unfold zz;split <;> omega
theorem aTZ (n:Int):aBX (zz n)=n:=by unfold aBX zz;split <;> split <;> omega
theorem aTY {u:Nat} (h:u<18446744073709551616):-9223372036854775808≤aBX u∧aBX u≤9223372036854775807:=by unfold aBX;split <;> omega
theorem aMM (x y:Int):lR .xor .u64 x y=IntKind.u64.wrap ((BitVec.ofInt 64 x ^^^ BitVec.ofInt 64 y).toNat:Int):=rfl
theorem aPq {n:Int} (h1:-9223372036854775808≤n) (h2:n≤9223372036854775807) :
  lR .xor .u64 (IntKind.u64.wrap (IntKind.u64.wrap n*2)) (IntKind.u64.wrap (n.fdiv 9223372036854775808))=(zz n:Nat):=by
 rw [aMM]
 by_cases h0:0≤n
 ·
  have e:n.fdiv 9223372036854775808=0:=by rw [nH _ (by omega)];omega
  have e2:BitVec.ofInt 64 (IntKind.u64.wrap 0)=0#64:=by decide
  rw [e,e2,BitVec.xor_zero,kW]
  simp only [zz,h0,cL,IntKind.wrap_u64]
  omega
 ·
  have e:n.fdiv 9223372036854775808=-1:=by rw [nH _ (by omega)];omega
  have e2:BitVec.ofInt 64 (IntKind.u64.wrap (-1))=BitVec.allOnes 64:=by decide
  rw [e,e2,BitVec.xor_allOnes,BitVec.toNat_not,kW]
  simp only [zz,h0,dZ,IntKind.wrap_u64]
  omega
theorem aRd:((List.range 256).all fun x=>decide (lR .or .u8 (x:Int) 128=((128+x % 128:Nat):Int)))=true:=by kernel_rfl
theorem aVT {u:Nat}:lR .or .u8 (IntKind.u8.wrap u) 128=((128+u % 128:Nat):Int):=by
 have h:=cI.1 aRd (u % 256) (fE.2 (by omega))
 rw [IntKind.wrap_u8,show (u:Int) % 256=((u % 256:Nat):Int) by omega,gE h]
 omega
theorem aWn {u:Nat}:(u:Int).fdiv 128=((u / 128:Nat):Int):=by rw [nH _ (by omega)];omega
theorem aQd {u:Nat} (h:u<256):(IntKind.u8.wrap (u:Int))=((UInt8.ofNat u).toNat:Int):=by
 rw [IntKind.wrap_u8];simp
theorem aRC {u:Nat} (h:u<256):(u:Int)=((UInt8.ofNat u).toNat:Int):=by simp;omega
def xE (k u:Nat):List UInt8→Nat ⊕ (Nat × Nat)
 | []=>if 10≤k then .inl 3 else .inl 4
 | c :: r=>if 10≤k then .inl 3 else if 128≤c.toNat then xE (k+1) (u+c.toNat % 128*128 ^ k) r
  else if (0<k∧c.toNat=0)∨(k=9∧1<c.toNat) then .inl 3 else .inr (u+c.toNat*128 ^ k,k+1)
def rM (rest:List UInt8) (low high:Int):Int × Nat × Nat:=match xE 0 0 rest with
 | .inl e=>(0,0,e)
 | .inr (u,k)=>if aBX u<low∨high<aBX u then (0,k,14) else (aBX u,k,0)
theorem aOs:((List.range 256).all fun x=>decide (lR .and .u8 (x:Int) 127=((x % 128:Nat):Int)))=true:=by kernel_rfl
theorem aUv (c:UInt8):lR .and .u8 (c.toNat:Int) 127=((c.toNat % 128:Nat):Int) :=
 gE (cI.1 aOs c.toNat (fE.2 (by have:=c.toNat_lt;omega)))
theorem aOm (x y:Int):lR .or .u64 x y=IntKind.u64.wrap ((BitVec.ofInt 64 x ||| BitVec.ofInt 64 y).toNat:Int):=rfl
theorem aML (x y:Int):lR .and .u64 x y=IntKind.u64.wrap ((BitVec.ofInt 64 x &&& BitVec.ofInt 64 y).toNat:Int):=rfl
theorem aLK (x y:Int):lR .xor .i64 x y=IntKind.i64.wrap ((BitVec.ofInt 64 x ^^^ BitVec.ofInt 64 y).toNat:Int):=rfl
theorem aUQ {u x i:Nat} (hu:u<2 ^ i) (hx:2 ^ i*x<18446744073709551616) (hu2:u<18446744073709551616):lR .or .u64 (u:Int) ((2 ^ i*x:Nat):Int)=((u+2 ^ i*x:Nat):Int):=by
 have h1:2 ^ i*x+u=2 ^ i*x ||| u:=Nat.two_pow_add_eq_or_of_lt hu x
 have h2:(2 ^ i*x ||| u)<2 ^ 64:=Nat.or_lt_two_pow (by omega) (by omega)
 rw [aOm,BitVec.toNat_or,kW,kW]
 have e1:((u:Int) % ((2 ^ 64:Nat):Int)).toNat=u:=by omega
 have e2:(((2 ^ i*x:Nat):Int) % ((2 ^ 64:Nat):Int)).toNat=2 ^ i*x:=by omega
 rw [e1,e2,Nat.or_comm,← h1,IntKind.wrap_u64]
 omega
theorem aSp (k:Nat):128 ^ k=2 ^ (7*k):=by rw [Nat.pow_mul]
theorem aTn {u:Nat} (c:UInt8) {k:Nat} (hk:k≤9) (hu:u<128 ^ k) (hc:k≤8∨c.toNat≤1) :
  lR .or .u64 (u:Int) (IntKind.u64.wrap (IntKind.u64.wrap ((c.toNat % 128:Nat):Int)*2 ^ min (IntKind.i64.wrap (7*(k:Int))).toNat IntKind.u64.bits))=((u+c.toNat % 128*128 ^ k:Nat):Int):=by
 have h7:(IntKind.i64.wrap (7*(k:Int))).toNat=7*k:=by
  have e:IntKind.i64.wrap (7*(k:Int))=7*(k:Int):=by rw [IntKind.wrap_i64];omega
  rw [e];omega
 have hm:min (7*k) IntKind.u64.bits=7*k:=by show min (7*k) 64=7*k;omega
 rw [h7,hm]
 have hx:2 ^ (7*k)*(c.toNat % 128)<18446744073709551616:=by
  have hlt:=c.toNat_lt
  have:k=0∨k=1∨k=2∨k=3∨k=4∨k=5∨k=6∨k=7∨k=8∨k=9:=by omega
  rcases this with rfl | rfl | rfl | rfl | rfl | rfl | rfl | rfl | rfl | rfl <;> omega
 have hu64:u<18446744073709551616:=by
  have:(128:Nat) ^ k≤128 ^ 9:=Nat.pow_le_pow_right (by omega) hk
  omega
 rw [aSp] at hu
 have e:IntKind.u64.wrap (IntKind.u64.wrap ((c.toNat % 128:Nat):Int)*2 ^ (7*k))=((2 ^ (7*k)*(c.toNat % 128):Nat):Int):=by
  have e1:IntKind.u64.wrap ((c.toNat % 128:Nat):Int)=((c.toNat % 128:Nat):Int):=by rw [IntKind.wrap_u64];omega
  rw [e1,IntKind.wrap_u64]
  have e2:((c.toNat % 128:Nat):Int)*2 ^ (7*k)=((2 ^ (7*k)*(c.toNat % 128):Nat):Int):=by
   rw [Int.natCast_mul,Int.natCast_pow,Int.mul_comm];rfl
  rw [e2]
  omega
 rw [e,aUQ hu hx hu64,aSp,oV]
theorem aRf {u:Nat} (hu:u<18446744073709551616) :
  lR .xor .i64 (IntKind.i64.wrap ((u:Int).fdiv 2)) (IntKind.i64.wrap (0 - IntKind.i64.wrap (lR .and .u64 (u:Int) 1)))=aBX u:=by
 have ea:lR .and .u64 (u:Int) 1=((u % 2:Nat):Int):=by
  rw [aML,BitVec.toNat_and,kW,kW]
  have e1:((u:Int) % ((2 ^ 64:Nat):Int)).toNat=u:=by omega
  have e2:((1:Int) % ((2 ^ 64:Nat):Int)).toNat=1:=by decide
  rw [e1,e2,Nat.and_one_is_mod,IntKind.wrap_u64]
  omega
 have ef:(u:Int).fdiv 2=((u / 2:Nat):Int):=by rw [nH _ (by omega)];omega
 rw [ea,ef,aLK]
 unfold aBX
 split
 ·
  rename_i h
  have e2:BitVec.ofInt 64 (IntKind.i64.wrap (0 - IntKind.i64.wrap ((u % 2:Nat):Int)))=BitVec.allOnes 64:=by rw [h];decide
  rw [e2,BitVec.xor_allOnes,BitVec.toNat_not,kW]
  simp only [IntKind.wrap_i64]
  omega
 ·
  rename_i h
  have h0:u % 2=0:=by omega
  have e2:BitVec.ofInt 64 (IntKind.i64.wrap (0 - IntKind.i64.wrap ((u % 2:Nat):Int)))=0#64:=by rw [h0];decide
  rw [e2,BitVec.xor_zero,kW]
  simp only [IntKind.wrap_i64]
  omega
theorem aS3 {a k:Nat} (ha:a≤1000000000000) (hk:k≤9):IntKind.i64.wrap ((a:Int)+IntKind.i64.wrap ((k:Int)+1))=((a+(k+1):Nat):Int):=by
 rw [show IntKind.i64.wrap ((k:Int)+1)=(k:Int)+1 by rw [IntKind.wrap_i64];omega,IntKind.wrap_i64];omega
theorem w64 {x:Int} (h1:-9223372036854775808≤x) (h2:x≤9223372036854775807):IntKind.i64.wrap x=x:=by rw [IntKind.wrap_i64];omega
theorem aWC {x:Int} (h1:0≤x) (h2:x≤18446744073709551615):IntKind.u64.wrap x=x:=by rw [IntKind.wrap_u64];omega
theorem sh1:(2:Int) ^ min (Int.toNat 1) IntKind.u64.bits=2:=by decide
theorem aWm:(2:Int) ^ min (Int.toNat 63) IntKind.i64.bits=9223372036854775808:=by decide
theorem sh7:(2:Int) ^ min (Int.toNat 7) IntKind.u64.bits=128:=by decide
theorem aHq {n:Int}{x:UInt8} (h:n=(x.toNat:Int)):aBy n=some x:=by rw [h,aJp]
theorem aGu {n:Nat} (h:n<256):aBy (n:Int)=some (UInt8.ofNat n):=aHq (aRC h)
theorem wO {α:Type}{k:Nat}{xs ys:List α} (h:(xs.length+ys.length)*k≤140737488355328):app k xs ys=some (xs++ys):=by rw [app,bB h]
theorem aRD {xs ys:List UInt8} (h:xs.length+ys.length≤9223372036854775807):cat xs ys=some (xs++ys):=by rw [cat,bB h]
theorem aVq {b:Int} (h:0≤b):nn b=some b:=by rw [nn,bB h]
theorem aJe {α:Type}{xs:List α}{l:Int} (h:0≤l∧l≤xs.length):aPk xs l=some (xs.drop l.toNat):=by rw [aPk,bB h]
theorem aPX {α:Type}{xs:List α}{l:Int} (h:0≤l∧l≤xs.length):aSE xs l=some (xs.take l.toNat):=by rw [aSE,bB h]
theorem aTz {α:Type}{xs:List α}{l h:Int} (hh:0≤l∧l≤h∧h≤xs.length):aTy xs l h=some ((xs.take h.toNat).drop l.toNat):=by rw [aTy,bB hh]
theorem dO {p:Prop} [Decidable p] {α:Type}{x y:α}:cond (decide p) x y=if p then x else y:=by by_cases h:p <;> simp [h]
theorem aBQ {p:Prop} [Decidable p] {α:Type}{x y:α}:cond (!decide p) x y=if p then y else x:=by by_cases h:p <;> simp [h]
theorem aNq {σ ρ:Type}{body:σ→Option (dU σ ρ)}{s:σ}{r:ρ} (h:body s=some (.out r)):gL body s=some r:=by rw [aEt,h];rfl
def LeO {α:Type} (a b:Option α):Prop:=∀ r,a=some r→b=some r
theorem aGF {α:Type} (a:Option α):LeO a a:=fun _ h=>h
theorem aI2 {α β:Type}{a b:Option α}{f g:α→Option β} (h:LeO a b) (k:∀ x,LeO (f x) (g x)):LeO (a.bind f) (b.bind g):=fun r e=>by
 obtain ⟨x,hx,e⟩:=lB e
 rw [h x hx];exact k x r e
theorem aI3 {α:Type}{c:Bool}{a b a2 b2:Option α} (h:LeO a a2) (k:LeO b b2):LeO (cond c a b) (cond c a2 b2):=by cases c <;> assumption
theorem aPL {α:Type} [Inhabited α] {c:Bool}{a b:Option α} (h:LeO a b):LeO (gd c a) (gd c b):=by
 cases c
 ·
  exact fun _ h=>h
 ·
  exact h
theorem aI4 {τ κ:Type}{x:Fl τ κ}{f g:κ→Option τ} (h:∀ j,LeO (f j) (g j)):LeO (Fl.next x f) (Fl.next x g):=by
 cases x
 ·
  exact fun _ h=>h
 ·
  exact h _
theorem aNp {σ ρ:Type}{b c:σ→Option (dU σ ρ)} (h:∀ s,LeO (b s) (c s)):∀ n s,LeO (aCb b n s) (aCb c n s)
 | 0,_=>fun _ h=>by cases h
 | n+1,s=>fun r e=>by
  simp only [aCb] at e ⊢
  cases hb:b s with
  | none=>rw [hb] at e;cases e
  | some x =>
   rw [hb] at e;rw [h s _ hb]
   cases x with
   | out y=>exact e
   | next t=>exact aNp h n t r e
theorem aGE {σ ρ:Type}{b c:σ→Option (dU σ ρ)}{s:σ} (h:∀ s,LeO (b s) (c s)):LeO (gL b s) (gL c s):=fun r e=>by
 obtain ⟨n,hn⟩:=aDC e
 exact aGH (aNp h n s r hn)
theorem aSc {β:Type}{n:Nat}{f:Nat→Option β}{r:β} (h:f n=some r) (mono:∀ m,n≤m→LeO (f n) (f m)):lim f=some r:=zY n fun m hm=>mono m hm r h
