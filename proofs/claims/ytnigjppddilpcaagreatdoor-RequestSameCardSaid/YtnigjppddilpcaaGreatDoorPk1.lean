/- Small words for pure functions: limits, loops, indexing, slicing, guarded values. -/
import Derived.Test.YtnigjppddilpcaaGreatDoorAl
import Derived.WalkKit
namespace Go.Proofs.YtnigjppddilpcaaGreatDoor
open Go
set_option linter.unusedVariables false
set_option linter.unusedSimpArgs false
theorem rB {α β:Type}{o:Option α}{f:α→Option β}{r:β} (h:o.bind f=some r):∃ x,o=some x∧f x=some r:=mE.1 h
theorem aOy {α:Type}{b:Bool}{x y:Option α}{r:α} (hb:b=true) (h:cond b x y=some r):x=some r:=by rw [hb] at h;exact h
theorem aOx {α:Type}{b:Bool}{x y:Option α}{r:α} (hb:b=false) (h:cond b x y=some r):y=some r:=by rw [hb] at h;exact h
theorem aIt {α:Type}{p:Prop} [Decidable p] {x:Option α}{r:α} (h:(if p then x else none)=some r):p∧x=some r:=by
 by_cases hp:p
 ·
  rw [aQ hp] at h;exact ⟨hp,h⟩
 ·
  rw [aN hp] at h;cases h
noncomputable def lim {β:Type} (f:Nat→Option β):Option β:=open Classical in if h:∃ r N,∀ n,N≤n→f n=some r then some (Classical.choose h) else none
theorem wK {β:Type}{f:Nat→Option β}{r:β} (h:lim f=some r):∃ n,f n=some r:=by
 unfold lim at h
 split at h
 ·
  rename_i hx
  cases h
  obtain ⟨N,hN⟩:=Classical.choose_spec hx
  exact ⟨N,hN N (eN _)⟩
 ·
  cases h
theorem vI {β:Type}{f:Nat→Option β}{r:β} (N:Nat) (h:∀ n,N≤n→f n=some r):lim f=some r:=by
 unfold lim
 have hx:∃ r N,∀ n,N≤n→f n=some r:=⟨r,N,h⟩
 rw [dif_pos hx]
 obtain ⟨M,hM⟩:=Classical.choose_spec hx
 have h1:=hM (max N M) (Nat.le_max_right _ _)
 have h2:=h (max N M) (Nat.le_max_left _ _)
 rw [h1] at h2
 exact h2
inductive dG (σ ρ:Type) where
 | next (s:σ)
 | out (r:ρ)
inductive Fl (τ κ:Type) where
 | done (t:τ)
 | go (j:κ)
def Fl.next {τ κ:Type} (x:Fl τ κ) (f:κ→Option τ):Option τ:=match x with | .done t=>some t | .go j=>f j
def aAj {σ ρ:Type} (body:σ→Option (dG σ ρ)):Nat→σ→Option ρ
 | 0,_=>none
 | n+1,s=>(body s).bind fun | .next s'=>aAj body n s' | .out r=>some r
theorem aGV {σ ρ:Type}{body:σ→Option (dG σ ρ)}:∀ {n:Nat}{s:σ}{r:ρ},aAj body n s=some r→∀ m,n≤m→aAj body m s=some r
 | 0,s,r,h,m,hm=>by cases h
 | n+1,s,r,h,0,hm=>by omega
 | n+1,s,r,h,m+1,hm=>by
  simp only [aAj] at h ⊢
  obtain ⟨x,hx,h⟩:=rB h
  rw [hx]
  cases x with
  | next s'=>exact aGV h m (by omega)
  | out r'=>exact h
noncomputable def fX {σ ρ:Type} (body:σ→Option (dG σ ρ)) (s:σ):Option ρ:=lim fun n=>aAj body n s
theorem aEh {σ ρ:Type}{body:σ→Option (dG σ ρ)}{n:Nat}{s:σ}{r:ρ} (h:aAj body n s=some r):fX body s=some r:=vI n fun m hm=>aGV h m hm
theorem aBu {σ ρ:Type}{body:σ→Option (dG σ ρ)}{s:σ}{r:ρ} (h:fX body s=some r):∃ n,aAj body n s=some r:=wK h
theorem aGW {σ ρ:Type} (body:σ→Option (dG σ ρ)) (s:σ):fX body s=(body s).bind fun | .next s'=>fX body s' | .out r=>some r:=by
 have key:∀ r,fX body s=some r↔((body s).bind fun | .next s'=>fX body s' | .out r=>some r)=some r:=by
  intro r
  constructor
  ·
   intro h
   obtain ⟨n,hn⟩:=aBu h
   cases n with
   | zero=>cases hn
   | succ n =>
    simp only [aAj] at hn
    obtain ⟨x,hx,hn⟩:=rB hn
    rw [hx]
    cases x with
    | next s'=>exact aEh hn
    | out r'=>exact hn
  ·
   intro h
   obtain ⟨x,hx,h⟩:=rB h
   cases x with
   | next s' =>
    obtain ⟨n,hn⟩:=aBu h
    exact aEh (n:=n+1) (by simp only [aAj,hx];exact hn)
   | out r'=>exact aEh (n:=1) (by simp only [aAj,hx];exact h)
 cases h1:fX body s with
 | some r=>exact ((key r).1 h1).symm
 | none =>
  cases h2:((body s).bind fun | .next s'=>fX body s' | .out r=>some r) with
  | none=>rfl
  | some r=>rw [(key r).2 h2] at h1;cases h1
theorem vB {σ ρ:Type}{body:σ→Option (dG σ ρ)} (I:σ→Prop) (m:σ→Nat) (Q:ρ→Prop)
  (h:∀ s,I s→(∃ s',body s=some (.next s')∧I s'∧m s'<m s)∨(∃ r,body s=some (.out r)∧Q r)):∀ s,I s→∃ r,fX body s=some r∧Q r:=by
 intro s
 induction hn:m s using Nat.strongRecOn generalizing s with
 | _ n ih =>
  intro hI
  rw [aGW]
  rcases h s hI with ⟨s',h1,h2,h3⟩ | ⟨r,h1,h2⟩
  ·
   rw [h1];exact ih (m s') (by omega) s' rfl h2
  ·
   rw [h1];exact ⟨r,rfl,h2⟩
theorem aC3 {σ ρ:Type}{body:σ→Option (dG σ ρ)} (I:σ→Prop) (m:σ→Nat) (F:σ→ρ)
  (h:∀ s,I s→(∃ s',body s=some (.next s')∧I s'∧m s'<m s∧F s'=F s)∨body s=some (.out (F s))):∀ s,I s→fX body s=some (F s):=by
 intro s
 induction hn:m s using Nat.strongRecOn generalizing s with
 | _ n ih =>
  intro hI
  rw [aGW]
  rcases h s hI with ⟨s',h1,h2,h3,h4⟩ | h1
  ·
   rw [h1,← h4];exact ih (m s') (by omega) s' rfl h2
  ·
   rw [h1];rfl
def gd {α:Type} [Inhabited α] (c:Bool) (m:Option α):Option α:=if c then m else some default
theorem eQ {α:Type} [Inhabited α] {c:Bool}{m:Option α}{x:α} (h:gd c m=some x) (hc:c=true):m=some x:=by rw [gd,aQ hc] at h;exact h
def nF {α:Type} (l:List α) (i:Int):Option α:=if i<0 then none else l[i.toNat]?
theorem aGO {α:Type}{l:List α}{i:Int}{x:α} (h:nF l i=some x):0≤i∧i<l.length∧l[i.toNat]?=some x:=by
 unfold nF at h
 split at h
 ·
  cases h
 ·
  have:=(aY.1 h).1
  exact ⟨by omega,by omega,h⟩
theorem aEd {α:Type}{l:List α} (n:Nat):nF l (n:Int)=l[n]?:=by rw [nF,aN (by omega),iW]
def aMs {α:Type} (xs:List α) (l:Int):Option (List α):=if 0≤l∧l≤xs.length then some (xs.drop l.toNat) else none
def aPu {α:Type} (xs:List α) (h:Int):Option (List α):=if 0≤h∧h≤xs.length then some (xs.take h.toNat) else none
def aQn {α:Type} (xs:List α) (l h:Int):Option (List α):=if 0≤l∧l≤h∧h≤xs.length then some ((xs.take h.toNat).drop l.toNat) else none
theorem aFc {α:Type}{xs ys:List α}{l:Int} (h:aMs xs l=some ys):(0≤l∧l≤xs.length)∧ys=xs.drop l.toNat:=by
 have:=aIt h
 exact ⟨this.1,(gI this.2).symm⟩
theorem aNY {α:Type}{xs ys:List α}{l:Int} (h:aPu xs l=some ys):(0≤l∧l≤xs.length)∧ys=xs.take l.toNat:=by
 have:=aIt h
 exact ⟨this.1,(gI this.2).symm⟩
theorem aNX {α:Type}{xs ys:List α}{l k:Int} (h:aQn xs l k=some ys):(0≤l∧l≤k∧k≤xs.length)∧ys=(xs.take k.toNat).drop l.toNat:=by
 have:=aIt h
 exact ⟨this.1,(gI this.2).symm⟩
def app {α:Type} (k:Nat) (xs ys:List α):Option (List α):=if (xs.length+ys.length)*k≤140737488355328 then some (xs++ys) else none
theorem aGA {α:Type}{k:Nat}{xs ys zs:List α} (h:app k xs ys=some zs):(xs.length+ys.length)*k≤140737488355328∧zs=xs++ys:=by
 have:=aIt h
 exact ⟨this.1,(gI this.2).symm⟩
def cat (a b:List UInt8):Option (List UInt8):=if a.length+b.length≤9223372036854775807 then some (a++b) else none
def nn (b:Int):Option Int:=if 0≤b then some b else none
theorem aQa {b c:Int} (h:nn b=some c):0≤b∧c=b:=by
 have:=aIt h
 exact ⟨this.1,(gI this.2).symm⟩
def yK (n:Int):Option UInt8:=if 0≤n∧n<256 then some (UInt8.ofNat n.toNat) else none
theorem aKr {n:Int}{x:UInt8} (h:yK n=some x):n=(x.toNat:Int):=by
 obtain ⟨⟨h1,h2⟩,h3⟩:=aIt h
 have:=(gI h3).symm
 subst this
 simp [UInt8.toNat_ofNat']
 omega
theorem aGE (x:UInt8):yK (x.toNat:Int)=some x:=by
 have h:=x.toNat_lt
 unfold yK
 rw [aQ (by omega)]
 simp
