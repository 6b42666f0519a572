/- Small words for pure functions: limits, loops, indexing, slicing, guarded values. -/
import Derived.Test.YtnigjppddilpcaaGreatDoorAl
import Derived.WalkKit
namespace Go.Proofs.YtnigjppddilpcaaGreatDoor
open Go
set_option linter.unusedVariables false
set_option linter.unusedSimpArgs false
theorem lB {α β:Type}{o:Option α}{f:α→Option β}{r:β} (h:o.bind f=some r):∃ x,o=some x∧f x=some r:=oI.1 h
theorem aRG {α:Type}{b:Bool}{x y:Option α}{r:α} (hb:b=true) (h:cond b x y=some r):x=some r:=by rw [hb] at h;exact h
theorem aRF {α:Type}{b:Bool}{x y:Option α}{r:α} (hb:b=false) (h:cond b x y=some r):y=some r:=by rw [hb] at h;exact h
theorem aJE {α:Type}{p:Prop} [Decidable p] {x:Option α}{r:α} (h:(if p then x else none)=some r):p∧x=some r:=by
 by_cases hp:p
 ·
  rw [bB hp] at h;exact ⟨hp,h⟩
 ·
  rw [aY hp] at h;cases h
noncomputable def lim {β:Type} (f:Nat→Option β):Option β:=open Classical in if h:∃ r N,∀ n,N≤n→f n=some r then some (Classical.choose h) else none
theorem rI {β:Type}{f:Nat→Option β}{r:β} (h:lim f=some r):∃ n,f n=some r:=by
 unfold lim at h
 split at h
 ·
  rename_i hx
  cases h
  obtain ⟨N,hN⟩:=Classical.choose_spec hx
  exact ⟨N,hN N (eP _)⟩
 ·
  cases h
theorem zY {β:Type}{f:Nat→Option β}{r:β} (N:Nat) (h:∀ n,N≤n→f n=some r):lim f=some r:=by
 unfold lim
 have hx:∃ r N,∀ n,N≤n→f n=some r:=⟨r,N,h⟩
 rw [dif_pos hx]
 obtain ⟨M,hM⟩:=Classical.choose_spec hx
 have h1:=hM (max N M) (Nat.le_max_right _ _)
 have h2:=h (max N M) (Nat.le_max_left _ _)
 rw [h1] at h2
 exact h2
inductive dU (σ ρ:Type) where
 | next (s:σ)
 | out (r:ρ)
inductive Fl (τ κ:Type) where
 | done (t:τ)
 | go (j:κ)
def Fl.next {τ κ:Type} (x:Fl τ κ) (f:κ→Option τ):Option τ:=match x with | .done t=>some t | .go j=>f j
def aCb {σ ρ:Type} (body:σ→Option (dU σ ρ)):Nat→σ→Option ρ
 | 0,_=>none
 | n+1,s=>(body s).bind fun | .next s'=>aCb body n s' | .out r=>some r
theorem aJJ {σ ρ:Type}{body:σ→Option (dU σ ρ)}:∀ {n:Nat}{s:σ}{r:ρ},aCb body n s=some r→∀ m,n≤m→aCb body m s=some r
 | 0,s,r,h,m,hm=>by cases h
 | n+1,s,r,h,0,hm=>by omega
 | n+1,s,r,h,m+1,hm=>by
  simp only [aCb] at h ⊢
  obtain ⟨x,hx,h⟩:=lB h
  rw [hx]
  cases x with
  | next s'=>exact aJJ h m (by omega)
  | out r'=>exact h
noncomputable def gL {σ ρ:Type} (body:σ→Option (dU σ ρ)) (s:σ):Option ρ:=lim fun n=>aCb body n s
theorem aGH {σ ρ:Type}{body:σ→Option (dU σ ρ)}{n:Nat}{s:σ}{r:ρ} (h:aCb body n s=some r):gL body s=some r:=zY n fun m hm=>aJJ h m hm
theorem aDC {σ ρ:Type}{body:σ→Option (dU σ ρ)}{s:σ}{r:ρ} (h:gL body s=some r):∃ n,aCb body n s=some r:=rI h
theorem aEt {σ ρ:Type} (body:σ→Option (dU σ ρ)) (s:σ):gL body s=(body s).bind fun | .next s'=>gL body s' | .out r=>some r:=by
 have key:∀ r,gL body s=some r↔((body s).bind fun | .next s'=>gL body s' | .out r=>some r)=some r:=by
  intro r
  constructor
  ·
   intro h
   obtain ⟨n,hn⟩:=aDC h
   cases n with
   | zero=>cases hn
   | succ n =>
    simp only [aCb] at hn
    obtain ⟨x,hx,hn⟩:=lB hn
    rw [hx]
    cases x with
    | next s'=>exact aGH hn
    | out r'=>exact hn
  ·
   intro h
   obtain ⟨x,hx,h⟩:=lB h
   cases x with
   | next s' =>
    obtain ⟨n,hn⟩:=aDC h
    exact aGH (n:=n+1) (by simp only [aCb,hx];exact hn)
   | out r'=>exact aGH (n:=1) (by simp only [aCb,hx];exact h)
 cases h1:gL body s with
 | some r=>exact ((key r).1 h1).symm
 | none =>
  cases h2:((body s).bind fun | .next s'=>gL body s' | .out r=>some r) with
  | none=>rfl
  | some r=>rw [(key r).2 h2] at h1;cases h1
theorem yJ {σ ρ:Type}{body:σ→Option (dU σ ρ)} (I:σ→Prop) (m:σ→Nat) (Q:ρ→Prop)
  (h:∀ s,I s→(∃ s',body s=some (.next s')∧I s'∧m s'<m s)∨(∃ r,body s=some (.out r)∧Q r)):∀ s,I s→∃ r,gL body s=some r∧Q r:=by
 intro s
 induction hn:m s using Nat.strongRecOn generalizing s with
 | _ n ih =>
  intro hI
  rw [aEt]
  rcases h s hI with ⟨s',h1,h2,h3⟩ | ⟨r,h1,h2⟩
  ·
   rw [h1];exact ih (m s') (by omega) s' rfl h2
  ·
   rw [h1];exact ⟨r,rfl,h2⟩
theorem aFa {σ ρ:Type}{body:σ→Option (dU σ ρ)} (I:σ→Prop) (m:σ→Nat) (F:σ→ρ)
  (h:∀ s,I s→(∃ s',body s=some (.next s')∧I s'∧m s'<m s∧F s'=F s)∨body s=some (.out (F s))):∀ s,I s→gL body s=some (F s):=by
 intro s
 induction hn:m s using Nat.strongRecOn generalizing s with
 | _ n ih =>
  intro hI
  rw [aEt]
  rcases h s hI with ⟨s',h1,h2,h3,h4⟩ | h1
  ·
   rw [h1,← h4];exact ih (m s') (by omega) s' rfl h2
  ·
   rw [h1];rfl
def gd {α:Type} [Inhabited α] (c:Bool) (m:Option α):Option α:=if c then m else some default
theorem cZ {α:Type} [Inhabited α] {c:Bool}{m:Option α}{x:α} (h:gd c m=some x) (hc:c=true):m=some x:=by rw [gd,bB hc] at h;exact h
def mP {α:Type} (l:List α) (i:Int):Option α:=if i<0 then none else l[i.toNat]?
theorem aJC {α:Type}{l:List α}{i:Int}{x:α} (h:mP l i=some x):0≤i∧i<l.length∧l[i.toNat]?=some x:=by
 unfold mP at h
 split at h
 ·
  cases h
 ·
  have:=(bR.1 h).1
  exact ⟨by omega,by omega,h⟩
theorem aGB {α:Type}{l:List α} (n:Nat):mP l (n:Int)=l[n]?:=by rw [mP,aY (by omega),kN]
def aPk {α:Type} (xs:List α) (l:Int):Option (List α):=if 0≤l∧l≤xs.length then some (xs.drop l.toNat) else none
def aSE {α:Type} (xs:List α) (h:Int):Option (List α):=if 0≤h∧h≤xs.length then some (xs.take h.toNat) else none
def aTy {α:Type} (xs:List α) (l h:Int):Option (List α):=if 0≤l∧l≤h∧h≤xs.length then some ((xs.take h.toNat).drop l.toNat) else none
theorem aHL {α:Type}{xs ys:List α}{l:Int} (h:aPk xs l=some ys):(0≤l∧l≤xs.length)∧ys=xs.drop l.toNat:=by
 have:=aJE h
 exact ⟨this.1,(iD this.2).symm⟩
theorem aQ6 {α:Type}{xs ys:List α}{l:Int} (h:aSE xs l=some ys):(0≤l∧l≤xs.length)∧ys=xs.take l.toNat:=by
 have:=aJE h
 exact ⟨this.1,(iD this.2).symm⟩
theorem aQ5 {α:Type}{xs ys:List α}{l k:Int} (h:aTy xs l k=some ys):(0≤l∧l≤k∧k≤xs.length)∧ys=(xs.take k.toNat).drop l.toNat:=by
 have:=aJE h
 exact ⟨this.1,(iD this.2).symm⟩
def app {α:Type} (k:Nat) (xs ys:List α):Option (List α):=if (xs.length+ys.length)*k≤140737488355328 then some (xs++ys) else none
theorem aGq {α:Type}{k:Nat}{xs ys zs:List α} (h:app k xs ys=some zs):(xs.length+ys.length)*k≤140737488355328∧zs=xs++ys:=by
 have:=aJE h
 exact ⟨this.1,(iD this.2).symm⟩
def cat (a b:List UInt8):Option (List UInt8):=if a.length+b.length≤9223372036854775807 then some (a++b) else none
theorem aJq {a b c:List UInt8} (h:cat a b=some c):a.length+b.length≤9223372036854775807∧c=a++b:=by
 have:=aJE h
 exact ⟨this.1,(iD this.2).symm⟩
def nn (b:Int):Option Int:=if 0≤b then some b else none
theorem aTl {b c:Int} (h:nn b=some c):0≤b∧c=b:=by
 have:=aJE h
 exact ⟨this.1,(iD this.2).symm⟩
def aBy (n:Int):Option UInt8:=if 0≤n∧n<256 then some (UInt8.ofNat n.toNat) else none
theorem aNb {n:Int}{x:UInt8} (h:aBy n=some x):n=(x.toNat:Int):=by
 obtain ⟨⟨h1,h2⟩,h3⟩:=aJE h
 have:=(iD h3).symm
 subst this
 simp [UInt8.toNat_ofNat']
 omega
theorem aJp (x:UInt8):aBy (x.toNat:Int)=some x:=by
 have h:=x.toNat_lt
 unfold aBy
 rw [bB (by omega)]
 simp
