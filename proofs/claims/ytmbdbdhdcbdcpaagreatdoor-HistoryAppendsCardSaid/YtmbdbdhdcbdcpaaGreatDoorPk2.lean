/- Integers and their bytes, plainly; words for pure proofs. -/
import Derived.Test.YtmbdbdhdcbdcpaaGreatDoorAbs29
import Derived.KernelRfl
namespace Go.Proofs.YtmbdbdhdcbdcpaaGreatDoor
open Go Abs
set_option linter.unusedSimpArgs false
set_option linter.unusedVariables false
theorem byte_nat {u:Nat} (h:u<256):(u:Int)=((UInt8.ofNat u).toNat:Int):=by simp;omega
theorem w64 {x:Int} (h1:-9223372036854775808≤x) (h2:x≤9223372036854775807):IntKind.i64.wrap x=x:=by rw [IntKind.wrap_i64];omega
theorem byteOf_eq {n:Int}{x:UInt8} (h:n=(x.toNat:Int)):byteOf n=some x:=by rw [h,byteOf_nat]
theorem byteOf_u {n:Nat} (h:n<256):byteOf (n:Int)=some (UInt8.ofNat n):=byteOf_eq (byte_nat h)
theorem app_ok {α:Type}{k:Nat}{xs ys:List α} (h:(xs.length+ys.length)*k≤140737488355328):app k xs ys=some (xs++ys):=by rw [app,if_pos h]
theorem cat_ok {xs ys:List UInt8} (h:xs.length+ys.length≤9223372036854775807):cat xs ys=some (xs++ys):=by rw [cat,if_pos h]
theorem cond_d {p:Prop} [Decidable p] {α:Type}{x y:α}:cond (decide p) x y=if p then x else y:=by by_cases h:p <;> simp [h]
theorem cond_nd {p:Prop} [Decidable p] {α:Type}{x y:α}:cond (!decide p) x y=if p then y else x:=by by_cases h:p <;> simp [h]
def LeO {α:Type} (a b:Option α):Prop:=∀ r,a=some r→b=some r
theorem le_same {α:Type} (a:Option α):LeO a a:=fun _ h=>h
theorem le_bind {α β:Type}{a b:Option α}{f g:α→Option β} (h:LeO a b) (k:∀ x,LeO (f x) (g x)):LeO (a.bind f) (b.bind g):=fun r e=>by
 obtain ⟨x,hx,e⟩:=bind_s e
 rw [h x hx];exact k x r e
theorem le_cond {α:Type}{c:Bool}{a b a2 b2:Option α} (h:LeO a a2) (k:LeO b b2):LeO (cond c a b) (cond c a2 b2):=by cases c <;> assumption
theorem le_gd {α:Type} [Inhabited α] {c:Bool}{a b:Option α} (h:LeO a b):LeO (gd c a) (gd c b):=by
 cases c
 ·
  exact fun _ h=>h
 ·
  exact h
theorem le_next {τ κ:Type}{x:Fl τ κ}{f g:κ→Option τ} (h:∀ j,LeO (f j) (g j)):LeO (Fl.next x f) (Fl.next x g):=by
 cases x
 ·
  exact fun _ h=>h
 ·
  exact h _
theorem loopF_le {σ ρ:Type}{b c:σ→Option (Step σ ρ)} (h:∀ s,LeO (b s) (c s)):∀ n s,LeO (loopF b n s) (loopF c n s)
 | 0,_=>fun _ h=>by cases h
 | n+1,s=>fun r e=>by
  simp only [loopF] at e ⊢
  cases hb:b s with
  | none=>rw [hb] at e;cases e
  | some x =>
   rw [hb] at e;rw [h s _ hb]
   cases x with
   | out y=>exact e
   | next t=>exact loopF_le h n t r e
theorem le_loopO {σ ρ:Type}{b c:σ→Option (Step σ ρ)}{s:σ} (h:∀ s,LeO (b s) (c s)):LeO (loopO b s) (loopO c s):=fun r e=>by
 obtain ⟨n,hn⟩:=loopO_some e
 exact loopO_of (loopF_le h n s r hn)
theorem lim_of {β:Type}{n:Nat}{f:Nat→Option β}{r:β} (h:f n=some r) (mono:∀ m,n≤m→LeO (f n) (f m)):lim f=some r:=lim_eq n fun m hm=>mono m hm r h
end Go.Proofs.YtmbdbdhdcbdcpaaGreatDoor
