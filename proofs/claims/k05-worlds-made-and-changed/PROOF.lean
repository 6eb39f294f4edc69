import PyProof.Rows.All
import Wide.All
import OpenK.AllK
import Wide.FinOn
import HandS.ForMost
import HandS.ForExc
import HandS.Walk
import HandS.CallSlots
import HandS.Style
import HandS.Wide
import HandS.TupAny
import KE.DataEq
import HandS.IsInst
import KE.SortData
import HandS.Zip
import HandS.Rev
import HandS.TupLen
import PyProof.LongRange
import HandS.ExcIs
import HandS.TryMany
import HandS.TryOnly
import HandS.ExcOwn
import HandS.ExcField
import HandS.SortKw
import KE.GoesMore
import KE.DataMinMax
import HandS.More
import HandS.Dict
import HandS.Small
import HandS.Call
import HandS.Conv
import KE.KExcIs
import HandS.ExcInit
import HandS.List
import KE.KRevSl
import HandS.Iter
import HandS.Text
import HandS.SetFor
import KE.DataFind
import HandS.Steps
import HandS.Deep
import HandS.Replace
import HandS.TupMul
import PyProof.StrOps2
import PySem.Challenge.RW_diesnon_k05_worlds_made_and_changed
set_option Elab.async false
set_option linter.all false
set_option maxRecDepth 100000
set_option maxHeartbeats 4000000
set_option autoImplicit false
/-! D0: values by value, a store, what stands for them in the abstract heap. -/
namespace D
open PySem L2

inductive PV where
  | non | bl (b : Bool) | int (i : Int) | str (s : Str) | tup (l : List PV) | loc (n : Nat) | ty (n : String) | xc (a : Addr) (d : Option Addr) (fv : List (Str × V))
  deriving Inhabited
inductive PO where
  | lst (l : List PV) | fz (l : List PV) | dct (t : Bool) (l : List (PV × PV)) | fd (l : List (PV × PV)) | ins (c : Str) (fs : List (Str × PV))
  deriving Inhabited
abbrev Sto := List PO
abbrev En := List (Option PV)
structure Xn where
  c : Str
  fs : List (Str × PV)
inductive R (α : Type) where
  | ok (v : α) (S : Sto) | exc (e : Xn) (S : Sto)
abbrev RE := R PV
abbrev RA := R (List PV)
abbrev RB := R Bool
def bR {α β : Type} (r : Option (R α)) (k : α → Sto → Option (R β)) : Option (R β) :=
  match r with
  | some (.ok v S) => k v S
  | some (.exc e S) => some (.exc e S)
  | none => none
inductive RS where
  | next (ρ : En) (S : Sto) | ret (v : PV) (S : Sto) | brk (ρ : En) (S : Sto) | ctn (ρ : En) (S : Sto) | exc (e : Xn) (ρ : En) (S : Sto)
abbrev DE := En → Sto → Option RE
abbrev DA := En → Sto → Option RA
abbrev DB := En → Sto → Option RB
abbrev DS := En → Sto → Option RS
abbrev DF := List PV → Sto → Option RE

/-! ### what stands for what -/
section
variable (K : PySem.W.Frag) (H : Hp) (m : Nat → Addr) (n : Nat)
mutual
inductive Rp : PV → V → Prop
  | non : Rp .non .non
  | bl (b : Bool) : Rp (.bl b) (.bl b)
  | int (i : Int) : Rp (.int i) (.int i)
  | str (s : Str) : Rp (.str s) (.str s)
  | ty (s : String) : Rp (.ty s) (.ty s)
  | tup {l : List PV} {a : Addr} {xs : List V} : SqT K H a xs → RpL l xs → Rp (.tup l) (.ref a)
  | loc {k : Nat} : k < n → Rp (.loc k) (.ref (m k))
  | xc {a : Addr} {d : Option Addr} {fv : List (Str × V)} : (∀ dd, d = some dd → H dd = some (.xd fv)) → Rp (.xc a d fv) (.ref a)
inductive RpL : List PV → List V → Prop
  | nil : RpL [] []
  | cons {d : PV} {v : V} {ds : List PV} {vs : List V} : Rp d v → RpL ds vs → RpL (d :: ds) (v :: vs)
end
end

def FzL (K : PySem.W.Frag) (H : Hp) (a : Addr) (xs : List V) : Prop :=
  (∃ o, H a = some (.frz o (.lst xs))) ∨
    ∃ (o : Obj) (its : Array Value) (n : Nat), K.lookup a = some o ∧ o.cls = .type "list" ∧ o.dict = none ∧ o.data = .seq its n ∧ its.size ≤ sizeLine ∧ Vals xs its.toList
theorem FzL.sq {K : PySem.W.Frag} {H : Hp} {a : Addr} {xs : List V} (h : FzL K H a xs) : SqL K H a xs := by
  rcases h with ⟨o, h⟩ | h
  · exact .inl (.inr ⟨o, h⟩)
  · exact .inr h

def kP : PV → Option Key
  | .int i => some (.inl i)
  | .str s => some (.inr s)
  | _ => none
def kPs : List PV → Option (List Key)
  | [] => some []
  | d :: ds => match kP d, kPs ds with
    | some k, some ks => some (k :: ks)
    | _, _ => none
def kT : PV → Option (List Key)
  | .tup l => kPs l
  | _ => none

section
variable (K : PySem.W.Frag) (mg : Str → Option Value) (H : Hp) (m : Nat → Addr) (n : Nat)
def RpK : List (PV × PV) → List (Key × V) → Prop := Paired fun p q => kP p.1 = some q.1 ∧ Rp K H m n p.2 q.2
def RpT : List (PV × PV) → List (List Key × V) → Prop := Paired fun p q => kT p.1 = some q.1 ∧ Rp K H m n p.2 q.2
def RpF : List (Str × PV) → List (Str × V) → Prop := Paired fun p q => p.1 = q.1 ∧ Rp K H m n p.2 q.2
def Ro : PO → Addr → Prop
  | .lst l, a => ∃ xs, H a = some (.lst xs) ∧ RpL K H m n l xs
  | .fz l, a => ∃ xs, FzL K H a xs ∧ RpL K H m n l xs
  | .dct t kvs, a => (t = false ∧ ∃ kv, H a = some (.dK kv) ∧ RpK K H m n kvs kv) ∨ (t = true ∧ ∃ kv, H a = some (.dT kv) ∧ RpT K H m n kvs kv)
  | .fd kvs, a => ∃ o kv, H a = some (.frz o (.dK kv)) ∧ RpK K H m n kvs kv
  | .ins c fs, a => ∃ C dx fv, H a = some (.ins C dx fv) ∧ mg c = some (.ref C) ∧ RpF K H m n fs fv
end
/-- has a place of its own -/
def isMut : PO → Bool
  | .fz _ => false
  | _ => true
/-- can be written -/
def isW : PO → Bool
  | .fz _ => false
  | .fd _ => false
  | _ => true
theorem isW.mut : ∀ {o : PO}, isW o = true → isMut o = true
  | .lst _, _ => rfl
  | .dct _ _, _ => rfl
  | .ins _ _, _ => rfl

structure StS (K : PySem.W.Frag) (mg : Str → Option Value) (m : Nat → Addr) (S : Sto) (H : Hp) : Prop where
  obj : ∀ (k : Nat) (o : PO), S[k]? = some o → Ro K mg H m S.length o (m k)
  inj : ∀ (j k : Nat) (oj ok : PO), S[j]? = some oj → S[k]? = some ok → isMut oj = true → isMut ok = true → m j = m k → j = k

structure EnR (K : PySem.W.Frag) (H : Hp) (m : Nat → Addr) (n : Nat) (ρ : En) (σ : L2.St) : Prop where
  len : ρ.length = σ.length
  at_ : ∀ (i : Nat) (v : PV), ρ[i]? = some (some v) → ∃ x, σ[i]? = some (some x) ∧ Rp K H m n v x

structure Ext0 (K : PySem.W.Frag) (n : Nat) (m : Nat → Addr) (H : Hp) (m' : Nat → Addr) (H' : Hp) : Prop where
  mp : ∀ k, k < n → m' k = m k
  tp : ∀ a xs, SqT K H a xs → SqT K H' a xs
  xd : ∀ d fv, H d = some (.xd fv) → H' d = some (.xd fv)
structure Ext (K : PySem.W.Frag) (n : Nat) (m : Nat → Addr) (H : Hp) (m' : Nat → Addr) (H' : Hp) : Prop extends Ext0 K n m H m' H' where
  fz : ∀ a o u, H a = some (.frz o u) → H' a = some (.frz o u)

section
variable {K : PySem.W.Frag} {mg : Str → Option Value} {H H' H'' : Hp} {m m' m'' : Nat → Addr} {n n' : Nat}
theorem Ext.refl : Ext K n m H m H := ⟨⟨fun _ _ => rfl, fun _ _ h => h, fun _ _ h => h⟩, fun _ _ _ h => h⟩
theorem Ext.trans (a : Ext K n m H m' H') (b : Ext K n' m' H' m'' H'') (h : n ≤ n') : Ext K n m H m'' H'' :=
  ⟨⟨fun k hk => (b.mp k (Nat.lt_of_lt_of_le hk h)).trans (a.mp k hk), fun _ _ q => b.tp _ _ (a.tp _ _ q), fun _ _ q => b.xd _ _ (a.xd _ _ q)⟩, fun _ _ _ q => b.fz _ _ _ (a.fz _ _ _ q)⟩
theorem Ext.less (a : Ext K n' m H m' H') (h : n ≤ n') : Ext K n m H m' H' := ⟨⟨fun k hk => a.mp k (Nat.lt_of_lt_of_le hk h), a.tp, a.xd⟩, a.fz⟩

mutual
theorem Rp.mono0 (e : Ext0 K n m H m' H') (hn : n ≤ n') : ∀ {d : PV} {v : V}, Rp K H m n d v → Rp K H' m' n' d v
  | _, _, .non => .non
  | _, _, .bl b => .bl b
  | _, _, .int i => .int i
  | _, _, .str s => .str s
  | _, _, .ty s => .ty s
  | _, _, .tup h r => .tup (e.tp _ _ h) (RpL.mono0 e hn r)
  | _, _, .loc h => by
    rw [← e.mp _ h]
    exact .loc (Nat.lt_of_lt_of_le h hn)
  | _, _, .xc h => .xc fun dd q => e.xd _ _ (h dd q)
theorem RpL.mono0 (e : Ext0 K n m H m' H') (hn : n ≤ n') : ∀ {d : List PV} {v : List V}, RpL K H m n d v → RpL K H' m' n' d v
  | _, _, .nil => .nil
  | _, _, .cons h r => .cons (Rp.mono0 e hn h) (RpL.mono0 e hn r)
end
theorem Rp.mono (e : Ext K n m H m' H') (hn : n ≤ n') {d : PV} {v : V} (h : Rp K H m n d v) : Rp K H' m' n' d v := h.mono0 e.toExt0 hn
theorem RpL.mono (e : Ext K n m H m' H') (hn : n ≤ n') {d : List PV} {v : List V} (h : RpL K H m n d v) : RpL K H' m' n' d v := h.mono0 e.toExt0 hn
theorem paired_imp {α β : Type} {F G : α → β → Prop} (f : ∀ a b, F a b → G a b) : ∀ {l₁ : List α} {l₂ : List β}, Paired F l₁ l₂ → Paired G l₁ l₂
  | _, _, .nil => .nil
  | _, _, .cons r t => .cons (f _ _ r) (paired_imp f t)
theorem RpK.mono0 (e : Ext0 K n m H m' H') (hn : n ≤ n') {d : List (PV × PV)} {v : List (Key × V)} (h : RpK K H m n d v) : RpK K H' m' n' d v := paired_imp (fun _ _ q => ⟨q.1, q.2.mono0 e hn⟩) h
theorem RpT.mono0 (e : Ext0 K n m H m' H') (hn : n ≤ n') {d : List (PV × PV)} {v : List (List Key × V)} (h : RpT K H m n d v) : RpT K H' m' n' d v := paired_imp (fun _ _ q => ⟨q.1, q.2.mono0 e hn⟩) h
theorem RpF.mono0 (e : Ext0 K n m H m' H') (hn : n ≤ n') {d : List (Str × PV)} {v : List (Str × V)} (h : RpF K H m n d v) : RpF K H' m' n' d v := paired_imp (fun _ _ q => ⟨q.1, q.2.mono0 e hn⟩) h
theorem EnR.mono0 (e : Ext0 K n m H m' H') (hn : n ≤ n') {ρ : En} {σ : L2.St} (h : EnR K H m n ρ σ) : EnR K H' m' n' ρ σ :=
  ⟨h.len, fun i v q => let ⟨x, a, b⟩ := h.at_ i v q; ⟨x, a, b.mono0 e hn⟩⟩
theorem RpK.mono (e : Ext K n m H m' H') (hn : n ≤ n') {d : List (PV × PV)} {v : List (Key × V)} (h : RpK K H m n d v) : RpK K H' m' n' d v := paired_imp (fun _ _ q => ⟨q.1, q.2.mono e hn⟩) h
theorem RpT.mono (e : Ext K n m H m' H') (hn : n ≤ n') {d : List (PV × PV)} {v : List (List Key × V)} (h : RpT K H m n d v) : RpT K H' m' n' d v := paired_imp (fun _ _ q => ⟨q.1, q.2.mono e hn⟩) h
theorem RpF.mono (e : Ext K n m H m' H') (hn : n ≤ n') {d : List (Str × PV)} {v : List (Str × V)} (h : RpF K H m n d v) : RpF K H' m' n' d v := paired_imp (fun _ _ q => ⟨q.1, q.2.mono e hn⟩) h
theorem EnR.mono (e : Ext K n m H m' H') (hn : n ≤ n') {ρ : En} {σ : L2.St} (h : EnR K H m n ρ σ) : EnR K H' m' n' ρ σ :=
  ⟨h.len, fun i v q => let ⟨x, a, b⟩ := h.at_ i v q; ⟨x, a, b.mono e hn⟩⟩

/-! ### lists of values -/
theorem RpL.length : ∀ {l : List PV} {xs : List V}, RpL K H m n l xs → l.length = xs.length
  | _, _, .nil => rfl
  | _, _, .cons _ r => by rw [List.length_cons, List.length_cons, RpL.length r]
theorem RpL.append : ∀ {l l' : List PV} {xs ys : List V}, RpL K H m n l xs → RpL K H m n l' ys → RpL K H m n (l ++ l') (xs ++ ys)
  | _, _, _, _, .nil, s => s
  | _, _, _, _, .cons a r, s => .cons a (RpL.append r s)
theorem RpL.get : ∀ {l : List PV} {xs : List V} {i : Nat} {d : PV}, RpL K H m n l xs → l[i]? = some d → ∃ x, xs[i]? = some x ∧ Rp K H m n d x
  | _, _, _, _, .nil, e => by simp at e
  | _, _, 0, _, .cons a _, e => by
    simp at e; subst e; exact ⟨_, rfl, a⟩
  | _, _, i + 1, _, .cons _ r, e => by
    obtain ⟨x, h1, h2⟩ := RpL.get (i := i) r (by simpa using e)
    exact ⟨x, by simpa using h1, h2⟩
theorem RpL.drop : ∀ {l : List PV} {xs : List V} (i : Nat), RpL K H m n l xs → RpL K H m n (l.drop i) (xs.drop i)
  | _, _, 0, r => r
  | _, _, _ + 1, .nil => .nil
  | _, _, i + 1, .cons _ r => RpL.drop i r
theorem RpL.take : ∀ {l : List PV} {xs : List V} (i : Nat), RpL K H m n l xs → RpL K H m n (l.take i) (xs.take i)
  | _, _, 0, _ => .nil
  | _, _, _ + 1, .nil => .nil
  | _, _, i + 1, .cons a r => .cons a (RpL.take i r)
theorem RpL.set {d : PV} {x : V} (a : Rp K H m n d x) : ∀ {l : List PV} {xs : List V} (i : Nat), RpL K H m n l xs → RpL K H m n (l.set i d) (xs.set i x)
  | _, _, _, .nil => .nil
  | _, _, 0, .cons _ r => .cons a r
  | _, _, i + 1, .cons b r => .cons b (RpL.set a i r)
theorem RpL.eraseIdx : ∀ {l : List PV} {xs : List V} (i : Nat), RpL K H m n l xs → RpL K H m n (l.eraseIdx i) (xs.eraseIdx i)
  | _, _, _, .nil => .nil
  | _, _, 0, .cons _ r => r
  | _, _, i + 1, .cons b r => .cons b (RpL.eraseIdx i r)
theorem RpL.reverse : ∀ {l : List PV} {xs : List V}, RpL K H m n l xs → RpL K H m n l.reverse xs.reverse
  | _, _, .nil => .nil
  | _, _, .cons b r => by
    rw [List.reverse_cons, List.reverse_cons]
    exact RpL.append (RpL.reverse r) (.cons b .nil)
theorem RpL.dropLast {l : List PV} {xs : List V} (r : RpL K H m n l xs) : RpL K H m n l.dropLast xs.dropLast := by
  rw [List.dropLast_eq_take, List.dropLast_eq_take, r.length]
  exact r.take _
theorem RpL.flat_rep {l : List PV} {xs : List V} (r : RpL K H m n l xs) : ∀ k : Nat, RpL K H m n (List.replicate k l).flatten (List.replicate k xs).flatten
  | 0 => .nil
  | k + 1 => by
    rw [List.replicate_succ, List.replicate_succ, List.flatten_cons, List.flatten_cons]
    exact r.append (flat_rep r k)
theorem RpL.one {d : PV} {x : V} (h : Rp K H m n d x) : RpL K H m n [d] [x] := .cons h .nil
theorem RpL.ints : ∀ {ns : List Int} {xs : List V}, RpL K H m n (ns.map PV.int) xs → xs = ns.map V.int
  | [], _, .nil => rfl
  | _ :: _, _, .cons (.int _) r => by rw [List.map_cons, RpL.ints r]
theorem RpL.of_ints : ∀ {ns : List Int}, RpL K H m n (ns.map PV.int) (ns.map V.int)
  | [] => .nil
  | i :: _ => .cons (.int i) RpL.of_ints
theorem RpL.bls : ∀ {ns : List Bool} {xs : List V}, RpL K H m n (ns.map PV.bl) xs → xs = ns.map V.bl
  | [], _, .nil => rfl
  | _ :: _, _, .cons (.bl _) r => by rw [List.map_cons, RpL.bls r]
theorem RpL.strs : ∀ {ns : List Str} {xs : List V}, RpL K H m n (ns.map PV.str) xs → xs = ns.map V.str
  | [], _, .nil => rfl
  | _ :: _, _, .cons (.str _) r => by rw [List.map_cons, RpL.strs r]

/-! ### heaps -/
theorem sqT_upd {p a : Addr} {o : HO} {xs : List V} (hp : H p = none ∨ Mut (H p)) (h : SqT K H a xs) : SqT K (upd H p o) a xs := by
  have ne : ∀ u, H a = some u → ¬ Mut (some u) → a ≠ p := by
    intro u e nm q
    subst q
    rcases hp with hp | hp
    · rw [hp] at e; cases e
    · rw [e] at hp; exact nm hp
  rcases h with (h | ⟨ob, h⟩) | h
  · exact .inl (.inl (by rw [upd_ne (ne _ h (fun z => z))]; exact h))
  · exact .inl (.inr ⟨ob, by rw [upd_ne (ne _ h (fun z => z))]; exact h⟩)
  · exact .inr h
theorem fzL_upd {p a : Addr} {o : HO} {xs : List V} (hp : H p = none ∨ Mut (H p)) (h : FzL K H a xs) : FzL K (upd H p o) a xs := by
  rcases h with ⟨ob, h⟩ | h
  · have ne : a ≠ p := by
      intro q; subst q
      rcases hp with hp | hp
      · rw [hp] at h; cases h
      · rw [h] at hp; exact hp
    exact .inl ⟨ob, by rw [upd_ne ne]; exact h⟩
  · exact .inr h
theorem ext_upd {p : Addr} {o : HO} (hp : H p = none ∨ Mut (H p)) : Ext K n m H m (upd H p o) :=
  ⟨⟨fun _ _ => rfl, fun _ _ h => sqT_upd hp h, fun d fv h => by
    have ne : d ≠ p := by
      intro q; subst q
      rcases hp with hp | hp
      · rw [hp] at h; cases h
      · rw [h] at hp; exact hp
    rw [upd_ne ne]; exact h⟩, fun d o u h => by
    have ne : d ≠ p := by
      intro q; subst q
      rcases hp with hp | hp
      · rw [hp] at h; cases h
      · rw [h] at hp; exact hp
    rw [upd_ne ne]; exact h⟩

/-- an object elsewhere stays what it is -/
theorem Ro.upd {p a : Addr} {o : HO} {po : PO} (hp : H p = none ∨ Mut (H p)) (ha : isMut po = true → a ≠ p) (h : Ro K mg H m n po a) : Ro K mg (upd H p o) m n po a := by
  have e : Ext K n m H m (L2.upd H p o) := ext_upd hp
  cases po with
  | lst l =>
    obtain ⟨xs, h1, h2⟩ := h
    exact ⟨xs, by rw [upd_ne (ha rfl)]; exact h1, h2.mono e (Nat.le_refl _)⟩
  | fz l =>
    obtain ⟨xs, h1, h2⟩ := h
    exact ⟨xs, fzL_upd hp h1, h2.mono e (Nat.le_refl _)⟩
  | dct t l =>
    rcases h with ⟨ht, xs, h1, h2⟩ | ⟨ht, xs, h1, h2⟩
    · exact .inl ⟨ht, xs, by rw [upd_ne (ha rfl)]; exact h1, h2.mono e (Nat.le_refl _)⟩
    · exact .inr ⟨ht, xs, by rw [upd_ne (ha rfl)]; exact h1, h2.mono e (Nat.le_refl _)⟩
  | fd l =>
    obtain ⟨o, kv, h1, h2⟩ := h
    exact ⟨o, kv, by rw [upd_ne (ha rfl)]; exact h1, h2.mono e (Nat.le_refl _)⟩
  | ins c fs =>
    obtain ⟨C, dx, fv, h1, h2, h3⟩ := h
    exact ⟨C, dx, fv, by rw [upd_ne (ha rfl)]; exact h1, h2, h3.mono e (Nat.le_refl _)⟩
theorem Ro.mono (e : Ext K n m H m' H) (hn : n ≤ n') {po : PO} {a : Addr} (h : Ro K mg H m n po a) : Ro K mg H m' n' po a := by
  cases po with
  | lst l =>
    obtain ⟨xs, h1, h2⟩ := h
    exact ⟨xs, h1, h2.mono e hn⟩
  | fz l =>
    obtain ⟨xs, h1, h2⟩ := h
    exact ⟨xs, h1, h2.mono e hn⟩
  | dct t l =>
    rcases h with ⟨ht, xs, h1, h2⟩ | ⟨ht, xs, h1, h2⟩
    · exact .inl ⟨ht, xs, h1, h2.mono e hn⟩
    · exact .inr ⟨ht, xs, h1, h2.mono e hn⟩
  | fd l =>
    obtain ⟨o, kv, h1, h2⟩ := h
    exact ⟨o, kv, h1, h2.mono e hn⟩
  | ins c fs =>
    obtain ⟨C, dx, fv, h1, h2, h3⟩ := h
    exact ⟨C, dx, fv, h1, h2, h3.mono e hn⟩
theorem Ro.there {po : PO} {a : Addr} (h : Ro K mg H m n po a) (hm : isW po = true) : Mut (H a) ∧ H a ≠ none := by
  cases po with
  | fz l => cases hm
  | fd l => cases hm
  | lst l => obtain ⟨xs, h1, _⟩ := h; rw [h1]; exact ⟨trivial, by simp⟩
  | dct t l =>
    rcases h with ⟨_, xs, h1, _⟩ | ⟨_, xs, h1, _⟩ <;> (rw [h1]; exact ⟨trivial, by simp⟩)
  | ins c fs => obtain ⟨C, dx, fv, h1, _⟩ := h; rw [h1]; exact ⟨trivial, by simp⟩
theorem Ro.thereN {po : PO} {a : Addr} (h : Ro K mg H m n po a) (hm : isMut po = true) : H a ≠ none := by
  cases po with
  | fz l => cases hm
  | fd l => obtain ⟨o, kv, h1, _⟩ := h; rw [h1]; simp
  | lst l => exact (h.there rfl).2
  | dct t l => exact (h.there rfl).2
  | ins c fs => exact (h.there rfl).2

/-- the map with one more place -/
def mext (m : Nat → Addr) (n : Nat) (p : Addr) : Nat → Addr := fun k => if k = n then p else m k
theorem mext_same {p : Addr} : mext m n p n = p := if_pos rfl
theorem mext_lt {p : Addr} {k : Nat} (h : k < n) : mext m n p k = m k := if_neg (Nat.ne_of_lt h)
theorem ext_mext {p : Addr} : Ext K n m H (mext m n p) H := ⟨⟨fun _ hk => mext_lt hk, fun _ _ h => h, fun _ _ h => h⟩, fun _ _ _ h => h⟩

theorem get_snoc {α : Type} {S : List α} {o x : α} {k : Nat} (h : (S ++ [o])[k]? = some x) : (k < S.length ∧ S[k]? = some x) ∨ (k = S.length ∧ x = o) := by
  by_cases hk : k < S.length
  · rw [List.getElem?_append_left hk] at h
    exact .inl ⟨hk, h⟩
  · rw [List.getElem?_append_right (by omega)] at h
    have h2 : k - S.length = 0 := by
      cases q : k - S.length with
      | zero => rfl
      | succ j => rw [q] at h; simp at h
    rw [h2] at h
    simp at h
    exact .inr ⟨by omega, h.symm⟩
theorem lt_of_get {α : Type} {S : List α} {x : α} {k : Nat} (h : S[k]? = some x) : k < S.length := (List.getElem?_eq_some_iff.mp h).1

/-- a new object joins the store -/
theorem StS.push {S : Sto} {p : Addr} {ho : HO} {po : PO} (st : StS K mg m S H) (hp : H p = none) (hm : isMut po = true)
    (new : Ro K mg (upd H p ho) (mext m S.length p) (S.length + 1) po p) : StS K mg (mext m S.length p) (S ++ [po]) (upd H p ho) := by
  have nep : ∀ (k : Nat) (o : PO), S[k]? = some o → isMut o = true → m k ≠ p := fun k o e hmu q => by
    have := (st.obj k o e).thereN hmu
    rw [q, hp] at this; exact this rfl
  refine ⟨fun k o e => ?_, fun j k oj ok ej ek mj mk q => ?_⟩
  · rw [List.length_append, List.length_singleton]
    rcases get_snoc e with ⟨hk, eo⟩ | ⟨hk, eo⟩
    · rw [mext_lt hk]
      exact ((st.obj k o eo).upd (o := ho) (.inl hp) (fun hmu => nep k o eo hmu)).mono ext_mext (Nat.le_succ _)
    · subst hk; subst eo
      rw [mext_same]; exact new
  · rcases get_snoc ej with ⟨hj, ej⟩ | ⟨hj, ej⟩ <;> rcases get_snoc ek with ⟨hk, ek⟩ | ⟨hk, ek⟩
    · rw [mext_lt hj, mext_lt hk] at q
      exact st.inj j k oj ok ej ek mj mk q
    · subst hk
      rw [mext_lt hj, mext_same] at q
      exact absurd q (nep j oj ej mj)
    · subst hj
      rw [mext_same, mext_lt hk] at q
      exact absurd q.symm (nep k ok ek mk)
    · rw [hj, hk]
theorem ext_push {p : Addr} {ho : HO} (hp : H p = none) : Ext K n m H (mext m n p) (upd H p ho) :=
  (ext_upd (m := m) (.inl hp)).trans ext_mext (Nat.le_refl _)
/-- an object of the store is written -/
theorem StS.write {S : Sto} {k : Nat} {ho : HO} {po po' : PO} (st : StS K mg m S H) (hk : S[k]? = some po) (hm : isW po = true) (hm' : isMut po' = true)
    (new : Ro K mg (upd H (m k) ho) m S.length po' (m k)) : StS K mg m (S.set k po') (upd H (m k) ho) := by
  have mu := ((st.obj k po hk).there hm).1
  have hlt := lt_of_get hk
  refine ⟨fun j o e => ?_, fun i j oi oj ei ej mi mj q => ?_⟩
  · rw [List.length_set]
    by_cases hj : j = k
    · subst hj
      rw [List.getElem?_set_self hlt] at e
      cases e; exact new
    · rw [List.getElem?_set_ne (Ne.symm hj)] at e
      exact (st.obj j o e).upd (.inr mu) fun hmo q => hj (st.inj j k o po e hk hmo (isW.mut hm) q)
  · have old : ∀ (i : Nat) (oi : PO), (S.set k po')[i]? = some oi → isMut oi = true → ∃ o, S[i]? = some o ∧ isMut o = true := fun i oi e mi => by
      by_cases hi : i = k
      · subst hi; exact ⟨po, hk, isW.mut hm⟩
      · rw [List.getElem?_set_ne (Ne.symm hi)] at e
        exact ⟨oi, e, mi⟩
    obtain ⟨o1, e1, m1⟩ := old i oi ei mi
    obtain ⟨o2, e2, m2⟩ := old j oj ej mj
    exact st.inj i j o1 o2 e1 e2 m1 m2 q
theorem StS.mut {S : Sto} {k : Nat} {po : PO} (st : StS K mg m S H) (hk : S[k]? = some po) (hm : isW po = true) : Mut (H (m k)) := ((st.obj k po hk).there hm).1
end

/-! ### what is wanted behind an expression -/
section
variable (K : PySem.W.Frag) (mg : Str → Option Value)
def RX (H : Hp) (m : Nat → Addr) (n : Nat) (e : Xn) (cls : Value) (dd : Option Addr) : Prop :=
  ∃ C, cls = .ref C ∧ mg e.c = some (.ref C) ∧ ((e.fs = [] ∧ dd = none) ∨ (e.fs ≠ [] ∧ ∃ d fv, dd = some d ∧ H d = some (.xd fv) ∧ RpF K H m n e.fs fv))
def PostX (W : WX) (σ : L2.St) (m : Nat → Addr) (S : Sto) (H : Hp) (e : Xn) (S' : Sto) : Prop :=
  ∀ cls dd m' H', S.length ≤ S'.length → Ext K S.length m H m' H' → StS K mg m' S' H' → RX K mg H' m' S'.length e cls dd → W cls dd σ H'
/-- how a result stands in the heap -/
abbrev Rel (α β : Type) := Hp → (Nat → Addr) → Nat → α → β → Prop
def rE : Rel PV V := fun H m n d v => Rp K H m n d v
def rA : Rel (List PV) (List V) := fun H m n d v => RpL K H m n d v
def rB : Rel Bool Bool := fun _ _ _ d v => d = v
def PostG {α β : Type} (rel : Rel α β) (W : WX) (σ : L2.St) (m : Nat → Addr) (S : Sto) (H : Hp) (r : R α) (Q : β → Hp → Prop) : Prop :=
  match r with
  | .ok d S' => ∀ v m' H', S.length ≤ S'.length → Ext K S.length m H m' H' → StS K mg m' S' H' → rel H' m' S'.length d v → Q v H'
  | .exc e S' => PostX K mg W σ m S H e S'
def PostS (W : WX) (m : Nat → Addr) (S : Sto) (H : Hp) (r : RS) (D : Ends) : Prop :=
  match r with
  | .next ρ' S' => ∀ σ' m' H', S.length ≤ S'.length → Ext K S.length m H m' H' → StS K mg m' S' H' → EnR K H' m' S'.length ρ' σ' → D.nx σ' H'
  | .ret d S' => ∀ v m' H', S.length ≤ S'.length → Ext K S.length m H m' H' → StS K mg m' S' H' → Rp K H' m' S'.length d v → D.rt v H'
  | .brk ρ' S' => ∀ σ' m' H', S.length ≤ S'.length → Ext K S.length m H m' H' → StS K mg m' S' H' → EnR K H' m' S'.length ρ' σ' → D.bk σ' H'
  | .ctn ρ' S' => ∀ σ' m' H', S.length ≤ S'.length → Ext K S.length m H m' H' → StS K mg m' S' H' → EnR K H' m' S'.length ρ' σ' → D.ct σ' H'
  | .exc e ρ' S' => ∀ cls dd σ' m' H', S.length ≤ S'.length → Ext K S.length m H m' H' → StS K mg m' S' H' → EnR K H' m' S'.length ρ' σ' → RX K mg H' m' S'.length e cls dd → W cls dd σ' H'
def tG {α β : Type} (rel : Rel α β) (W : WX) (f : En → Sto → Option (R α)) : L2.St → Hp → (β → Hp → Prop) → Prop :=
  fun σ H Q => ∃ m ρ S r, StS K mg m S H ∧ EnR K H m S.length ρ σ ∧ f ρ S = some r ∧ PostG K mg rel W σ m S H r Q
abbrev tD (W : WX) (f : DE) : TE := tG K mg (rE K) W f
abbrev tA (W : WX) (f : DA) : TA := tG K mg (rA K) W f
abbrev tT (W : WX) (f : DB) : TT := tG K mg rB W f
def tS (W : WX) (f : DS) : TS := fun D σ H => ∃ m ρ S r, StS K mg m S H ∧ EnR K H m S.length ρ σ ∧ f ρ S = some r ∧ PostS K mg W m S H r D
end

section
variable {K : PySem.W.Frag} {mg : Str → Option Value} {W : WX} {σ : L2.St} {m m' : Nat → Addr} {S S' : Sto} {H H' : Hp}
/-- seen from further on -/
theorem PostX.on {e : Xn} {T : Sto} (le : S.length ≤ S'.length) (x : Ext K S.length m H m' H') (h : PostX K mg W σ m S H e T) : PostX K mg W σ m' S' H' e T :=
  fun cls dd m2 H2 l e2 s r => h cls dd m2 H2 (Nat.le_trans le l) (x.trans e2 le) s r
theorem PostG.on {α β : Type} {rel : Rel α β} {r : R α} {Q : β → Hp → Prop} (le : S.length ≤ S'.length) (x : Ext K S.length m H m' H') (h : PostG K mg rel W σ m S H r Q) : PostG K mg rel W σ m' S' H' r Q := by
  cases r with
  | ok d T => exact fun v m2 H2 l e2 s r => h v m2 H2 (Nat.le_trans le l) (x.trans e2 le) s r
  | exc e T => exact PostX.on le x h
theorem PostS.on {r : RS} {D : Ends} (le : S.length ≤ S'.length) (x : Ext K S.length m H m' H') (h : PostS K mg W m S H r D) : PostS K mg W m' S' H' r D := by
  cases r with
  | next ρ T => exact fun s2 m2 H2 l e2 s => h s2 m2 H2 (Nat.le_trans le l) (x.trans e2 le) s
  | ret v T => exact fun v m2 H2 l e2 s => h v m2 H2 (Nat.le_trans le l) (x.trans e2 le) s
  | brk ρ T => exact fun s2 m2 H2 l e2 s => h s2 m2 H2 (Nat.le_trans le l) (x.trans e2 le) s
  | ctn ρ T => exact fun s2 m2 H2 l e2 s => h s2 m2 H2 (Nat.le_trans le l) (x.trans e2 le) s
  | exc e ρ T => exact fun cls dd s2 m2 H2 l e2 s => h cls dd s2 m2 H2 (Nat.le_trans le l) (x.trans e2 le) s
end
/-- a relation that later heaps keep -/
def Keeps (K : PySem.W.Frag) {α β : Type} (rel : Rel α β) : Prop := ∀ H m n H' m' n' d v, Ext K n m H m' H' → n ≤ n' → rel H m n d v → rel H' m' n' d v
theorem keeps_E {K : PySem.W.Frag} : Keeps K (rE K) := fun _ _ _ _ _ _ _ _ e h r => Rp.mono e h r
theorem keeps_A {K : PySem.W.Frag} : Keeps K (rA K) := fun _ _ _ _ _ _ _ _ e h r => RpL.mono e h r
theorem keeps_B {K : PySem.W.Frag} : Keeps K rB := fun _ _ _ _ _ _ _ _ _ _ r => r
section
variable {K : PySem.W.Frag} {mg : Str → Option Value} {W : WX} {σ : L2.St} {H : Hp} {α β γ α' β' γ' : Type} {ra : Rel α α'} {rb : Rel β β'} {rc : Rel γ γ'}
/-- one part, then the rest -/
theorem bind1 {f : En → Sto → Option (R α)} {k : En → α → Sto → Option (R γ)} {Q : γ' → Hp → Prop} (h : tG K mg rc W (fun ρ S => bR (f ρ S) (k ρ)) σ H Q) :
    tG K mg ra W f σ H fun v H1 => ∃ m ρ S d r, StS K mg m S H1 ∧ EnR K H1 m S.length ρ σ ∧ ra H1 m S.length d v ∧ k ρ d S = some r ∧ PostG K mg rc W σ m S H1 r Q := by
  obtain ⟨m, ρ, S, r, s, e, hf, p⟩ := h
  have hf : bR (f ρ S) (k ρ) = some r := hf
  cases q : f ρ S with
  | none => rw [q] at hf; cases hf
  | some z =>
    rw [q] at hf
    cases z with
    | exc x T =>
      cases hf
      exact ⟨m, ρ, S, .exc x T, s, e, q, p⟩
    | ok d T => exact ⟨m, ρ, S, .ok d T, s, e, q, fun v m' H' le x s' rv => ⟨m', ρ, T, d, r, s', e.mono x le, rv, hf, p.on le x⟩⟩
/-- two parts -/
theorem bind2 (ka : Keeps K ra) {f : En → Sto → Option (R α)} {g : En → Sto → Option (R β)} {k : En → α → β → Sto → Option (R γ)} {Q : γ' → Hp → Prop}
    (h : tG K mg rc W (fun ρ S => bR (f ρ S) fun x S1 => bR (g ρ S1) fun y S2 => k ρ x y S2) σ H Q) :
    tG K mg ra W f σ H fun v H1 => tG K mg rb W g σ H1 fun u H2 => ∃ m ρ S d d' r, StS K mg m S H2 ∧ EnR K H2 m S.length ρ σ ∧ ra H2 m S.length d v ∧ rb H2 m S.length d' u ∧ k ρ d d' S = some r ∧ PostG K mg rc W σ m S H2 r Q := by
  obtain ⟨m, ρ, S, r, s, e, hf, p⟩ := bind1 (ra := ra) h
  refine ⟨m, ρ, S, r, s, e, hf, ?_⟩
  cases r with
  | exc x T => exact p
  | ok d T =>
    intro v m1 H1 le x s1 rv
    obtain ⟨m2, ρ2, S2, d2, r2, s2, e2, rv2, hk, p2⟩ := p v m1 H1 le x s1 rv
    have hk : bR (g ρ2 S2) (fun y S3 => k ρ2 d2 y S3) = some r2 := hk
    cases q : g ρ2 S2 with
    | none => rw [q] at hk; cases hk
    | some z =>
      rw [q] at hk
      cases z with
      | exc x T =>
        cases hk
        exact ⟨m2, ρ2, S2, .exc x T, s2, e2, q, p2⟩
      | ok d' T' => exact ⟨m2, ρ2, S2, .ok d' T', s2, e2, q, fun u m' H' le' x' s' ru => ⟨m', ρ2, T', d2, d', r2, s', e2.mono x' le', ka _ _ _ _ _ _ _ _ x' le' rv2, ru, hk, p2.on le' x'⟩⟩
end
theorem _root_.L2.PE.imp {X : Cx} {e : Expr} {t t' : TE} (h : PE X e t) (i : ∀ σ H Q, t' σ H Q → t σ H Q) : PE X e t' := ⟨fun pins s σ H Q I q => h.run pins s σ H Q I (i _ _ _ q)⟩
theorem _root_.L2.PT.imp {X : Cx} {e : Expr} {t t' : TT} (h : PT X e t) (i : ∀ σ H Q, t' σ H Q → t σ H Q) : PT X e t' := ⟨fun pins s σ H Q I q => h.run pins s σ H Q I (i _ _ _ q)⟩
theorem _root_.L2.PW.imp {X : Cx} {e : Expr} {t t' : TT} (h : PW X e t) (i : ∀ σ H Q, t' σ H Q → t σ H Q) : PW X e t' := ⟨fun whole pins s σ H Q I q => h.run whole pins s σ H Q I (i _ _ _ q)⟩
theorem _root_.L2.PA.imp {X : Cx} {e : List Expr} {t t' : TA} (h : PA X e t) (i : ∀ σ H Q, t' σ H Q → t σ H Q) : PA X e t' := ⟨fun pos pins s σ H Q I q => h.run pos pins s σ H Q I (i _ _ _ q)⟩
theorem _root_.L2.PS.imp {X : Cx} {e : Stmt} {t t' : TS} (h : PS X e t) (i : ∀ D σ H, t' D σ H → t D σ H) : PS X e t' := ⟨fun pins s σ H Q I q => h.run pins s σ H Q I (i _ _ _ q)⟩
theorem _root_.L2.PSs.imp {X : Cx} {e : List Stmt} {t t' : TS} (h : PSs X e t) (i : ∀ D σ H, t' D σ H → t D σ H) : PSs X e t' := ⟨fun pins s σ H Q I q => h.run pins s σ H Q I (i _ _ _ q)⟩
end D

/-! D1: expressions: their denotations. -/
namespace D
open PySem L2

abbrev PEd (X : Cx) (W : WX) (e : Expr) (f : DE) : Prop := PE X e (tD X.K X.mg W f)
abbrev PTd (X : Cx) (W : WX) (e : Expr) (f : DB) : Prop := PT X e (tT X.K X.mg W f)
abbrev PWd (X : Cx) (W : WX) (e : Expr) (f : DB) : Prop := PW X e (tT X.K X.mg W f)
abbrev PAd (X : Cx) (W : WX) (es : List Expr) (f : DA) : Prop := PA X es (tA X.K X.mg W f)

theorem tG.mono {K : PySem.W.Frag} {mg : Str → Option Value} {W : WX} {α β : Type} {rel : Rel α β} {f : En → Sto → Option (R α)} {σ : L2.St} {H : Hp} {Q Q' : β → Hp → Prop} (h : tG K mg rel W f σ H Q) (q : ∀ v H, Q v H → Q' v H) :
    tG K mg rel W f σ H Q' := by
  obtain ⟨m, ρ, S, r, s, e, hf, p⟩ := h
  refine ⟨m, ρ, S, r, s, e, hf, ?_⟩
  cases r with
  | ok d T => exact fun v m' H' a b c d => q _ _ (p v m' H' a b c d)
  | exc x T => exact p

/-! ### names, constants -/
def dVar (i : Nat) : DE := fun ρ S => match ρ[i]? with
  | some (some v) => some (.ok v S)
  | _ => none
def dC (v : PV) : DE := fun _ S => some (.ok v S)
section
variable {X : Cx} {W : WX} {pos : Pos}
theorem de_var (i : Nat) {x : Str} (hN : X.N[i]? = some x := by rfl) (hv : Vis X.env.scope x := by first | exact Or.inl rfl | exact Or.inr (Or.inl rfl) | exact Or.inr (Or.inr rfl)) (hd : (x == ("__debug__" : Str)) = false := by decide)
    (hcd : (x == ("__classdict__" : Str)) = false := by decide) : PEd X W (.Name x pos) (dVar i) := by
  refine (pe_var hN hv hd hcd).imp fun σ H Q h => ?_
  obtain ⟨m, ρ, S, r, s, e, hf, p⟩ := h
  unfold dVar at hf
  split at hf
  · rename_i v hv
    cases hf
    obtain ⟨x, hx, rx⟩ := e.at_ i v hv
    exact ⟨x, hx, p x m H (Nat.le_refl _) Ext.refl s rx⟩
  · cases hf
theorem de_c {e : Expr} {v : V} {d : PV} (h : PE X e (tC v)) (hr : ∀ K H m n, Rp K H m n d v) : PEd X W e (dC d) := by
  refine h.imp fun σ H Q h => ?_
  obtain ⟨m, ρ, S, r, s, e, hf, p⟩ := h
  cases hf
  exact p v m H (Nat.le_refl _) Ext.refl s (hr _ _ _ _)
theorem de_int {i : Int} {j : Nat} : PEd X W (.Constant (.int i) j pos) (dC (.int i)) := de_c pe_int fun _ _ _ _ => .int i
theorem de_bl {i : Bool} {j : Nat} : PEd X W (.Constant (.bool i) j pos) (dC (.bl i)) := de_c pe_bl fun _ _ _ _ => .bl i
theorem de_str {i : Str} {j : Nat} : PEd X W (.Constant (.str i) j pos) (dC (.str i)) := de_c pe_str fun _ _ _ _ => .str i
theorem de_non {j : Nat} : PEd X W (.Constant .none j pos) (dC .non) := de_c pe_non fun _ _ _ _ => .non
/-- a module's constant -/
theorem de_gint {x : Str} {i : Int} {t : Tok} (hg : Gl X x) (hm : X.mg x = some (.int i t)) (hd : (x == ("__debug__" : Str)) = false := by decide) : PEd X W (.Name x pos) (dC (.int i)) :=
  de_c (pe_glob (v := .int i) hg hm ⟨_, rfl⟩ hd) fun _ _ _ _ => .int i
theorem de_gstr {x : Str} {i : Str} {t : Tok} (hg : Gl X x) (hm : X.mg x = some (.str i t)) (hd : (x == ("__debug__" : Str)) = false := by decide) : PEd X W (.Name x pos) (dC (.str i)) :=
  de_c (pe_glob (v := .str i) hg hm ⟨_, rfl⟩ hd) fun _ _ _ _ => .str i
end

/-! ### operators by values -/
abbrev G2 := PV → PV → Sto → Option (R PV)
abbrev G1 := PV → Sto → Option (R PV)
abbrev GA := List PV → Sto → Option (R PV)
def OkG2 (K : PySem.W.Frag) (mg : Str → Option Value) (r : R2) (g : G2) : Prop :=
  ∀ (W : WX) (σ : L2.St) (m : Nat → Addr) (S : Sto) (H : Hp) (x y : V) (d d' : PV) (z : R PV) (Q : VK), StS K mg m S H → Rp K H m S.length d x → Rp K H m S.length d' y → g d d' S = some z → PostG K mg (rE K) W σ m S H z Q → r x y H Q
def OkG1 (K : PySem.W.Frag) (mg : Str → Option Value) (r : V → Hp → VK → Prop) (g : G1) : Prop :=
  ∀ (W : WX) (σ : L2.St) (m : Nat → Addr) (S : Sto) (H : Hp) (x : V) (d : PV) (z : R PV) (Q : VK), StS K mg m S H → Rp K H m S.length d x → g d S = some z → PostG K mg (rE K) W σ m S H z Q → r x H Q
def OkGA (K : PySem.W.Frag) (mg : Str → Option Value) (r : List V → Hp → VK → Prop) (g : GA) : Prop :=
  ∀ (W : WX) (σ : L2.St) (m : Nat → Addr) (S : Sto) (H : Hp) (x : List V) (d : List PV) (z : R PV) (Q : VK), StS K mg m S H → RpL K H m S.length d x → g d S = some z → PostG K mg (rE K) W σ m S H z Q → r x H Q
def dOp2 (g : G2) (a b : DE) : DE := fun ρ S => bR (a ρ S) fun x S1 => bR (b ρ S1) fun y S2 => g x y S2
def dOp1 (g : G1) (a : DE) : DE := fun ρ S => bR (a ρ S) fun x S1 => g x S1
def dOpA (g : GA) (a : DA) : DE := fun ρ S => bR (a ρ S) fun x S1 => g x S1
/-- one way or the other -/
def gOr2 (g h : G2) : G2 := fun x y S => match g x y S with
  | some z => some z
  | none => h x y S
def gOr1 (g h : G1) : G1 := fun x S => match g x S with
  | some z => some z
  | none => h x S
def gOrA (g h : GA) : GA := fun x S => match g x S with
  | some z => some z
  | none => h x S
section
variable {K : PySem.W.Frag} {mg : Str → Option Value} {W : WX} {σ : L2.St} {H : Hp}
theorem OkG2.or {r r' : R2} {g h : G2} (a : OkG2 K mg r g) (b : OkG2 K mg r' h) : OkG2 K mg (fun x y H Q => r x y H Q ∨ r' x y H Q) (gOr2 g h) := fun W σ m S H x y d d' z Q s r1 r2 e p => by
  unfold gOr2 at e
  cases q : g d d' S with
  | some z' =>
    rw [q] at e
    cases e
    exact .inl (a W σ m S H x y d d' _ Q s r1 r2 q p)
  | none =>
    rw [q] at e
    exact .inr (b W σ m S H x y d d' _ Q s r1 r2 e p)
theorem OkG1.or {r r' : V → Hp → VK → Prop} {g h : G1} (a : OkG1 K mg r g) (b : OkG1 K mg r' h) : OkG1 K mg (fun x H Q => r x H Q ∨ r' x H Q) (gOr1 g h) := fun W σ m S H x d z Q s r1 e p => by
  unfold gOr1 at e
  cases q : g d S with
  | some z' =>
    rw [q] at e
    cases e
    exact .inl (a W σ m S H x d _ Q s r1 q p)
  | none =>
    rw [q] at e
    exact .inr (b W σ m S H x d _ Q s r1 e p)
theorem OkGA.or {r r' : List V → Hp → VK → Prop} {g h : GA} (a : OkGA K mg r g) (b : OkGA K mg r' h) : OkGA K mg (fun x H Q => r x H Q ∨ r' x H Q) (gOrA g h) := fun W σ m S H x d z Q s r1 e p => by
  unfold gOrA at e
  cases q : g d S with
  | some z' =>
    rw [q] at e
    cases e
    exact .inl (a W σ m S H x d _ Q s r1 q p)
  | none =>
    rw [q] at e
    exact .inr (b W σ m S H x d _ Q s r1 e p)
theorem lift2 {r : R2} {g : G2} (hg : OkG2 K mg r g) {fa fb : DE} {Q : VK} (h : tD K mg W (dOp2 g fa fb) σ H Q) : tOp r (tD K mg W fa) (tD K mg W fb) σ H Q :=
  (bind2 (ra := rE K) (rb := rE K) keeps_E h).mono fun v H1 h1 => h1.mono fun u H2 ⟨m, ρ, S, d, d', z, s, e, r1, r2, hk, p⟩ => hg W σ m S H2 v u d d' z Q s r1 r2 hk p
theorem lift1 {r : V → Hp → VK → Prop} {g : G1} (hg : OkG1 K mg r g) {fa : DE} {Q : VK} (h : tD K mg W (dOp1 g fa) σ H Q) : tUn r (tD K mg W fa) σ H Q :=
  (bind1 (ra := rE K) h).mono fun v H1 ⟨m, ρ, S, d, z, s, e, r1, hk, p⟩ => hg W σ m S H1 v d z Q s r1 hk p
theorem liftA {r : List V → Hp → VK → Prop} {g : GA} (hg : OkGA K mg r g) {fa : DA} {Q : VK} (h : tD K mg W (dOpA g fa) σ H Q) : tCB r (tA K mg W fa) σ H Q :=
  (bind1 (ra := rA K) h).mono fun v H1 ⟨m, ρ, S, d, z, s, e, r1, hk, p⟩ => hg W σ m S H1 v d z Q s r1 hk p
/-- the answer changes nothing -/
theorem post_here {m : Nat → Addr} {S : Sto} {d : PV} {v : V} {Q : VK} (s : StS K mg m S H) (r : Rp K H m S.length d v) (p : PostG K mg (rE K) W σ m S H (.ok d S) Q) : Q v H := p v m H (Nat.le_refl _) Ext.refl s r
end
section
variable {X : Cx} {W : WX} {pos : Pos} {a b c : Expr} {fa fb fc : DE}
theorem de_op {op : Operator} {r : R2} {g : G2} (ho : OpR X (binaryOp op) r) (hg : OkG2 X.K X.mg r g) (ha : PEd X W a fa) (hb : PEd X W b fb) : PEd X W (.BinOp a op b pos) (dOp2 g fa fb) := (pe_op ho ha hb).imp fun _ _ _ h => lift2 hg h
theorem de_un {op : UnaryOp} {r : V → Hp → VK → Prop} {g : G1} (ho : UnR X (unaryOp op) r) (hg : OkG1 X.K X.mg r g) (ha : PEd X W a fa) : PEd X W (.UnaryOp op a pos) (dOp1 g fa) := (pe_un ho ha).imp fun _ _ _ h => lift1 hg h
theorem de_cmp {op : CmpOp} {r : R2} {g : G2} (ho : OpR X (compareOp op) r) (hg : OkG2 X.K X.mg r g) (ha : PEd X W a fa) (hb : PEd X W b fb) (hm : behindInMarks op b = false := by with_unfolding_all rfl) : PEd X W (.Compare a [op] [b] pos) (dOp2 g fa fb) :=
  (pe_cmpR ho ha hb hm).imp fun _ _ _ h => lift2 hg h
theorem de_ix {r : R2} {g : G2} (ho : IxR X r) (hg : OkG2 X.K X.mg r g) (ha : PEd X W a fa) (hb : PEd X W b fb) (hs : PlainIx b := by intro _ _; rfl) : PEd X W (.Subscript a b pos) (dOp2 g fa fb) := (pe_ix ho ha hb hs).imp fun _ _ _ h => lift2 hg h

/-! ### tests -/
def asB (r : Option (R PV)) : Option (R Bool) := bR r fun x S => match x with
  | .bl b => some (.ok b S)
  | _ => none
theorem tT_of_test {r : R2} {g : G2} (hg : OkG2 X.K X.mg r g) {σ : L2.St} {H : Hp} {Q : Bool → Hp → Prop} (h : tT X.K X.mg W (fun ρ S => asB (dOp2 g fa fb ρ S)) σ H Q) :
    tTest (tOp r (tD X.K X.mg W fa) (tD X.K X.mg W fb)) σ H Q := by
  refine lift2 hg ((bind1 (ra := rE X.K) h).mono fun v H1 ⟨m, ρ, S, d, z, s, e, r1, hk, p⟩ => ?_)
  cases d <;> try cases hk
  cases r1
  exact ⟨_, rfl, p _ m H1 (Nat.le_refl _) Ext.refl s rfl⟩
/-- a comparison as a test -/
def dCmp (g : G2) (a b : DE) : DB := fun ρ S => asB (dOp2 g a b ρ S)
theorem dt_cmp {op : CmpOp} {r : R2} {g : G2} (ho : OpR X (compareOp op) r) (hg : OkG2 X.K X.mg r g) (ha : PEd X W a fa) (hb : PEd X W b fb) (hm : behindInMarks op b = false := by with_unfolding_all rfl) : PTd X W (.Compare a [op] [b] pos) (dCmp g fa fb) :=
  (pt_cmpR ho ha hb hm).imp fun _ _ _ h => tT_of_test hg h
/-- the truth of a value -/
def truP (x : PV) (S : Sto) : Option Bool := match x with
  | .non => some false
  | .bl b => some b
  | .int i => some (i != 0)
  | .str y => if y.length ≤ 16777216 then some ((y.length : Int) != 0) else none
  | .tup l => some (!l.isEmpty)
  | .ty _ => none
  | .xc _ _ _ => none
  | .loc k => match S[k]? with
    | some (.lst l) => some (!l.isEmpty)
    | some (.fz l) => some (!l.isEmpty)
    | _ => none
def gTru (x : PV) (S : Sto) : Option (R Bool) := match truP x S with
  | some b => some (.ok b S)
  | none => none
theorem isEmpty_rp {K : PySem.W.Frag} {H : Hp} {m : Nat → Addr} {n : Nat} {l : List PV} {xs : List V} (r : RpL K H m n l xs) : (!l.isEmpty) = !xs.isEmpty := by cases r <;> rfl
theorem tru_ok {K : PySem.W.Frag} {mg : Str → Option Value} {H : Hp} {m : Nat → Addr} {S : Sto} {x : PV} {v : V} {b : Bool} (s : StS K mg m S H) (r : Rp K H m S.length x v) (h : truP x S = some b) : TruV K v H b := by
  cases r with
  | non => cases h; rfl
  | bl b => cases h; rfl
  | int i => cases h; rfl
  | ty i => cases h
  | xc _ => cases h
  | str y =>
    unfold truP at h
    dsimp only at h
    split at h
    · rename_i hy
      cases h
      exact ⟨Nat.le_trans hy (by decide), rfl⟩
    · cases h
  | tup hs hl =>
    cases h
    exact .inr (.inl ⟨_, hs, isEmpty_rp hl⟩)
  | @loc k hk =>
    unfold truP at h
    dsimp only at h
    split at h
    · rename_i l e
      cases h
      obtain ⟨xs, h1, h2⟩ := s.obj _ _ e
      exact .inl ⟨xs, .inl (.inl h1), isEmpty_rp h2⟩
    · rename_i l e
      cases h
      obtain ⟨xs, h1, h2⟩ := s.obj _ _ e
      exact .inl ⟨xs, h1.sq, isEmpty_rp h2⟩
    · cases h
def dTru (f : DE) : DB := fun ρ S => bR (f ρ S) fun x S1 => gTru x S1
theorem dt_tru (ha : PEd X W a fa) (he : ∀ whole, isTrue a X.env whole = (do let v ← whole; standAt a.pos; holding [v] (truthy v)) := by intro _; rfl) : PTd X W a (dTru fa) := by
  refine (pt_truth ha he).imp fun σ H Q h => ?_
  refine (bind1 (ra := rE X.K) h).mono fun v H1 ⟨m, ρ, S, d, z, s, e, r1, hk, p⟩ => ?_
  unfold gTru at hk
  split at hk
  · rename_i bb hb
    cases hk
    exact ⟨bb, tru_ok s r1 hb, p _ m H1 (Nat.le_refl _) Ext.refl s rfl⟩
  · cases hk
def dNotT (f : DB) : DB := fun ρ S => bR (f ρ S) fun x S1 => some (.ok (!x) S1)
def dAndT (f g : DB) : DB := fun ρ S => bR (f ρ S) fun x S1 => if x = true then g ρ S1 else some (.ok false S1)
def dOrT (f g : DB) : DB := fun ρ S => bR (f ρ S) fun x S1 => if x = true then some (.ok true S1) else g ρ S1
theorem dt_not {f : DB} (h : PTd X W a f) : PTd X W (.UnaryOp .Not a pos) (dNotT f) := by
  refine (pt_not h).imp fun σ H Q h => ?_
  refine (bind1 (ra := rB) h).mono fun v H1 ⟨m, ρ, S, d, z, s, e, r1, hk, p⟩ => ?_
  cases hk
  cases r1
  exact p _ m H1 (Nat.le_refl _) Ext.refl s rfl
theorem dw_and1 {f : DB} (ha : PTd X W a f) : PWd X W (.BoolOp .And [a] pos) f := pw_and1 ha
theorem dw_or1 {f : DB} (ha : PTd X W a f) : PWd X W (.BoolOp .Or [a] pos) f := pw_or1 ha
theorem dw_and {f g : DB} {rest : List Expr} (ha : PTd X W a f) (hb : PWd X W (.BoolOp .And (b :: rest) pos) g) : PWd X W (.BoolOp .And (a :: b :: rest) pos) (dAndT f g) := by
  refine (pw_and ha hb).imp fun σ H Q h => ?_
  refine (bind1 (ra := rB) h).mono fun v H1 ⟨m, ρ, S, d, z, s, e, r1, hk, p⟩ => ?_
  cases r1
  cases v with
  | true => exact ⟨m, ρ, S, z, s, e, hk, p⟩
  | false =>
    cases hk
    exact p _ m H1 (Nat.le_refl _) Ext.refl s rfl
theorem dw_or {f g : DB} {rest : List Expr} (ha : PTd X W a f) (hb : PWd X W (.BoolOp .Or (b :: rest) pos) g) : PWd X W (.BoolOp .Or (a :: b :: rest) pos) (dOrT f g) := by
  refine (pw_or ha hb).imp fun σ H Q h => ?_
  refine (bind1 (ra := rB) h).mono fun v H1 ⟨m, ρ, S, d, z, s, e, r1, hk, p⟩ => ?_
  cases r1
  cases v with
  | false => exact ⟨m, ρ, S, z, s, e, hk, p⟩
  | true =>
    cases hk
    exact p _ m H1 (Nat.le_refl _) Ext.refl s rfl
theorem PWd.pt {f : DB} (h : PWd X W a f) : PTd X W a f := PW.pt h

/-! ### values of and, or, not, if -/
def dAndV (f g : DE) : DE := fun ρ S => bR (f ρ S) fun x S1 => match truP x S1 with
  | some true => g ρ S1
  | some false => some (.ok x S1)
  | none => none
def dOrV (f g : DE) : DE := fun ρ S => bR (f ρ S) fun x S1 => match truP x S1 with
  | some false => g ρ S1
  | some true => some (.ok x S1)
  | none => none
def dNotV (f : DE) : DE := fun ρ S => bR (f ρ S) fun x S1 => match truP x S1 with
  | some b => some (.ok (.bl (!b)) S1)
  | none => none
def dIf (c : DB) (f g : DE) : DE := fun ρ S => bR (c ρ S) fun x S1 => if x = true then f ρ S1 else g ρ S1
theorem de_if {f : DB} (hc : PTd X W c f) (ha : PEd X W a fa) (hb : PEd X W b fb) : PEd X W (.IfExp c a b pos) (dIf f fa fb) := by
  refine (pe_ifExp hc ha hb).imp fun σ H Q h => ?_
  refine (bind1 (ra := rB) h).mono fun v H1 ⟨m, ρ, S, d, z, s, e, r1, hk, p⟩ => ?_
  cases r1
  cases v with
  | false => exact ⟨m, ρ, S, z, s, e, hk, p⟩
  | true => exact ⟨m, ρ, S, z, s, e, hk, p⟩

/-! ### argument lists, displays -/
def dNil : DA := fun _ S => some (.ok [] S)
def dCons (f : DE) (g : DA) : DA := fun ρ S => bR (f ρ S) fun x S1 => bR (g ρ S1) fun xs S2 => some (.ok (x :: xs) S2)
theorem da_nil : PAd X W [] dNil := by
  refine pa_nil.imp fun σ H Q h => ?_
  obtain ⟨m, ρ, S, r, s, e, hf, p⟩ := h
  cases hf
  exact p _ m H (Nat.le_refl _) Ext.refl s .nil
theorem da_cons {es : List Expr} {g : DA} (ha : PEd X W a fa) (hb : PAd X W es g) (hs : starEach (a :: es) X.env = (false, eval a X.env) :: starEach es X.env := by rfl) : PAd X W (a :: es) (dCons fa g) := by
  refine (pa_cons ha hb hs).imp fun σ H Q h => ?_
  refine (bind2 (ra := rE X.K) (rb := rA X.K) keeps_E h).mono fun v H1 h1 => h1.mono fun u H2 ⟨m, ρ, S, d, d', z, s, e, r1, r2, hk, p⟩ => ?_
  cases hk
  exact p _ m H2 (Nat.le_refl _) Ext.refl s (.cons r1 r2)
def gTupP : GA := fun l S => if l.length ≤ 16777216 then some (.ok (.tup l) S) else none
def gLstP : GA := fun l S => if l.length ≤ 16777216 then some (.ok (.loc S.length) (S ++ [.lst l])) else none
theorem new_list {K : PySem.W.Frag} {mg : Str → Option Value} {σ : L2.St} {H : Hp} {m : Nat → Addr} {S : Sto} {l : List PV} {xs : List V} {Q : VK} (s : StS K mg m S H) (r : RpL K H m S.length l xs)
    (p : PostG K mg (rE K) W σ m S H (.ok (.loc S.length) (S ++ [.lst l])) Q) (q : Addr) (hq : H q = none) : Q (.ref q) (upd H q (.lst xs)) := by
  have st := s.push (p := q) (ho := .lst xs) (po := .lst l) hq rfl ⟨xs, upd_same, r.mono (ext_push hq) (Nat.le_succ _)⟩
  have rp : Rp K (upd H q (.lst xs)) (mext m S.length q) (S ++ [PO.lst l]).length (.loc S.length) (.ref (mext m S.length q S.length)) := .loc (by simp)
  rw [mext_same] at rp
  exact p _ (mext m S.length q) _ (by simp) (ext_push hq) st rp
theorem new_tup {K : PySem.W.Frag} {mg : Str → Option Value} {σ : L2.St} {H : Hp} {m : Nat → Addr} {S : Sto} {l : List PV} {xs : List V} {Q : VK} (s : StS K mg m S H) (r : RpL K H m S.length l xs)
    (p : PostG K mg (rE K) W σ m S H (.ok (.tup l) S) Q) (q : Addr) (hq : H q = none) : Q (.ref q) (upd H q (.tup xs)) := by
  have ex : Ext K S.length m H m (upd H q (.tup xs)) := ext_upd (.inl hq)
  refine p _ m _ (Nat.le_refl _) ex ⟨fun k o e => (s.obj k o e).upd (.inl hq) (fun hm z => ?_), s.inj⟩ (.tup (.inl (.inl upd_same)) (r.mono ex (Nat.le_refl _)))
  have := (s.obj k o e).thereN hm
  rw [z, hq] at this
  exact this rfl
def dTup (f : DA) : DE := dOpA gTupP f
def dLst (f : DA) : DE := dOpA gLstP f
theorem de_tup {es : List Expr} {f : DA} {x1 : Nat} (h : PAd X W es f) : PEd X W (.Tuple es x1 pos) (dTup f) := by
  refine (pe_tup h).imp fun σ H Q h => ?_
  refine (bind1 (ra := rA X.K) h).mono fun v H1 ⟨m, ρ, S, d, z, s, e, r1, hk, p⟩ => ?_
  unfold gTupP at hk
  split at hk
  · rename_i hl
    cases hk
    exact ⟨by rw [← r1.length]; exact Nat.le_trans hl (by decide), fun q hq => new_tup s r1 p q hq⟩
  · cases hk
theorem de_lst {es : List Expr} {f : DA} (h : PAd X W es f) : PEd X W (.List es pos) (dLst f) := by
  refine (pe_lst h).imp fun σ H Q h => ?_
  refine (bind1 (ra := rA X.K) h).mono fun v H1 ⟨m, ρ, S, d, z, s, e, r1, hk, p⟩ => ?_
  unfold gLstP at hk
  split at hk
  · rename_i hl
    cases hk
    exact ⟨by rw [← r1.length]; exact Nat.le_trans hl (by decide), fun q hq => new_list s r1 p q hq⟩
  · cases hk
end
end D

/-! D2: statements, loops, defs. -/
namespace D
open PySem L2

abbrev PSd (X : Cx) (W : WX) (st : Stmt) (f : DS) : Prop := PS X st (tS X.K X.mg W f)
abbrev PSsd (X : Cx) (W : WX) (sts : List Stmt) (f : DS) : Prop := PSs X sts (tS X.K X.mg W f)
def bS {α : Type} (ρ : En) (r : Option (R α)) (k : α → Sto → Option RS) : Option RS :=
  match r with
  | some (.ok v S) => k v S
  | some (.exc e S) => some (.exc e ρ S)
  | none => none
/-- a statement, then the next -/
def bN (r : Option RS) (k : En → Sto → Option RS) : Option RS :=
  match r with
  | some (.next ρ S) => k ρ S
  | r => r
section
variable {K : PySem.W.Frag} {mg : Str → Option Value} {W : WX} {σ : L2.St} {H : Hp} {α α' : Type} {ra : Rel α α'}
theorem post_exc {m : Nat → Addr} {S S' : Sto} {e : Xn} {ρ : En} {D : Ends} (en : EnR K H m S.length ρ σ) (p : PostS K mg W m S H (.exc e ρ S') D) : PostX K mg W σ m S H e S' :=
  fun cls dd m' H' le x s r => p cls dd σ m' H' le x s (en.mono x le) r
theorem bindS {f : En → Sto → Option (R α)} {k : En → α → Sto → Option RS} {D : Ends} (h : tS K mg W (fun ρ S => bS ρ (f ρ S) (k ρ)) D σ H) :
    tG K mg ra W f σ H fun v H1 => ∃ m ρ S d r, StS K mg m S H1 ∧ EnR K H1 m S.length ρ σ ∧ ra H1 m S.length d v ∧ k ρ d S = some r ∧ PostS K mg W m S H1 r D := by
  obtain ⟨m, ρ, S, r, s, e, hf, p⟩ := h
  have hf : bS ρ (f ρ S) (k ρ) = some r := hf
  cases q : f ρ S with
  | none => rw [q] at hf; cases hf
  | some z =>
    rw [q] at hf
    cases z with
    | exc x T =>
      cases hf
      exact ⟨m, ρ, S, .exc x T, s, e, q, post_exc e p⟩
    | ok d T => exact ⟨m, ρ, S, .ok d T, s, e, q, fun v m' H' le x s' rv => ⟨m', ρ, T, d, r, s', e.mono x le, rv, hf, p.on le x⟩⟩
end

/-! ### simple statements -/
def dPass : DS := fun ρ S => some (.next ρ S)
def dBrk : DS := fun ρ S => some (.brk ρ S)
def dCtn : DS := fun ρ S => some (.ctn ρ S)
def dSeq (f g : DS) : DS := fun ρ S => bN (f ρ S) g
def dRet (f : DE) : DS := fun ρ S => bS ρ (f ρ S) fun v S1 => some (.ret v S1)
def dRetN : DS := fun _ S => some (.ret .non S)
def dExpr (f : DE) : DS := fun ρ S => bS ρ (f ρ S) fun _ S1 => some (.next ρ S1)
def dIfS (c : DB) (f g : DS) : DS := fun ρ S => bS ρ (c ρ S) fun b S1 => if b = true then f ρ S1 else g ρ S1
def dSet (i : Nat) (f : DE) : DS := fun ρ S => bS ρ (f ρ S) fun v S1 => some (.next (ρ.set i (some v)) S1)
section
variable {X : Cx} {W : WX} {pos : Pos} {e : Expr} {fe : DE} {f g : DS} {st : Stmt} {sts : List Stmt}
theorem EnR.set {K : PySem.W.Frag} {H : Hp} {m : Nat → Addr} {n i : Nat} {ρ : En} {σ : L2.St} {d : PV} {v : V} (h : EnR K H m n ρ σ) (r : Rp K H m n d v) : EnR K H m n (ρ.set i (some d)) (σ.set i (some v)) := by
  refine ⟨by rw [List.length_set, List.length_set]; exact h.len, fun j w e => ?_⟩
  by_cases hj : i = j
  · subst hj
    by_cases hl : i < ρ.length
    · rw [List.getElem?_set_self hl] at e
      cases e
      exact ⟨v, by rw [List.getElem?_set_self (h.len ▸ hl)], r⟩
    · rw [List.set_eq_of_length_le (by omega)] at e
      exact absurd (List.getElem?_eq_some_iff.mp e).1 hl
  · rw [List.getElem?_set_ne hj] at e
    rw [List.getElem?_set_ne hj]
    exact h.at_ j w e
theorem EnR.unset {K : PySem.W.Frag} {H : Hp} {m : Nat → Addr} {n : Nat} {ρ : En} {σ : L2.St} {o : Option V} (i : Nat) (h : EnR K H m n ρ σ) (ho : o = none ∨ σ.set i o = σ ∨ True) : EnR K H m n (ρ.set i none) σ := by
  refine ⟨by rw [List.length_set]; exact h.len, fun j w e => ?_⟩
  by_cases hj : i = j
  · subst hj
    by_cases hl : i < ρ.length
    · rw [List.getElem?_set_self hl] at e
      cases e
    · rw [List.set_eq_of_length_le (by omega)] at e
      exact h.at_ i w e
  · rw [List.getElem?_set_ne hj] at e
    exact h.at_ j w e
def killE (l : List Nat) (ρ : En) : En := l.foldl (fun ρ i => ρ.set i none) ρ
theorem EnR.kill {K : PySem.W.Frag} {H : Hp} {m : Nat → Addr} {n : Nat} {σ : L2.St} : ∀ (l : List Nat) {ρ : En}, EnR K H m n ρ σ → EnR K H m n (killE l ρ) σ
  | [], _, h => h
  | i :: l, ρ, h => EnR.kill l (ρ := ρ.set i none) (h.unset (o := none) i (.inl rfl))
theorem ds_pass : PSd X W (.Pass pos) dPass := ps_pass.imp fun D σ H h => by
  obtain ⟨m, ρ, S, r, s, e, hf, p⟩ := h
  cases hf
  exact p σ m H (Nat.le_refl _) Ext.refl s e
theorem ds_brk : PSd X W (.Break pos) dBrk := ps_break.imp fun D σ H h => by
  obtain ⟨m, ρ, S, r, s, e, hf, p⟩ := h
  cases hf
  exact p σ m H (Nat.le_refl _) Ext.refl s e
theorem ds_ctn : PSd X W (.Continue pos) dCtn := ps_continue.imp fun D σ H h => by
  obtain ⟨m, ρ, S, r, s, e, hf, p⟩ := h
  cases hf
  exact p σ m H (Nat.le_refl _) Ext.refl s e
theorem ds_expr (h : PEd X W e fe) (hs : swapsWith e none pos.line X.env = pure false := by rfl) : PSd X W (.Expr e pos) (dExpr fe) := (ps_expr h hs).imp fun D σ H h =>
  (bindS (ra := rE X.K) h).mono fun v H1 ⟨m, ρ, S, d, r, s, en, r1, hk, p⟩ => by
    cases hk
    exact p σ m H1 (Nat.le_refl _) Ext.refl s en
theorem ds_ret (h : PEd X W e fe) : PSd X W (.Return (some e) pos) (dRet fe) := (ps_ret h).imp fun D σ H h =>
  (bindS (ra := rE X.K) h).mono fun v H1 ⟨m, ρ, S, d, r, s, en, r1, hk, p⟩ => by
    cases hk
    exact p v m H1 (Nat.le_refl _) Ext.refl s r1
theorem ds_retN : PSd X W (.Return none pos) dRetN := ps_retN.imp fun D σ H h => by
  obtain ⟨m, ρ, S, r, s, e, hf, p⟩ := h
  cases hf
  exact p .non m H (Nat.le_refl _) Ext.refl s .non
theorem ds_if {c : Expr} {a b : List Stmt} {fc : DB} (hc : PTd X W c fc) (ha : PSsd X W a f) (hb : PSsd X W b g) : PSd X W (.If c a b pos) (dIfS fc f g) := (ps_if hc ha hb).imp fun D σ H h =>
  (bindS (ra := rB) h).mono fun v H1 ⟨m, ρ, S, d, r, s, en, r1, hk, p⟩ => by
    cases r1
    cases v with
    | true => exact ⟨m, ρ, S, r, s, en, hk, p⟩
    | false => exact ⟨m, ρ, S, r, s, en, hk, p⟩
theorem dss_nil : PSsd X W [] dPass := pss_nil.imp fun D σ H h => by
  obtain ⟨m, ρ, S, r, s, e, hf, p⟩ := h
  cases hf
  exact p σ m H (Nat.le_refl _) Ext.refl s e
theorem dss_one (h : PSd X W st f) : PSsd X W [st] f := pss_one h
theorem dss_cons (h : PSd X W st f) (h2 : PSsd X W sts g) : PSsd X W (st :: sts) (dSeq f g) := (pss_cons h h2).imp fun D σ H h => by
  obtain ⟨m, ρ, S, r, s, e, hf, p⟩ := h
  have hf : bN (f ρ S) g = some r := hf
  show tS X.K X.mg W f { D with nx := tS X.K X.mg W g D } σ H
  cases q : f ρ S with
  | none => rw [q] at hf; cases hf
  | some z =>
    rw [q] at hf
    refine ⟨m, ρ, S, z, s, e, q, ?_⟩
    cases z with
    | next ρ' S' => exact fun σ' m' H' le x s' e' => ⟨m', ρ', S', r, s', e', hf, p.on le x⟩
    | ret v S' => cases hf; exact p
    | brk ρ' S' => cases hf; exact p
    | ctn ρ' S' => cases hf; exact p
    | exc x ρ' S' => cases hf; exact p
theorem ds_set (i : Nat) {x : Str} {pos' : Pos} (hN : X.N.Nodup) (hi : X.N[i]? = some x) (hx : Loc X.env.scope x) (he : PEd X W e fe) (hs : swapsWith e (some (.Name x pos')) pos.line X.env = pure false := by rfl)
    (hf : X.fn x = true ∨ X.env.scope.names.lookup x = some .local := by first | exact .inl rfl | exact .inr rfl | assumption) : PSd X W (.Assign [.Name x pos'] e pos) (dSet i fe) := (ps_set hN hi hx he hs hf).imp fun D σ H h =>
  (bindS (ra := rE X.K) h).mono fun v H1 ⟨m, ρ, S, d, r, s, en, r1, hk, p⟩ => by
    cases hk
    exact p _ m H1 (Nat.le_refl _) Ext.refl s (en.set r1)
end

/-! ### targets -/
abbrev DG := PV → En → Sto → Option (En × Sto)
abbrev DGs := List PV → En → Sto → Option (En × Sto)
def tGt (K : PySem.W.Frag) (mg : Str → Option Value) (g : DG) : TG := fun v σ H Q => ∃ m ρ S d ρ' S', StS K mg m S H ∧ EnR K H m S.length ρ σ ∧ Rp K H m S.length d v ∧ g d ρ S = some (ρ', S') ∧
  ∀ σ' m' H', S.length ≤ S'.length → Ext K S.length m H m' H' → StS K mg m' S' H' → EnR K H' m' S'.length ρ' σ' → Q σ' H'
def tGts (K : PySem.W.Frag) (mg : Str → Option Value) (g : DGs) : TGs := fun v σ H Q => ∃ m ρ S d ρ' S', StS K mg m S H ∧ EnR K H m S.length ρ σ ∧ RpL K H m S.length d v ∧ g d ρ S = some (ρ', S') ∧
  ∀ σ' m' H', S.length ≤ S'.length → Ext K S.length m H m' H' → StS K mg m' S' H' → EnR K H' m' S'.length ρ' σ' → Q σ' H'
theorem _root_.L2.PG.imp {X : Cx} {e : Expr} {t t' : TG} (h : PG X e t) (i : ∀ v σ H Q, t' v σ H Q → t v σ H Q) : PG X e t' := ⟨fun pins s σ H v u Q I r q => h.run pins s σ H v u Q I r (i _ _ _ _ q)⟩
theorem _root_.L2.PGs.imp {X : Cx} {e : List Expr} {t t' : TGs} (h : PGs X e t) (i : ∀ v σ H Q, t' v σ H Q → t v σ H Q) : PGs X e t' := ⟨fun pins s σ H v u Q I r q => h.run pins s σ H v u Q I r (i _ _ _ _ q)⟩
abbrev PGd (X : Cx) (e : Expr) (g : DG) : Prop := PG X e (tGt X.K X.mg g)
abbrev PGsd (X : Cx) (e : List Expr) (g : DGs) : Prop := PGs X e (tGts X.K X.mg g)
def gN (i : Nat) : DG := fun v ρ S => some (ρ.set i (some v), S)
def gsNil : DGs := fun l ρ S => match l with
  | [] => some (ρ, S)
  | _ => none
def gsCons (g : DG) (h : DGs) : DGs := fun l ρ S => match l with
  | v :: r => match g v ρ S with
    | some (ρ1, S1) => h r ρ1 S1
    | none => none
  | [] => none
/-- a tuple's or a list's items -/
def itemsP (v : PV) (S : Sto) : Option (List PV) := match v with
  | .tup l => some l
  | .loc k => match S[k]? with
    | some (.lst l) => some l
    | some (.fz l) => some l
    | _ => none
  | _ => none
def gT (n : Nat) (h : DGs) : DG := fun v ρ S => match v with
  | .tup l => if l.length = n then h l ρ S else none
  | _ => none
section
variable {X : Cx} {W : WX} {pos : Pos} {e : Expr} {es : List Expr} {g : DG} {h : DGs}
theorem dg_n (i : Nat) {x : Str} (hN : X.N.Nodup) (hi : X.N[i]? = some x) (hx : Loc X.env.scope x) (hf : X.fn x = true ∨ X.env.scope.names.lookup x = some .local := by first | exact .inl rfl | exact .inr rfl | assumption) : PGd X (.Name x pos) (gN i) :=
  (pg_name hN hi hx hf).imp fun v σ H Q h => by
    obtain ⟨m, ρ, S, d, ρ', S', s, e, r, hk, p⟩ := h
    cases hk
    exact p _ m H (Nat.le_refl _) Ext.refl s (e.set r)
theorem dgs_nil : PGsd X [] gsNil := pgs_nil.imp fun v σ H Q h => by
  obtain ⟨m, ρ, S, d, ρ', S', s, e, r, hk, p⟩ := h
  cases r with
  | nil =>
    cases hk
    exact ⟨rfl, p _ m H (Nat.le_refl _) Ext.refl s e⟩
  | cons a b => cases hk
theorem dgs_cons (h1 : PGd X e g) (h2 : PGsd X es h) (hs : (assignEach (e :: es) X.env).map (·.2) = assign e X.env :: (assignEach es X.env).map (·.2) := by rfl) : PGsd X (e :: es) (gsCons g h) := (pgs_cons h1 h2 hs).imp fun v σ H Q h => by
  obtain ⟨m, ρ, S, d, ρ', S', s, e, r, hk, p⟩ := h
  cases r with
  | nil => cases hk
  | @cons d v ds vs a b =>
    unfold gsCons at hk
    dsimp only at hk
    split at hk
    · rename_i ρ1 S1 q
      refine ⟨v, vs, rfl, m, ρ, S, d, ρ1, S1, s, e, a, q, fun σ' m' H' le x s' e' => ?_⟩
      exact ⟨m', ρ1, S1, ds, ρ', S', s', e', b.mono x le, hk, fun σ2 m2 H2 le2 x2 s2 e2 => p σ2 m2 H2 (Nat.le_trans le le2) (x.trans x2 le) s2 e2⟩
    · cases hk
theorem dg_t {k n : Nat} (hc : X.calm = true) (h1 : PGsd X es h) (hn : (assignEach es X.env).length = n := by rfl) (hst : (assignEach es X.env).findIdx? (·.1) = none := by rfl) : PGd X (.Tuple es k pos) (gT n h) := (pg_tup hc h1 hn hst).imp fun v σ H Q h => by
  obtain ⟨m, ρ, S, d, ρ', S', s, e, r, hk, p⟩ := h
  unfold gT at hk
  cases r <;> dsimp only at hk <;> try cases hk
  rename_i l a xs hs hl
  split at hk
  · rename_i hn
    exact ⟨a, xs, rfl, hs, by rw [← hl.length]; exact hn, m, ρ, S, l, ρ', S', s, e, hl, hk, p⟩
  · cases hk
/-- a target is given a value -/
def dAsg (g : DG) (f : DE) : DS := fun ρ S => bS ρ (f ρ S) fun v S1 => match g v ρ S1 with
  | some (ρ', S') => some (.next ρ' S')
  | none => none
theorem ds_asg {tg : Expr} {fe : DE} (he : PEd X W e fe) (hg : PGd X tg g) (hs : swapsWithSole [tg] e pos.line X.env = pure false := by rfl) (hw : swappedStores [tg] e X.env = pure none := by rfl) (h1 : (assignEach [tg] X.env).map (·.2) = [assign tg X.env] := by rfl) : PSd X W (.Assign [tg] e pos) (dAsg g fe) :=
  (ps_asg he hg hs hw h1).imp fun D σ H h => (bindS (ra := rE X.K) h).mono fun v H1 ⟨m, ρ, S, d, r, s, en, r1, hk, p⟩ => by
    split at hk
    · rename_i ρ' S' q
      cases hk
      exact ⟨m, ρ, S, d, ρ', S', s, en, r1, q, p⟩
    · cases hk
end

/-! ### what a for walks -/
structure Src where
  items : List PV
  keep : List (Nat × PO)
def Kept (l : List (Nat × PO)) (S : Sto) : Prop := ∀ p ∈ l, S[p.1]? = some p.2
structure ItOk (K : PySem.W.Frag) (mg : Str → Option Value) (J : It) (src : Src) (n : Nat) (m : Nat → Addr) (H : Hp) : Prop where
  go : ∀ (i : Nat) (d : PV) (m' : Nat → Addr) (S : Sto) (H' : Hp), n ≤ S.length → Ext K n m H m' H' → StS K mg m' S H' → Kept src.keep S → src.items[i]? = some d →
    J.go i H' ∧ ∀ x H2, J.yld i H' x H2 → ∃ m2, Ext K S.length m' H' m2 H2 ∧ StS K mg m2 S H2 ∧ Rp K H2 m2 S.length d x
  stop : ∀ (m' : Nat → Addr) (S : Sto) (H' : Hp), n ≤ S.length → Ext K n m H m' H' → StS K mg m' S H' → Kept src.keep S → J.stop src.items.length H'
def rItr (K : PySem.W.Frag) (mg : Str → Option Value) : Rel Src It := fun H m n d J => ItOk K mg J d n m H
theorem keeps_I {K : PySem.W.Frag} {mg : Str → Option Value} : Keeps K (rItr K mg) := fun H m n H' m' n' d v e h r =>
  ⟨fun i d' m2 S H2 le x => r.go i d' m2 S H2 (Nat.le_trans h le) (e.trans x h), fun m2 S H2 le x => r.stop m2 S H2 (Nat.le_trans h le) (e.trans x h)⟩
abbrev DI := En → Sto → Option (R Src)
abbrev PId (X : Cx) (W : WX) (tg iter : Expr) (f : DI) : Prop := PI X tg iter (tG X.K X.mg (rItr X.K X.mg) W f)
theorem _root_.L2.PI.imp {X : Cx} {tg e : Expr} {t t' : TI} (h : PI X tg e t) (i : ∀ σ H Q, t' σ H Q → t σ H Q) : PI X tg e t' := ⟨fun pins s σ H Q I q => h.run pins s σ H Q I (i _ _ _ q)⟩

open Classical in
noncomputable def forL (g : DG) (kill : List Nat) (body : DS) (keep : List (Nat × PO)) : List PV → DS
  | [], ρ, S => if Kept keep S then some (.next ρ S) else none
  | x :: xs, ρ, S => if Kept keep S then match g x ρ S with
    | some (ρ1, S1) => match body ρ1 S1 with
      | some (.next ρ2 S2) => forL g kill body keep xs (killE kill ρ2) S2
      | some (.ctn ρ2 S2) => forL g kill body keep xs (killE kill ρ2) S2
      | some (.brk ρ2 S2) => some (.next (killE kill ρ2) S2)
      | r => r
    | none => none else none
noncomputable def dFor (it : DI) (g : DG) (kill : List Nat) (body : DS) : DS := fun ρ S => bS ρ (it ρ S) fun src S1 => forL g kill body src.keep src.items (killE kill ρ) S1
theorem ds_for {X : Cx} {W : WX} {pos : Pos} {tg iter : Expr} {body : List Stmt} {it : DI} {g : DG} {f : DS} (kill : List Nat) (hp : PassesOwn (model X.prog X.w) X.A X.env X.xe) (hc : X.calm = true) (hi : PId X W tg iter it) (hg : PGd X tg g) (hb : PSsd X W body f)
    (hs : ∀ x, foldedSetIterable iter X.env x = pure x := by intro _; rfl) : PSd X W (.For tg iter body [] pos) (dFor it g kill f) := (ps_for hp hc hi hg hb hs).imp fun D σ H h => by
  refine (bindS (ra := rItr X.K X.mg) h).mono fun J H0 ⟨m0, ρ0, S0, src, r0, s0, e0, ok, hk, p0⟩ => ?_
  refine ⟨fun i c σ H => c = src.items.length - i ∧ i ≤ src.items.length ∧ ∃ m ρ S r, StS X.K X.mg m S H ∧ EnR X.K H m S.length ρ σ ∧ S0.length ≤ S.length ∧ Ext X.K S0.length m0 H0 m H ∧ forL g kill f src.keep (src.items.drop i) ρ S = some r ∧ PostS X.K X.mg W m S H r D,
    ⟨src.items.length, rfl, Nat.zero_le _, m0, _, S0, r0, s0, e0.kill kill, Nat.le_refl _, Ext.refl, hk, p0⟩, ?_⟩
  rintro i c σ H ⟨rfl, hi, m, ρ, S, r, s, e, le, x, hf, p⟩
  by_cases hlt : i < src.items.length
  · have ed : src.items.drop i = src.items[i] :: src.items.drop (i + 1) := List.drop_eq_getElem_cons hlt
    rw [ed] at hf
    unfold forL at hf
    split at hf
    · rename_i kp
      obtain ⟨go, yl⟩ := ok.go i src.items[i] m S H le x s kp (List.getElem?_eq_getElem hlt)
      split at hf
      · rename_i ρ1 S1 hg1
        refine .inr ⟨go, fun σ' H' => ∃ m' ρ' S', StS X.K X.mg m' S' H' ∧ EnR X.K H' m' S'.length ρ' σ' ∧ S0.length ≤ S'.length ∧ Ext X.K S0.length m0 H0 m' H' ∧ forL g kill f src.keep (src.items.drop (i + 1)) ρ' S' = some r ∧ PostS X.K X.mg W m' S' H' r D, ?_, fun y H2 hy => ?_⟩
        · rintro σ' H' ⟨m', ρ', S', s', e', le', x', hf', p'⟩
          exact ⟨src.items.length - (i + 1), by omega, rfl, hlt, m', ρ', S', r, s', e', le', x', hf', p'⟩
        · obtain ⟨m2, x2, s2, r2⟩ := yl y H2 hy
          refine ⟨m2, ρ, S, _, ρ1, S1, s2, e.mono x2 (Nat.le_refl _), r2, hg1, fun σ3 m3 H3 le3 x3 s3 e3 => ?_⟩
          have le03 : S0.length ≤ S1.length := Nat.le_trans le le3
          have x03 : Ext X.K S.length m H m3 H3 := x2.trans x3 (Nat.le_refl _)
          cases q : f ρ1 S1 with
          | none => rw [q] at hf; cases hf
          | some z =>
            rw [q] at hf
            refine ⟨m3, ρ1, S1, z, s3, e3, q, ?_⟩
            cases z with
            | next ρ4 S4 =>
              intro σ4 m4 H4 le4 x4 s4 e4
              have x04 := x03.trans x4 le3
              exact ⟨m4, killE kill ρ4, S4, s4, e4.kill kill, Nat.le_trans le03 le4, x.trans x04 le, hf, p.on (Nat.le_trans le3 le4) x04⟩
            | ctn ρ4 S4 =>
              intro σ4 m4 H4 le4 x4 s4 e4
              have x04 := x03.trans x4 le3
              exact ⟨m4, killE kill ρ4, S4, s4, e4.kill kill, Nat.le_trans le03 le4, x.trans x04 le, hf, p.on (Nat.le_trans le3 le4) x04⟩
            | brk ρ4 S4 =>
              cases hf
              exact fun σ4 m4 H4 le4 x4 s4 e4 => p σ4 m4 H4 (Nat.le_trans le3 le4) (x03.trans x4 le3) s4 (e4.kill kill)
            | ret v S4 =>
              cases hf
              exact fun v m4 H4 le4 x4 => p v m4 H4 (Nat.le_trans le3 le4) (x03.trans x4 le3)
            | exc ex ρ4 S4 =>
              cases hf
              exact fun cls dd σ4 m4 H4 le4 x4 => p cls dd σ4 m4 H4 (Nat.le_trans le3 le4) (x03.trans x4 le3)
      · cases hf
    · cases hf
  · have ei : i = src.items.length := by omega
    subst ei
    rw [List.drop_length] at hf
    unfold forL at hf
    split at hf
    · rename_i kp
      cases hf
      exact .inl ⟨ok.stop m S H le x s kp, p σ m H (Nat.le_refl _) Ext.refl s e⟩
    · cases hf

/-! ### while -/
def whN (c : DB) (kill : List Nat) (body : DS) : Nat → DS
  | 0, _, _ => none
  | n + 1, ρ, S => bS ρ (c ρ S) fun b S1 => if b = true then match body ρ S1 with
      | some (.next ρ2 S2) => whN c kill body n (killE kill ρ2) S2
      | some (.ctn ρ2 S2) => whN c kill body n (killE kill ρ2) S2
      | some (.brk ρ2 S2) => some (.next (killE kill ρ2) S2)
      | r => r
    else some (.next ρ S1)
open Classical in
noncomputable def dWhile (c : DB) (kill : List Nat) (body : DS) : DS := fun ρ S =>
  if h : ∃ n, (whN c kill body n (killE kill ρ) S).isSome = true then whN c kill body h.choose (killE kill ρ) S else none
theorem whN_mono {c : DB} {kill : List Nat} {body : DS} : ∀ {n k : Nat} {ρ : En} {S : Sto} {r : RS}, n ≤ k → whN c kill body n ρ S = some r → whN c kill body k ρ S = some r := by
  intro n
  induction n with
  | zero => intro k ρ S r _ h; cases h
  | succ n ih =>
    intro k ρ S r hk h
    obtain ⟨k, rfl⟩ : ∃ k', k = k' + 1 := ⟨k - 1, by omega⟩
    have hk : n ≤ k := by omega
    unfold whN at h ⊢
    cases q : c ρ S with
    | none => rw [q] at h; cases h
    | some z =>
      rw [q] at h
      cases z with
      | exc e T => exact h
      | ok b T =>
        unfold bS at h ⊢
        dsimp only at h ⊢
        cases b with
        | false => exact h
        | true =>
          rw [if_pos rfl] at h ⊢
          cases q2 : body ρ T with
          | none => rw [q2] at h; cases h
          | some z2 =>
            rw [q2] at h
            cases z2 with
            | next ρ2 S2 => exact ih hk h
            | ctn ρ2 S2 => exact ih hk h
            | brk ρ2 S2 => exact h
            | ret v S2 => exact h
            | exc e ρ2 S2 => exact h
theorem dWhile_eq {c : DB} {kill : List Nat} {body : DS} {n : Nat} {ρ : En} {S : Sto} {r : RS} (h : whN c kill body n (killE kill ρ) S = some r) : dWhile c kill body ρ S = some r := by
  unfold dWhile
  have hx : ∃ n, (whN c kill body n (killE kill ρ) S).isSome = true := ⟨n, by rw [h]; rfl⟩
  rw [dif_pos hx]
  have h2 := hx.choose_spec
  cases q : whN c kill body hx.choose (killE kill ρ) S with
  | none => rw [q] at h2; cases h2
  | some z =>
    rcases Nat.le_total n hx.choose with hl | hl
    · rw [whN_mono hl h] at q; exact q.symm
    · rw [whN_mono hl q] at h; exact h
theorem ds_while {X : Cx} {W : WX} {pos : Pos} {c : Expr} {body : List Stmt} {fc : DB} {f : DS} (kill : List Nat) (hp : PassesOwn (model X.prog X.w) X.A X.env X.xe) (hc : PTd X W c fc) (hb : PSsd X W body f) : PSd X W (.While c body [] pos) (dWhile fc kill f) :=
  (ps_while hp hc hb).imp fun D σ H h => by
  obtain ⟨m0, ρ0, S0, r0, s0, e0, hf0, p0⟩ := h
  unfold dWhile at hf0
  split at hf0
  · refine ⟨fun n σ H => ∃ m ρ S r, StS X.K X.mg m S H ∧ EnR X.K H m S.length ρ σ ∧ whN fc kill f n ρ S = some r ∧ PostS X.K X.mg W m S H r D, ⟨_, m0, _, S0, r0, s0, e0.kill kill, hf0, p0⟩, ?_⟩
    rintro n σ H ⟨m, ρ, S, r, s, e, hf, p⟩
    cases n with
    | zero => cases hf
    | succ n =>
      refine (bindS (ra := rB) (f := fc) (k := fun ρ b S1 => if b = true then match f ρ S1 with
        | some (.next ρ2 S2) => whN fc kill f n (killE kill ρ2) S2
        | some (.ctn ρ2 S2) => whN fc kill f n (killE kill ρ2) S2
        | some (.brk ρ2 S2) => some (.next (killE kill ρ2) S2)
        | r => r
        else some (.next ρ S1)) ⟨m, ρ, S, r, s, e, hf, p⟩).mono fun b H1 ⟨m1, ρ1, S1, d, r1, s1, e1, rb, hk, p1⟩ => ?_
      cases rb
      cases b with
      | false =>
        cases hk
        exact p1 σ m1 H1 (Nat.le_refl _) Ext.refl s1 e1
      | true =>
        rw [if_pos rfl] at hk ⊢
        refine ⟨fun σ' H' => ∃ m' ρ' S', StS X.K X.mg m' S' H' ∧ EnR X.K H' m' S'.length ρ' σ' ∧ whN fc kill f n ρ' S' = some r1 ∧ PostS X.K X.mg W m' S' H' r1 D, fun σ' H' ⟨m', ρ', S', s', e', h', p'⟩ => ⟨n, Nat.lt_succ_self n, m', ρ', S', r1, s', e', h', p'⟩, ?_⟩
        cases q : f ρ1 S1 with
        | none => rw [q] at hk; cases hk
        | some z =>
          rw [q] at hk
          refine ⟨m1, ρ1, S1, z, s1, e1, q, ?_⟩
          cases z with
          | next ρ4 S4 => exact fun σ4 m4 H4 le4 x4 s4 e4 => ⟨m4, killE kill ρ4, S4, s4, e4.kill kill, hk, p1.on le4 x4⟩
          | ctn ρ4 S4 => exact fun σ4 m4 H4 le4 x4 s4 e4 => ⟨m4, killE kill ρ4, S4, s4, e4.kill kill, hk, p1.on le4 x4⟩
          | brk ρ4 S4 =>
            cases hk
            exact fun σ4 m4 H4 le4 x4 s4 e4 => p1 σ4 m4 H4 le4 x4 s4 (e4.kill kill)
          | ret v S4 =>
            cases hk
            exact p1
          | exc ex ρ4 S4 =>
            cases hk
            exact p1
  · cases hf0
end D

/-! D3: defs, calls, what is let go behind a call. -/
namespace D
open PySem PySem.Spec PyProof.Rows L2

mutual
def noLoc : PV → Bool
  | .tup l => noLocs l
  | .loc _ => false
  | .non => true
  | .bl _ => true
  | .int _ => true
  | .str _ => true
  | .ty _ => true
  | .xc _ _ _ => true
def noLocs : List PV → Bool
  | [] => true
  | d :: ds => noLoc d && noLocs ds
end
mutual
def bd (n : Nat) : PV → Prop
  | .tup l => bds n l
  | .loc k => k < n
  | .non => True
  | .bl _ => True
  | .int _ => True
  | .str _ => True
  | .ty _ => True
  | .xc _ _ _ => True
def bds (n : Nat) : List PV → Prop
  | [] => True
  | d :: ds => bd n d ∧ bds n ds
end
mutual
theorem bd_noLoc (n : Nat) : ∀ d : PV, noLoc d = true → bd n d
  | .tup l, h => bds_noLoc n l h
  | .loc _, h => nomatch h
  | .non, _ => trivial
  | .bl _, _ => trivial
  | .int _, _ => trivial
  | .str _, _ => trivial
  | .ty _, _ => trivial
  | .xc _ _ _, _ => trivial
theorem bds_noLoc (n : Nat) : ∀ d : List PV, noLocs d = true → bds n d
  | [], _ => trivial
  | d :: ds, h => by
    have h2 : (noLoc d && noLocs ds) = true := h
    rw [Bool.and_eq_true] at h2
    exact ⟨bd_noLoc n d h2.1, bds_noLoc n ds h2.2⟩
end
section
variable {K : PySem.W.Frag} {mg : Str → Option Value} {H H' : Hp} {m m' : Nat → Addr} {n n' : Nat}
mutual
theorem Rp.bd : ∀ {d : PV} {v : V}, Rp K H m n d v → bd n d
  | _, _, .non => trivial
  | _, _, .bl _ => trivial
  | _, _, .int _ => trivial
  | _, _, .str _ => trivial
  | _, _, .ty _ => trivial
  | _, _, .xc _ => trivial
  | _, _, .tup _ r => RpL.bd r
  | _, _, .loc h => h
theorem RpL.bd : ∀ {d : List PV} {v : List V}, RpL K H m n d v → bds n d
  | _, _, .nil => trivial
  | _, _, .cons a r => ⟨Rp.bd a, RpL.bd r⟩
end
mutual
theorem Rp.cut : ∀ {d : PV} {v : V}, Rp K H m n' d v → D.bd n d → Rp K H m n d v
  | _, _, .non, _ => .non
  | _, _, .bl b, _ => .bl b
  | _, _, .int i, _ => .int i
  | _, _, .str s, _ => .str s
  | _, _, .ty s, _ => .ty s
  | _, _, .xc h, _ => .xc h
  | _, _, .tup s r, h => .tup s (RpL.cut r h)
  | _, _, .loc _, h => .loc h
theorem RpL.cut : ∀ {d : List PV} {v : List V}, RpL K H m n' d v → bds n d → RpL K H m n d v
  | _, _, .nil, _ => .nil
  | _, _, .cons a r, h => .cons (Rp.cut a h.1) (RpL.cut r h.2)
end
def bdO (n : Nat) : PO → Prop
  | .lst l => bds n l
  | .fz l => bds n l
  | .dct _ kvs => ∀ p ∈ kvs, D.bd n p.2
  | .fd kvs => ∀ p ∈ kvs, D.bd n p.2
  | .ins _ fs => ∀ p ∈ fs, D.bd n p.2
theorem paired_mem {α β : Type} {F : α → β → Prop} : ∀ {l₁ : List α} {l₂ : List β} {a : α}, Paired F l₁ l₂ → a ∈ l₁ → ∃ b, F a b
  | _, _, a, .cons r t, h => by
    rcases List.mem_cons.mp h with rfl | h
    · exact ⟨_, r⟩
    · exact paired_mem t h
theorem paired_impM {α β : Type} {F G : α → β → Prop} : ∀ {l₁ : List α} {l₂ : List β}, (∀ a ∈ l₁, ∀ b, F a b → G a b) → Paired F l₁ l₂ → Paired G l₁ l₂
  | _, _, _, .nil => .nil
  | _, _, f, .cons r t => .cons (f _ List.mem_cons_self _ r) (paired_impM (fun a h b => f a (List.mem_cons_of_mem _ h) b) t)
theorem Ro.bd {po : PO} {a : Addr} (h : Ro K mg H m n po a) : bdO n po := by
  cases po with
  | lst l => obtain ⟨xs, _, r⟩ := h; exact r.bd
  | fz l => obtain ⟨xs, _, r⟩ := h; exact r.bd
  | dct t l =>
    rcases h with ⟨_, xs, _, r⟩ | ⟨_, xs, _, r⟩
    · exact fun p hp => let ⟨b, q⟩ := paired_mem r hp; q.2.bd
    · exact fun p hp => let ⟨b, q⟩ := paired_mem r hp; q.2.bd
  | fd l => obtain ⟨o, kv, _, r⟩ := h; exact fun p hp => let ⟨b, q⟩ := paired_mem r hp; q.2.bd
  | ins c fs => obtain ⟨C, dx, fv, _, _, r⟩ := h; exact fun p hp => let ⟨b, q⟩ := paired_mem r hp; q.2.bd
theorem Ro.cut {po : PO} {a : Addr} (h : Ro K mg H m n' po a) (b : bdO n po) : Ro K mg H m n po a := by
  cases po with
  | lst l => obtain ⟨xs, h1, r⟩ := h; exact ⟨xs, h1, r.cut b⟩
  | fz l => obtain ⟨xs, h1, r⟩ := h; exact ⟨xs, h1, r.cut b⟩
  | dct t l =>
    rcases h with ⟨ht, xs, h1, r⟩ | ⟨ht, xs, h1, r⟩
    · exact .inl ⟨ht, xs, h1, paired_impM (fun p hp q z => ⟨z.1, z.2.cut (b p hp)⟩) r⟩
    · exact .inr ⟨ht, xs, h1, paired_impM (fun p hp q z => ⟨z.1, z.2.cut (b p hp)⟩) r⟩
  | fd l => obtain ⟨o, kv, h1, r⟩ := h; exact ⟨o, kv, h1, paired_impM (fun p hp q z => ⟨z.1, z.2.cut (b p hp)⟩) r⟩
  | ins c fs => obtain ⟨C, dx, fv, h1, h2, r⟩ := h; exact ⟨C, dx, fv, h1, h2, paired_impM (fun p hp q z => ⟨z.1, z.2.cut (b p hp)⟩) r⟩
theorem Ro.to {po : PO} {a : Addr} (e : Ext K n m H m' H') (h : Ro K mg H' m n po a) : Ro K mg H' m' n po a :=
  h.mono ⟨⟨e.mp, fun _ _ q => q, fun _ _ q => q⟩, fun _ _ _ q => q⟩ (Nat.le_refl _)
end

/-! ### what a call leaves -/
/-- of S: what is other than in S speaks of what was in S alone -/
def Cl (S S' : Sto) : Prop := ∀ k o, k < S.length → S'[k]? = some o → S[k]? = some o ∨ bdO S.length o
open Classical in
noncomputable def gc2 (S S' : Sto) : Sto := if Cl S S' then S'.take S.length else S'
open Classical in
noncomputable def gcE (S : Sto) : RE → RE
  | .ok v S' => if S'.take S.length = S then (if noLoc v = true then .ok v S else match v with
    | .loc k => match S'[k]? with
      | some (.lst l) => if S.length ≤ k ∧ noLocs l = true then .ok (.loc S.length) (S ++ [.lst l]) else .ok v S'
      | _ => .ok v S'
    | _ => .ok v S') else if noLoc v = true then .ok v (gc2 S S') else .ok v S'
  | .exc e S' => if S'.take S.length = S ∧ e.fs.all (fun p => noLoc p.2) = true then .exc e S else .exc e S'

section
variable {K : PySem.W.Frag} {mg : Str → Option Value} {H H' : Hp} {m m' : Nat → Addr} {S S' : Sto} {W : WX} {σ : L2.St} {Q : VK}
theorem take_get {k : Nat} {o : PO} (ht : S'.take S.length = S) (h : S[k]? = some o) : S'[k]? = some o := by
  have q : (S'.take S.length)[k]? = some o := by rw [ht]; exact h
  rw [List.getElem?_take] at q
  split at q
  · exact q
  · cases q
/-- the store of the beginning, at the end -/
theorem StS.back (s : StS K mg m S H) (s' : StS K mg m' S' H') (x : Ext K S.length m H m' H') (ht : S'.take S.length = S) : StS K mg m' S H' := by
  refine ⟨fun k o e => (s'.obj k o (take_get ht e)).cut (s.obj k o e).bd, fun j k oj ok ej ek => s'.inj j k oj ok (take_get ht ej) (take_get ht ek)⟩
theorem StS.cutT (s : StS K mg m S H) (s' : StS K mg m' S' H') (le : S.length ≤ S'.length) (hb : Cl S S') : StS K mg m' (S'.take S.length) H' := by
  have hl : (S'.take S.length).length = S.length := by rw [List.length_take]; exact Nat.min_eq_left le
  have old : ∀ (k : Nat) (o : PO), (S'.take S.length)[k]? = some o → k < S.length ∧ S'[k]? = some o := fun k o e => by
    rw [List.getElem?_take] at e
    split at e
    · rename_i h; exact ⟨h, e⟩
    · cases e
  refine ⟨fun k o e => ?_, fun j k oj ok ej ek => s'.inj j k oj ok (old _ _ ej).2 (old _ _ ek).2⟩
  rw [hl]
  obtain ⟨h1, h2⟩ := old k o e
  rcases hb k o h1 h2 with h | h
  · exact (s'.obj k o h2).cut (s.obj k o h).bd
  · exact (s'.obj k o h2).cut h
theorem gc_ok {r : RE} (s : StS K mg m S H) (p : PostG K mg (rE K) W σ m S H (gcE S r) Q) : PostG K mg (rE K) W σ m S H r Q := by
  cases r with
  | ok v S' =>
    intro x m' H' le ex s' rx
    have hpl : ∀ {r : RE}, gcE S (.ok v S') = r → PostG K mg (rE K) W σ m S H r Q := fun e => e ▸ p
    by_cases ht : S'.take S.length = S
    · have sb := s.back s' ex ht
      by_cases hn : noLoc v = true
      · exact (hpl (by unfold gcE; (try dsimp only); rw [if_pos ht, if_pos hn]) : PostG K mg (rE K) W σ m S H (.ok v S) Q) x m' H' (Nat.le_refl _) ex sb (Rp.cut rx (bd_noLoc _ _ hn))
      · cases rx with
        | @loc k hk =>
          cases q : S'[k]? with
          | none => exact (hpl (by unfold gcE; (try dsimp only); rw [if_pos ht, if_neg hn]; (try dsimp only); rw [q]) : PostG K mg (rE K) W σ m S H (.ok (.loc k) S') Q) _ m' H' le ex s' (.loc hk)
          | some o =>
            cases o with
            | lst l =>
              by_cases hc : S.length ≤ k ∧ noLocs l = true
              · have hp : PostG K mg (rE K) W σ m S H (.ok (.loc S.length) (S ++ [.lst l])) Q := hpl (by unfold gcE; (try dsimp only); rw [if_pos ht, if_neg hn]; (try dsimp only); rw [q]; (try dsimp only); rw [if_pos hc])
                obtain ⟨xs, h1, h2⟩ := s'.obj k _ q
                have em : Ext K S.length m' H' (mext m' S.length (m' k)) H' := ext_mext
                have st : StS K mg (mext m' S.length (m' k)) (S ++ [PO.lst l]) H' := by
                  refine ⟨fun j o e => ?_, fun i j oi oj ei ej mi mj e => ?_⟩
                  · rw [List.length_append, List.length_singleton]
                    rcases get_snoc e with ⟨hj, eo⟩ | ⟨hj, eo⟩
                    · rw [mext_lt hj]
                      exact (sb.obj j o eo).mono em (Nat.le_succ _)
                    · subst hj; subst eo
                      rw [mext_same]
                      exact ⟨xs, h1, (RpL.cut h2 (bds_noLoc S.length _ hc.2)).mono em (Nat.le_succ _)⟩
                  · rcases get_snoc ei with ⟨hi, fi⟩ | ⟨hi, fi⟩ <;> rcases get_snoc ej with ⟨hj, fj⟩ | ⟨hj, fj⟩
                    · rw [mext_lt hi, mext_lt hj] at e
                      exact sb.inj i j oi oj fi fj mi mj e
                    · subst hj; subst fj
                      rw [mext_lt hi, mext_same] at e
                      have := s'.inj i k oi _ (take_get ht fi) q mi mj e
                      omega
                    · subst hi; subst fi
                      rw [mext_same, mext_lt hj] at e
                      have := s'.inj k j _ oj q (take_get ht fj) mi mj e
                      omega
                    · omega
                have rr : Rp K H' (mext m' S.length (m' k)) (S ++ [PO.lst l]).length (.loc S.length) (.ref (mext m' S.length (m' k) S.length)) := .loc (by simp)
                rw [mext_same] at rr
                exact hp _ _ H' (by simp) (ex.trans em (Nat.le_refl _)) st rr
              · exact (hpl (by unfold gcE; (try dsimp only); rw [if_pos ht, if_neg hn]; (try dsimp only); rw [q]; (try dsimp only); rw [if_neg hc]) : PostG K mg (rE K) W σ m S H (.ok (.loc k) S') Q) _ m' H' le ex s' (.loc hk)
            | fz l => exact (hpl (by unfold gcE; (try dsimp only); rw [if_pos ht, if_neg hn]; (try dsimp only); rw [q]) : PostG K mg (rE K) W σ m S H (.ok (.loc k) S') Q) _ m' H' le ex s' (.loc hk)
            | dct t l => exact (hpl (by unfold gcE; (try dsimp only); rw [if_pos ht, if_neg hn]; (try dsimp only); rw [q]) : PostG K mg (rE K) W σ m S H (.ok (.loc k) S') Q) _ m' H' le ex s' (.loc hk)
            | ins c l => exact (hpl (by unfold gcE; (try dsimp only); rw [if_pos ht, if_neg hn]; (try dsimp only); rw [q]) : PostG K mg (rE K) W σ m S H (.ok (.loc k) S') Q) _ m' H' le ex s' (.loc hk)
            | fd l => exact (hpl (by unfold gcE; (try dsimp only); rw [if_pos ht, if_neg hn]; (try dsimp only); rw [q]) : PostG K mg (rE K) W σ m S H (.ok (.loc k) S') Q) _ m' H' le ex s' (.loc hk)
        | tup h1 h2 => exact (hpl (by unfold gcE; (try dsimp only); rw [if_pos ht, if_neg hn]) : PostG K mg (rE K) W σ m S H (.ok _ S') Q) _ m' H' le ex s' (.tup h1 h2)
        | non => exact absurd rfl hn
        | bl _ => exact absurd rfl hn
        | int _ => exact absurd rfl hn
        | str _ => exact absurd rfl hn
        | ty _ => exact absurd rfl hn
        | xc _ => exact absurd rfl hn
    · by_cases hn : noLoc v = true
      · have hp : PostG K mg (rE K) W σ m S H (.ok v (gc2 S S')) Q := hpl (by unfold gcE; (try dsimp only); rw [if_neg ht, if_pos hn])
        unfold gc2 at hp
        split at hp
        · rename_i hb
          have hl : (S'.take S.length).length = S.length := by rw [List.length_take]; exact Nat.min_eq_left le
          have st := s.cutT s' le hb
          refine hp x m' H' (by rw [hl]; exact Nat.le_refl _) ex st ?_
          rw [hl]
          exact Rp.cut rx (bd_noLoc _ _ hn)
        · exact hp x m' H' le ex s' rx
      · exact (hpl (by unfold gcE; (try dsimp only); rw [if_neg ht, if_neg hn]) : PostG K mg (rE K) W σ m S H (.ok v S') Q) x m' H' le ex s' rx
  | exc e S' =>
    intro cls dd m' H' le ex s' rx
    by_cases hc : S'.take S.length = S ∧ e.fs.all (fun p => noLoc p.2) = true
    · have hp : PostG K mg (rE K) W σ m S H (.exc e S) Q := by
        have : gcE S (.exc e S') = .exc e S := by unfold gcE; dsimp only; rw [if_pos hc]
        exact this ▸ p
      refine hp cls dd m' H' (Nat.le_refl _) ex (s.back s' ex hc.1) ?_
      obtain ⟨C, h1, h2, h3⟩ := rx
      refine ⟨C, h1, h2, ?_⟩
      rcases h3 with h3 | ⟨hne, d, fv, h3, h4, h5⟩
      · exact .inl h3
      · exact .inr ⟨hne, d, fv, h3, h4, paired_impM (fun p hp q z => ⟨z.1, z.2.cut (bd_noLoc _ _ (List.all_eq_true.mp hc.2 p hp))⟩) h5⟩
    · have hp : PostG K mg (rE K) W σ m S H (.exc e S') Q := by
        have : gcE S (.exc e S') = .exc e S' := by unfold gcE; (try dsimp only); rw [if_neg hc]
        exact this ▸ p
      exact hp cls dd m' H' le ex s' rx
end
/-- .. of an expression, at any place -/
noncomputable def dGc (f : DE) : DE := fun ρ S => (f ρ S).map (gcE S)
theorem de_gc {X : Cx} {W : WX} {e : Expr} {f : DE} (h : PEd X W e f) : PEd X W e (dGc f) := h.imp fun σ H Q h => by
  obtain ⟨m, ρ, S, r, s, e, hf, p⟩ := h
  have hf : (f ρ S).map (gcE S) = some r := hf
  cases q : f ρ S with
  | none => rw [q] at hf; cases hf
  | some z =>
    rw [q] at hf
    cases hf
    exact ⟨m, ρ, S, z, s, e, q, gc_ok s p⟩

/-! ### a def -/
noncomputable def dDef (k n : Nat) (body : DS) : DF := fun args S => if args.length = k then (match body (args.map some ++ List.replicate (n - k) none) S with
    | some (.ret v S') => some (gcE S (.ok v S'))
    | some (.next _ S') => some (gcE S (.ok .non S'))
    | some (.exc e _ S') => some (gcE S (.exc e S'))
    | _ => none) else none
/-- a def's promise -/
def spD (K : PySem.W.Frag) (mg : Str → Option Value) (k : Nat) (F : DF) : Sp := fun vs H Q E => vs.length = k ∧ ∃ m S args r, StS K mg m S H ∧ RpL K H m S.length args vs ∧ F args S = some r ∧ PostG K mg (rE K) (fun c d _ H => E c d H) [] m S H r Q
theorem envStart {K : PySem.W.Frag} {H : Hp} {m : Nat → Addr} {n : Nat} {N : List Str} {args : List PV} {vs : List V} (r : RpL K H m n args vs) (k : Nat) (hk : vs.length = k) : EnR K H m n (args.map some ++ List.replicate (N.length - k) none) (L2.start N vs) := by
  subst hk
  refine ⟨by simp [L2.start, r.length], fun i v e => ?_⟩
  have hl := r.length
  by_cases hi : i < args.length
  · rw [List.getElem?_append_left (by simpa using hi), List.getElem?_map] at e
    cases q : args[i]? with
    | none => rw [q] at e; cases e
    | some d =>
      rw [q] at e
      cases e
      obtain ⟨x, hx, rx⟩ := r.get q
      refine ⟨x, ?_, rx⟩
      unfold L2.start
      rw [List.getElem?_append_left (by rw [List.length_map]; omega), List.getElem?_map, hx]
      rfl
  · rw [List.getElem?_append_right (by simpa using hi), List.getElem?_replicate] at e
    split at e <;> cases e
section
variable {P : Program} {w : World} {K : PySem.W.Frag} {mg : Str → Option Value} {base : Heap}
theorem fn_d {x qual : Str} {st : Stmt} {f : Addr} {fd : FuncData} {N ps : List Str} {k : Nat} {body : DS} (F : Fun K x qual st f fd) (S : FnScope N ps (defScope st))
    (hb : ∀ (cdv : Value) (A : Around) (outer : List Env) (s : Shared) (H : Hp) (E : XK), Room k (A.deeper (envOfC qual (defScope st) s.heap.objs.size f cdv)) →
      PSsd (cxOf (L2.CX P w) P w K mg base N qual (defScope st) f cdv A outer s H E) (fun c d _ H => E c d H) (defBody st) body) :
    FnOk P w K mg base (L2.CX P w) (k + 1) f fd ps (spD K mg ps.length (dDef ps.length N.length body)) := by
  refine F.okX S (fun vs H Q E h => h.1) (fun cdv A outer s H vs Q E hr h => ⟨_, hb cdv A outer s H E hr, ?_⟩)
  obtain ⟨hl, m, S0, args, r, st, ra, hF, p⟩ := h
  unfold dDef at hF
  split at hF
  · rename_i ha
    have en := envStart (N := N) ra ps.length hl
    cases q : body (args.map some ++ List.replicate (N.length - ps.length) none) S0 with
    | none => rw [q] at hF; cases hF
    | some z =>
      rw [q] at hF
      refine ⟨m, _, S0, z, st, en, q, ?_⟩
      cases z with
      | next ρ S1 =>
        cases hF
        have p' := gc_ok st p
        exact fun σ' m' H' le x s' e' => p' .non m' H' le x s' .non
      | ret v S1 =>
        cases hF
        have p' := gc_ok st p
        exact fun v m' H' le x s' r' => p' v m' H' le x s' r'
      | brk ρ S1 => cases hF
      | ctn ρ S1 => cases hF
      | exc e ρ S1 =>
        cases hF
        have p' := gc_ok st p
        exact fun cls dd σ' m' H' le x s' e' r' => p' cls dd m' H' le x s' r'
  · cases hF
end
/-! ### a call of a def -/
theorem post_sw {K : PySem.W.Frag} {mg : Str → Option Value} {W : WX} {σ : L2.St} {m : Nat → Addr} {S : Sto} {H : Hp} {r : RE} {Q : VK} (p : PostG K mg (rE K) W σ m S H r Q) : PostG K mg (rE K) (fun c d _ H => WE W σ c d H) [] m S H r Q := by
  cases r with
  | ok v S' => exact p
  | exc e S' => exact fun cls dd m' H' le x s' r' => p cls dd m' H' le x s' r'
section
variable {X : Cx} {W : WX} {k n : Nat} {f : Addr} {fd : FuncData} {ps : List Str} {F : DF} {x : Str} {p pos : Pos} {e : Expr} {es : List Expr} {fa : DA}
theorem de_call (G : FnOk X.prog X.w X.K X.mg X.base (L2.CX X.prog X.w) k f fd ps (spD X.K X.mg n F)) (hr : Room k X.A) (hg : Gl X x) (hm : X.mg x = some (.ref f)) (hk : PySem.W.keepIn X.K (.ref f) = true) (hb : Binds X.K fd ps []) (tk : Takes X W)
    (ha : PAd X W (e :: es) fa) (hl : (e :: es).length = n := by rfl) (hF : ∀ args S r, F args S = some r → args.length = n) (hdb : (x == ("__debug__" : Str)) = false := by decide) (he : starEach (e :: es) X.env = (false, eval e X.env) :: starEach es X.env := by rfl) (hpl : (backTo pos (starEach es X.env)).any (·.1) = false := by rfl) :
    PEd X W (.Call (.Name x p) (e :: es) [] pos) (dOpA F fa) := (pe_callS G hr hg hm hk hb (fun σ => passAt tk σ) ha hdb he hpl).imp fun σ H Q h =>
  (bind1 (ra := rA X.K) h).mono fun v H1 ⟨m, ρ, S, d, z, s, e, r1, hk, p⟩ => ⟨by rw [← r1.length]; exact hF _ _ _ hk, m, S, d, z, s, r1, hk, post_sw p⟩
end
theorem dDef_len {k n : Nat} {body : DS} (args : List PV) (S : Sto) (r : RE) (h : dDef k n body args S = some r) : args.length = k := by
  unfold dDef at h
  split at h
  · assumption
  · cases h
end D

/-! D4: what operators and built-ins do to values. -/
namespace D
open PySem PySem.Spec PyProof.Rows L2

/-! ### arithmetic -/
def gAdd : G2 := fun x y S => match x, y with
  | .int i, .int j => some (.ok (.int (i + j)) S)
  | .str i, .str j => if i.length + j.length ≤ 16777216 then some (.ok (.str (i ++ j)) S) else none
  | .tup l, .tup r => if l.length + r.length ≤ 16777216 then some (.ok (.tup (l ++ r)) S) else none
  | .loc j, .loc k => match S[j]?, S[k]? with
    | some (.lst l), some (.lst r) => if l.length + r.length ≤ 16777216 then some (.ok (.loc S.length) (S ++ [.lst (l ++ r)])) else none
    | _, _ => none
  | _, _ => none
def rAdd4 (K : PySem.W.Frag) : R2 := fun x y H Q => (rI0 fun i j => .int (i + j)) x y H Q ∨ ((∃ i j, x = .str i ∧ y = .str j ∧ i.length + j.length ≤ sizeLine ∧ Q (.str (i ++ j)) H) ∨ (rCatA K x y H Q ∨ rCat x y H Q))
theorem op_add4 {X : Cx} : OpR X (binaryOp .Add) (rAdd4 X.K) := op_add.or (op_add_str.or (op_catA.or op_cat))
theorem nil_iff {K : PySem.W.Frag} {H : Hp} {m : Nat → Addr} {n : Nat} {l : List PV} {xs : List V} (r : RpL K H m n l xs) : l = [] ↔ xs = [] := by cases r <;> simp
theorem ok_add {K : PySem.W.Frag} {mg : Str → Option Value} : OkG2 K mg (rAdd4 K) gAdd := fun W σ m S H x y d d' z Q s r1 r2 e p => by
  unfold gAdd at e
  split at e
  · cases e; cases r1; cases r2
    exact .inl ⟨_, _, rfl, rfl, post_here s (.int _) p⟩
  · cases r1; cases r2
    split at e
    · rename_i h
      cases e
      exact .inr (.inl ⟨_, _, rfl, rfl, Nat.le_trans h (by decide), post_here s (.str _) p⟩)
    · cases e
  · rename_i l r
    cases r1 with
    | @tup _ a xs h1 q1 => cases r2 with
      | @tup _ b ys h2 q2 =>
        split at e
        · rename_i h
          cases e
          refine .inr (.inr (.inl ⟨a, b, xs, ys, rfl, rfl, h1, h2, by rw [← q1.length, ← q2.length]; exact Nat.le_trans h (by decide), fun e1 => ?_, fun n1 e2 => ?_, fun _ _ => ?_⟩))
          · have := (nil_iff q1).mpr e1
            subst this
            exact post_here s (.tup h2 q2) p
          · have := (nil_iff q2).mpr e2
            subst this
            rw [List.append_nil] at p
            exact post_here s (.tup h1 q1) p
          · exact new_tup s (q1.append q2) p
        · cases e
  · cases r1 with
    | loc k1 => cases r2 with
      | loc k2 =>
        split at e
        · rename_i l r e1 e2
          split at e
          · rename_i h
            cases e
            obtain ⟨xs, h1, q1⟩ := s.obj _ _ e1
            obtain ⟨ys, h2, q2⟩ := s.obj _ _ e2
            exact .inr (.inr (.inr ⟨_, _, xs, ys, rfl, rfl, h1, h2, by rw [← q1.length, ← q2.length]; exact Nat.le_trans h (by decide), new_list s (q1.append q2) p⟩))
          · cases e
        · cases e
  · cases e
/-- two ints -/
def gI2 (C : Int → Int → Prop) [∀ i j, Decidable (C i j)] (g : Int → Int → PV) : G2 := fun x y S => match x, y with
  | .int i, .int j => if C i j then some (.ok (g i j) S) else none
  | _, _ => none
theorem ok_I2 {K : PySem.W.Frag} {mg : Str → Option Value} {C : Int → Int → Prop} [∀ i j, Decidable (C i j)] {g : Int → Int → PV} {r : R2} {gv : Int → Int → V} (hr : ∀ i j H Q, C i j → Q (gv i j) H → r (.int i) (.int j) H Q)
    (hg : ∀ i j K H m n, Rp K H m n (g i j) (gv i j)) : OkG2 K mg r (gI2 C g) := fun W σ m S H x y d d' z Q s r1 r2 e p => by
  unfold gI2 at e
  split at e
  · cases r1; cases r2
    split at e
    · rename_i h
      cases e
      exact hr _ _ _ _ h (post_here s (hg _ _ _ _ _ _) p)
    · cases e
  · cases e
def gSub : G2 := gI2 (fun _ _ => True) fun i j => .int (i - j)
theorem ok_sub {K : PySem.W.Frag} {mg : Str → Option Value} : OkG2 K mg (rI0 fun i j => .int (i - j)) gSub := ok_I2 (gv := fun i j => .int (i - j)) (fun i j H Q _ q => ⟨i, j, rfl, rfl, q⟩) fun _ _ _ _ _ _ => .int _
def CMulD (i j : Int) : Prop := (-(2 ^ 64) < i ∧ i < 2 ^ 64) ∨ (-(2 ^ 64) < j ∧ j < 2 ^ 64)
instance (i j : Int) : Decidable (CMulD i j) := by unfold CMulD; infer_instance
def gMulI : G2 := gI2 CMulD fun i j => .int (i * j)
def gMulL : G2 := fun x y S => match x, y with
  | .loc k, .int i => match S[k]? with
    | some (.lst l) => if -(2 ^ 63) ≤ i ∧ i < 2 ^ 63 ∧ l.length * i.toNat ≤ 16777216 then some (.ok (.loc S.length) (S ++ [.lst (List.replicate i.toNat l).flatten])) else none
    | _ => none
  | _, _ => none
def gMul : G2 := gOr2 gMulI gMulL
theorem ok_mulL {K : PySem.W.Frag} {mg : Str → Option Value} : OkG2 K mg rRep gMulL := fun W σ m S H x y d d' z Q s r1 r2 e p => by
  unfold gMulL at e
  split at e
  · cases r1 with
    | loc k1 => cases r2 with
      | int i =>
        split at e
        · rename_i l e1
          split at e
          · rename_i h
            cases e
            obtain ⟨xs, h1, q1⟩ := s.obj _ _ e1
            exact ⟨_, _, xs, rfl, rfl, h1, h.1, h.2.1, by rw [← q1.length]; exact Nat.le_trans h.2.2 (by decide), new_list s (q1.flat_rep _) p⟩
          · cases e
        · cases e
  · cases e
theorem ok_mul {K : PySem.W.Frag} {mg : Str → Option Value} : OkG2 K mg (fun x y H Q => rI CMul (fun i j => .int (i * j)) x y H Q ∨ rRep x y H Q) gMul :=
  OkG2.or (ok_I2 (gv := fun i j => .int (i * j)) (fun i j H Q c q => ⟨i, j, rfl, rfl, c, q⟩) fun _ _ _ _ _ _ => .int _) ok_mulL
theorem op_mul4 {X : Cx} : OpR X (binaryOp .Mult) (fun x y H Q => rI CMul (fun i j => .int (i * j)) x y H Q ∨ rRep x y H Q) := op_mul.or op_rep
def CDivD (i j : Int) : Prop := 0 < j ∧ j < 1073741824
instance (i j : Int) : Decidable (CDivD i j) := by unfold CDivD; infer_instance
def gDiv : G2 := gI2 CDivD fun i j => .int (i / j)
theorem ok_div {K : PySem.W.Frag} {mg : Str → Option Value} : OkG2 K mg (rI CDiv fun i j => .int (i / j)) gDiv := ok_I2 (gv := fun i j => .int (i / j)) (fun i j H Q c q => ⟨i, j, rfl, rfl, c, q⟩) fun _ _ _ _ _ _ => .int _
def gMod : G2 := gI2 (fun _ j => 0 < j) fun i j => .int (i % j)
theorem ok_mod {K : PySem.W.Frag} {mg : Str → Option Value} : OkG2 K mg (rI (fun _ j => 0 < j) fun i j => .int (i % j)) gMod := ok_I2 (gv := fun i j => .int (i % j)) (fun i j H Q c q => ⟨i, j, rfl, rfl, c, q⟩) fun _ _ _ _ _ _ => .int _
def CPowD (i j : Int) : Prop := 0 ≤ j ∧ j ≤ 1000000 ∧ i.natAbs < 2 ^ 64
instance (i j : Int) : Decidable (CPowD i j) := by unfold CPowD; infer_instance
def gPow : G2 := gI2 CPowD fun i j => .int (i ^ j.toNat)
theorem ok_pow {K : PySem.W.Frag} {mg : Str → Option Value} : OkG2 K mg (rI CPow fun i j => .int (i ^ j.toNat)) gPow := ok_I2 (gv := fun i j => .int (i ^ j.toNat)) (fun i j H Q c q => ⟨i, j, rfl, rfl, c, q⟩) fun _ _ _ _ _ _ => .int _
def gNeg : G1 := fun x S => match x with
  | .int i => some (.ok (.int (-i)) S)
  | _ => none
theorem ok_neg {K : PySem.W.Frag} {mg : Str → Option Value} : OkG1 K mg (rU fun i => .int (-i)) gNeg := fun W σ m S H x d z Q s r e p => by
  unfold gNeg at e
  split at e
  · cases e; cases r
    exact ⟨_, rfl, post_here s (.int _) p⟩
  · cases e

/-! ### order -/
def gRel (f : Int → Int → Bool) : G2 := gI2 (fun _ _ => True) fun i j => .bl (f i j)
theorem ok_rel {K : PySem.W.Frag} {mg : Str → Option Value} {f : Int → Int → Bool} : OkG2 K mg (rI0 fun i j => .bl (f i j)) (gRel f) := ok_I2 (gv := fun i j => .bl (f i j)) (fun i j H Q _ q => ⟨i, j, rfl, rfl, q⟩) fun _ _ _ _ _ _ => .bl _
abbrev gLt : G2 := gRel fun i j => decide (i < j)
abbrev gLe : G2 := gRel fun i j => decide (i ≤ j)
abbrev gGt : G2 := gRel fun i j => decide (j < i)
abbrev gGe : G2 := gRel fun i j => decide (j ≤ i)

/-! ### data: ==, in -/
def mapO {α β : Type} (f : α → Option β) : List α → Option (List β)
  | [] => some []
  | x :: xs => match f x, mapO f xs with
    | some y, some ys => some (y :: ys)
    | _, _ => none
def toD : Nat → Sto → PV → Option PyData
  | _, _, .non => some .none
  | _, _, .bl b => some (.bool b)
  | _, _, .int i => some (.int i)
  | _, _, .str s => some (.str s)
  | n + 1, S, .tup l => (mapO (toD n S) l).map .tuple
  | n + 1, S, .loc k => match S[k]? with
    | some (.lst l) => (mapO (toD n S) l).map .list
    | some (.fz l) => (mapO (toD n S) l).map .list
    | _ => none
  | _, _, _ => none
theorem mapO_dp {K : PySem.W.Frag} {H : Hp} {m : Nat → Addr} {N c : Nat} {f : PV → Option PyData} (hf : ∀ d q x, f d = some q → Rp K H m N d x → L2.Dp K H x q ∧ q.plain = true ∧ q.depth ≤ c) :
    ∀ {l : List PV} {qs : List PyData} {xs : List V}, mapO f l = some qs → RpL K H m N l xs → L2.DpAll K H xs qs ∧ PyData.plainAll qs = true ∧ PyData.depthAll qs ≤ c
  | [], _, _, h, .nil => by
    cases h
    exact ⟨.nil, by simp [PyData.plainAll], by simp [PyData.depthAll]⟩
  | d :: ds, qs, _, h, .cons r rs => by
    unfold mapO at h
    split at h
    · rename_i y ys e1 e2
      cases h
      obtain ⟨a1, a2, a3⟩ := hf _ _ _ e1 r
      obtain ⟨b1, b2, b3⟩ := mapO_dp hf e2 rs
      exact ⟨.cons a1 b1, by rw [PyData.plainAll, a2, b2]; rfl, by rw [PyData.depthAll]; omega⟩
    · cases h
theorem toD_dp {K : PySem.W.Frag} {mg : Str → Option Value} {H : Hp} {m : Nat → Addr} {S : Sto} (s : StS K mg m S H) : ∀ (n : Nat) (d : PV) (q : PyData) (x : V), toD n S d = some q → Rp K H m S.length d x → L2.Dp K H x q ∧ q.plain = true ∧ q.depth ≤ n
  | n, .non, q, x, h, r => by
    cases r; unfold toD at h; cases h
    exact ⟨.non, by simp [PyData.plain], by simp [PyData.depth]⟩
  | n, .bl b, q, x, h, r => by
    cases r; unfold toD at h; cases h
    exact ⟨.bl _, by simp [PyData.plain], by simp [PyData.depth]⟩
  | n, .int b, q, x, h, r => by
    cases r; unfold toD at h; cases h
    exact ⟨.int _, by simp [PyData.plain], by simp [PyData.depth]⟩
  | n, .str b, q, x, h, r => by
    cases r; unfold toD at h; cases h
    exact ⟨.str _, by simp [PyData.plain], by simp [PyData.depth]⟩
  | 0, .tup l, q, x, h, r => by unfold toD at h; cases h
  | 0, .loc l, q, x, h, r => by unfold toD at h; cases h
  | n, .ty l, q, x, h, r => by cases n <;> (unfold toD at h; cases h)
  | n, .xc _ _ _, q, x, h, r => by cases n <;> (unfold toD at h; cases h)
  | n + 1, .tup l, q, x, h, r => by
    cases r with
    | tup hs hl =>
      unfold toD at h
      cases e : mapO (toD n S) l with
      | none => rw [e] at h; cases h
      | some qs =>
        rw [e] at h
        cases h
        obtain ⟨a1, a2, a3⟩ := mapO_dp (toD_dp s n) e hl
        exact ⟨.tup hs a1, by rw [PyData.plain]; exact a2, by rw [PyData.depth]; omega⟩
  | n + 1, .loc k, q, x, h, r => by
    cases r with
    | loc hk =>
      unfold toD at h
      split at h
      · rename_i l e1
        obtain ⟨xs, h1, hl⟩ := s.obj _ _ e1
        cases e : mapO (toD n S) l with
        | none => rw [e] at h; cases h
        | some qs =>
          rw [e] at h
          cases h
          obtain ⟨a1, a2, a3⟩ := mapO_dp (toD_dp s n) e hl
          exact ⟨.lst (SqL.of h1) a1, by rw [PyData.plain]; exact a2, by rw [PyData.depth]; omega⟩
      · rename_i l e1
        obtain ⟨xs, h1, hl⟩ := s.obj _ _ e1
        cases e : mapO (toD n S) l with
        | none => rw [e] at h; cases h
        | some qs =>
          rw [e] at h
          cases h
          obtain ⟨a1, a2, a3⟩ := mapO_dp (toD_dp s n) e hl
          exact ⟨.lst h1.sq a1, by rw [PyData.plain]; exact a2, by rw [PyData.depth]; omega⟩
      · cases h
def rEqP (K : PySem.W.Frag) (neg : Bool) : R2 := fun x y H Q => ∃ d e, L2.Dp K H x d ∧ L2.Dp K H y e ∧ d.plain = true ∧ e.plain = true ∧ d.depth ≤ 60 ∧ Q (.bl (if neg then !PyData.eqv d e else PyData.eqv d e)) H
theorem op_eqP {X : Cx} (hu : X.A.units + 64 < cLine) : OpR X (compareOp .Eq) (rEqP X.K false) := by
  intro pins s σ H x y v u Q I rx ry h
  obtain ⟨d, e, hd, he, pd, pe, dd, q⟩ := h
  obtain ⟨as, r1⟩ := Dp.reads I d x v hd rx
  obtain ⟨bs, r2⟩ := Dp.reads I e y u he ry
  exact SeqAt.eq_plain r1 r2 pd pe (by omega) ⟨.bl _, H, I, rfl, q⟩
theorem op_neP {X : Cx} (hu : X.A.units + 64 < cLine) : OpR X (compareOp .NotEq) (rEqP X.K true) := by
  intro pins s σ H x y v u Q I rx ry h
  obtain ⟨d, e, hd, he, pd, pe, dd, q⟩ := h
  obtain ⟨as, r1⟩ := Dp.reads I d x v hd rx
  obtain ⟨bs, r2⟩ := Dp.reads I e y u he ry
  exact SeqAt.rcNe_plain r1 r2 pd pe (by omega) X.prog X.w X.xe _ ⟨.bl _, H, I, rfl, q⟩
def eqP (x y : PV) (S : Sto) : Option Bool := match toD 60 S x, toD 60 S y with
  | some d, some e => some (PyData.eqv d e)
  | _, _ => none
def gEqN (neg : Bool) : G2 := fun x y S => match eqP x y S with
  | some b => some (.ok (.bl (if neg then !b else b)) S)
  | none => none
abbrev gEq : G2 := gEqN false
abbrev gNe : G2 := gEqN true
theorem ok_eq {K : PySem.W.Frag} {mg : Str → Option Value} {neg : Bool} : OkG2 K mg (rEqP K neg) (gEqN neg) := fun W σ m S H x y d d' z Q s r1 r2 e p => by
  unfold gEqN at e
  split at e
  · rename_i b hb
    cases e
    unfold eqP at hb
    split at hb
    · rename_i q1 q2 e1 e2
      cases hb
      obtain ⟨a1, a2, a3⟩ := toD_dp s 60 _ _ _ e1 r1
      obtain ⟨b1, b2, b3⟩ := toD_dp s 60 _ _ _ e2 r2
      exact ⟨q1, q2, a1, b1, a2, b2, a3, post_here s (.bl _) p⟩
    · cases hb
  · cases e
/-- is, is not: None, and truth values -/
def gIsN (neg : Bool) : G2 := fun x y S => match x, y with
  | .bl a, .bl b => some (.ok (.bl (if neg then !decide (a = b) else decide (a = b))) S)
  | .non, .non => some (.ok (.bl (!neg)) S)
  | _, .non => some (.ok (.bl neg) S)
  | _, _ => none
abbrev gIs : G2 := gIsN false
abbrev gIsNot : G2 := gIsN true
theorem rp_non {K : PySem.W.Frag} {H : Hp} {m : Nat → Addr} {n : Nat} {d : PV} {v : V} (r : Rp K H m n d v) (h : d ≠ .non) : v ≠ .non := by cases r <;> simp at h ⊢
theorem op_is4 {X : Cx} : OpR X (compareOp .Is) (fun x y H Q => (y = .non ∧ Q (.bl (decide (x = .non))) H) ∨ rIsB x y H Q) := op_isN.or op_isBl
theorem op_isnot4 {X : Cx} : OpR X (compareOp .IsNot) (fun x y H Q => (y = .non ∧ Q (.bl (!decide (x = .non))) H) ∨ rNotB x y H Q) := op_notN.or op_notBl
theorem ok_is {K : PySem.W.Frag} {mg : Str → Option Value} : OkG2 K mg (fun x y H Q => (y = .non ∧ Q (.bl (decide (x = .non))) H) ∨ rIsB x y H Q) gIs := fun W σ m S H x y d d' z Q s r1 r2 e p => by
  unfold gIs gIsN at e
  split at e
  · cases e; cases r1; cases r2
    exact .inr ⟨_, _, rfl, rfl, post_here s (.bl _) p⟩
  · cases e; cases r1; cases r2
    exact .inl ⟨rfl, post_here s (.bl _) p⟩
  · rename_i h1 h2
    cases e; cases r2
    refine .inl ⟨rfl, ?_⟩
    rw [decide_eq_false (rp_non r1 fun z => h2 z)]
    exact post_here s (.bl _) p
  · cases e
theorem ok_isnot {K : PySem.W.Frag} {mg : Str → Option Value} : OkG2 K mg (fun x y H Q => (y = .non ∧ Q (.bl (!decide (x = .non))) H) ∨ rNotB x y H Q) gIsNot := fun W σ m S H x y d d' z Q s r1 r2 e p => by
  unfold gIsNot gIsN at e
  split at e
  · cases e; cases r1; cases r2
    exact .inr ⟨_, _, rfl, rfl, post_here s (.bl _) p⟩
  · cases e; cases r1; cases r2
    exact .inl ⟨rfl, post_here s (.bl _) p⟩
  · rename_i h1 h2
    cases e; cases r2
    refine .inl ⟨rfl, ?_⟩
    rw [decide_eq_false (rp_non r1 fun z => h2 z)]
    exact post_here s (.bl _) p
  · cases e

/-! ### subscripts -/
def gIx : G2 := fun x y S => match x, y with
  | .tup l, .int i => match atI l i with
    | some v => some (.ok v S)
    | none => none
  | .loc k, .int i => match S[k]? with
    | some (.lst l) => match atI l i with
      | some v => some (.ok v S)
      | none => none
    | some (.fz l) => match atI l i with
      | some v => some (.ok v S)
      | none => none
    | _ => none
  | .str z, .int i => if z.length ≤ 16777216 then match atI z.cps.toList i with
      | some c => some (.ok (.str ⟨#[c]⟩) S)
      | none => none else none
  | _, _ => none
theorem atI_rp {K : PySem.W.Frag} {H : Hp} {m : Nat → Addr} {n : Nat} {l : List PV} {xs : List V} {i : Int} {d : PV} (r : RpL K H m n l xs) (h : atI l i = some d) : ∃ x, atI xs i = some x ∧ Rp K H m n d x := by
  unfold atI at h ⊢
  rw [r.length] at h
  cases q : ixN xs.length i with
  | none => rw [q] at h; cases h
  | some j =>
    rw [q] at h
    obtain ⟨x, h1, h2⟩ := r.get (show l[j]? = some d from h)
    exact ⟨x, h1, h2⟩
theorem ok_ix {K : PySem.W.Frag} {mg : Str → Option Value} : OkG2 K mg (rIx K) gIx := fun W σ m S H x y d d' z Q s r1 r2 e p => by
  unfold gIx at e
  split at e
  · cases r1 with
    | tup hs hl =>
      cases r2
      split at e
      · rename_i v hv
        cases e
        obtain ⟨x, h1, h2⟩ := atI_rp hl hv
        exact .inr (.inl ⟨_, _, _, _, rfl, rfl, hs, h1, post_here s h2 p⟩)
      · cases e
  · cases r1 with
    | loc hk =>
      cases r2
      split at e
      · rename_i l e1
        obtain ⟨xs, hs, hl⟩ := s.obj _ _ e1
        split at e
        · rename_i v hv
          cases e
          obtain ⟨x, h1, h2⟩ := atI_rp hl hv
          exact .inl ⟨_, _, _, _, rfl, rfl, SqL.of hs, h1, post_here s h2 p⟩
        · cases e
      · rename_i l e1
        obtain ⟨xs, hs, hl⟩ := s.obj _ _ e1
        split at e
        · rename_i v hv
          cases e
          obtain ⟨x, h1, h2⟩ := atI_rp hl hv
          exact .inl ⟨_, _, _, _, rfl, rfl, hs.sq, h1, post_here s h2 p⟩
        · cases e
      · cases e
  · cases r1; cases r2
    split at e
    · rename_i hz
      split at e
      · rename_i v hv
        cases e
        exact .inr (.inr ⟨_, _, _, rfl, rfl, Nat.le_trans hz (by decide), hv, post_here s (.str _) p⟩)
      · cases e
    · cases e
  · cases e

/-! ### slices -/
abbrev DO := En → Sto → Option (R (Option Int))
def rO : Rel (Option Int) (Option Int) := fun _ _ _ d v => d = v
abbrev POd (X : Cx) (W : WX) (e : Option Expr) (f : DO) : Prop := L2.PO X e (tG X.K X.mg rO W f)
theorem _root_.L2.PO.imp {X : Cx} {e : Option Expr} {t t' : TO} (h : L2.PO X e t) (i : ∀ σ H Q, t' σ H Q → t σ H Q) : L2.PO X e t' := ⟨fun pins s σ H Q I q => h.run pins s σ H Q I (i _ _ _ q)⟩
def dNoPart : DO := fun _ S => some (.ok none S)
def dPart (f : DE) : DO := fun ρ S => bR (f ρ S) fun x S1 => match x with
  | .int i => some (.ok (some i) S1)
  | _ => none
section
variable {X : Cx} {W : WX} {e : Expr} {f : DE}
theorem do_none : POd X W none dNoPart := po_none.imp fun σ H Q h => by
  obtain ⟨m, ρ, S, r, s, e, hf, p⟩ := h
  cases hf
  exact p _ m H (Nat.le_refl _) Ext.refl s rfl
theorem do_some (h : PEd X W e f) : POd X W (some e) (dPart f) := (po_some h).imp fun σ H Q h => by
  refine (bind1 (ra := rE X.K) h).mono fun v H1 ⟨m, ρ, S, d, z, s, e, r1, hk, p⟩ => ?_
  split at hk
  · cases hk; cases r1
    exact ⟨_, rfl, p _ m H1 (Nat.le_refl _) Ext.refl s rfl⟩
  · cases hk
end
def cutP (l : List PV) (lo hi : Option Int) : List PV := (l.drop (HT.sIx l.length 0 lo)).take (HT.sIx l.length l.length hi - HT.sIx l.length 0 lo)
theorem cut_rp {K : PySem.W.Frag} {H : Hp} {m : Nat → Addr} {n : Nat} {l : List PV} {xs : List V} (r : RpL K H m n l xs) (lo hi : Option Int) : RpL K H m n (cutP l lo hi) (cutV xs lo hi) := by
  unfold cutP cutV
  rw [r.length]
  exact (r.drop _).take _
abbrev G3 := PV → Option Int → Option Int → Sto → Option (R PV)
def gSl : G3 := fun x lo hi S => match x with
  | .tup l => some (.ok (.tup (cutP l lo hi)) S)
  | .loc k => match S[k]? with
    | some (.lst l) => some (.ok (.loc S.length) (S ++ [.lst (cutP l lo hi)]))
    | some (.fz l) => some (.ok (.loc S.length) (S ++ [.lst (cutP l lo hi)]))
    | _ => none
  | _ => none
def dSl (a : DE) (lo hi : DO) : DE := fun ρ S => bR (a ρ S) fun x S1 => bR (lo ρ S1) fun l S2 => bR (hi ρ S2) fun h S3 => gSl x l h S3
def rSl4 (K : PySem.W.Frag) : V → Option Int → Option Int → Hp → VK → Prop := fun x lo hi H Q => rSlL K x lo hi H Q ∨ rSlA K x lo hi H Q
theorem cut_whole (l : List PV) (lo hi : Option Int) (h : HT.sIx l.length 0 lo = 0 ∧ HT.sIx l.length l.length hi = l.length) : cutP l lo hi = l := by
  unfold cutP
  rw [h.1, h.2]
  simp
theorem ok_sl {K : PySem.W.Frag} {mg : Str → Option Value} {W : WX} {σ : L2.St} {m : Nat → Addr} {S : Sto} {H : Hp} {x : V} {d : PV} {lo hi : Option Int} {z : R PV} {Q : VK} (s : StS K mg m S H) (r : Rp K H m S.length d x) (e : gSl d lo hi S = some z)
    (p : PostG K mg (rE K) W σ m S H z Q) : rSl4 K x lo hi H Q := by
  unfold gSl at e
  split at e
  · cases r with
    | tup hs hl =>
      cases e
      refine .inr ⟨_, _, rfl, hs, fun h => ?_, fun _ => ?_⟩
      · rw [← hl.length] at h
        rw [cut_whole _ _ _ h] at p
        exact post_here s (.tup hs hl) p
      · exact new_tup s (cut_rp hl lo hi) p
  · cases r with
    | loc hk =>
      split at e
      · rename_i l e1
        obtain ⟨xs, hs, hl⟩ := s.obj _ _ e1
        cases e
        exact .inl ⟨_, _, rfl, SqL.of hs, new_list s (cut_rp hl lo hi) p⟩
      · rename_i l e1
        obtain ⟨xs, hs, hl⟩ := s.obj _ _ e1
        cases e
        exact .inl ⟨_, _, rfl, hs.sq, new_list s (cut_rp hl lo hi) p⟩
      · cases e
  · cases e
theorem keeps_O {K : PySem.W.Frag} : Keeps K rO := fun _ _ _ _ _ _ _ _ _ _ r => r
theorem de_sl {X : Cx} {W : WX} {e : Expr} {lo hi : Option Expr} {p2 pos : Pos} {fa : DE} {fl fh : DO} (ha : PEd X W e fa) (hl : POd X W lo fl) (hh : POd X W hi fh) : PEd X W (.Subscript e (.Slice lo hi none p2) pos) (dSl fa fl fh) :=
  (pe_slice (sl_list.or sl_tupA) ha hl hh).imp fun σ H Q h => by
  refine (bind1 (ra := rE X.K) (k := fun ρ x S1 => bR (fl ρ S1) fun l S2 => bR (fh ρ S2) fun h S3 => gSl x l h S3) h).mono fun v H1 ⟨m, ρ, S, d, z, s, e, r1, hk, p⟩ => ?_
  have h2 : tG X.K X.mg (rE X.K) W (fun ρ S => bR (fl ρ S) fun l S2 => bR (fh ρ S2) fun h S3 => gSl d l h S3) σ H1 Q := ⟨m, ρ, S, z, s, e, hk, p⟩
  -- the value stays what it is: keep it beside
  have h3 : tG X.K X.mg rO W fl σ H1 fun l H2 => tG X.K X.mg rO W fh σ H2 fun h H3 => ∃ m S z, StS X.K X.mg m S H3 ∧ Rp X.K H3 m S.length d v ∧ gSl d l h S = some z ∧ PostG X.K X.mg (rE X.K) W σ m S H3 z Q := by
    have hk : bR (fl ρ S) (fun l S2 => bR (fh ρ S2) fun h S3 => gSl d l h S3) = some z := hk
    cases q : fl ρ S with
    | none => rw [q] at hk; cases hk
    | some z1 =>
      rw [q] at hk
      cases z1 with
      | exc x T =>
        cases hk
        exact ⟨m, ρ, S, .exc x T, s, e, q, p⟩
      | ok l T =>
        refine ⟨m, ρ, S, .ok l T, s, e, q, fun l' m2 H2 le x s2 rl => ?_⟩
        cases rl
        have hk : bR (fh ρ T) (fun h S3 => gSl d l h S3) = some z := hk
        cases q2 : fh ρ T with
        | none => rw [q2] at hk; cases hk
        | some z2 =>
          rw [q2] at hk
          cases z2 with
          | exc x2 T2 =>
            cases hk
            exact ⟨m2, ρ, T, .exc x2 T2, s2, e.mono x le, q2, p.on le x⟩
          | ok h T2 =>
            refine ⟨m2, ρ, T, .ok h T2, s2, e.mono x le, q2, fun h' m3 H3 le3 x3 s3 rh => ?_⟩
            cases rh
            exact ⟨m3, T2, z, s3, r1.mono (x.trans x3 le) (Nat.le_trans le le3), hk, p.on (Nat.le_trans le le3) (x.trans x3 le)⟩
  exact h3.mono fun l H2 h4 => h4.mono fun h H3 ⟨m, S, z, s, r, hk, p⟩ => ok_sl s r hk p
end D

/-! D5: calls of built-ins, methods, what is walked, comprehensions. -/
namespace D
open PySem PySem.Spec PyProof.Rows L2

/-! ### calls of built-ins -/
section
variable {X : Cx} {W : WX} {pos p : Pos} {x : Str} {e : Expr} {es : List Expr} {fa : DA} {id T : String} {r : List V → Hp → VK → Prop} {g : GA}
theorem de_bi (hc : CallR X (.builtin id) r) (hr : OkGA X.K X.mg r g) (hg : Gl X x) (hm : X.mg x = none) (hv : bootBuiltins x = some (.builtin id)) (ha : PAd X W (e :: es) fa) (hn : x ≠ "__name__" := by decide) (hdb : (x == ("__debug__" : Str)) = false := by decide)
    (he : starEach (e :: es) X.env = (false, eval e X.env) :: starEach es X.env := by rfl) (hpl : (backTo pos (starEach es X.env)).any (·.1) = false := by rfl) : PEd X W (.Call (.Name x p) (e :: es) [] pos) (dOpA g fa) :=
  (pe_callB hc hg hm hv ha hn hdb he hpl).imp fun σ H Q h => liftA hr h
theorem de_bty (hc : CallR X (.type T) r) (hr : OkGA X.K X.mg r g) (hg : Gl X x) (hm : X.mg x = none) (hv : bootBuiltins x = some (.type T)) (ha : PAd X W (e :: es) fa) (hn : x ≠ "__name__" := by decide) (hdb : (x == ("__debug__" : Str)) = false := by decide)
    (he : starEach (e :: es) X.env = (false, eval e X.env) :: starEach es X.env := by rfl) (hpl : (backTo pos (starEach es X.env)).any (·.1) = false := by rfl) : PEd X W (.Call (.Name x p) (e :: es) [] pos) (dOpA g fa) :=
  (pe_callTy hc hg hm hv ha hn hdb he hpl).imp fun σ H Q h => liftA hr h
end
section
variable {K : PySem.W.Frag} {mg : Str → Option Value}
def gLen : GA := fun l S => match l with
  | [.tup l] => some (.ok (.int l.length) S)
  | [.str z] => if z.length ≤ 16777216 then some (.ok (.int z.length) S) else none
  | [.loc k] => match S[k]? with
    | some (.lst l) => some (.ok (.int l.length) S)
    | some (.fz l) => some (.ok (.int l.length) S)
    | some (.dct _ l) => some (.ok (.int l.length) S)
    | _ => none
  | _ => none
def rLen4 (K : PySem.W.Frag) : List V → Hp → VK → Prop := fun xs H Q => (∃ p ys, xs = [.ref p] ∧ (SqL K H p ys ∨ SqT K H p ys) ∧ Q (.int ys.length) H) ∨ ((∃ z, xs = [.str z] ∧ z.length ≤ sizeLine ∧ Q (.int z.length) H) ∨
  ((∃ a kvs, xs = [V.ref a] ∧ H a = some (.dK kvs) ∧ Q (.int kvs.length) H) ∨ rLenT xs H Q))
theorem call_len4 {X : Cx} : CallR X (.builtin "len") (rLen4 X.K) := call_len_seq.or (call_len_str.or (call_lenD.or call_len_dT))
theorem paired_len {α β : Type} {F : α → β → Prop} : ∀ {l₁ : List α} {l₂ : List β}, Paired F l₁ l₂ → l₁.length = l₂.length
  | _, _, .nil => rfl
  | _, _, .cons _ t => by rw [List.length_cons, List.length_cons, paired_len t]
theorem ok_len : OkGA K mg (rLen4 K) gLen := fun W σ m S H x d z Q s r e p => by
  unfold gLen at e
  split at e
  · cases e
    cases r with
    | cons a b =>
      cases b
      cases a with
      | tup h1 h2 => exact .inl ⟨_, _, rfl, .inr h1, by rw [← h2.length]; exact post_here s (.int _) p⟩
  · split at e
    · rename_i hz
      cases e
      cases r with
      | cons a b =>
        cases b; cases a
        exact .inr (.inl ⟨_, rfl, Nat.le_trans hz (by decide), post_here s (.int _) p⟩)
    · cases e
  · cases r with
    | cons a b =>
      cases b; cases a
      split at e
      · rename_i l e1
        cases e
        obtain ⟨xs, h1, h2⟩ := s.obj _ _ e1
        exact .inl ⟨_, _, rfl, .inl (SqL.of h1), by rw [← h2.length]; exact post_here s (.int _) p⟩
      · rename_i l e1
        cases e
        obtain ⟨xs, h1, h2⟩ := s.obj _ _ e1
        exact .inl ⟨_, _, rfl, .inl h1.sq, by rw [← h2.length]; exact post_here s (.int _) p⟩
      · rename_i l e1
        cases e
        rcases s.obj _ _ e1 with ⟨_, kv, h1, h2⟩ | ⟨_, kv, h1, h2⟩
        · exact .inr (.inr (.inl ⟨_, kv, rfl, h1, by rw [← paired_len h2]; exact post_here s (.int _) p⟩))
        · exact .inr (.inr (.inr ⟨_, kv, rfl, h1, by rw [← paired_len h2]; exact post_here s (.int _) p⟩))
      · cases e
  · cases e
/-- int(x) of a number or a truth value -/
def gInt : GA := fun l S => match l with
  | [.int i] => some (.ok (.int i) S)
  | [.bl b] => some (.ok (.int (if b then 1 else 0)) S)
  | _ => none
theorem ok_int : OkGA K mg (fun xs H Q => (∃ i, xs = [.int i] ∧ Q (.int i) H) ∨ ∃ k, xs = [.bl k] ∧ Q (.int (if k then 1 else 0)) H) gInt := fun W σ m S H x d z Q s r e p => by
  unfold gInt at e
  split at e
  · cases e
    cases r with
    | cons a b =>
      cases b; cases a
      exact .inl ⟨_, rfl, post_here s (.int _) p⟩
  · cases e
    cases r with
    | cons a b =>
      cases b; cases a
      exact .inr ⟨_, rfl, post_here s (.int _) p⟩
  · cases e
def gAbs : GA := fun l S => match l with
  | [.int i] => some (.ok (.int (if i < 0 then -i else i)) S)
  | _ => none
theorem ok_abs : OkGA K mg (fun xs H Q => ∃ i, xs = [.int i] ∧ Q (.int (if i < 0 then -i else i)) H) gAbs := fun W σ m S H x d z Q s r e p => by
  unfold gAbs at e
  split at e
  · cases e
    cases r with
    | cons a b =>
      cases b; cases a
      exact ⟨_, rfl, post_here s (.int _) p⟩
  · cases e
def gMax2 : GA := fun l S => match l with
  | [.int i, .int j] => some (.ok (.int (if j > i then j else i)) S)
  | _ => none
theorem ok_max2 : OkGA K mg (fun xs H Q => ∃ i j, xs = [.int i, .int j] ∧ Q (.int (if j > i then j else i)) H) gMax2 := fun W σ m S H x d z Q s r e p => by
  unfold gMax2 at e
  split at e
  · cases e
    cases r with
    | cons a b => cases b with
      | cons b c =>
        cases a; cases b; cases c
        exact ⟨_, _, rfl, post_here s (.int _) p⟩
  · cases e
def gMin2 : GA := fun l S => match l with
  | [.int i, .int j] => some (.ok (.int (if j < i then j else i)) S)
  | _ => none
theorem ok_min2 : OkGA K mg (fun xs H Q => ∃ i j, xs = [.int i, .int j] ∧ Q (.int (if j < i then j else i)) H) gMin2 := fun W σ m S H x d z Q s r e p => by
  unfold gMin2 at e
  split at e
  · cases e
    cases r with
    | cons a b => cases b with
      | cons b c =>
        cases a; cases b; cases c
        exact ⟨_, _, rfl, post_here s (.int _) p⟩
  · cases e
/-- list(x) of a list or tuple -/
def gList : GA := fun l S => match l with
  | [d] => match itemsP d S with
    | some l => some (.ok (.loc S.length) (S ++ [.lst l]))
    | none => none
  | _ => none
theorem items_rp {H : Hp} {m : Nat → Addr} {S : Sto} {d : PV} {v : V} {l : List PV} (s : StS K mg m S H) (r : Rp K H m S.length d v) (e : itemsP d S = some l) : ∃ a xs, v = .ref a ∧ (SqL K H a xs ∨ SqT K H a xs) ∧ RpL K H m S.length l xs := by
  unfold itemsP at e
  split at e
  · cases e
    cases r with
    | tup h1 h2 => exact ⟨_, _, rfl, .inr h1, h2⟩
  · cases r
    split at e
    · rename_i e1
      cases e
      obtain ⟨xs, h1, h2⟩ := s.obj _ _ e1
      exact ⟨_, _, rfl, .inl (SqL.of h1), h2⟩
    · rename_i e1
      cases e
      obtain ⟨xs, h1, h2⟩ := s.obj _ _ e1
      exact ⟨_, _, rfl, .inl h1.sq, h2⟩
    · cases e
  · cases e
theorem ok_list : OkGA K mg (fun xs H Q => ∃ p ys, xs = [.ref p] ∧ (SqL K H p ys ∨ SqT K H p ys) ∧ ∀ l, H l = none → Q (.ref l) (upd H l (.lst ys))) gList := fun W σ m S H x d z Q s r e p => by
  unfold gList at e
  split at e
  · split at e
    · rename_i hl
      cases e
      cases r with
      | cons a b =>
        cases b
        obtain ⟨q, xs, rfl, hs, rl⟩ := items_rp s a hl
        exact ⟨q, xs, rfl, hs, new_list s rl p⟩
    · cases e
  · cases e
def gTuple : GA := fun l S => match l with
  | [d] => match itemsP d S with
    | some l => some (.ok (.tup l) S)
    | none => none
  | _ => none
theorem ok_tuple : OkGA K mg (fun xs H Q => ∃ p ys, xs = [.ref p] ∧ ((SqL K H p ys ∧ ∀ l, H l = none → Q (.ref l) (upd H l (.tup ys))) ∨ (SqT K H p ys ∧ Q (.ref p) H))) gTuple := fun W σ m S H x d z Q s r e p => by
  unfold gTuple at e
  split at e
  · split at e
    · rename_i hl
      cases e
      cases r with
      | cons a b =>
        cases b
        obtain ⟨q, xs, rfl, hs, rl⟩ := items_rp s a hl
        rcases hs with hs | hs
        · exact ⟨q, xs, rfl, .inl ⟨hs, new_tup s rl p⟩⟩
        · exact ⟨q, xs, rfl, .inr ⟨hs, post_here s (.tup hs rl) p⟩⟩
    · cases e
  · cases e
/-- a stored list -/
def lstOf (k : Nat) (S : Sto) : Option (List PV) := match S[k]? with
  | some (.lst l) => some l
  | some (.fz l) => some l
  | _ => none
theorem lst_rp {H : Hp} {m : Nat → Addr} {S : Sto} {k : Nat} {l : List PV} (s : StS K mg m S H) (e : lstOf k S = some l) : ∃ xs, SqL K H (m k) xs ∧ RpL K H m S.length l xs := by
  unfold lstOf at e
  split at e
  · rename_i e1
    cases e
    obtain ⟨xs, h1, h2⟩ := s.obj _ _ e1
    exact ⟨_, SqL.of h1, h2⟩
  · rename_i e1
    cases e
    obtain ⟨xs, h1, h2⟩ := s.obj _ _ e1
    exact ⟨_, h1.sq, h2⟩
  · cases e
/-! ### sorted -/
def rSortD (K : PySem.W.Frag) : List V → Hp → VK → Prop := fun vs H Q => ∃ (a : Addr) (xs : List V) (ds : List PyData), vs = [V.ref a] ∧ SqL K H a xs ∧ L2.DpAll K H xs ds ∧ PySem.W.AllAlike ds ∧ PySem.W.Sortable ds ∧ (∀ d ∈ ds, d.depth ≤ 40) ∧
  ∀ p, H p = none → Q (.ref p) (upd H p (.lst (((xs.zip ds).mergeSort (PySem.W.dataLe false Prod.snd)).map Prod.fst)))
theorem dpAll_len {H : Hp} : ∀ {xs : List V} {ds : List PyData}, L2.DpAll K H xs ds → xs.length = ds.length
  | _, _, .nil => rfl
  | _, _, .cons _ t => by rw [List.length_cons, List.length_cons, dpAll_len t]
theorem each_vals : ∀ {xs : List V} {ds : List PyData} {us : List Value}, xs.length = ds.length → Vals xs us → PySem.W.EachIs (fun u (b : V × PyData) => RelV b.1 u) us (xs.zip ds)
  | [], [], _, _, .nil => .nil
  | [], _ :: _, _, h, _ => by simp at h
  | _ :: _, [], _, h, _ => by simp at h
  | x :: xs, d :: ds, _, h, .cons r t => .cons r (each_vals (by simpa using h) t)
theorem vals_each : ∀ {bs : List (V × PyData)} {us : List Value}, PySem.W.EachIs (fun u (b : V × PyData) => RelV b.1 u) us bs → Vals (bs.map Prod.fst) us
  | _, _, .nil => .nil
  | _, _, .cons r t => .cons r (vals_each t)
theorem each_reads {X : Cx} {pins : List (Addr × Obj)} {σ : L2.St} {H : Hp} {s : Shared} (I : Inv X pins σ H s) : ∀ {xs : List V} {ds : List PyData} {us : List Value}, L2.DpAll X.K H xs ds → Vals xs us → PySem.W.EachIs (fun u (b : V × PyData) => ∃ as, Reads s.heap u b.2 as) us (xs.zip ds)
  | _, _, _, .nil, .nil => .nil
  | _, _, _, .cons a b, .cons r t => .cons (Dp.reads I _ _ _ a r) (each_reads I b t)
theorem zip_snd : ∀ {xs : List V} {ds : List PyData}, xs.length = ds.length → (xs.zip ds).map Prod.snd = ds
  | [], [], _ => rfl
  | [], _ :: _, h => by simp at h
  | _ :: _, [], h => by simp at h
  | x :: xs, d :: ds, h => by
    rw [List.zip_cons_cons, List.map_cons, zip_snd (by simpa using h)]
theorem cr_sortD {X : Cx} (hu : X.A.units + 64 < cLine) : CallR X (.builtin "sorted") (rSortD X.K) := by
  intro pins s σ H vs us Q I r h
  obtain ⟨a, xs, ds, rfl, hs, hd, hal, hk, hdep, q⟩ := h
  obtain ⟨its, rv, hl, hz⟩ := I.list hs
  rw [Vals.ref1 r]
  have hlen := dpAll_len hd
  have e1 := each_vals hlen rv
  have e2 := each_reads I hd rv
  have hzip : (xs.zip ds).map Prod.snd = ds := zip_snd hlen
  refine PySem.W.sorted_data (enc := Prod.snd) hl.isList e1 e2 (by rw [hzip]; exact hal) (by rw [hzip]; exact hk) (by rw [List.length_zip]; omega) (fun b hb => ?_) fun out h1 h2 => ?_
  · have := hdep b.2 (List.of_mem_zip hb).2
    omega
  · obtain ⟨ep, he'⟩ := PyProof.Rows.sortedAll_at s.heap its out.toArray
    have rv2 := vals_each h2
    have hlen2 : (((xs.zip ds).mergeSort (PySem.W.dataLe false Prod.snd)).map Prod.fst).length ≤ sizeLine := by
      rw [List.length_map, List.length_mergeSort, List.length_zip]
      omega
    exact ⟨.ref _, upd H (s.heap.objs.size + 1) (.lst _), I.laid (t' := s.toks) (fun _ _ => PyProof.Rows.sortedAll_old) (Nat.le_succ _) ⟨hlen2, out, ep, rv2, he'⟩, rfl, q _ (I.hok.fresh (Nat.le_succ _))⟩
def alikeB (ds : List PyData) : Bool := ds.all fun d => ds.all fun d' => PySem.W.alike d d'
def sortableB (ds : List PyData) : Bool := ds.all (fun d => match d with | .tuple (_ :: _) => true | _ => false) || ds.all (fun d => match d with | .none => false | .tuple _ => false | _ => true)
theorem alike_of {ds : List PyData} (h : alikeB ds = true) : PySem.W.AllAlike ds := fun d hd d' hd' => List.all_eq_true.mp (List.all_eq_true.mp h d hd) d' hd'
theorem sortable_of {ds : List PyData} (h : sortableB ds = true) : PySem.W.Sortable ds := by
  unfold sortableB at h
  rw [Bool.or_eq_true] at h
  rcases h with h | h
  · refine .inl fun d hd => ?_
    have := List.all_eq_true.mp h d hd
    split at this
    · exact ⟨_, _, rfl⟩
    · cases this
  · refine .inr fun d hd => ?_
    have := List.all_eq_true.mp h d hd
    split at this
    · cases this
    · cases this
    · rename_i h1 h2
      exact ⟨h1, h2⟩
def sortP (l : List PV) (ds : List PyData) : List PV := ((l.zip ds).mergeSort (PySem.W.dataLe false Prod.snd)).map Prod.fst
def gSorted : GA := fun l S => match l with
  | [.loc k] => match lstOf k S with
    | some l => match mapO (toD 40 S) l with
      | some ds => if alikeB ds = true ∧ sortableB ds = true then some (.ok (.loc S.length) (S ++ [.lst (sortP l ds)])) else none
      | none => none
    | none => none
  | _ => none
theorem rpl_of_mem {H : Hp} {m : Nat → Addr} {n : Nat} : ∀ {T : List (PV × V)}, (∀ t ∈ T, Rp K H m n t.1 t.2) → RpL K H m n (T.map Prod.fst) (T.map Prod.snd)
  | [], _ => .nil
  | t :: T, h => .cons (h t List.mem_cons_self) (rpl_of_mem fun u hu => h u (List.mem_cons_of_mem _ hu))
theorem sort_rp {H : Hp} {m : Nat → Addr} {n : Nat} {l : List PV} {xs : List V} {ds : List PyData} (r : RpL K H m n l xs) (hl : xs.length = ds.length) : RpL K H m n (sortP l ds) (((xs.zip ds).mergeSort (PySem.W.dataLe false Prod.snd)).map Prod.fst) := by
  have T : List ((PV × V) × PyData) := (l.zip xs).zip ds
  have h1 : (((l.zip xs).zip ds).map fun t => (t.1.1, t.2)) = l.zip ds := by
    have : ∀ (l : List PV) (xs : List V) (ds : List PyData), l.length = xs.length → xs.length = ds.length → (((l.zip xs).zip ds).map fun t => (t.1.1, t.2)) = l.zip ds := by
      intro l
      induction l with
      | nil => intro xs ds _ _; simp
      | cons a l ih =>
        intro xs ds h1 h2
        cases xs with
        | nil => simp at h1
        | cons b xs => cases ds with
          | nil => simp at h2
          | cons c ds => simp [ih xs ds (by simpa using h1) (by simpa using h2)]
    exact this l xs ds r.length hl
  have h2 : (((l.zip xs).zip ds).map fun t => (t.1.2, t.2)) = xs.zip ds := by
    have : ∀ (l : List PV) (xs : List V) (ds : List PyData), l.length = xs.length → xs.length = ds.length → (((l.zip xs).zip ds).map fun t => (t.1.2, t.2)) = xs.zip ds := by
      intro l
      induction l with
      | nil => intro xs ds h1 _; cases xs with
        | nil => simp
        | cons b xs => simp at h1
      | cons a l ih =>
        intro xs ds h1 h2
        cases xs with
        | nil => simp at h1
        | cons b xs => cases ds with
          | nil => simp at h2
          | cons c ds => simp [ih xs ds (by simpa using h1) (by simpa using h2)]
    exact this l xs ds r.length hl
  have hm : ∀ t ∈ (l.zip xs).zip ds, Rp K H m n t.1.1 t.1.2 := by
    have hz : ∀ (l : List PV) (xs : List V), RpL K H m n l xs → ∀ t ∈ l.zip xs, Rp K H m n t.1 t.2 := by
      intro l xs r
      induction l generalizing xs with
      | nil => intro t ht; simp at ht
      | cons a l ih =>
        cases r with
        | cons q r =>
          intro t ht
          rw [List.zip_cons_cons] at ht
          rcases List.mem_cons.mp ht with rfl | ht
          · exact q
          · exact ih _ r t ht
    exact fun t ht => hz l xs r t.1 (List.of_mem_zip ht).1
  unfold sortP
  rw [← h1, ← h2]
  rw [← List.map_mergeSort (f := fun t : (PV × V) × PyData => (t.1.1, t.2)) (r := PySem.W.dataLe false Prod.snd) (s := PySem.W.dataLe false Prod.snd) (fun a _ b _ => rfl), ← List.map_mergeSort (f := fun t : (PV × V) × PyData => (t.1.2, t.2)) (r := PySem.W.dataLe false Prod.snd) (s := PySem.W.dataLe false Prod.snd) (fun a _ b _ => rfl)]
  rw [List.map_map, List.map_map]
  have hm2 : ∀ t ∈ ((l.zip xs).zip ds).mergeSort (PySem.W.dataLe false Prod.snd), Rp K H m n t.1.1 t.1.2 := fun t ht => hm t (List.mem_mergeSort.mp ht)
  have q := rpl_of_mem (K := K) (H := H) (m := m) (n := n) (T := (((l.zip xs).zip ds).mergeSort (PySem.W.dataLe false Prod.snd)).map Prod.fst) (fun t ht => by
    obtain ⟨u, hu, rfl⟩ := List.mem_map.mp ht
    exact hm2 u hu)
  rw [List.map_map, List.map_map] at q
  exact q
theorem mapO_len {α β : Type} {f : α → Option β} : ∀ {l : List α} {r : List β}, mapO f l = some r → l.length = r.length
  | [], _, h => by cases h; rfl
  | x :: xs, r, h => by
    unfold mapO at h
    split at h
    · rename_i y ys _ e2
      cases h
      rw [List.length_cons, List.length_cons, mapO_len e2]
    · cases h
theorem depthAll_mem : ∀ {ds : List PyData} {c : Nat}, PyData.depthAll ds ≤ c → ∀ d ∈ ds, d.depth ≤ c
  | _ :: _, _, h, d, hd => by
    rw [PyData.depthAll] at h
    rcases List.mem_cons.mp hd with rfl | hd
    · omega
    · exact depthAll_mem (by omega) d hd
theorem ok_sorted : OkGA K mg (rSortD K) gSorted := fun W σ m S H x d z Q s r e p => by
  unfold gSorted at e
  split at e
  · rename_i k
    split at e
    · rename_i l hl
      split at e
      · rename_i ds hds
        split at e
        · rename_i hc
          cases e
          cases r with
          | cons a b =>
            cases b; cases a
            obtain ⟨xs, h1, h2⟩ := lst_rp s hl
            obtain ⟨a1, a2, a3⟩ := mapO_dp (c := 40) (toD_dp s 40) hds h2
            exact ⟨_, xs, ds, rfl, h1, a1, alike_of hc.1, sortable_of hc.2, depthAll_mem a3, new_list s (sort_rp h2 (dpAll_len a1)) p⟩
        · cases e
      · cases e
    · cases e
  · cases e
end
end D

/-! D6: what is walked; comprehensions; methods of lists; stores. -/
namespace D
open PySem PySem.Spec PyProof.Rows L2

/-! ### ranges of any size -/
theorem turn_long {P : Program} {w : World} {K : PySem.W.Frag} {tg : Expr} (it : Addr) (lo : Int) (n : Nat) : Turn P w K tg (Itr lo n) [it] it (fun i h => IsLongIter h it (lo + (i : Nat) * 1) ((n : Int) - (i : Nat)) 1) where
  mem := by simp
  obj := fun i h st b hb => by
    have e : b = it := by simpa using hb
    subst e
    exact ⟨_, st, fun v z => by
      have z' : Data.fields _ = Data.cell v := z
      cases z'⟩
  keep := fun i h h' st k => k it (by simp) _ st
  item := by
    intro X hP hw hK hc i pins s σ H E I hf st hg
    subst hP hw hK
    obtain ⟨f0, f1, f2, f3, f4, f5⟩ := hf it (by simp)
    have W := Walks.longrange (prog := X.prog) (w := X.w) (I.ok.hd hc) it lo 1 n
    refine W.item i s _ _ hg st fun v h' tk hv st' kk => ?_
    obtain ⟨t, rfl⟩ := hv
    have I1 : Inv X pins σ H { s with heap := h', toks := tk } := I.turned (fun b o hb e => kk b o (by simpa using hb) e) f0 f1 f3 f4 f5
    refine ⟨_, rfl, go_of (s := { s with heap := h', toks := tk }) (n := "longrange_iterator") st' rfl rfl (by decide) ⟨.int (lo + i), H, I1, ⟨t, ?_⟩, ⟨rfl, rfl⟩, st', fun b hb => (hf b hb).1⟩⟩
    rw [Int.mul_one]
  done := by
    intro X hP hw hK hc i pins s σ H E I hf st hg
    subst hP hw hK
    obtain ⟨f0, f1, f2, f3, f4, f5⟩ := hf it (by simp)
    exact wpAny_pyNext_long_end (I.ok.hd hc) st (by have : n ≤ i := hg; omega) fun h' eb => ⟨rfl, I.turned (t' := s.toks) (fun b o hb e => eb b o hb e) f0 f1 f3 f4 f5⟩
  self := fun _ _ _ _ _ st h => wpAny_pyIter_longiter st h
section
variable {X : Cx} {tg : Expr}
theorem range_itA {pins : List (Addr × Obj)} {σ : L2.St} {H : Hp} {s : Shared} {R : It → Hp → Prop} {E : Value → Shared → Prop} {lo hi : Int} {t u v : Tok} {tk : Nat} (I : Inv X pins σ H s)
    (q : R (Itr lo (hi - lo).toNat) H) : wpAny (model X.prog X.w) X.A (pyIter (.ref s.heap.objs.size)) (PIE X pins σ tg R) E { s with heap := s.heap.push { cls := .type "range", data := .fields #[.int lo t, .int hi u, .int 1 v] }, toks := tk } := by
  have I1 : Inv X pins σ H { s with heap := s.heap.push { cls := .type "range", data := .fields #[.int lo t, .int hi u, .int 1 v] }, toks := tk } := I.kept fun b o e => Heap.get?_push_of_some _ e
  have e1 : lo + ((0 : Nat) : Int) * 1 = lo := by simp
  have e2 : (((hi - lo).toNat : Nat) : Int) - ((0 : Nat) : Int) = Builtin.Range.rangeSize lo hi 1 := by rw [rangeSize_one]; split <;> omega
  cases hs : Builtin.Range.small lo hi 1 with
  | true =>
    refine wpAny_pyIter_range (IsRange.new ..) hs ?_
    refine ⟨(s.heap.push { cls := .type "range", data := .fields #[.int lo t, .int hi u, .int 1 v] }).objs.size, [(s.heap.push { cls := .type "range", data := .fields #[.int lo t, .int hi u, .int 1 v] }).objs.size], _, _, H, rfl,
      I1.kept (t' := tk) fun b o e => Heap.get?_push_of_some _ e, turn_range _ lo (hi - lo).toNat, ?_, fun b hb => ?_, q⟩
    · show IsRangeIter _ _ (lo + ((0 : Nat) : Int) * 1) ((((hi - lo).toNat : Nat) : Int) - ((0 : Nat) : Int)) 1
      rw [e1, e2]
      exact Heap.get?_push_size _ rfl
    · have e : b = (s.heap.push { cls := .type "range", data := .fields #[.int lo t, .int hi u, .int 1 v] }).objs.size := by simpa using hb
      subst e
      exact I1.fpOk (Nat.le_refl _) (I1.hok.fresh (Nat.le_refl _))
  | false =>
    refine wpAny_pyIter_longrange (IsRange.new ..) hs ?_
    refine ⟨(s.heap.push { cls := .type "range", data := .fields #[.int lo t, .int hi u, .int 1 v] }).objs.size, [(s.heap.push { cls := .type "range", data := .fields #[.int lo t, .int hi u, .int 1 v] }).objs.size], _, _, H, rfl,
      I1.kept (t' := tk) fun b o e => Heap.get?_push_of_some _ e, turn_long _ lo (hi - lo).toNat, ?_, fun b hb => ?_, q⟩
    · show IsLongIter _ _ (lo + ((0 : Nat) : Int) * 1) ((((hi - lo).toNat : Nat) : Int) - ((0 : Nat) : Int)) 1
      rw [e1, e2]
      exact Heap.get?_push_size _ rfl
    · have e : b = (s.heap.push { cls := .type "range", data := .fields #[.int lo t, .int hi u, .int 1 v] }).objs.size := by simpa using hb
      subst e
      exact I1.fpOk (Nat.le_refl _) (I1.hok.fresh (Nat.le_refl _))
def iRngA1 (ta : TA) : TI := fun σ H R => ta σ H fun vs H1 => ∃ j : Int, vs = [.int j] ∧ R (Itr 0 j.toNat) H1
def iRngA2 (ta : TA) : TI := fun σ H R => ta σ H fun vs H1 => ∃ i j : Int, vs = [.int i, .int j] ∧ R (Itr i (j - i).toNat) H1
theorem pi_rangeA1 {a : Expr} {ta : TA} {p pos : Pos} (hg : Gl X "range") (hm : X.mg "range" = none) (ha : PA X [a] ta) (hs : starEach [a] X.env = [(false, eval a X.env)] := by rfl) : PI X tg (.Call (.Name "range" p) [a] [] pos) (iRngA1 ta) := by
  refine ⟨fun pins s σ H R I h => ?_⟩
  refine Call_ (ld_blt I hg hm boot_range (PyProof.Rows.callWith_type1 (thn (ha.run pos pins s σ H _ I h) fun us s1 ⟨vs, H1, I1, r1, q1⟩ => ?_) hs rfl))
  obtain ⟨j, e, q⟩ := q1
  subst e
  cases r1 with
  | cons r rr =>
    cases rr
    obtain ⟨t, rfl⟩ := r
    exact call_range_1 (range_itA I1 (by simpa using q))
theorem pi_rangeA2 {a b : Expr} {ta : TA} {p pos : Pos} (hg : Gl X "range") (hm : X.mg "range" = none) (ha : PA X [a, b] ta) (hs : starEach [a, b] X.env = [(false, eval a X.env), (false, eval b X.env)] := by rfl) (hs2 : starEach [b] X.env = [(false, eval b X.env)] := by rfl) :
    PI X tg (.Call (.Name "range" p) [a, b] [] pos) (iRngA2 ta) := by
  refine ⟨fun pins s σ H R I h => ?_⟩
  refine Call_ (ld_blt I hg hm boot_range (PyProof.Rows.callWith_type1 (thn (ha.run pos pins s σ H _ I h) fun us s1 ⟨vs, H1, I1, r1, q1⟩ => ?_) (by rw [hs, hs2]) (by rw [hs2]; rfl)))
  obtain ⟨i, j, e, q⟩ := q1
  subst e
  cases r1 with
  | cons r rr =>
    cases rr with
    | cons r' rr =>
      cases rr
      obtain ⟨t, rfl⟩ := r
      obtain ⟨t', rfl⟩ := r'
      exact call_range_2 (range_itA I1 q)
/-- a list or a tuple -/
def iSeq (K : PySem.W.Frag) (tl : TE) : TI := fun σ H R => tl σ H fun x H1 => ∃ a, x = .ref a ∧ (((∃ xs, SqL K H1 a xs) ∧ R (Itl K a) H1) ∨ ((∃ xs, SqT K H1 a xs) ∧ R (Itt K a) H1))
theorem pi_seq {l : Expr} {tl : TE} (hl : PE X l tl) : PI X tg l (iSeq X.K tl) := by
  refine ⟨fun pins s σ H R I h => ?_⟩
  refine thn (hl.run pins s σ H _ I h) fun v s1 ⟨x, H1, I1, r1, q1⟩ => ?_
  obtain ⟨a, e, q1⟩ := q1
  subst e
  cases r1
  rcases q1 with ⟨⟨xs, hq⟩, q⟩ | ⟨⟨xs, hq⟩, q⟩
  · obtain ⟨its, rv, p, hz⟩ := I1.list hq
    refine wpAny_pyIter_list p.isList ?_
    refine ⟨s1.heap.objs.size, [s1.heap.objs.size], _, _, H1, rfl, I1.kept (t' := s1.toks) fun b o e => Heap.get?_push_of_some _ e, turn_list a _, ⟨_, Heap.get?_push_size _ rfl, rfl, rfl⟩, fun b hb => ?_, q⟩
    have e : b = s1.heap.objs.size := by simpa using hb
    subst e
    exact I1.fpOk (Nat.le_refl _) (I1.hok.fresh (Nat.le_refl _))
  · obtain ⟨its, rv, p, hz⟩ := I1.tuple hq
    refine wpAny_pyIter_tuple (show s1.heap.IsTuple a its.toArray from p) ?_
    refine ⟨s1.heap.objs.size, [s1.heap.objs.size], _, _, H1, rfl, I1.kept (t' := s1.toks) fun b o e => Heap.get?_push_of_some _ e, turn_tuple a _, ⟨_, Heap.get?_push_size _ rfl, rfl, rfl⟩, fun b hb => ?_, q⟩
    have e : b = s1.heap.objs.size := by simpa using hb
    subst e
    exact I1.fpOk (Nat.le_refl _) (I1.hok.fresh (Nat.le_refl _))
end

/-! ### sources -/
section
variable {K : PySem.W.Frag} {mg : Str → Option Value} {m : Nat → Addr} {n : Nat} {H : Hp} {S : Sto}
theorem itOk_tup {a : Addr} {xs : List V} {l : List PV} (hs : SqT K H a xs) (r : RpL K H m n l xs) : ItOk K mg (Itt K a) ⟨l, []⟩ n m H where
  go := fun i d m' S H' le x s _ e => by
    have hs' := x.tp _ _ hs
    obtain ⟨v, h1, h2⟩ := (r.mono x le).get e
    refine ⟨⟨xs, v, hs', h1⟩, fun y H2 hy => ?_⟩
    obtain ⟨e1, e2⟩ := hy
    subst e1
    have : xs[i]? = some y := e2 xs hs'
    rw [h1] at this
    cases this
    exact ⟨m', Ext.refl, s, h2⟩
  stop := fun m' S H' le x s _ => ⟨xs, x.tp _ _ hs, by rw [← r.length]; exact Nat.le_refl _⟩
theorem itOk_lst {k : Nat} {l : List PV} {po : PO} (s0 : StS K mg m S H) (e0 : S[k]? = some po) (hl : lstOf k S = some l) : ItOk K mg (Itl K (m k)) ⟨l, [(k, po)]⟩ S.length m H where
  go := fun i d m' S' H' le x s kp e => by
    have e1 : S'[k]? = some po := kp (k, po) (by simp)
    have hl' : lstOf k S' = some l := by
      unfold lstOf at hl ⊢
      rw [e0] at hl
      rw [e1]; exact hl
    obtain ⟨xs, h1, h2⟩ := lst_rp s hl'
    obtain ⟨v, h3, h4⟩ := h2.get e
    rw [x.mp k (lt_of_get e0)] at h1
    refine ⟨⟨xs, v, h1, h3⟩, fun y H2 hy => ?_⟩
    obtain ⟨e1, e2⟩ := hy
    subst e1
    have : xs[i]? = some y := e2 xs h1
    rw [h3] at this
    cases this
    exact ⟨m', Ext.refl, s, h4⟩
  stop := fun m' S' H' le x s kp => by
    have e1 : S'[k]? = some po := kp (k, po) (by simp)
    have hl' : lstOf k S' = some l := by
      unfold lstOf at hl ⊢
      rw [e0] at hl
      rw [e1]; exact hl
    obtain ⟨xs, h1, h2⟩ := lst_rp s hl'
    rw [x.mp k (lt_of_get e0)] at h1
    exact ⟨xs, h1, by rw [← h2.length]; exact Nat.le_refl _⟩
def rangeP (lo : Int) (n : Nat) : List PV := (List.range n).map fun i : Nat => PV.int (lo + (i : Int))
theorem itOk_rng {lo : Int} {c : Nat} : ItOk K mg (Itr lo c) ⟨rangeP lo c, []⟩ n m H where
  go := fun i d m' S' H' le x s kp e => by
    have hi : i < c := by
      have := lt_of_get e
      simpa [rangeP] using this
    have e' : d = .int (lo + i) := by
      have e' : (rangeP lo c)[i]? = some d := e
      unfold rangeP at e'
      rw [List.getElem?_map, List.getElem?_range hi] at e'
      cases e'; rfl
    subst e'
    refine ⟨hi, fun y H2 hy => ?_⟩
    obtain ⟨e1, e2⟩ := hy
    subst e1; subst e2
    exact ⟨m', Ext.refl, s, .int _⟩
  stop := fun m' S' H' le x s kp => by
    show c ≤ (rangeP lo c).length
    simp [rangeP]
theorem itOk_str {z : Str} : ItOk K mg (Its z) ⟨z.cps.toList.map fun c => .str ⟨#[c]⟩, []⟩ n m H where
  go := fun i d m' S' H' le x s kp e => by
    have e' : (z.cps.toList.map fun c => PV.str ⟨#[c]⟩)[i]? = some d := e
    rw [List.getElem?_map] at e'
    cases q : z.cps.toList[i]? with
    | none => rw [q] at e'; cases e'
    | some c =>
      rw [q] at e'
      cases e'
      have hi : i < z.cps.size := by simpa using lt_of_get q
      refine ⟨hi, fun y H2 hy => ?_⟩
      obtain ⟨e1, c', e2, e3⟩ := hy
      subst e1; subst e3
      have : c' = c := by
        rw [Array.getElem?_toList] at q
        rw [q] at e2; cases e2; rfl
      subst this
      exact ⟨m', Ext.refl, s, .str _⟩
  stop := fun m' S' H' le x s kp => by
    show z.cps.size ≤ _
    simp
end
section
variable {X : Cx} {W : WX} {tg e : Expr} {fe : DE}
theorem lstOf1 {S : Sto} {k : Nat} {l : List PV} (e : S[k]? = some (.lst l)) : lstOf k S = some l := by unfold lstOf; rw [e]
theorem lstOf2 {S : Sto} {k : Nat} {l : List PV} (e : S[k]? = some (.fz l)) : lstOf k S = some l := by unfold lstOf; rw [e]
/-- a list or a tuple -/
def dSeqI (f : DE) : DI := fun ρ S => bR (f ρ S) fun x S1 => match x with
  | .tup l => some (.ok ⟨l, []⟩ S1)
  | .loc k => match S1[k]? with
    | some (.lst l) => some (.ok ⟨l, [(k, .lst l)]⟩ S1)
    | some (.fz l) => some (.ok ⟨l, [(k, .fz l)]⟩ S1)
    | _ => none
  | _ => none
theorem di_seq (h : PEd X W e fe) : PId X W tg e (dSeqI fe) := (pi_seq h).imp fun σ H Q h => by
  refine (bind1 (ra := rE X.K) h).mono fun v H1 ⟨m, ρ, S, d, z, s, en, r1, hk, p⟩ => ?_
  split at hk
  · cases r1 with
    | @tup l a xs h1 h2 =>
      cases hk
      exact ⟨a, rfl, .inr ⟨⟨xs, h1⟩, p _ m H1 (Nat.le_refl _) Ext.refl s (itOk_tup h1 h2)⟩⟩
  · cases r1 with
    | loc hk' =>
      split at hk
      · rename_i e1
        cases hk
        have hl := lstOf1 e1
        obtain ⟨xs, h1, h2⟩ := lst_rp s hl
        exact ⟨_, rfl, .inl ⟨⟨xs, h1⟩, p _ m H1 (Nat.le_refl _) Ext.refl s (itOk_lst s e1 hl)⟩⟩
      · rename_i e1
        cases hk
        have hl := lstOf2 e1
        obtain ⟨xs, h1, h2⟩ := lst_rp s hl
        exact ⟨_, rfl, .inl ⟨⟨xs, h1⟩, p _ m H1 (Nat.le_refl _) Ext.refl s (itOk_lst s e1 hl)⟩⟩
      · cases hk
  · cases hk
def dStrI (f : DE) : DI := fun ρ S => bR (f ρ S) fun x S1 => match x with
  | .str z => some (.ok ⟨z.cps.toList.map fun c => .str ⟨#[c]⟩, []⟩ S1)
  | _ => none
theorem di_str (h : PEd X W e fe) : PId X W tg e (dStrI fe) := (pi_str h).imp fun σ H Q h => by
  refine (bind1 (ra := rE X.K) h).mono fun v H1 ⟨m, ρ, S, d, z, s, en, r1, hk, p⟩ => ?_
  split at hk
  · cases hk; cases r1
    exact ⟨_, rfl, p _ m H1 (Nat.le_refl _) Ext.refl s itOk_str⟩
  · cases hk
def dRng1 (f : DA) : DI := fun ρ S => bR (f ρ S) fun x S1 => match x with
  | [.int j] => some (.ok ⟨rangeP 0 j.toNat, []⟩ S1)
  | _ => none
def dRng2 (f : DA) : DI := fun ρ S => bR (f ρ S) fun x S1 => match x with
  | [.int i, .int j] => some (.ok ⟨rangeP i (j - i).toNat, []⟩ S1)
  | _ => none
theorem di_rng1 {a : Expr} {f : DA} {p pos : Pos} (hg : Gl X "range") (hm : X.mg "range" = none) (ha : PAd X W [a] f) (hs : starEach [a] X.env = [(false, eval a X.env)] := by rfl) : PId X W tg (.Call (.Name "range" p) [a] [] pos) (dRng1 f) :=
  (pi_rangeA1 hg hm ha hs).imp fun σ H Q h => by
  refine (bind1 (ra := rA X.K) h).mono fun v H1 ⟨m, ρ, S, d, z, s, en, r1, hk, p⟩ => ?_
  split at hk
  · cases hk
    cases r1 with
    | cons a b =>
      cases a; cases b
      exact ⟨_, rfl, p _ m H1 (Nat.le_refl _) Ext.refl s itOk_rng⟩
  · cases hk
theorem di_rng2 {a b : Expr} {f : DA} {p pos : Pos} (hg : Gl X "range") (hm : X.mg "range" = none) (ha : PAd X W [a, b] f) (hs : starEach [a, b] X.env = [(false, eval a X.env), (false, eval b X.env)] := by rfl) (hs2 : starEach [b] X.env = [(false, eval b X.env)] := by rfl) :
    PId X W tg (.Call (.Name "range" p) [a, b] [] pos) (dRng2 f) :=
  (pi_rangeA2 hg hm ha hs hs2).imp fun σ H Q h => by
  refine (bind1 (ra := rA X.K) h).mono fun v H1 ⟨m, ρ, S, d, z, s, en, r1, hk, p⟩ => ?_
  split at hk
  · cases hk
    cases r1 with
    | cons a b => cases b with
      | cons b c =>
        cases a; cases b; cases c
        exact ⟨_, _, rfl, p _ m H1 (Nat.le_refl _) Ext.refl s itOk_rng⟩
  · cases hk
end

/-! ### comprehensions -/
abbrev PTsd (X : Cx) (W : WX) (ifs : List Expr) (f : DB) : Prop := PTs X ifs (tT X.K X.mg W f)
theorem _root_.L2.PTs.imp {X : Cx} {e : List Expr} {t t' : TT} (h : PTs X e t) (i : ∀ σ H Q, t' σ H Q → t σ H Q) : PTs X e t' := ⟨fun pins s σ H Q I q => h.run pins s σ H Q I (i _ _ _ q)⟩
def dYes : DB := fun _ S => some (.ok true S)
theorem dts_nil {X : Cx} {W : WX} : PTsd X W [] dYes := pts_nil.imp fun σ H Q h => by
  obtain ⟨m, ρ, S, r, s, e, hf, p⟩ := h
  cases hf
  exact p _ m H (Nat.le_refl _) Ext.refl s rfl
theorem dts_one {X : Cx} {W : WX} {c : Expr} {f : DB} (h : PTd X W c f) : PTsd X W [c] f := pts_one h
abbrev W0 : WX := fun _ _ _ _ => False

/-- names that are set -/
def setsE : List Nat → List PV → En → En
  | i :: is, v :: vs, ρ => setsE is vs (ρ.set i (some v))
  | _, _, ρ => ρ
def setsV : List Nat → List V → L2.St → L2.St
  | i :: is, v :: vs, σ => setsV is vs (σ.set i (some v))
  | _, _, σ => σ
theorem wipe_set (σ : L2.St) (i : Nat) (o : Option V) : ∀ vs : List Nat, i ∈ vs → wipe (σ.set i o) vs = wipe σ vs
  | [], h => absurd h (by simp)
  | v :: vs, h => by
    unfold wipe
    by_cases hm : i ∈ vs
    · rw [wipe_set σ i o vs hm]
    · have hv : i = v := by
        rcases List.mem_cons.mp h with e | e
        · exact e
        · exact absurd e hm
      subst hv
      have : ∀ (vs : List Nat) (σ : L2.St), i ∉ vs → wipe (σ.set i o) vs = (wipe σ vs).set i o := by
        intro vs
        induction vs with
        | nil => intro σ _; rfl
        | cons u us ih =>
          intro σ hn
          unfold wipe
          rw [ih σ (fun q => hn (List.mem_cons_of_mem _ q)), List.set_comm _ _ (fun q => hn (by rw [q]; exact List.mem_cons_self))]
      rw [this vs σ hm, List.set_set]
theorem wipe_wipe (σ : L2.St) : ∀ vs ws : List Nat, (∀ i ∈ vs, i ∈ ws) → wipe (wipe σ vs) ws = wipe σ ws
  | [], _, _ => rfl
  | v :: vs, ws, h => by
    show wipe ((wipe σ vs).set v none) ws = _
    rw [wipe_set _ _ _ ws (h v List.mem_cons_self), wipe_wipe σ vs ws fun i hi => h i (List.mem_cons_of_mem _ hi)]
theorem wipe_sets : ∀ (is : List Nat) (xs : List V) (σ : L2.St) (vs : List Nat), (∀ i ∈ is, i ∈ vs) → wipe (setsV is xs σ) vs = wipe σ vs
  | [], _, _, _, _ => rfl
  | _ :: _, [], _, _, _ => rfl
  | i :: is, x :: xs, σ, vs, h => by
    show wipe (setsV is xs (σ.set i (some x))) vs = _
    rw [wipe_sets is xs _ vs fun j hj => h j (List.mem_cons_of_mem _ hj), wipe_set _ _ _ vs (h i List.mem_cons_self)]
theorem EnR.sets {K : PySem.W.Frag} {H : Hp} {m : Nat → Addr} {n : Nat} : ∀ (is : List Nat) {l : List PV} {xs : List V} {ρ : En} {σ : L2.St}, RpL K H m n l xs → EnR K H m n ρ σ → EnR K H m n (setsE is l ρ) (setsV is xs σ)
  | [], _, _, _, _, _, h => by
    unfold setsE setsV; exact h
  | i :: is, _, _, _, _, .nil, h => h
  | i :: is, _, _, _, _, .cons a r, h => EnR.sets is r (h.set a)
theorem EnR.wipe {K : PySem.W.Frag} {H : Hp} {m : Nat → Addr} {n : Nat} {ρ : En} {σ : L2.St} (h : EnR K H m n ρ σ) : ∀ vs : List Nat, EnR K H m n (killE vs ρ) (L2.wipe σ vs) := fun vs => by
  refine ⟨?_, fun i v e => ?_⟩
  · have : ∀ (vs : List Nat) (ρ : En), (killE vs ρ).length = ρ.length := by
      intro vs
      induction vs with
      | nil => intro ρ; rfl
      | cons v vs ih => intro ρ; show (killE vs (ρ.set v none)).length = _; rw [ih, List.length_set]
    rw [this, wipe_length, h.len]
  · have key : ∀ (vs : List Nat) (ρ : En), (killE vs ρ)[i]? = some (some v) → ρ[i]? = some (some v) ∧ i ∉ vs := by
      intro vs
      induction vs with
      | nil => intro ρ e; exact ⟨e, by simp⟩
      | cons u us ih =>
        intro ρ e
        obtain ⟨e1, e2⟩ := ih (ρ.set u none) e
        by_cases hu : u = i
        · subst hu
          by_cases hl : u < ρ.length
          · rw [List.getElem?_set_self hl] at e1; cases e1
          · rw [List.set_eq_of_length_le (by omega)] at e1
            exact absurd (lt_of_get e1) hl
        · rw [List.getElem?_set_ne hu] at e1
          exact ⟨e1, fun q => (List.mem_cons.mp q).elim (fun z => hu z.symm) e2⟩
    obtain ⟨e1, e2⟩ := key vs ρ e
    obtain ⟨x, h1, h2⟩ := h.at_ i v e1
    refine ⟨x, ?_, h2⟩
    have : ∀ vs : List Nat, i ∉ vs → (L2.wipe σ vs)[i]? = σ[i]? := by
      intro vs
      induction vs with
      | nil => intro _; rfl
      | cons u us ih =>
        intro hn
        show ((L2.wipe σ us).set u none)[i]? = _
        rw [List.getElem?_set_ne (fun q => hn (by rw [← q]; exact List.mem_cons_self)), ih fun q => hn (List.mem_cons_of_mem _ q)]
    rw [this vs e2]; exact h1
/-- a target of names alone: one name, or a tuple of names -/
structure NmT (K : PySem.W.Frag) (mg : Str → Option Value) (g : TG) (f : PV → Option (List Nat × List PV)) (own : List Nat) : Prop where
  run : ∀ (m : Nat → Addr) (S : Sto) (H : Hp) (d : PV) (v : V) (is : List Nat) (l : List PV) (σ : L2.St) (Q : L2.St → Hp → Prop), StS K mg m S H → Rp K H m S.length d v → f d = some (is, l) →
    (∀ i ∈ is, i ∈ own) ∧ ((∀ xs, RpL K H m S.length l xs → Q (setsV is xs σ) H) → g v σ H Q)
def nmOne (i : Nat) : PV → Option (List Nat × List PV) := fun d => some ([i], [d])
def nmTup (is : List Nat) : PV → Option (List Nat × List PV) := fun d => match d with
  | .tup l => if l.length = is.length then some (is, l) else none
  | _ => none
theorem nm_one {K : PySem.W.Frag} {mg : Str → Option Value} (i : Nat) : NmT K mg (gName i) (nmOne i) [i] := ⟨fun m S H d v is l σ Q s r e => by
  cases e
  exact ⟨by simp, fun q => q [v] (.cons r .nil)⟩⟩
def gNames : List Nat → TGs
  | [] => gNil
  | i :: is => gCons (gName i) (gNames is)
theorem names_run : ∀ (is : List Nat) (xs : List V) (σ : L2.St) (H : Hp) (Q : L2.St → Hp → Prop), xs.length = is.length → Q (setsV is xs σ) H → gNames is xs σ H Q
  | [], [], _, _, _, _, q => ⟨rfl, q⟩
  | [], _ :: _, _, _, _, h, _ => by simp at h
  | _ :: _, [], _, _, _, h, _ => by simp at h
  | i :: is, x :: xs, σ, H, Q, h, q => ⟨x, xs, rfl, names_run is xs _ H Q (by simpa using h) q⟩
theorem nm_tup {K : PySem.W.Frag} {mg : Str → Option Value} (is : List Nat) {c : Nat} (hc : c = is.length := by rfl) : NmT K mg (gTup K c (gNames is)) (nmTup is) is := ⟨fun m S H d v is' l σ Q s r e => by
  unfold nmTup at e
  split at e
  · split at e
    · rename_i hl
      cases e
      cases r with
      | @tup _ a xs h1 h2 =>
        refine ⟨fun _ h => h, fun q => ⟨a, xs, rfl, h1, by rw [hc, ← hl]; exact h2.length.symm, names_run _ _ _ _ _ (by rw [← h2.length]; exact hl) (q xs h2)⟩⟩
    · cases e
  · cases e⟩
open Classical in
noncomputable def compL (c : Nat) (f : PV → Option (List Nat × List PV)) (own : List Nat) (tt : DB) (elt : DE) (keep : List (Nat × PO)) : List PV → En → Sto → Option (R PV)
  | [], ρ, S => if Kept keep S then some (.ok (.loc c) S) else none
  | x :: xs, ρ, S => if Kept keep S then match f x with
    | some (is, l) => match tt (setsE is l (killE own ρ)) S with
      | some (.ok true S2) => match elt (setsE is l (killE own ρ)) S2 with
        | some (.ok v S3) => match S3[c]? with
          | some (.lst acc) => if acc.length < 16777216 then compL c f own tt elt keep xs ρ (S3.set c (.lst (acc ++ [v]))) else none
          | _ => none
        | _ => none
      | some (.ok false S2) => compL c f own tt elt keep xs ρ S2
      | _ => none
    | none => none else none
noncomputable def dComp (it : DI) (f : PV → Option (List Nat × List PV)) (own : List Nat) (tt : DB) (elt : DE) : DE := fun ρ S => bR (it ρ S) fun src S1 => compL S1.length f own tt elt src.keep src.items ρ (S1 ++ [.lst []])
theorem lift_comp {K : PySem.W.Frag} {mg : Str → Option Value} {W : WX} {it : DI} {g : TG} {f : PV → Option (List Nat × List PV)} {own ownG : List Nat} {tt : DB} {elt : DE} {σ : L2.St} {H : Hp} {Q : VK} (hg : NmT K mg g f ownG) (ho : ∀ i ∈ ownG, i ∈ own)
    (h : tD K mg W (dComp it f own tt elt) σ H Q) : tLc (tG K mg (rItr K mg) W it) g (tT K mg W0 tt) (tD K mg W0 elt) own σ H Q := by
  refine (bind1 (ra := rItr K mg) h).mono fun J H0 ⟨m0, ρ, S0, src, r, s0, e0, ok, hk, p0⟩ => ?_
  intro D hD
  have st0 := s0.push (p := D) (ho := .lst []) (po := .lst []) hD rfl ⟨[], upd_same, .nil⟩
  have x0 : Ext K S0.length m0 H0 (mext m0 S0.length D) (upd H0 D (.lst [])) := ext_push hD
  have hlen0 : (S0 ++ [PO.lst []]).length = S0.length + 1 := by simp
  refine ⟨fun i c H => c = src.items.length - i ∧ i ≤ src.items.length ∧ ∃ m S, StS K mg m S H ∧ S0.length + 1 ≤ S.length ∧ Ext K (S0.length + 1) (mext m0 S0.length D) (upd H0 D (.lst [])) m H ∧ compL S0.length f own tt elt src.keep (src.items.drop i) ρ S = some r,
    ⟨src.items.length, rfl, Nat.zero_le _, _, _, st0, by simp, Ext.refl, hk⟩, ?_⟩
  rintro i c H ⟨rfl, hi, m, S, s, le, x, hf⟩
  have x1 : Ext K S0.length m0 H0 m H := x0.trans x (Nat.le_succ _)
  have le1 : S0.length ≤ S.length := by omega
  have hmD : m S0.length = D := by
    rw [x.mp _ (Nat.lt_succ_self _), mext_same]
  by_cases hlt : i < src.items.length
  · have ed : src.items.drop i = src.items[i] :: src.items.drop (i + 1) := List.drop_eq_getElem_cons hlt
    rw [ed] at hf
    unfold compL at hf
    split at hf
    · rename_i kp
      obtain ⟨go, yl⟩ := ok.go i src.items[i] m S H le1 x1 s kp (List.getElem?_eq_getElem hlt)
      split at hf
      · rename_i is l hfl
        refine .inr ⟨go, fun H' => ∃ m' S', StS K mg m' S' H' ∧ S0.length + 1 ≤ S'.length ∧ Ext K (S0.length + 1) (mext m0 S0.length D) (upd H0 D (.lst [])) m' H' ∧ compL S0.length f own tt elt src.keep (src.items.drop (i + 1)) ρ S' = some r, ?_, fun y H2 hy => ?_⟩
        · rintro H' ⟨m', S', s', le', x', hf'⟩
          exact ⟨src.items.length - (i + 1), by omega, rfl, hlt, m', S', s', le', x', hf'⟩
        · obtain ⟨m2, x2, s2, r2⟩ := yl y H2 hy
          have x02 : Ext K (S0.length + 1) (mext m0 S0.length D) (upd H0 D (.lst [])) m2 H2 := x.trans x2 le
          obtain ⟨hin, hrun⟩ := hg.run m2 S H2 src.items[i] y is l (wipe σ own) (fun σ2 H2 => wipe σ2 own = wipe σ own ∧ tT K mg W0 tt σ2 H2 fun b H3 =>
            if b = true then tD K mg W0 elt σ2 H3 fun y H4 => ∃ acc, H4 D = some (.lst acc) ∧ acc.length < sizeLine ∧ ∃ m' S', StS K mg m' S' (upd H4 D (.lst (acc ++ [y]))) ∧ S0.length + 1 ≤ S'.length ∧ Ext K (S0.length + 1) (mext m0 S0.length D) (upd H0 D (.lst [])) m' (upd H4 D (.lst (acc ++ [y]))) ∧ compL S0.length f own tt elt src.keep (src.items.drop (i + 1)) ρ S' = some r
            else ∃ m' S', StS K mg m' S' H3 ∧ S0.length + 1 ≤ S'.length ∧ Ext K (S0.length + 1) (mext m0 S0.length D) (upd H0 D (.lst [])) m' H3 ∧ compL S0.length f own tt elt src.keep (src.items.drop (i + 1)) ρ S' = some r) s2 r2 hfl
          refine hrun fun xs rxs => ⟨?_, ?_⟩
          · rw [wipe_sets is xs _ own fun i hi => ho i (hin i hi), wipe_wipe σ own own fun _ h => h]
          · have en2 : EnR K H2 m2 S.length (setsE is l (killE own ρ)) (setsV is xs (wipe σ own)) := EnR.sets is rxs ((e0.mono (x1.trans x2 le1) le1).wipe own)
            cases q : tt (setsE is l (killE own ρ)) S with
            | none => rw [q] at hf; cases hf
            | some z =>
              rw [q] at hf
              cases z with
              | exc ex T => cases hf
              | ok b S2 =>
                refine ⟨m2, _, S, .ok b S2, s2, en2, q, fun b' m3 H3 le3 x3 s3 rb => ?_⟩
                cases rb
                have x03 := x02.trans x3 le
                have le03 : S0.length + 1 ≤ S2.length := Nat.le_trans le le3
                cases b with
                | false =>
                  rw [if_neg Bool.false_ne_true]
                  exact ⟨m3, S2, s3, le03, x03, hf⟩
                | true =>
                  rw [if_pos rfl]
                  dsimp only at hf
                  have en3 := en2.mono x3 le3
                  cases q2 : elt (setsE is l (killE own ρ)) S2 with
                  | none => rw [q2] at hf; cases hf
                  | some z2 =>
                    rw [q2] at hf
                    cases z2 with
                    | exc ex T => cases hf
                    | ok v S3 =>
                      refine ⟨m3, _, S2, .ok v S3, s3, en3, q2, fun v' m4 H4 le4 x4 s4 rv => ?_⟩
                      have x04 := x03.trans x4 le03
                      have le04 : S0.length + 1 ≤ S3.length := Nat.le_trans le03 le4
                      dsimp only at hf
                      split at hf
                      · rename_i acc hacc
                        split at hf
                        · rename_i hz
                          have hm4 : m4 S0.length = D := by rw [x04.mp _ (Nat.lt_succ_self _), mext_same]
                          obtain ⟨ys, h1, h2⟩ := s4.obj _ _ hacc
                          rw [hm4] at h1
                          have mu : Mut (H4 D) := by rw [h1]; trivial
                          have ex5 : Ext K S3.length m4 H4 m4 (upd H4 D (.lst (ys ++ [v']))) := ext_upd (.inr mu)
                          refine ⟨ys, h1, by rw [← h2.length]; exact Nat.lt_of_lt_of_le hz (by decide), m4, S3.set S0.length (.lst (acc ++ [v])), ?_, by rw [List.length_set]; exact le04, x04.trans ex5 le04, hf⟩
                          have := s4.write (k := S0.length) (ho := .lst (ys ++ [v'])) (po' := .lst (acc ++ [v])) hacc rfl rfl ⟨ys ++ [v'], by rw [hm4]; exact upd_same, by
                            rw [hm4]
                            exact (h2.mono ex5 (Nat.le_refl _)).append (.cons (Rp.mono ex5 (Nat.le_refl _) rv) .nil)⟩
                          rw [hm4] at this
                          exact this
                        · cases hf
                      · cases hf
      · cases hf
    · cases hf
  · have ei : i = src.items.length := by omega
    subst ei
    rw [List.drop_length] at hf
    unfold compL at hf
    split at hf
    · rename_i kp
      cases hf
      refine .inl ⟨ok.stop m S H le1 x1 s kp, ?_⟩
      have rp : Rp K H m S.length (.loc S0.length) (.ref (m S0.length)) := .loc (by omega)
      rw [hmD] at rp
      exact p0 _ m H le1 x1 s rp
    · cases hf
section
variable {X : Cx} {W : WX} {elt tg iter : Expr} {ifs : List Expr} {scope : Scope} {own : List (Str × Nat)} {pos : Pos} {it : DI} {g : TG} {f : PV → Option (List Nat × List PV)} {ownG : List Nat} {tt : DB} {te : DE}
theorem de_comp (hc : X.calm = true) (hN : X.N.Nodup) (hi : PId X W tg iter it) (ok : BlkOk X.N X.env.scope scope own) (hn : NmT X.K X.mg g f ownG)
    (hg : ∀ (s : Shared) (H : Hp) (C : Addr) (cl : List (Str × Addr)) (fp : List Addr), PG (X.blk s H scope (compEnvC scope cl C X.env) fp) tg g)
    (ht : ∀ (s : Shared) (H : Hp) (C : Addr) (cl : List (Str × Addr)) (fp : List Addr), PTsd (X.blk s H scope (compEnvC scope cl C X.env) fp) W0 ifs tt)
    (he : ∀ (s : Shared) (H : Hp) (C : Addr) (cl : List (Str × Addr)) (fp : List Addr), PEd (X.blk s H scope (compEnvC scope cl C X.env) fp) W0 elt te) (ho : ∀ i ∈ ownG, i ∈ own.map (·.2) := by decide) (hs : ∀ x, foldedSetIterable iter X.env x = pure x := by intro _; rfl) :
    PEd X W (.ListComp elt [⟨tg, iter, ifs, 0⟩] scope pos) (dComp it f (own.map (·.2)) tt te) :=
  (pe_lc hc hN hi ok hg ht he hs).imp fun σ H Q h => lift_comp hn ho h
theorem ds_setComp {i : Nat} {y : Str} {py spos : Pos} (hc : X.calm = true) (hN : X.N.Nodup) (hy : X.N[i]? = some y) (hyl : X.env.scope.names.lookup y = some .local)
    (hsw : swapsWith (.ListComp elt [⟨tg, iter, ifs, 0⟩] scope pos) (some (.Name y py)) spos.line X.env = pure true) (hi : PId X W tg iter it) (ok : BlkOk X.N X.env.scope scope own) (hn : NmT X.K X.mg g f ownG)
    (hg : ∀ (s : Shared) (H : Hp) (C : Addr) (cl : List (Str × Addr)) (fp : List Addr), PG (X.blk s H scope (compEnvC scope cl C X.env) fp) tg g)
    (ht : ∀ (s : Shared) (H : Hp) (C : Addr) (cl : List (Str × Addr)) (fp : List Addr), PTsd (X.blk s H scope (compEnvC scope cl C X.env) fp) W0 ifs tt)
    (he : ∀ (s : Shared) (H : Hp) (C : Addr) (cl : List (Str × Addr)) (fp : List Addr), PEd (X.blk s H scope (compEnvC scope cl C X.env) fp) W0 elt te) (ho : ∀ i ∈ ownG, i ∈ own.map (·.2) := by decide) (hs : ∀ x, foldedSetIterable iter X.env x = pure x := by intro _; rfl) :
    PSd X W (.Assign [.Name y py] (.ListComp elt [⟨tg, iter, ifs, 0⟩] scope pos) spos) (dSet i (dComp it f (own.map (·.2)) tt te)) :=
  (ps_setLc hc hN hy hyl hsw hi ok hg ht he hs).imp fun D σ H h => by
  have h2 : tD X.K X.mg W (dComp it f (own.map (·.2)) tt te) σ H fun v H1 => ∃ m ρ S d r, StS X.K X.mg m S H1 ∧ EnR X.K H1 m S.length ρ σ ∧ rE X.K H1 m S.length d v ∧ some (RS.next (ρ.set i (some d)) S) = some r ∧ PostS X.K X.mg W m S H1 r D := bindS (ra := rE X.K) h
  have h3 : tD X.K X.mg W (dComp it f (own.map (·.2)) tt te) σ H fun v H1 => gName i v σ H1 D.nx := h2.mono fun v H1 ⟨m, ρ, S, d, r, s, en, r1, hk, p⟩ => by
    cases hk
    exact p _ m H1 (Nat.le_refl _) Ext.refl s (en.set r1)
  exact lift_comp hn ho h3
end
end D

/-! D7: chains, methods, stores, isinstance, exceptions. -/
namespace D
open PySem PySem.Spec PyProof.Rows L2

/-! ### a < b < c -/
def dChain (g g' : G2) (a b c : DE) : DE := fun ρ S => bR (a ρ S) fun x S1 => bR (b ρ S1) fun y S2 => bR (g x y S2) fun z S3 => match z with
  | .bl true => bR (c ρ S3) fun w S4 => g' y w S4
  | .bl false => some (.ok (.bl false) S3)
  | _ => none
theorem lift_chain {K : PySem.W.Frag} {mg : Str → Option Value} {W : WX} {σ : L2.St} {H : Hp} {Q : VK} {r r' : R2} {g g' : G2} {fa fb fc : DE} (hg : OkG2 K mg r g) (hg' : OkG2 K mg r' g') (h : tD K mg W (dChain g g' fa fb fc) σ H Q) :
    tChain r r' (tD K mg W fa) (tD K mg W fb) (tD K mg W fc) σ H Q := by
  refine (bind2 (ra := rE K) (rb := rE K) keeps_E (k := fun ρ x y S2 => bR (g x y S2) fun z S3 => match z with
    | .bl true => bR (fc ρ S3) fun w S4 => g' y w S4
    | .bl false => some (.ok (.bl false) S3)
    | _ => none) h).mono fun v H1 h1 => h1.mono fun u H2 ⟨m, ρ, S, d, d', z, s, e, r1, r2, hk, p⟩ => ?_
  have hk : bR (g d d' S) (fun z S3 => match z with
    | .bl true => bR (fc ρ S3) fun w S4 => g' d' w S4
    | .bl false => some (.ok (.bl false) S3)
    | _ => none) = some z := hk
  cases q : g d d' S with
  | none => rw [q] at hk; cases hk
  | some z1 =>
    rw [q] at hk
    refine hg W σ m S H2 v u d d' z1 _ s r1 r2 q ?_
    cases z1 with
    | exc x T => cases hk; exact p
    | ok z2 T =>
      intro v2 m2 H3 le x s2 rv
      unfold bR at hk
      dsimp only at hk
      split at hk
      · cases rv
        refine ⟨true, rfl, ?_⟩
        rw [if_pos rfl]
        cases q3 : fc ρ T with
        | none => rw [q3] at hk; cases hk
        | some z3 =>
          rw [q3] at hk
          refine ⟨m2, ρ, T, z3, s2, e.mono x le, q3, ?_⟩
          cases z3 with
          | exc ex T => cases hk; exact p.on le x
          | ok w T2 => exact fun w' m3 H4 le3 x3 s3 rw => hg' W σ m3 T2 H4 _ _ _ _ _ _ s3 (r2.mono (x.trans x3 le) (Nat.le_trans le le3)) rw hk (p.on (Nat.le_trans le le3) (x.trans x3 le))
      · cases rv
        cases hk
        refine ⟨false, rfl, ?_⟩
        rw [if_neg Bool.false_ne_true]
        exact p _ m2 H3 le x s2 (.bl _)
      · cases hk
theorem de_chain {X : Cx} {W : WX} {pos : Pos} {a b c : Expr} {op op' : CmpOp} {r r' : R2} {g g' : G2} {fa fb fc : DE} (ho : OpR X (compareOp op) r) (ho' : OpR X (compareOp op') r') (hg : OkG2 X.K X.mg r g) (hg' : OkG2 X.K X.mg r' g') (ha : PEd X W a fa) (hb : PEd X W b fb) (hc : PEd X W c fc)
    (hm : lastMarks [op, op'] [b, c] = false := by with_unfolding_all rfl) : PEd X W (.Compare a [op, op'] [b, c] pos) (dChain g g' fa fb fc) := (pe_chain ho ho' ha hb hc hm).imp fun _ _ _ h => lift_chain hg hg' h
def dChainT (g g' : G2) (a b c : DE) : DB := fun ρ S => asB (dChain g g' a b c ρ S)
theorem dt_chain {X : Cx} {W : WX} {pos : Pos} {a b c : Expr} {op op' : CmpOp} {r r' : R2} {g g' : G2} {fa fb fc : DE} (ho : OpR X (compareOp op) r) (ho' : OpR X (compareOp op') r') (hg : OkG2 X.K X.mg r g) (hg' : OkG2 X.K X.mg r' g') (ha : PEd X W a fa) (hb : PEd X W b fb) (hc : PEd X W c fc)
    (hm : lastMarks [op, op'] [b, c] = false := by with_unfolding_all rfl) : PTd X W (.Compare a [op, op'] [b, c] pos) (dChainT g g' fa fb fc) := (pt_chain ho ho' ha hb hc hm).imp fun σ H Q h => by
  refine lift_chain hg hg' ((bind1 (ra := rE X.K) h).mono fun v H1 ⟨m, ρ, S, d, z, s, e, r1, hk, p⟩ => ?_)
  cases d <;> try cases hk
  cases r1
  exact ⟨_, rfl, p _ m H1 (Nat.le_refl _) Ext.refl s rfl⟩
/-! ### and, or, not of values that are truth values -/
def isBl (r : Option (R PV)) (k : Bool → Sto → Option (R PV)) : Option (R PV) := bR r fun x S => match x with
  | .bl b => k b S
  | _ => none
def dAnd2 (f g : DE) : DE := fun ρ S => isBl (f ρ S) fun b S1 => if b = true then g ρ S1 else some (.ok (.bl false) S1)
def dOr2 (f g : DE) : DE := fun ρ S => isBl (f ρ S) fun b S1 => if b = true then some (.ok (.bl true) S1) else g ρ S1
def dNot2 (f : DE) : DE := fun ρ S => isBl (f ρ S) fun b S1 => some (.ok (.bl (!b)) S1)
section
variable {X : Cx} {W : WX} {pos : Pos} {a b : Expr} {fa fb : DE} {rest : List Expr}
theorem de_and (ha : PEd X W a fa) (hb : PEd X W (.BoolOp .And (b :: rest) pos) fb) : PEd X W (.BoolOp .And (a :: b :: rest) pos) (dAnd2 fa fb) := (pe_and ha hb).imp fun σ H Q h => by
  refine (bind1 (ra := rE X.K) h).mono fun v H1 ⟨m, ρ, S, d, z, s, e, r1, hk, p⟩ => ?_
  cases d <;> try cases hk
  rename_i c
  cases r1
  refine ⟨_, rfl, ?_⟩
  cases c with
  | true => exact ⟨m, ρ, S, z, s, e, hk, p⟩
  | false =>
    cases hk
    exact p _ m H1 (Nat.le_refl _) Ext.refl s (.bl _)
theorem de_or (ha : PEd X W a fa) (hb : PEd X W (.BoolOp .Or (b :: rest) pos) fb) : PEd X W (.BoolOp .Or (a :: b :: rest) pos) (dOr2 fa fb) := (pe_or ha hb).imp fun σ H Q h => by
  refine (bind1 (ra := rE X.K) h).mono fun v H1 ⟨m, ρ, S, d, z, s, e, r1, hk, p⟩ => ?_
  cases d <;> try cases hk
  rename_i c
  cases r1
  refine ⟨_, rfl, ?_⟩
  cases c with
  | false => exact ⟨m, ρ, S, z, s, e, hk, p⟩
  | true =>
    cases hk
    exact p _ m H1 (Nat.le_refl _) Ext.refl s (.bl _)
theorem de_not (ha : PEd X W a fa) : PEd X W (.UnaryOp .Not a pos) (dNot2 fa) := (pe_not ha).imp fun σ H Q h => by
  refine (bind1 (ra := rE X.K) h).mono fun v H1 ⟨m, ρ, S, d, z, s, e, r1, hk, p⟩ => ?_
  cases d <;> try cases hk
  cases r1
  exact ⟨_, rfl, p _ m H1 (Nat.le_refl _) Ext.refl s (.bl _)⟩
theorem de_one {op : BoolOp} (ha : PEd X W a fa) : PEd X W (.BoolOp op [a] pos) fa := pe_one ha
end
/-! ### isinstance -/
def tyName (x : PV) (S : Sto) : Option String := match x with
  | .non => some "NoneType"
  | .bl _ => some "bool"
  | .int _ => some "int"
  | .str _ => some "str"
  | .tup _ => some "tuple"
  | .loc k => match S[k]? with
    | some (.lst _) => some "list"
    | some (.fz _) => some "list"
    | some (.dct _ _) => some "dict"
    | _ => none
  | .ty _ => none
  | .xc _ _ _ => none
def isaP (a b : String) : Option Bool :=
  if a ∈ ["NoneType", "bool", "int", "str", "tuple", "list", "dict"] ∧ b ∈ ["bool", "int", "str", "tuple", "list", "dict"] then some (a == b || (a == "bool" && b == "int")) else none
def gIsa : GA := fun l S => match l with
  | [x, .ty b] => match tyName x S with
    | some a => match isaP a b with
      | some k => some (.ok (.bl k) S)
      | none => none
    | none => none
  | _ => none
theorem isaP_kit {a b : String} {k : Bool} (h : isaP a b = some k) : kitB a b = some k := by
  unfold isaP at h
  split at h
  · rename_i hc
    obtain ⟨h1, h2⟩ := hc
    cases h
    simp only [List.mem_cons, List.mem_nil_iff, or_false] at h1 h2
    rcases h1 with rfl | rfl | rfl | rfl | rfl | rfl | rfl <;> rcases h2 with rfl | rfl | rfl | rfl | rfl | rfl <;> decide +kernel
  · cases h
section
variable {K : PySem.W.Frag} {mg : Str → Option Value}
theorem tyX_of {H : Hp} {m : Nat → Addr} {S : Sto} {x : PV} {v : V} {a : String} (s : StS K mg m S H) (r : Rp K H m S.length x v) (h : tyName x S = some a) : TyX K H v (.type a) := by
  cases r with
  | non => cases h; exact .base .non
  | bl b => cases h; exact .base (.bl b)
  | int b => cases h; exact .base (.int b)
  | str b => cases h; exact .base (.str b)
  | ty b => cases h
  | xc _ => cases h
  | tup hs hl =>
    cases h
    rcases hs with (hs | ⟨o, hs⟩) | ⟨o, its, n, h1, h2, _⟩
    · exact .base (.tup hs)
    · exact .fTuple hs
    · exact .kTuple h1 h2
  | loc hk =>
    unfold tyName at h
    dsimp only at h
    split at h
    · rename_i e
      cases h
      obtain ⟨xs, h1, _⟩ := s.obj _ _ e
      exact .base (.lst h1)
    · rename_i e
      cases h
      obtain ⟨xs, h1, _⟩ := s.obj _ _ e
      rcases h1 with ⟨o, h1⟩ | ⟨o, its, n, h1, h2, _⟩
      · exact .base (.frz h1)
      · exact .kList h1 h2
    · rename_i e
      cases h
      rcases s.obj _ _ e with ⟨_, xs, h1, _⟩ | ⟨_, xs, h1, _⟩
      · exact .base (.dK h1)
      · exact .base (.dT h1)
    · cases h
theorem ok_isa : OkGA K mg (rIsi K) gIsa := fun W σ m S H x d z Q s r e p => by
  unfold gIsa at e
  split at e
  · rename_i x b
    split at e
    · rename_i a ha
      split at e
      · rename_i k hk
        cases e
        cases r with
        | cons r1 r2 => cases r2 with
          | cons r2 r3 =>
            cases r2; cases r3
            exact ⟨_, _, _, _, k, rfl, .ty _, tyX_of s r1 ha, kit_ty (isaP_kit hk), post_here s (.bl _) p⟩
      · cases e
    · cases e
  · cases e
end
theorem de_bltn {X : Cx} {W : WX} {x : Str} {n : String} {pos : Pos} (hg : Gl X x) (hm : X.mg x = none) (hv : bootBuiltins x = some (.type n)) (hn : x ≠ "__name__" := by decide) (hd : (x == ("__debug__" : Str)) = false := by decide) : PEd X W (.Name x pos) (dC (.ty n)) :=
  de_c (pe_bltn (v := .ty n) hg hm hv rfl hn hd) fun _ _ _ _ => .ty n

/-! ### methods of built-in types -/
abbrev GM := PV → List PV → Sto → Option (R PV)
def OkGM (K : PySem.W.Frag) (mg : Str → Option Value) (r : V → List V → Hp → VK → Prop) (g : GM) : Prop :=
  ∀ (W : WX) (σ : L2.St) (m : Nat → Addr) (S : Sto) (H : Hp) (o : V) (x : List V) (c : PV) (d : List PV) (z : R PV) (Q : VK), StS K mg m S H → Rp K H m S.length c o → RpL K H m S.length d x → g c d S = some z → PostG K mg (rE K) W σ m S H z Q → r o x H Q
def tyP (T : String) (x : PV) (S : Sto) : Bool := match x with
  | .str _ => T == "str"
  | .loc k => match S[k]? with
    | some (.lst _) => T == "list"
    | some (.fz _) => T == "list"
    | some (.dct _ _) => T == "dict"
    | _ => false
  | _ => false
theorem tyV_of {K : PySem.W.Frag} {mg : Str → Option Value} {H : Hp} {m : Nat → Addr} {S : Sto} {x : PV} {v : V} {T : String} (s : StS K mg m S H) (r : Rp K H m S.length x v) (h : tyP T x S = true) : tyV K T v H := by
  unfold tyP at h
  split at h
  · cases r
    exact beq_iff_eq.mp h
  · cases r
    split at h
    · rename_i e
      obtain ⟨xs, h1, _⟩ := s.obj _ _ e
      exact .inl ⟨beq_iff_eq.mp h, xs, SqL.of h1⟩
    · rename_i e
      obtain ⟨xs, h1, _⟩ := s.obj _ _ e
      exact .inl ⟨beq_iff_eq.mp h, xs, h1.sq⟩
    · rename_i e
      rcases s.obj _ _ e with ⟨_, xs, h1, _⟩ | ⟨_, xs, h1, _⟩
      · exact .inr (.inr (.inl ⟨beq_iff_eq.mp h, .inl ⟨xs, h1⟩⟩))
      · exact .inr (.inr (.inl ⟨beq_iff_eq.mp h, .inr ⟨xs, h1⟩⟩))
    · cases h
  · cases h
def dMeth (T : String) (g : GM) (o : DE) (a : DA) : DE := fun ρ S => bR (o ρ S) fun x S1 => if tyP T x S1 = true then bR (a ρ S1) fun xs S2 => g x xs S2 else none
theorem lift_meth {K : PySem.W.Frag} {mg : Str → Option Value} {W : WX} {σ : L2.St} {H : Hp} {Q : VK} {T : String} {r : V → List V → Hp → VK → Prop} {g : GM} {fo : DE} {fa : DA} (hg : OkGM K mg r g) (h : tD K mg W (dMeth T g fo fa) σ H Q) :
    tBM K T r (tD K mg W fo) (tA K mg W fa) σ H Q := by
  refine (bind1 (ra := rE K) (k := fun ρ x S1 => if tyP T x S1 = true then bR (fa ρ S1) fun xs S2 => g x xs S2 else none) h).mono fun v H1 ⟨m, ρ, S, d, z, s, e, r1, hk, p⟩ => ?_
  have hk : (if tyP T d S = true then bR (fa ρ S) fun xs S2 => g d xs S2 else none) = some z := hk
  split at hk
  · rename_i hT
    refine ⟨tyV_of s r1 hT, ?_⟩
    cases q : fa ρ S with
    | none => rw [q] at hk; cases hk
    | some z1 =>
      rw [q] at hk
      refine ⟨m, ρ, S, z1, s, e, q, ?_⟩
      cases z1 with
      | exc x T2 => cases hk; exact p
      | ok l T2 => exact fun xs m2 H2 le x s2 rx => hg W σ m2 T2 H2 v xs d l z Q s2 (r1.mono x le) rx hk (p.on le x)
  · cases hk
section
variable {X : Cx} {W : WX} {o e : Expr} {es : List Expr} {fo : DE} {fa : DA} {name : Str} {apos cpos : Pos} {T id : String} {r : V → List V → Hp → VK → Prop} {g : GM}
theorem de_bm (pa : PlainAttrs T) (slot : Slot T name id) (hty : typeOf (.builtin id) = pure (.type "method_descriptor")) (hm : MtR X id r) (hg : OkGM X.K X.mg r g) (ho : PEd X W o fo) (ha : PAd X W (e :: es) fa)
    (hbase : attributeBase o name X.env (eval o X.env) = eval o X.env := by rfl)
    (hfew : ((backTo cpos (starEach (e :: es) X.env)).all (fun x => !x.1) && (backToKw cpos (keywordEach [] X.env)).all (fun x => x.1.isSome)
      && decide ((e :: es).length + ([] : List Keyword).length + (if ([] : List Keyword).isEmpty then 0 else 1) < 30)) = true := by rfl)
    (hline : (apos.endLine == cpos.line) = true := by rfl) (hs : starEach (e :: es) X.env = (false, eval e X.env) :: starEach es X.env := by rfl) (hplain : (backTo cpos (starEach es X.env)).any (·.1) = false := by rfl) :
    PEd X W (.Call (.Attribute o name apos) (e :: es) [] cpos) (dMeth T g fo fa) := (pe_bm pa slot hty hm ho ha hbase hfew hline hs hplain).imp fun _ _ _ h => lift_meth hg h
theorem de_bm0 (pa : PlainAttrs T) (slot : Slot T name id) (hty : typeOf (.builtin id) = pure (.type "method_descriptor")) (hm : MtR X id r) (hg : OkGM X.K X.mg r g) (ho : PEd X W o fo)
    (hbase : attributeBase o name X.env (eval o X.env) = eval o X.env := by rfl) (hline : (apos.endLine == cpos.line) = true := by rfl) : PEd X W (.Call (.Attribute o name apos) [] [] cpos) (dMeth T g fo dNil) :=
  (pe_bm0 pa slot hty hm ho hbase hline).imp fun σ H Q h => by
  refine (bind1 (ra := rE X.K) (k := fun ρ x S1 => if tyP T x S1 = true then bR (dNil ρ S1) fun xs S2 => g x xs S2 else none) h).mono fun v H1 ⟨m, ρ, S, d, z, s, e, r1, hk, p⟩ => ?_
  have hk : (if tyP T d S = true then bR (dNil ρ S) fun xs S2 => g d xs S2 else none) = some z := hk
  split at hk
  · rename_i hT
    exact ⟨tyV_of s r1 hT, hg W σ m S H1 v [] d [] z Q s r1 .nil hk p⟩
  · cases hk
end
section
variable {K : PySem.W.Frag} {mg : Str → Option Value} {W : WX} {σ : L2.St} {m : Nat → Addr} {S : Sto} {H : Hp}
/-- a stored list is changed -/
theorem list_set {k : Nat} {l l' : List PV} {xs' : List V} {v : V} {dv : PV} {Q : VK} (s : StS K mg m S H) (e : S[k]? = some (.lst l)) (r : RpL K H m S.length l' xs') (rv : Rp K H m S.length dv v) (p : PostG K mg (rE K) W σ m S H (.ok dv (S.set k (.lst l'))) Q) : Q v (upd H (m k) (.lst xs')) := by
  have mu := s.mut e rfl
  have x : Ext K S.length m H m (upd H (m k) (.lst xs')) := ext_upd (.inr mu)
  have st := s.write (ho := .lst xs') (po' := .lst l') e rfl rfl ⟨xs', upd_same, r.mono x (Nat.le_refl _)⟩
  refine p v m _ (by rw [List.length_set]; exact Nat.le_refl _) x st ?_
  rw [List.length_set]
  exact rv.mono x (Nat.le_refl _)
def gAppend : GM := fun c d S => match c, d with
  | .loc k, [y] => match S[k]? with
    | some (.lst l) => if l.length < 16777216 then some (.ok .non (S.set k (.lst (l ++ [y])))) else none
    | _ => none
  | _, _ => none
theorem ok_append : OkGM K mg rAppend gAppend := fun W σ m S H o x c d z Q s ro r e p => by
  unfold gAppend at e
  split at e
  · cases ro with
    | loc hk =>
      cases r with
      | cons a b =>
        cases b
        split at e
        · rename_i l e1
          split at e
          · rename_i hl
            cases e
            obtain ⟨xs, h1, h2⟩ := s.obj _ _ e1
            exact ⟨_, xs, _, rfl, rfl, h1, by rw [← h2.length]; exact Nat.lt_of_lt_of_le hl (by decide), list_set s e1 (h2.append (.one a)) .non p⟩
          · cases e
        · cases e
  · cases e
def gExtend : GM := fun c d S => match c, d with
  | .loc k, [.loc j] => match S[k]?, S[j]? with
    | some (.lst l), some (.lst r) => if l.length + r.length ≤ 16777216 then some (.ok .non (S.set k (.lst (l ++ r)))) else none
    | _, _ => none
  | _, _ => none
theorem ok_extend : OkGM K mg rExtend gExtend := fun W σ m S H o x c d z Q s ro r e p => by
  unfold gExtend at e
  split at e
  · cases ro with
    | loc hk =>
      cases r with
      | cons a b =>
        cases b; cases a
        split at e
        · rename_i l r e1 e2
          split at e
          · rename_i hl
            cases e
            obtain ⟨xs, h1, h2⟩ := s.obj _ _ e1
            obtain ⟨ys, h3, h4⟩ := s.obj _ _ e2
            exact ⟨_, _, xs, ys, rfl, rfl, h1, h3, by rw [← h2.length, ← h4.length]; exact Nat.le_trans hl (by decide), list_set s e1 (h2.append h4) .non p⟩
          · cases e
        · cases e
  · cases e
def gPop : GM := fun c d S => match c, d with
  | .loc k, [] => match S[k]? with
    | some (.lst l) => match l[l.length - 1]? with
      | some y => some (.ok y (S.set k (.lst l.dropLast)))
      | none => none
    | _ => none
  | _, _ => none
theorem ok_pop : OkGM K mg rPop gPop := fun W σ m S H o x c d z Q s ro r e p => by
  unfold gPop at e
  split at e
  · cases ro with
    | loc hk =>
      cases r
      split at e
      · rename_i l e1
        split at e
        · rename_i y hy
          cases e
          obtain ⟨xs, h1, h2⟩ := s.obj _ _ e1
          obtain ⟨v, h3, h4⟩ := h2.get hy
          exact ⟨_, xs, v, rfl, rfl, h1, by rw [← h2.length]; exact h3, list_set s e1 h2.dropLast h4 p⟩
        · cases e
      · cases e
  · cases e
end

/-! ### a[i] = v -/
abbrev GSt := PV → PV → PV → Sto → Option Sto
def gSetL : GSt := fun o i v S => match o, i with
  | .loc k, .int j => match S[k]? with
    | some (.lst l) => match ixN l.length j with
      | some n => some (S.set k (.lst (l.set n v)))
      | none => none
    | _ => none
  | _, _ => none
def gSubT (g : GSt) (o i : DE) : DG := fun v ρ S => match o ρ S with
  | some (.ok x S1) => match i ρ S1 with
    | some (.ok y S2) => match g x y v S2 with
      | some S3 => some (ρ, S3)
      | none => none
    | _ => none
  | _ => none
def OkSt (K : PySem.W.Frag) (mg : Str → Option Value) (t : TSet) (g : GSt) : Prop :=
  ∀ (m : Nat → Addr) (S S' : Sto) (H : Hp) (o i v : V) (c d e : PV) (Q : Hp → Prop), StS K mg m S H → Rp K H m S.length c o → Rp K H m S.length d i → Rp K H m S.length e v → g c d e S = some S' →
    (∀ m' H', S.length ≤ S'.length → Ext K S.length m H m' H' → StS K mg m' S' H' → Q H') → t o i v H Q
theorem ok_setL {K : PySem.W.Frag} {mg : Str → Option Value} : OkSt K mg rSetL gSetL := fun m S S' H o i v c d e Q s r1 r2 r3 h q => by
  unfold gSetL at h
  split at h
  · cases r1; cases r2
    split at h
    · rename_i l e1
      split at h
      · rename_i n hn
        cases h
        obtain ⟨xs, h1, h2⟩ := s.obj _ _ e1
        have mu := s.mut e1 rfl
        have x : Ext K S.length m H m (upd H (m _) (.lst (xs.set n v))) := ext_upd (.inr mu)
        refine ⟨_, xs, _, n, rfl, rfl, h1, by rw [← h2.length]; exact hn, q m _ (by rw [List.length_set]; exact Nat.le_refl _) x ?_⟩
        exact s.write (ho := .lst (xs.set n v)) (po' := .lst (l.set n e)) e1 rfl rfl ⟨_, upd_same, (RpL.set r3 n h2).mono x (Nat.le_refl _)⟩
      · cases h
    · cases h
  · cases h
theorem dg_sub {X : Cx} {o i : Expr} {pos : Pos} {fo fi : DE} {t : TSet} {g : GSt} (hs : PSet X t) (hg : OkSt X.K X.mg t g) (ho : PEd X W0 o fo) (hi : PEd X W0 i fi) (ha : ∀ v, assign (.Subscript o i pos) X.env v = (do
    let ov ← holding [v] (eval o X.env)
    let iv ← holding [v, ov] (eval i X.env)
    standAt pos
    holding [v, ov, iv] (setItem ov iv v)
    release [v, ov, iv] []) := by intro _; rfl) : PGd X (.Subscript o i pos) (gSubT g fo fi) := (pg_sub ho hi hs ha).imp fun v σ H Q h => by
  obtain ⟨m, ρ, S, d, ρ', S', s, e, r, hk, p⟩ := h
  unfold gSubT at hk
  split at hk
  · rename_i x S1 q1
    split at hk
    · rename_i y S2 q2
      split at hk
      · rename_i S3 q3
        cases hk
        refine ⟨m, ρ, S, _, s, e, q1, fun v1 m1 H1 le1 x1 s1 r1 => ?_⟩
        refine ⟨m1, ρ, S1, _, s1, e.mono x1 le1, q2, fun v2 m2 H2 le2 x2 s2 r2 => ?_⟩
        have x02 := x1.trans x2 le1
        have le02 := Nat.le_trans le1 le2
        refine hg m2 S2 S' H2 v1 v2 v x y d _ s2 (Rp.mono x2 le2 r1) r2 (r.mono x02 le02) q3 fun m3 H3 le3 x3 s3 => ?_
        exact p σ m3 H3 (Nat.le_trans le02 le3) (x02.trans x3 le02) s3 (e.mono (x02.trans x3 le02) (Nat.le_trans le02 le3))
      · cases hk
    · cases hk
  · cases hk
/-! ### x op= e -/
def dAug (g : G2) (i : Nat) (f : DE) : DS := fun ρ S => match ρ[i]? with
  | some (some x) => bS ρ (f ρ S) fun y S1 => bS ρ (g x y S1) fun z S2 => some (.next (ρ.set i (some z)) S2)
  | _ => none
end D

/-! D8: errors: raised, caught, asked. -/
namespace D
open PySem PySem.Spec PyProof.Rows L2

/-! ### raise C('m') -/
def dRaise (c : Str) : DS := fun ρ S => some (.exc ⟨c, []⟩ ρ S)
theorem ds_raise {X : Cx} {W : WX} {C : Addr} {x m : Str} {j : Nat} {p p2 p3 pos : Pos} (hc : X.calm = true) (tk : Takes X W)
    (q : PySem.W.excIn X.K C [.type "ValueError", .type "Exception", .type "BaseException", .type "object"] "ValueError.__new__" = true) (gC : X.mg x = some (.ref C)) (kC : PySem.W.keepIn X.K (.ref C) = true)
    (h1 : PySem.W.subIn X.K (.ref C) (.type "BaseException") = some true) (h2 : PySem.W.typeIn X.K (.ref C) = some (.type "type")) (hg : Gl X x) (hdb : (x == ("__debug__" : Str)) = false := by decide) :
    PSd X W (.Raise (some (.Call (.Name x p) [.Constant (.str m) j p2] [] p3)) none pos) (dRaise x) := by
  refine (ps_raise hc tk (pmk_own PySem.F.excBase_ValueError q gC kC (raises_own h1 h2) hg hdb)).imp fun D σ H h => ?_
  obtain ⟨m, ρ, S, r, s, e, hf, p⟩ := h
  cases hf
  exact p (.ref C) none σ m H (Nat.le_refl _) Ext.refl s e ⟨C, rfl, gC, .inl ⟨rfl, rfl⟩⟩

/-! ### try -/
def litV : PV → Option V
  | .non => some .non
  | .bl b => some (.bl b)
  | .int i => some (.int i)
  | .str s => some (.str s)
  | _ => none
def litF : List (Str × PV) → Option (List (Str × V))
  | [] => some []
  | (f, d) :: r => match litV d, litF r with
    | some v, some vs => some ((f, v) :: vs)
    | _, _ => none
theorem litV_rp {K : PySem.W.Frag} {H : Hp} {m : Nat → Addr} {n : Nat} {d : PV} {v v' : V} (r : Rp K H m n d v) (e : litV d = some v') : v = v' := by
  cases r <;> cases e <;> rfl
theorem litF_rp {K : PySem.W.Frag} {H : Hp} {m : Nat → Addr} {n : Nat} : ∀ {l : List (Str × PV)} {fv fv' : List (Str × V)}, RpF K H m n l fv → litF l = some fv' → fv = fv'
  | [], _, _, .nil, e => by cases e; rfl
  | (f, d) :: l, _, _, .cons (b := (g, v)) r t, e => by
    unfold litF at e
    split at e
    · rename_i v1 vs e1 e2
      cases e
      obtain ⟨r1, r2⟩ := r
      dsimp only at r1 r2
      rw [litV_rp r2 e1, litF_rp t e2, r1]
    · cases e
/-- what the fields of a caught error are -/
def FvOk (fs : List (Str × PV)) (d : Option Addr) (fv : List (Str × V)) : Prop := (fs = [] ∧ d = none ∧ fv = []) ∨ (fs ≠ [] ∧ ∃ dd, d = some dd ∧ litF fs = some fv)
/-- what a suite leaves -/
def endE (i : Nat) : RS → Option RS
  | .next ρ S => some (.next (ρ.set i none) S)
  | .ret v S => some (.ret v S)
  | .brk ρ S => some (.brk (ρ.set i none) S)
  | .ctn ρ S => some (.ctn (ρ.set i none) S)
  | .exc _ _ _ => none
abbrev Hd := Xn → Addr → Option Addr → DS
open Classical in
noncomputable def hdAs (i : Nat) (su : Hd) (e : Xn) (ρ : En) (S : Sto) : Option RS :=
  if h : ∃ r, (litF e.fs).isSome = true ∧ ∀ a d fv, FvOk e.fs d fv → (su e a d (ρ.set i (some (.xc a d fv))) S).bind (endE i) = some r then some (choose h) else none
theorem hdAs_eq {i : Nat} {su : Hd} {e : Xn} {ρ : En} {S : Sto} {r : RS} (hl : (litF e.fs).isSome = true) (h : ∀ a d fv, FvOk e.fs d fv → (su e a d (ρ.set i (some (.xc a d fv))) S).bind (endE i) = some r) : hdAs i su e ρ S = some r := by
  have hx : ∃ r, (litF e.fs).isSome = true ∧ ∀ a d fv, FvOk e.fs d fv → (su e a d (ρ.set i (some (.xc a d fv))) S).bind (endE i) = some r := ⟨r, hl, h⟩
  unfold hdAs
  rw [dif_pos hx]
  have q := Classical.choose_spec hx
  have : ∃ d fv, FvOk e.fs d fv := by
    obtain ⟨fv, hfv⟩ := Option.isSome_iff_exists.mp hl
    by_cases hn : e.fs = []
    · exact ⟨none, [], .inl ⟨hn, rfl, rfl⟩⟩
    · exact ⟨some 0, fv, .inr ⟨hn, 0, rfl, hfv⟩⟩
  obtain ⟨d, fv, ok⟩ := this
  have e1 := q.2 0 d fv ok
  have e2 := h 0 d fv ok
  rw [e1] at e2
  exact e2
noncomputable def dTryAs (body : DS) (i : Nat) (cat : Str → Option Bool) (su : Hd) : DS := fun ρ S => match body ρ S with
  | some (.exc e ρ1 S1) => match cat e.c with
    | some true => hdAs i su e ρ1 S1
    | some false => some (.exc e ρ1 S1)
    | none => none
  | r => r
/-- which own errors a clause takes -/
def Cat (K : PySem.W.Frag) (mg : Str → Option Value) (c : Value) (cat : Str → Option Bool) : Prop := ∀ nm C b, mg nm = some (.ref C) → cat nm = some b → PySem.W.exmOne K (.ref C) c = some b
theorem pss_ex {X : Cx} {sts : List Stmt} {α : Type} {P : α → Prop} {t : α → TS} (h : ∀ x, P x → PSs X sts (t x)) : PSs X sts (fun D σ H => ∃ x, P x ∧ t x D σ H) :=
  ⟨fun pins s σ H D I q => by
    obtain ⟨x, hx, q⟩ := q
    exact (h x hx).run pins s σ H D I q⟩
structure Su (X : Cx) (cat : Str → Option Bool) (e : Xn) (a : Addr) (oe : Obj) (C : Addr) (d : Option Addr) : Prop where
  yes : cat e.c = some true
  mg : X.mg e.c = some (.ref C)
  z : Zc (.ref C) d oe
  f : ∃ vs, oe.data = .fields vs
  d0 : e.fs = [] → d = none
  d1 : e.fs ≠ [] → ∃ dd, d = some dd
def tSu (X : Cx) (cat : Str → Option Bool) (su : Hd) : Addr → Value → Option Addr → TS := fun a cls d D σ H => ∃ e : Xn, (cat e.c = some true ∧ (e.fs = [] → d = none) ∧ (e.fs ≠ [] → ∃ dd, d = some dd) ∧ ∃ C, cls = .ref C ∧ X.mg e.c = some (.ref C)) ∧ tS X.K X.mg W0 (su e a d) D σ H
section
variable {X : Cx} {x n : Str} {c : Value} {i : Nat} {body suite : List Stmt} {b₀ : Stmt} {np pos pos' : Pos} {W : WX} {fb : DS} {cat : Str → Option Bool} {su : Hd}
theorem su_pss (hsu : ∀ (e : Xn) (a : Addr) (oe : Obj) (C : Addr) (d : Option Addr) (pn : List (Addr × Obj)), Su X cat e a oe C d → PSsd (X.suite a ((a, oe) :: pn)) W0 (b₀ :: suite) (su e a d)) (a : Addr) (oe : Obj) (cls : Value) (d : Option Addr) (pn : List (Addr × Obj)) (hz : Zc cls d oe) (hf : ∃ vs, oe.data = .fields vs) :
    PSs (X.suite a ((a, oe) :: pn)) (b₀ :: suite) (tSu X cat su a cls d) :=
  ⟨fun pins s σ H D I q => by
    obtain ⟨e, ⟨h1, h2, h3, C, rfl, h4⟩, q⟩ := q
    exact (hsu e a oe C d pn ⟨h1, h4, hz, hf, h2, h3⟩).run pins s σ H D I q⟩
theorem ds_try_as (hs : X.stack = X.env :: X.outer) (hf : X.env.frame = some X.env.locals) (hN : X.N.Nodup) (hi : X.N[i]? = some n) (hln : X.env.kindOf n = some .local) (hc : Names X x c) (hcat : Cat X.K X.mg c cat) (tk : Takes X W)
    (hb : ∀ (W : WX) (pn : List (Addr × Obj)) (xe : Value → Shared → Prop), Takes (X.tr pn xe) W → PassesOwn (model X.prog X.w) X.A X.env xe → PSsd (X.tr pn xe) W body fb)
    (hsu : ∀ (e : Xn) (a : Addr) (oe : Obj) (C : Addr) (d : Option Addr) (pn : List (Addr × Obj)), Su X cat e a oe C d → PSsd (X.suite a ((a, oe) :: pn)) W0 (b₀ :: suite) (su e a d)) :
    PSd X W (.Try body [.ExceptHandler (some (.Name x np)) (some n) (b₀ :: suite) pos'] [] [] pos) (dTryAs fb i cat su) := by
  refine (ps_try_as (tb := fun W => tS X.K X.mg W fb) (ts := tSu X cat su) hs hf hN hi hln hc tk hb (su_pss hsu)).imp fun D σ H h => ?_
  obtain ⟨m, ρ, S, r, s, en, hf, p⟩ := h
  unfold dTryAs at hf
  cases q : fb ρ S with
  | none => rw [q] at hf; cases hf
  | some z =>
    rw [q] at hf
    refine ⟨m, ρ, S, z, s, en, q, ?_⟩
    cases z with
    | next ρ' S' => cases hf; exact p
    | ret v S' => cases hf; exact p
    | brk ρ' S' => cases hf; exact p
    | ctn ρ' S' => cases hf; exact p
    | exc e ρ1 S1 =>
      dsimp only at hf
      intro cls dd σ' m' H' le ex s' en' rx
      obtain ⟨C, rfl, hm, hd⟩ := id rx
      split at hf
      · rename_i hcy
        refine ⟨true, hcat _ _ _ hm hcy, fun _ a ha => ?_, (fun z => by cases z)⟩
        unfold hdAs at hf
        split at hf
        · rename_i hx
          have hsp := Classical.choose_spec hx
          obtain ⟨hlit, hall⟩ := hsp
          obtain ⟨lf, hlf⟩ := Option.isSome_iff_exists.mp hlit
          have hrr : Classical.choose hx = r := by cases hf; rfl
          rw [hrr] at hall
          have key : ∃ fv, FvOk e.fs dd fv ∧ (∀ d2, dd = some d2 → H' d2 = some (.xd fv)) ∧ (e.fs = [] → dd = none) ∧ (e.fs ≠ [] → ∃ d2, dd = some d2) := by
            rcases hd with ⟨h1, h2⟩ | ⟨hne, d2, fv, h1, h2, h3⟩
            · exact ⟨[], .inl ⟨h1, h2, rfl⟩, (fun d2 z => by rw [h2] at z; cases z), fun _ => h2, fun z => absurd h1 z⟩
            · have ef := litF_rp h3 hlf
              subst ef
              exact ⟨fv, .inr ⟨hne, d2, h1, hlf⟩, (fun d3 z => by rw [h1] at z; cases z; exact h2), fun z => absurd z hne, fun _ => ⟨d2, h1⟩⟩
          obtain ⟨fv, ok, hH, hk0, hk1⟩ := key
          have hrun := hall a dd fv ok
          refine ⟨e, ⟨hcy, hk0, hk1, C, rfl, hm⟩, ?_⟩
          cases q2 : su e a dd (ρ1.set i (some (.xc a dd fv))) S1 with
          | none => rw [q2] at hrun; cases hrun
          | some z2 =>
            rw [q2] at hrun
            have hrun : endE i z2 = some r := hrun
            refine ⟨m', ρ1.set i (some (.xc a dd fv)), S1, z2, s', en'.set (.xc hH), q2, ?_⟩
            have p' := p.on le ex
            have unset : ∀ {K : PySem.W.Frag} {H : Hp} {m : Nat → Addr} {n : Nat} {ρ : En} {σ : L2.St}, EnR K H m n ρ σ → EnR K H m n (ρ.set i none) (σ.set i none) := by
              intro K H m n ρ σ h
              refine ⟨by rw [List.length_set, List.length_set]; exact h.len, fun j v e => ?_⟩
              by_cases hj : i = j
              · subst hj
                by_cases hl : i < ρ.length
                · rw [List.getElem?_set_self hl] at e; cases e
                · rw [List.set_eq_of_length_le (by omega)] at e
                  exact absurd (List.getElem?_eq_some_iff.mp e).1 hl
              · rw [List.getElem?_set_ne hj] at e
                rw [List.getElem?_set_ne hj]
                exact h.at_ j v e
            cases z2 with
            | next ρ' S' => cases hrun; exact fun σ2 m2 H2 le2 x2 s2 e2 => p' _ m2 H2 le2 x2 s2 (unset e2)
            | ret v S' => cases hrun; exact fun v m2 H2 le2 x2 s2 e2 => p' _ m2 H2 le2 x2 s2 e2
            | brk ρ' S' => cases hrun; exact fun σ2 m2 H2 le2 x2 s2 e2 => p' _ m2 H2 le2 x2 s2 (unset e2)
            | ctn ρ' S' => cases hrun; exact fun σ2 m2 H2 le2 x2 s2 e2 => p' _ m2 H2 le2 x2 s2 (unset e2)
            | exc x ρ' S' => cases hrun
        · cases hf
      · rename_i hcy
        cases hf
        exact ⟨false, hcat _ _ _ hm hcy, (fun z => by cases z), fun _ => p _ _ _ m' H' le ex s' en' rx⟩
      · cases hf
end

/-- except C: with no name -/
def noX : Option RS → Option RS
  | some (.exc _ _ _) => none
  | r => r
def dTryOnly (body : DS) (cat : Str → Option Bool) (su : DS) : DS := fun ρ S => match body ρ S with
  | some (.exc e ρ1 S1) => match cat e.c with
    | some true => noX (su ρ1 S1)
    | some false => some (.exc e ρ1 S1)
    | none => none
  | r => r
section
variable {X : Cx} {x n : Str} {c : Value} {i : Nat} {body suite : List Stmt} {b₀ : Stmt} {np pos pos' : Pos} {W : WX} {fb : DS} {cat : Str → Option Bool} {su : DS}
theorem noX_post {K : PySem.W.Frag} {mg : Str → Option Value} {m : Nat → Addr} {S : Sto} {H : Hp} {r : RS} {D : Ends} {o : Option RS} (h : noX o = some r) (p : PostS K mg W m S H r D) : o = some r ∧ PostS K mg W0 m S H r D := by
  cases o with
  | none => cases h
  | some z => cases z <;> cases h <;> exact ⟨rfl, p⟩
theorem ds_try_only (hs : X.stack = X.env :: X.outer) (hf : X.env.frame = some X.env.locals) (hc : Names X x c) (hcat : Cat X.K X.mg c cat) (tk : Takes X W)
    (hb : ∀ (W : WX) (pn : List (Addr × Obj)) (xe : Value → Shared → Prop), Takes (X.tr pn xe) W → PassesOwn (model X.prog X.w) X.A X.env xe → PSsd (X.tr pn xe) W body fb)
    (hsu : ∀ (a : Addr) (pn : List (Addr × Obj)), PSsd (X.suite a pn) W0 (b₀ :: suite) su) :
    PSd X W (.Try body [.ExceptHandler (some (.Name x np)) none (b₀ :: suite) pos'] [] [] pos) (dTryOnly fb cat su) := by
  refine (ps_try_only (tb := fun W => tS X.K X.mg W fb) (ts := fun a _ _ => tS X.K X.mg W0 su) hs hf hc tk hb (fun a oe cls d pn _ _ => hsu a _)).imp fun D σ H h => ?_
  obtain ⟨m, ρ, S, r, s, en, hf, p⟩ := h
  unfold dTryOnly at hf
  cases q : fb ρ S with
  | none => rw [q] at hf; cases hf
  | some z =>
    rw [q] at hf
    refine ⟨m, ρ, S, z, s, en, q, ?_⟩
    cases z with
    | next ρ' S' => cases hf; exact p
    | ret v S' => cases hf; exact p
    | brk ρ' S' => cases hf; exact p
    | ctn ρ' S' => cases hf; exact p
    | exc e ρ1 S1 =>
      dsimp only at hf
      intro cls dd σ' m' H' le ex s' en' rx
      obtain ⟨C, rfl, hm, hd⟩ := id rx
      split at hf
      · rename_i hcy
        refine ⟨true, hcat _ _ _ hm hcy, fun _ a ha => ?_, fun z => by cases z⟩
        obtain ⟨h1, h2⟩ := noX_post hf (p.on le ex)
        exact ⟨m', ρ1, S1, r, s', en', h1, h2⟩
      · rename_i hcy
        cases hf
        exact ⟨false, hcat _ _ _ hm hcy, (fun z => by cases z), fun _ => p _ _ _ m' H' le ex s' en' rx⟩
      · cases hf
end

/-! ### isinstance(e, C), e the error that is held -/
def dIsE (i : Nat) (a : Addr) (b : Bool) : DE := fun ρ S => match ρ[i]? with
  | some (some (.xc a' _ _)) => if a' = a then some (.ok (.bl b) S) else none
  | _ => none
/-- e, known to be at a -/
def tIsE (i : Nat) (a : Addr) : TA := fun σ H Q => σ[i]? = some (some (.ref a)) ∧ Q [.ref a] H
theorem de_isE {X : Cx} {W : WX} {a C : Addr} {oe : Obj} {pn : List (Addr × Obj)} {x : Str} {ce : Expr} {cv : V} {cu : Value} {b : Bool} {p p2 pos : Pos} (i : Nat) (hC : ExcC X.K C) (hz : Zc (.ref C) none oe) (hf : ∃ vs, oe.data = .fields vs)
    (hg : Gl X "isinstance") (hm : X.mg "isinstance" = none) (hN : X.N[i]? = some x) (hv : Vis X.env.scope x) (hce : PE (X.suite a ((a, oe) :: pn)) ce (tC cv)) (hrel : ∀ u, RelV cv u → u = cu) (hk : PySem.W.kitOne X.K (.ref C) cu = some b)
    (hd : (x == ("__debug__" : Str)) = false := by decide) (hcd : (x == ("__classdict__" : Str)) = false := by decide)
    (h1 : starEach [.Name x p2, ce] X.env = (false, eval (.Name x p2) X.env) :: starEach [ce] X.env := by rfl) (h2 : starEach [ce] X.env = (false, eval ce X.env) :: starEach [] X.env := by rfl) (hpl : (backTo pos (starEach [ce] X.env)).any (·.1) = false := by rfl) :
    PEd (X.suite a ((a, oe) :: pn)) W (.Call (.Name "isinstance" p) [.Name x p2, ce] [] pos) (dIsE i a b) := by
  have hl : PA (X.suite a ((a, oe) :: pn)) [.Name x p2, ce] _ := pa_cons (pe_var (X := X.suite a ((a, oe) :: pn)) hN hv hd hcd) (pa_cons hce pa_nil h2) h1
  refine (pe_callB (X := X.suite a ((a, oe) :: pn)) (call_isE hC hz hf) hg hm boot_isinstance hl (by decide) (by decide) h1 hpl).imp fun σ H Q h => ?_
  obtain ⟨m, ρ, S, r, s, en, hfn, p⟩ := h
  unfold dIsE at hfn
  split at hfn
  · rename_i a' d fv hi
    split at hfn
    · rename_i ha
      subst ha
      cases hfn
      obtain ⟨v, hv1, rv⟩ := en.at_ i _ hi
      cases rv
      exact ⟨_, hv1, cv, cu, b, rfl, hrel, hk, p _ m H (Nat.le_refl _) Ext.refl s (.bl b)⟩
    · cases hfn
  · cases hfn

/-- never reached -/
def dNope : DS := fun _ _ => none
theorem pss_nope {X : Cx} {W : WX} {sts : List Stmt} : PSsd X W sts dNope := ⟨fun pins s σ H D I h => by
  obtain ⟨m, ρ, S, r, st, e, hf, p⟩ := h
  cases hf⟩
theorem su_alt {X : Cx} {cat : Str → Option Bool} {e : Xn} {a : Addr} {oe : Obj} {C A : Addr} {d : Option Addr} {nm : Str} {pn : List (Addr × Obj)} {sts : List Stmt} {f g : DS} (hA : X.mg nm = some (.ref A)) (hs : Su X cat e a oe C d)
    (go : Zc (.ref A) none oe → (∃ vs, oe.data = .fields vs) → PSsd (X.suite a ((a, oe) :: pn)) W0 sts f) (ge : PSsd (X.suite a ((a, oe) :: pn)) W0 sts g) : PSsd (X.suite a ((a, oe) :: pn)) W0 sts (if e.c = nm ∧ e.fs.isEmpty = true then f else g) := by
  split
  · rename_i hc
    have hd : d = none := hs.d0 (List.isEmpty_iff.mp hc.2)
    have hm := hs.mg
    rw [hc.1, hA] at hm
    cases hm
    have hz := hs.z
    rw [hd] at hz
    exact go hz hs.f
  · exact ge
end D

/-! D9: the end. -/
namespace D
open PySem PySem.Spec PyProof.Rows L2

theorem kit_ref {K : PySem.W.Frag} {A B : Addr} {b : Bool} (ht : PySem.W.typeIn K (.ref B) = some (.type "type")) (hd : PySem.W.hasDictIn K B = true) (hs : PySem.W.subIn K (.ref A) (.ref B) = some b) (h1 : PySem.W.subIn K (.ref A) (.ref A) = some true) : PySem.W.kitOne K (.ref A) (.ref B) = some b := by
  obtain ⟨cd, hc, _⟩ := PySem.W.any_some hd
  unfold PySem.W.kitOne
  split
  · rename_i h
    have e : Value.ref A = Value.ref B := beq_iff_eq.mp h
    cases e
    rw [h1] at hs; exact hs
  · show (if ((PySem.W.clsIn K B).isSome && PySem.W.typeIn K (.ref B) == some (.type "type")) = true then PySem.W.subIn K (.ref A) (.ref B) else none) = some b
    rw [if_pos (by rw [hc, ht] <;> rfl)]
    exact hs
theorem kit_typ {K : PySem.W.Frag} {A : Addr} {T : String} {b : Bool} (hm : PySem.W.kitMeta T = true) (hs : PySem.W.subIn K (.ref A) (.type T) = some b) : PySem.W.kitOne K (.ref A) (.type T) = some b := by
  unfold PySem.W.kitOne
  split
  · rename_i h
    have e : Value.ref A = Value.type T := beq_iff_eq.mp h
    cases e
  · show (if PySem.W.kitMeta T = true then PySem.W.subIn K (.ref A) (.type T) else none) = some b
    rw [if_pos hm]; exact hs

/-- what a law's function must answer -/
def LawD (F : DF) : Prop := ∀ ns : List Int, ns.length ≤ 63 → ∃ S', F [.loc 0] [.fz (ns.map PV.int)] = some (.ok (.bl true) S')
def spLawD (K : PySem.W.Frag) : Sp := fun vs H Q _ => ∃ (a : Addr) (ns : List Int), vs = [.ref a] ∧ SqL K H a (ns.map V.int) ∧ Only H ∧ ns.length ≤ 63 ∧ ∀ H', Q (.bl true) H'
theorem law_sp {K : PySem.W.Frag} {mg : Str → Option Value} {F : DF} (h : LawD F) {vs : List V} {H : Hp} {Q : VK} {E : XK} (s : spLawD K vs H Q E) : spD K mg 1 F vs H Q E := by
  obtain ⟨a, ns, rfl, hs, ho, hn, q⟩ := s
  obtain ⟨S', hF⟩ := h ns hn
  have fz : FzL K H a (ns.map V.int) := by
    rcases hs with (h1 | ⟨o, h1⟩) | h1
    · rcases ho a with h2 | ⟨o, xs, h2⟩
      · rw [h1] at h2; cases h2
      · rw [h1] at h2; cases h2
    · exact .inl ⟨o, h1⟩
    · exact .inr h1
  refine ⟨rfl, fun _ => a, [.fz (ns.map PV.int)], [.loc 0], .ok (.bl true) S', ⟨fun k o e => ?_, fun j k oj ok ej ek mj mk _ => ?_⟩, .cons (.loc (by simp)) .nil, hF, ?_⟩
  · cases k with
    | zero => cases e; exact ⟨_, fz, .of_ints⟩
    | succ k => simp at e
  · cases j with
    | zero => cases ej; cases mj
    | succ j => simp at ej
  · intro v m' H' _ _ _ r
    cases r
    exact q H'
theorem law_walk {l : PySem.W.OpenLaw} {k : Nat} {q : Program} {loose : List Str} {XP : (Str → Option Value) → Heap → Prop} {YP : World → Heap → Prop} {d : DefRec} {K : Params → PySem.W.Frag} {x : Str} {F : DF} (hF : LawD F)
    (hn : l.most = some 63) (hdf : d.params.defaults = []) (hr : Room k callerA) (hY : ∀ (w : World) (h : Heap), YP w h → (K w.params).In h)
    (hf : ∀ (w : World) (mg : Str → Option Value) (fa : Addr) (h : Heap), (K w.params).In h → h.Ns mainGlobals mg → mg d.name = some (.ref fa) →
      ∃ fd : FuncData, (∀ (s : Shared) (u : Value), BindsTo s fd ⟨[u], []⟩ [(x, u)]) ∧ ∀ base : Heap, (K w.params).In base → base.Ns mainGlobals mg → FnOk l.prog w (K w.params) mg base (L2.CX l.prog w) k fa fd [x] (spD (K w.params) mg 1 F)) :
    PySem.W.WalkO q loose XP YP l.row.toRowW d [] (fun f vs => PySem.call f vs) :=
  L2.walk_of (n := 63) (k := k) (x := x) (CX := fun w => L2.CX l.prog w) (sp := fun w => spLawD (K w.params)) hn (by decide) hdf hr hY
    (fun w mg fa h KX G hm => by
      obtain ⟨fd, hb, h2⟩ := hf w mg fa h KX G hm
      exact ⟨fd, hb, fun base kb nb => (h2 base kb nb).imp fun vs H Q E s => law_sp hF s⟩)
    (fun w H a ns hl hO hS => ⟨a, ns, rfl, hS, hO, hl, fun _ => rfl⟩) fun w H s e s' c => by
    obtain ⟨_, _, _, _, _, _, _, _, _, _, _, _, z⟩ := c
    exact z
end D

/-! D10: reversed, enumerate, greatest and least of a list. -/
namespace D
open PySem PySem.Spec PyProof.Rows L2

/-! ### reversed(x) -/
section
variable {K : PySem.W.Frag} {mg : Str → Option Value} {m : Nat → Addr} {n : Nat} {H : Hp} {S : Sto}
theorem rev_at {l : List PV} {i : Nat} {d : PV} (h : l.reverse[i]? = some d) : i < l.length ∧ l[l.length - 1 - i]? = some d := by
  have hi : i < l.length := by
    have := lt_of_get h
    rwa [List.length_reverse] at this
  exact ⟨hi, by rw [List.getElem?_reverse hi] at h; exact h⟩
theorem itOk_revT {a : Addr} {xs : List V} {l : List PV} (hs : SqT K H a xs) (r : RpL K H m n l xs) : ItOk K mg (RT.ItvT K a xs.length) ⟨l.reverse, []⟩ n m H where
  go := fun i d m' S' H' le x s _ e => by
    have hs' := x.tp _ _ hs
    obtain ⟨hi, e2⟩ := rev_at e
    obtain ⟨v, h1, h2⟩ := (r.mono x le).get e2
    rw [r.length] at hi h1
    refine ⟨⟨hi, xs, v, hs', h1⟩, fun y H2 hy => ?_⟩
    obtain ⟨e1, e3⟩ := hy
    subst e1
    have := e3 xs hs'
    rw [h1] at this
    cases this
    exact ⟨m', Ext.refl, s, h2⟩
  stop := fun m' S' H' le x s _ => by
    show xs.length ≤ l.reverse.length
    rw [List.length_reverse, r.length]
    exact Nat.le_refl _
theorem itOk_revL {k : Nat} {l : List PV} {xs : List V} {po : PO} (s0 : StS K mg m S H) (e0 : S[k]? = some po) (hl : lstOf k S = some l) (hlen : xs.length = l.length) : ItOk K mg (Itv K (m k) xs.length) ⟨l.reverse, [(k, po)]⟩ S.length m H where
  go := fun i d m' S' H' le x s kp e => by
    have e1 : S'[k]? = some po := kp (k, po) (by simp)
    have hl' : lstOf k S' = some l := by
      unfold lstOf at hl ⊢
      rw [e0] at hl
      rw [e1]; exact hl
    obtain ⟨ys, h1, h2⟩ := lst_rp s hl'
    obtain ⟨hi, e2⟩ := rev_at e
    obtain ⟨v, h3, h4⟩ := h2.get e2
    rw [x.mp k (lt_of_get e0)] at h1
    rw [← hlen] at hi h3
    refine ⟨⟨hi, ys, v, h1, h3⟩, fun y H2 hy => ?_⟩
    obtain ⟨e5, e6⟩ := hy
    subst e5
    have := e6 ys h1
    rw [h3] at this
    cases this
    exact ⟨m', Ext.refl, s, h4⟩
  stop := fun m' S' H' le x s kp => by
    show xs.length ≤ l.reverse.length
    rw [List.length_reverse, hlen]
    exact Nat.le_refl _
end
section
variable {X : Cx} {W : WX} {tg e : Expr} {fe : DE}
def dRevI (f : DE) : DI := fun ρ S => bR (f ρ S) fun x S1 => match x with
  | .tup l => some (.ok ⟨l.reverse, []⟩ S1)
  | .loc k => match S1[k]? with
    | some (.lst l) => some (.ok ⟨l.reverse, [(k, .lst l)]⟩ S1)
    | some (.fz l) => some (.ok ⟨l.reverse, [(k, .fz l)]⟩ S1)
    | _ => none
  | _ => none
theorem di_rev {p pos : Pos} (hg : Gl X "reversed") (hm : X.mg "reversed" = none) (h : PEd X W e fe) (hs : starEach [e] X.env = (false, eval e X.env) :: starEach [] X.env := by rfl) : PId X W tg (.Call (.Name "reversed" p) [e] [] pos) (dRevI fe) := (RT.pi_revA hg hm h hs).imp fun σ H Q h => by
  refine (bind1 (ra := rE X.K) h).mono fun v H1 ⟨m, ρ, S, d, z, s, en, r1, hk, p⟩ => ?_
  split at hk
  · cases r1 with
    | @tup l a xs h1 h2 =>
      cases hk
      exact ⟨a, xs, rfl, .inr ⟨h1, p _ m H1 (Nat.le_refl _) Ext.refl s (itOk_revT h1 h2)⟩⟩
  · cases r1 with
    | loc hk' =>
      split at hk
      · rename_i e1
        cases hk
        have hl := lstOf1 e1
        obtain ⟨xs, h1, h2⟩ := lst_rp s hl
        exact ⟨_, xs, rfl, .inl ⟨h1, p _ m H1 (Nat.le_refl _) Ext.refl s (itOk_revL s e1 hl h2.length.symm)⟩⟩
      · rename_i e1
        cases hk
        have hl := lstOf2 e1
        obtain ⟨xs, h1, h2⟩ := lst_rp s hl
        exact ⟨_, xs, rfl, .inl ⟨h1, p _ m H1 (Nat.le_refl _) Ext.refl s (itOk_revL s e1 hl h2.length.symm)⟩⟩
      · cases hk
  · cases hk
end

/-! ### enumerate(x), x a tuple -/
theorem meets_enumT (l : Addr) (ob : Obj) (its : Array Value) :
    Meets (Builtin.«enumerate.__new__» ⟨[Value.type "enumerate", Value.ref l], []⟩) (fun _ R s => (s.heap.get? l = some ob ∧ s.heap.IsTuple l its) ∧
      R (.ok (.ret (.ref (s.heap.push { cls := .type "tuple_iterator", data := .fields #[.ref l, .int 0 0] }).objs.size))) { s with heap := ((s.heap.push { cls := .type "tuple_iterator", data := .fields #[.ref l, .int 0 0] }).push { cls := .type "enumerate", data := .fields #[.none, .bool false, .ref s.heap.objs.size, rawInt 0, .none, .none] }) }) :=
  Meets.of_wp fun prog w A R s h => by
    obtain ⟨hp, g, d, tk, os⟩ := s
    obtain ⟨⟨hl, hT⟩, h⟩ := h
    have hsub := sub_enumerate
    have hT' : Heap.IsTuple (Shared.heap ⟨hp, g, d, tk, os⟩) l its := hT
    have hl' : (Shared.heap ⟨hp, g, d, tk, os⟩).get? l = some ob := hl
    wp_walk using AutoSeq1.wpAny_loadPart' hl'
    refine wpAny_stack_any fun st => wpAny_pure ?_
    split
    · rename_i c _ _ _ _ _
      cases (c == Value.type "enumerate")
      all_goals (wp_walk using AutoSeq1.wpAny_loadPart' hl', wpAny_pyIter_tuple hT'; exact ⟨_, rfl, h⟩)
    · (wp_walk using AutoSeq1.wpAny_loadPart' hl', wpAny_pyIter_tuple hT'; exact ⟨_, rfl, h⟩)
theorem call_enumT {prog : Program} {w : World} {A : Around} {E : Value → Shared → Prop} {s : Shared} {l : Addr} {its : Array Value} {Q : Value → Shared → Prop} (hT : s.heap.IsTuple l its)
    (h : ∀ h', IsEnum h' (s.heap.objs.size + 1) s.heap.objs.size 0 .none → h'.IsTupleIter s.heap.objs.size l 0 → h'.objs.size = s.heap.objs.size + 2 → (∀ b o, s.heap.get? b = some o → h'.get? b = some o) → Q (.ref (s.heap.objs.size + 1)) { s with heap := h' }) :
    wpAny (model prog w) A (call (.type "enumerate") [.ref l]) Q E s := by
  obtain ⟨ob, hl, hc, hd⟩ := id hT
  refine callType_new F.called_enumerate (by decide) (F.typeCall_enumerate_1 _) (F.newCall_enumerate_1 _) (fun obj => F.args_object_init_2 obj _) F.entry_enumerate_new (meets_enumT l ob its) ⟨⟨hl, hT⟩, ?_⟩
  let h1 := s.heap.push { cls := .type "tuple_iterator", data := .fields #[.ref l, .int 0 0] }
  have hz : h1.objs.size = s.heap.objs.size + 1 := Heap.size_push ..
  have he : IsEnum (h1.push { cls := .type "enumerate", data := .fields #[.none, .bool false, .ref s.heap.objs.size, rawInt 0, .none, .none] }) (s.heap.objs.size + 1) s.heap.objs.size 0 .none := by
    have q := Heap.get?_push_size h1 (o := { cls := .type "enumerate", data := .fields #[.none, .bool false, .ref s.heap.objs.size, rawInt 0, .none, .none] }) rfl
    rw [hz] at q
    exact q
  show _ ∧ Q (.ref h1.objs.size) _
  rw [hz]
  exact ⟨⟨_, he, rfl⟩, h _ he ⟨_, Heap.get?_push_of_some _ (Heap.get?_push_size _ rfl), rfl, rfl⟩ (by rw [Heap.size_push, hz]) fun b o x => Heap.get?_push_of_some _ (Heap.get?_push_of_some _ x)⟩

/-- the tuple at a, each item in a new pair -/
def IteT (K : PySem.W.Frag) (a : Addr) : It :=
  ⟨fun i H => ∃ (xs : List V) (x : V), SqT K H a xs ∧ xs[i]? = some x, fun i H v H' => ∃ p x, v = .ref p ∧ H p = none ∧ H' = upd H p (.tup [.int (i : Nat), x]) ∧ ∀ xs, SqT K H a xs → xs[i]? = some x, fun i H => ∃ xs : List V, SqT K H a xs ∧ xs.length ≤ i⟩
theorem turn_enumT {P : Program} {w : World} {K : PySem.W.Frag} {elts : List Expr} {kk : Nat} {tpos : Pos} (a e it : Addr) (hai : a ≠ it) :
    Turn P w K (.Tuple elts kk tpos) (IteT K a) [e, it] e (fun i h => (∃ old, IsEnum h e it ((i : Nat) : Int) old) ∧ h.IsTupleIter it a i ∧ e ≠ it ∧ e ≠ a) where
  mem := List.mem_cons_self
  obj := fun i h st b hb => by
    obtain ⟨⟨old, he⟩, ⟨o, ho, hc, hd⟩, _⟩ := st
    rcases List.mem_cons.mp hb with z | z
    · subst z; exact ⟨_, he, fun v q => nomatch q⟩
    · rw [List.mem_singleton] at z
      subst z
      exact ⟨o, ho, fun v q => by rw [hd] at q; cases q⟩
  keep := fun i h h' st k => by
    obtain ⟨⟨old, he⟩, hi, hne⟩ := st
    exact ⟨⟨old, k e List.mem_cons_self _ he⟩, hi.at fun o q => k it (List.mem_cons_of_mem _ List.mem_cons_self) o q, hne⟩
  item := by
    intro X hP hw hK hc i pins s σ H E I hf st hg
    cases hP; cases hw; cases hK
    obtain ⟨⟨old, he⟩, hit, hne, hea⟩ := st
    obtain ⟨xs, x, hq, hx⟩ := hg
    obtain ⟨its, rv, p, hz⟩ := I.tuple hq
    obtain ⟨u, hu, ru⟩ := rv.get hx
    have hel := Heap.lt_size he
    have hil : it < s.heap.objs.size := by
      obtain ⟨_, q, _⟩ := hit
      exact Heap.lt_size q
    have D := Draws.tuple (prog := X.prog) (w := X.w) (A := X.A.in1) (I.ok.hd hc) it a hai its.toArray
    have hlt : i < its.toArray.size := by
      have := lt_of_get hu
      simpa using this
    refine wpAny_pyNext_enum_itemD D he ⟨hit, p⟩ hlt hne (by simp [hne, hea]) fun y h1 tk hy ho hst hT hsz hk => ?_
    have hy' : y = u := by
      have h2 : its.toArray[i]? = some u := by simpa using hu
      rw [h2] at hy
      exact (Option.some.inj hy).symm
    subst hy'
    refine ⟨_, rfl, wpAny_letOwnedTupleGo_enum (s := { s with heap := h1, toks := tk + 1 }) ho fun h2 he2 sb => ?_⟩
    have hT2 : h2.get? s.heap.objs.size = some { cls := .type "tuple", data := .seq #[.int i tk, y] } := (sb.2 _ (Nat.ne_of_gt hel)).trans hT
    have new : ObjOk X.prog X.w (upd H s.heap.objs.size (.tup [.int (i : Nat), x])) h2 s.heap.objs.size (.tup [.int (i : Nat), x]) :=
      ⟨(by decide : 2 ≤ sizeLine), [.int i tk, y], .cons ⟨_, rfl⟩ (.cons ru .nil), ⟨_, hT2, rfl, _, rfl⟩⟩
    have I1 : Inv X pins σ (upd H s.heap.objs.size (.tup [.int (i : Nat), x])) { s with heap := h2, toks := tk + 1 } := by
      refine I.turnedNew (ch := [e, it]) (fun b ob hb q => ?_) hf (Nat.le_refl _) new
      have b1 : b ≠ e := fun z => hb (by simp [z])
      have b2 : b ≠ it := fun z => hb (by simp [z])
      exact (sb.2 b b1).trans (hk b ob b1 b2 q)
    refine ⟨.ref s.heap.objs.size, _, I1, rfl, ⟨_, x, rfl, I.hok.fresh (Nat.le_refl _), rfl, fun ys hy => by rw [I.tuple_inj hy hq]; exact hx⟩, ⟨⟨y, ?_⟩, hst.1.at fun o q => (sb.2 it (Ne.symm hne)).trans q, hne, hea⟩, fun b hb => ?_⟩
    · have e1 : ((i + 1 : Nat) : Int) = (i : Int) + 1 := Int.natCast_succ i
      rw [e1]
      exact he2
    · have hb' : b < s.heap.objs.size := by
        rcases List.mem_cons.mp hb with z | z
        · rw [z]; exact hel
        · rw [List.mem_singleton] at z
          rw [z]; exact hil
      rw [upd_ne (Nat.ne_of_lt hb')]
      exact (hf b hb).1
  done := by
    intro X hP hw hK hc i pins s σ H E I hf st hg
    cases hP; cases hw; cases hK
    obtain ⟨⟨old, he⟩, hit, hne, hea⟩ := st
    obtain ⟨xs, hq, hx⟩ := hg
    obtain ⟨its, rv, p, hz⟩ := I.tuple hq
    obtain ⟨f0, f1, f2, f3, f4, f5⟩ := hf it (List.mem_cons_of_mem _ List.mem_cons_self)
    have hl := rv.length
    have hT : s.TypeIs (.ref e) "enumerate" := ⟨_, he, rfl⟩
    unfold pyNext
    refine wpAny_bind (wpAny_attempt (wpAny_callSpecial?_slot (name := Str.ofString "__next__") hT F.slot_enumerate_next (wpAny_call_entry F.slot_enumerate_next hT F.entry_enumerate_next ?_ (F.args_enumerate_next_1 _))))
    show wpAny _ _ (field (.ref e) 2 >>= _) _ _ _
    refine wpAny_bind (wpAny_field he rfl (x := .ref it) rfl ?_)
    refine wpAny_bind (wpAny_nextOf_tuple_end (I.ok.hd hc) hit p (by simp; omega) fun h' x eb hx' => ?_)
    obtain ⟨o, ho, hcls⟩ := hx'
    refine wpAny_bind (wpAny_isInstance (T := "StopIteration") (b := true) ⟨o, ho, hcls⟩ isSubtype_stop ?_)
    exact wpAny_pure ⟨rfl, I.turned (t' := s.toks) (fun b o hb q => eb b o hb q) f0 f1 f3 f4 f5⟩
  self := fun A i s Q E st h => by
    obtain ⟨⟨_, he⟩, _⟩ := st
    exact wpAny_pyIter_enum he h

/-! ### enumerate(x) -/
def iEnumA (K : PySem.W.Frag) (ta : TA) : TI := fun σ H R => ta σ H fun vs H1 => ∃ a xs, vs = [.ref a] ∧ ((SqL K H1 a xs ∧ R (Ite K a) H1) ∨ (SqT K H1 a xs ∧ R (IteT K a) H1))
theorem pi_enumA {X : Cx} {e : Expr} {ta : TA} {p pos tpos : Pos} {elts : List Expr} {kk : Nat} (hg : Gl X "enumerate") (hm : X.mg "enumerate" = none) (ha : PA X [e] ta) (hs : starEach [e] X.env = [(false, eval e X.env)] := by rfl) :
    PI X (.Tuple elts kk tpos) (.Call (.Name "enumerate" p) [e] [] pos) (iEnumA X.K ta) := by
  refine ⟨fun pins s σ H R I h => ?_⟩
  refine Call_ (ld_blt I hg hm boot_enumerate (PyProof.Rows.callWith_type1 (thn (ha.run pos pins s σ H _ I h) fun us s1 ⟨vs, H1, I1, r1, q1⟩ => ?_) hs rfl))
  obtain ⟨a, xs, ex, q⟩ := q1
  cases ex
  cases r1 with
  | cons r rr =>
    cases rr; cases r
    have fp : ∀ b, b ∈ [s1.heap.objs.size + 1, s1.heap.objs.size] → s1.heap.objs.size ≤ b ∧ H1 b = none := fun b hb => by
      have hle : s1.heap.objs.size ≤ b := by
        rcases List.mem_cons.mp hb with z | z
        · omega
        · rw [List.mem_singleton] at z; omega
      exact ⟨hle, I1.hok.fresh hle⟩
    rcases q with ⟨hq, q⟩ | ⟨hq, q⟩
    · obtain ⟨its, rv, p', hz⟩ := I1.list hq
      refine call_enumerate_list p'.isList fun h' he hit hsz hk => wpAny_pyIter_enum he ?_
      exact ⟨s1.heap.objs.size + 1, [s1.heap.objs.size + 1, s1.heap.objs.size], _, _, H1, rfl, I1.kept (t' := s1.toks) hk, turn_enum a _ _, ⟨⟨.none, he⟩, hit, Nat.succ_ne_self _⟩, fun b hb => I1.fpOk (fp b hb).1 (fp b hb).2, q⟩
    · obtain ⟨its, rv, p', hz⟩ := I1.tuple hq
      have hal : a < s1.heap.objs.size := by
        obtain ⟨o, ho, _⟩ := id p'
        exact Heap.lt_size ho
      refine call_enumT p' fun h' he hit hsz hk => wpAny_pyIter_enum he ?_
      exact ⟨s1.heap.objs.size + 1, [s1.heap.objs.size + 1, s1.heap.objs.size], _, _, H1, rfl, I1.kept (t' := s1.toks) hk, turn_enumT a _ _ (Nat.ne_of_lt hal), ⟨⟨.none, he⟩, hit, Nat.succ_ne_self _, Nat.ne_of_gt (Nat.lt_succ_of_lt hal)⟩, fun b hb => I1.fpOk (fp b hb).1 (fp b hb).2, q⟩
/-- each item behind its number -/
def enumP : Nat → List PV → List PV
  | _, [] => []
  | i, x :: r => .tup [.int (i : Int), x] :: enumP (i + 1) r
theorem enumP_at : ∀ {l : List PV} {k i : Nat} {d : PV}, (enumP k l)[i]? = some d → ∃ x, l[i]? = some x ∧ d = .tup [.int ((k + i : Nat) : Int), x]
  | [], _, _, _, h => by simp [enumP] at h
  | x :: r, k, 0, d, h => ⟨x, rfl, by simpa [enumP] using h.symm⟩
  | x :: r, k, i + 1, d, h => by
    have h' : (enumP (k + 1) r)[i]? = some d := by simpa [enumP] using h
    obtain ⟨y, h1, h2⟩ := enumP_at h'
    exact ⟨y, by simpa using h1, by rw [h2]; congr 4; omega⟩
theorem enumP_len : ∀ (l : List PV) (k : Nat), (enumP k l).length = l.length
  | [], _ => rfl
  | _ :: r, k => by
    show (enumP (k + 1) r).length + 1 = _
    rw [enumP_len r, List.length_cons]
section
variable {K : PySem.W.Frag} {mg : Str → Option Value} {m : Nat → Addr} {n : Nat} {H : Hp} {S : Sto}
theorem sts_new {q : Addr} {ho : HO} (s : StS K mg m S H) (hq : H q = none) : StS K mg m S (upd H q ho) :=
  ⟨fun k o e => (s.obj k o e).upd (.inl hq) fun hm z => by
    have := (s.obj k o e).thereN hm
    rw [z, hq] at this
    exact this rfl, s.inj⟩
theorem yld_pair {q : Addr} {i : Int} {d : PV} {x : V} (s : StS K mg m S H) (hq : H q = none) (r : Rp K H m S.length d x) : ∃ m2, Ext K S.length m H m2 (upd H q (.tup [.int i, x])) ∧ StS K mg m2 S (upd H q (.tup [.int i, x])) ∧ Rp K (upd H q (.tup [.int i, x])) m2 S.length (.tup [.int i, d]) (.ref q) := by
  have ex : Ext K S.length m H m (upd H q (.tup [V.int i, x])) := ext_upd (.inl hq)
  exact ⟨m, ex, sts_new s hq, .tup (.inl (.inl upd_same)) (.cons (.int i) (.cons (r.mono ex (Nat.le_refl _)) .nil))⟩
theorem itOk_enumT {a : Addr} {xs : List V} {l : List PV} (hs : SqT K H a xs) (r : RpL K H m n l xs) : ItOk K mg (IteT K a) ⟨enumP 0 l, []⟩ n m H where
  go := fun i d m' S' H' le x s _ e => by
    have hs' := x.tp _ _ hs
    obtain ⟨y, e1, rfl⟩ := enumP_at e
    obtain ⟨v, h1, h2⟩ := (r.mono x le).get e1
    refine ⟨⟨xs, v, hs', h1⟩, fun z H2 hy => ?_⟩
    obtain ⟨q, w, rfl, hq, rfl, e3⟩ := hy
    have := e3 xs hs'
    rw [h1] at this
    cases this
    rw [Nat.zero_add]
    exact yld_pair s hq h2
  stop := fun m' S' H' le x s _ => ⟨xs, x.tp _ _ hs, by
    show xs.length ≤ (enumP 0 l).length
    rw [enumP_len, r.length]
    exact Nat.le_refl _⟩
theorem itOk_enumL {k : Nat} {l : List PV} {po : PO} (s0 : StS K mg m S H) (e0 : S[k]? = some po) (hl : lstOf k S = some l) : ItOk K mg (Ite K (m k)) ⟨enumP 0 l, [(k, po)]⟩ S.length m H where
  go := fun i d m' S' H' le x s kp e => by
    have e1 : S'[k]? = some po := kp (k, po) (by simp)
    have hl' : lstOf k S' = some l := by
      unfold lstOf at hl ⊢
      rw [e0] at hl
      rw [e1]; exact hl
    obtain ⟨ys, h1, h2⟩ := lst_rp s hl'
    rw [x.mp k (lt_of_get e0)] at h1
    obtain ⟨y, e1, rfl⟩ := enumP_at e
    obtain ⟨v, h3, h4⟩ := h2.get e1
    refine ⟨⟨ys, v, h1, h3⟩, fun z H2 hy => ?_⟩
    obtain ⟨q, w, rfl, hq, rfl, e3⟩ := hy
    have := e3 ys h1
    rw [h3] at this
    cases this
    rw [Nat.zero_add]
    exact yld_pair s hq h4
  stop := fun m' S' H' le x s kp => by
    have e1 : S'[k]? = some po := kp (k, po) (by simp)
    have hl' : lstOf k S' = some l := by
      unfold lstOf at hl ⊢
      rw [e0] at hl
      rw [e1]; exact hl
    obtain ⟨ys, h1, h2⟩ := lst_rp s hl'
    rw [x.mp k (lt_of_get e0)] at h1
    exact ⟨ys, h1, by
      show ys.length ≤ (enumP 0 l).length
      rw [enumP_len, h2.length]
      exact Nat.le_refl _⟩
end
def dEnumI (f : DA) : DI := fun ρ S => bR (f ρ S) fun x S1 => match x with
  | [.tup l] => some (.ok ⟨enumP 0 l, []⟩ S1)
  | [.loc k] => match S1[k]? with
    | some (.lst l) => some (.ok ⟨enumP 0 l, [(k, .lst l)]⟩ S1)
    | some (.fz l) => some (.ok ⟨enumP 0 l, [(k, .fz l)]⟩ S1)
    | _ => none
  | _ => none
theorem di_enum {X : Cx} {W : WX} {e : Expr} {fa : DA} {p pos tpos : Pos} {elts : List Expr} {kk : Nat} (hg : Gl X "enumerate") (hm : X.mg "enumerate" = none) (ha : PAd X W [e] fa) (hs : starEach [e] X.env = [(false, eval e X.env)] := by rfl) :
    PId X W (.Tuple elts kk tpos) (.Call (.Name "enumerate" p) [e] [] pos) (dEnumI fa) := (pi_enumA hg hm ha hs).imp fun σ H Q h => by
  refine (bind1 (ra := rA X.K) h).mono fun v H1 ⟨m, ρ, S, d, z, s, en, r1, hk, p⟩ => ?_
  split at hk
  · cases r1 with
    | cons a b =>
      cases b
      cases a with
      | @tup l a xs h1 h2 =>
        cases hk
        exact ⟨a, xs, rfl, .inr ⟨h1, p _ m H1 (Nat.le_refl _) Ext.refl s (itOk_enumT h1 h2)⟩⟩
  · cases r1 with
    | cons a b =>
      cases b; cases a
      split at hk
      · rename_i e1
        cases hk
        have hl := lstOf1 e1
        obtain ⟨xs, h1, h2⟩ := lst_rp s hl
        exact ⟨_, xs, rfl, .inl ⟨h1, p _ m H1 (Nat.le_refl _) Ext.refl s (itOk_enumL s e1 hl)⟩⟩
      · rename_i e1
        cases hk
        have hl := lstOf2 e1
        obtain ⟨xs, h1, h2⟩ := lst_rp s hl
        exact ⟨_, xs, rfl, .inl ⟨h1, p _ m H1 (Nat.le_refl _) Ext.refl s (itOk_enumL s e1 hl)⟩⟩
      · cases hk
  · cases hk

/-! ### sum, max, min, any, all of a list -/
def intP : PV → Option Int
  | .int i => some i
  | _ => none
def blP : PV → Option Bool
  | .bl i => some i
  | _ => none
theorem intP_map : ∀ {l : List PV} {ns : List Int}, mapO intP l = some ns → l = ns.map PV.int
  | [], _, h => by cases h; rfl
  | x :: r, _, h => by
    unfold mapO at h
    split at h
    · rename_i y ys h1 h2
      cases h
      rw [intP_map h2]
      cases x <;> cases h1
      rfl
    · cases h
theorem blP_map : ∀ {l : List PV} {ns : List Bool}, mapO blP l = some ns → l = ns.map PV.bl
  | [], _, h => by cases h; rfl
  | x :: r, _, h => by
    unfold mapO at h
    split at h
    · rename_i y ys h1 h2
      cases h
      rw [blP_map h2]
      cases x <;> cases h1
      rfl
    · cases h
/-- the ints of a stored list -/
def intsAt (k : Nat) (S : Sto) : Option (List Int) := match lstOf k S with
  | some l => mapO intP l
  | none => none
def blsAt (k : Nat) (S : Sto) : Option (List Bool) := match lstOf k S with
  | some l => mapO blP l
  | none => none
def maxI : List Int → Int
  | [] => 0
  | [i] => i
  | i :: r => if i ≤ maxI r then maxI r else i
def minI : List Int → Int
  | [] => 0
  | [i] => i
  | i :: r => if minI r ≤ i then minI r else i
theorem maxI_is : ∀ {ns : List Int} {m : Int}, m ∈ ns → (∀ y ∈ ns, y ≤ m) → m = maxI ns
  | [i], m, h, _ => List.mem_singleton.mp h
  | i :: j :: r, m, h, hm => by
    have hi := hm i List.mem_cons_self
    have mr : maxI (j :: r) ∈ j :: r := by
      have : ∀ (l : List Int) (x : Int), maxI (x :: l) ∈ x :: l := by
        intro l
        induction l with
        | nil => intro x; simp [maxI]
        | cons y l ih =>
          intro x
          unfold maxI
          split
          · exact List.mem_cons_of_mem _ (ih y)
          · exact List.mem_cons_self
      exact this r j
    have mx : ∀ (l : List Int) (x : Int), ∀ y ∈ x :: l, y ≤ maxI (x :: l) := by
      intro l
      induction l with
      | nil => intro x y hy; simp [maxI] at hy ⊢; omega
      | cons z l ih =>
        intro x y hy
        unfold maxI
        split
        · rcases List.mem_cons.mp hy with rfl | hy
          · assumption
          · exact ih z y hy
        · rcases List.mem_cons.mp hy with rfl | hy
          · exact Int.le_refl _
          · have := ih z y hy; omega
    have h1 := hm _ (List.mem_cons_of_mem _ mr)
    unfold maxI
    rcases List.mem_cons.mp h with rfl | h
    · split <;> omega
    · have := mx r j m h
      split <;> omega
theorem minI_is : ∀ {ns : List Int} {m : Int}, m ∈ ns → (∀ y ∈ ns, m ≤ y) → m = minI ns
  | [i], m, h, _ => List.mem_singleton.mp h
  | i :: j :: r, m, h, hm => by
    have hi := hm i List.mem_cons_self
    have mr : minI (j :: r) ∈ j :: r := by
      have : ∀ (l : List Int) (x : Int), minI (x :: l) ∈ x :: l := by
        intro l
        induction l with
        | nil => intro x; simp [minI]
        | cons y l ih =>
          intro x
          unfold minI
          split
          · exact List.mem_cons_of_mem _ (ih y)
          · exact List.mem_cons_self
      exact this r j
    have mx : ∀ (l : List Int) (x : Int), ∀ y ∈ x :: l, minI (x :: l) ≤ y := by
      intro l
      induction l with
      | nil => intro x y hy; simp [minI] at hy ⊢; omega
      | cons z l ih =>
        intro x y hy
        unfold minI
        split
        · rcases List.mem_cons.mp hy with rfl | hy
          · assumption
          · exact ih z y hy
        · rcases List.mem_cons.mp hy with rfl | hy
          · exact Int.le_refl _
          · have := ih z y hy; omega
    have h1 := hm _ (List.mem_cons_of_mem _ mr)
    unfold minI
    rcases List.mem_cons.mp h with rfl | h
    · split <;> omega
    · have := mx r j m h
      split <;> omega
section
variable {K : PySem.W.Frag} {mg : Str → Option Value} {m : Nat → Addr} {H : Hp} {S : Sto}
theorem intsAt_rp {k : Nat} {ns : List Int} (s : StS K mg m S H) (e : intsAt k S = some ns) : SqL K H (m k) (ns.map V.int) := by
  unfold intsAt at e
  split at e
  · rename_i l hl
    obtain ⟨xs, h1, h2⟩ := lst_rp s hl
    rw [intP_map e] at h2
    rw [h2.ints] at h1
    exact h1
  · cases e
theorem blsAt_rp {k : Nat} {ns : List Bool} (s : StS K mg m S H) (e : blsAt k S = some ns) : SqL K H (m k) (ns.map V.bl) := by
  unfold blsAt at e
  split at e
  · rename_i l hl
    obtain ⟨xs, h1, h2⟩ := lst_rp s hl
    rw [blP_map e] at h2
    rw [h2.bls] at h1
    exact h1
  · cases e
def gSumL : GA := fun l S => match l with
  | [.loc k] => match intsAt k S with
    | some ns => some (.ok (.int ns.sum) S)
    | none => none
  | _ => none
def gMaxL : GA := fun l S => match l with
  | [.loc k] => match intsAt k S with
    | some ns => if 0 < ns.length then some (.ok (.int (maxI ns)) S) else none
    | none => none
  | _ => none
def gMinL : GA := fun l S => match l with
  | [.loc k] => match intsAt k S with
    | some ns => if 0 < ns.length then some (.ok (.int (minI ns)) S) else none
    | none => none
  | _ => none
def gAnyL : GA := fun l S => match l with
  | [.loc k] => match blsAt k S with
    | some ns => some (.ok (.bl (ns.any id)) S)
    | none => none
  | _ => none
def gAllL : GA := fun l S => match l with
  | [.loc k] => match blsAt k S with
    | some ns => some (.ok (.bl (ns.all id)) S)
    | none => none
  | _ => none
theorem ok_sumL : OkGA K mg (rSum K) gSumL := fun W σ m S H x d z Q s r e p => by
  unfold gSumL at e
  split at e
  · split at e
    · rename_i ns hn
      cases e
      cases r with
      | cons a b =>
        cases b; cases a
        exact ⟨_, ns, rfl, intsAt_rp s hn, post_here s (.int _) p⟩
    · cases e
  · cases e
theorem ok_maxL : OkGA K mg (rMax K) gMaxL := fun W σ m S H x d z Q s r e p => by
  unfold gMaxL at e
  split at e
  · split at e
    · rename_i ns hn
      split at e
      · rename_i hl
        cases e
        cases r with
        | cons a b =>
          cases b; cases a
          exact ⟨_, ns, rfl, intsAt_rp s hn, hl, fun i h1 h2 => by rw [maxI_is h1 h2]; exact post_here s (.int _) p⟩
      · cases e
    · cases e
  · cases e
theorem ok_minL : OkGA K mg (rMin K) gMinL := fun W σ m S H x d z Q s r e p => by
  unfold gMinL at e
  split at e
  · split at e
    · rename_i ns hn
      split at e
      · rename_i hl
        cases e
        cases r with
        | cons a b =>
          cases b; cases a
          exact ⟨_, ns, rfl, intsAt_rp s hn, hl, fun i h1 h2 => by rw [minI_is h1 h2]; exact post_here s (.int _) p⟩
      · cases e
    · cases e
  · cases e
theorem ok_anyL : OkGA K mg (rAny K) gAnyL := fun W σ m S H x d z Q s r e p => by
  unfold gAnyL at e
  split at e
  · split at e
    · rename_i ns hn
      cases e
      cases r with
      | cons a b =>
        cases b; cases a
        exact ⟨_, ns, rfl, blsAt_rp s hn, post_here s (.bl _) p⟩
    · cases e
  · cases e
theorem ok_allL : OkGA K mg (rAll K) gAllL := fun W σ m S H x d z Q s r e p => by
  unfold gAllL at e
  split at e
  · split at e
    · rename_i ns hn
      cases e
      cases r with
      | cons a b =>
        cases b; cases a
        exact ⟨_, ns, rfl, blsAt_rp s hn, post_here s (.bl _) p⟩
    · cases e
  · cases e
end

/-! ### max(xs, default=d) -/
def rMaxDf (K : PySem.W.Frag) : List V → List V → Hp → VK → Prop := fun xs zs H Q => ∃ (a : Addr) (ns : List Int) (d : Int), xs = [.ref a] ∧ zs = [.int d] ∧ SqL K H a (ns.map V.int) ∧ (ns = [] → Q (.int d) H) ∧ ∀ n r, ns = n :: r → Q (.int (r.foldl max n)) H
theorem reads_ints {h : Heap} : ∀ {ns : List Int} {us : List Value}, Vals (ns.map V.int) us → ∃ as, ReadsAll h us (ns.map PyData.int) as
  | [], _, .nil => ⟨_, .nil⟩
  | i :: r, _, .cons ⟨t, e⟩ rs => by
    obtain ⟨as, q⟩ := reads_ints (h := h) rs
    subst e
    exact ⟨_, .cons (.int i t) q⟩
theorem depth_ints : ∀ ns : List Int, PyData.depthAll (ns.map PyData.int) = 0
  | [] => by simp [PyData.depthAll]
  | n :: r => by rw [List.map_cons, PyData.depthAll, depth_ints r, PyData.depth] <;> simp
theorem crk_max {X : Cx} (hc : X.calm = true) (hu : X.A.units + 64 < cLine) : CallRK X (.builtin "max") ["default"] (rMaxDf X.K) := by
  intro pins s σ H xs zs us ws Q I r1 r2 h
  obtain ⟨a, ns, d, rfl, rfl, hs, q0, q1⟩ := h
  obtain ⟨its, rv, hl, _⟩ := I.list hs
  rw [Vals.ref1 r1]
  cases r2 with
  | cons rd rn =>
    cases rn
    obtain ⟨td, rfl⟩ := rd
    obtain ⟨as, ra⟩ := reads_ints (h := s.heap) rv
    have al : PySem.W.AlikeAll (ns.map PyData.int) := ⟨fun x hx y hy => by
      obtain ⟨_, _, rfl⟩ := List.mem_map.mp hx
      obtain ⟨_, _, rfl⟩ := List.mem_map.mp hy
      rfl, fun x hx z => by
      obtain ⟨_, _, rfl⟩ := List.mem_map.mp hx
      cases z⟩
    refine PySem.W.max_list_default (I.ok.hd hc) hl.isList ra al (by rw [depth_ints]; omega) (fun e h' tk k => ?_) fun y ys i v h' tk bs e hv rd k => ?_
    · exact ⟨.int d, H, I.kept k, ⟨_, rfl⟩, q0 (List.map_eq_nil_iff.mp e)⟩
    · cases ns with
      | nil => cases e
      | cons n r =>
        rw [List.map_cons] at e
        cases e
        rw [PySem.W.maxD_ints] at rd
        cases rd
        exact ⟨.int _, H, I.kept k, ⟨_, rfl⟩, q1 n r rfl⟩
def gMaxDf (xs : List PV) (z : PV) (S : Sto) : Option (R PV) := match xs, z with
  | [.loc k], .int d => match intsAt k S with
    | some [] => some (.ok (.int d) S)
    | some (n :: r) => some (.ok (.int (r.foldl max n)) S)
    | none => none
  | _, _ => none
def dMaxDf (f : DA) (d : DE) : DE := fun ρ S => bR (f ρ S) fun xs S1 => bR (d ρ S1) fun z S2 => gMaxDf xs z S2
theorem de_maxDf {X : Cx} {W : WX} {e d : Expr} {es : List Expr} {fa : DA} {fd : DE} {p pos kp : Pos} (hc : X.calm = true) (hu : X.A.units + 64 < cLine) (hg : Gl X "max") (hm : X.mg "max" = none) (ha : PAd X W (e :: es) fa) (hd : PEd X W d fd)
    (he : backTo pos (starEach (e :: es) X.env) = (false, eval e X.env) :: backTo pos (starEach es X.env) := by rfl) (hpl : (backTo pos (starEach (e :: es) X.env)).any (·.1) = false := by rfl)
    (hall : (backToKw pos (keywordEach [⟨some "default", d, kp⟩] X.env)).all (·.1.isSome) = true := by rfl) (hnone : (backToKw pos (keywordEach [⟨some "default", d, kp⟩] X.env)).any (·.1.isNone) = false := by rfl) (hks : (backToKw pos (keywordEach [⟨some "default", d, kp⟩] X.env)).filterMap (·.1) = ([("default" : Str)] : List Str) := by rfl) :
    PEd X W (.Call (.Name "max" p) (e :: es) [⟨some "default", d, kp⟩] pos) (dMaxDf fa fd) :=
  (pe_callBK (crk_max hc hu) hg hm (by decide +kernel) ha (pk_cons hd pk_nil) (by decide) (by decide) he hpl hall hnone hks).imp fun σ H Q h => by
  refine (bind2 (ra := rA X.K) (rb := rE X.K) keeps_A h).mono fun vs H1 h1 => h1.mono fun z H2 ⟨m, ρ, S, xs, dz, r, s, en, r1, r2, hk, q⟩ => ?_
  unfold gMaxDf at hk
  split at hk
  · cases r2
    cases r1 with
    | cons a b =>
      cases b; cases a
      split at hk
      · rename_i hn
        cases hk
        exact ⟨_, [], _, rfl, rfl, intsAt_rp s hn, fun _ => post_here s (.int _) q, fun _ _ z => by cases z⟩
      · rename_i n r hn
        cases hk
        exact ⟨_, n :: r, _, rfl, rfl, intsAt_rp s hn, (fun z => by cases z), fun _ _ z => by cases z; exact post_here s (.int _) q⟩
      · cases hk
  · cases hk
end D

/-! D11: in, not in; list.insert; range with a step. -/
namespace D
open PySem PySem.Spec PyProof.Rows L2

/-! ### in, not in -/
def rInP (K : PySem.W.Frag) (neg : Bool) : R2 := fun x y H Q => ∃ d e ds, L2.Dp K H x d ∧ L2.Dp K H y e ∧ (e = .list ds ∨ e = .tuple ds) ∧ d.plain = true ∧ PyData.plainAll ds = true ∧ d.depth ≤ 60 ∧
  Q (.bl (if neg then !(ds.any fun z => PyData.eqv z d) else ds.any fun z => PyData.eqv z d)) H
theorem op_inP {X : Cx} (hu : X.A.units + 64 < cLine) : OpR X (compareOp .In) (rInP X.K false) := by
  intro pins s σ H x y v u Q I rx ry h
  obtain ⟨d, e, ds, hd, he, he2, pd, pe, dd, q⟩ := h
  obtain ⟨as, r1⟩ := Dp.reads I d x v hd rx
  obtain ⟨bs, r2⟩ := Dp.reads I e y u he ry
  rcases he2 with rfl | rfl
  · exact SeqAt.in_list_data r2 r1 pe pd (by omega) ⟨.bl _, H, I, rfl, q⟩
  · exact SeqAt.in_tuple_data r2 r1 pe pd (by omega) ⟨.bl _, H, I, rfl, q⟩
theorem op_notinP {X : Cx} (hu : X.A.units + 64 < cLine) : OpR X (compareOp .NotIn) (rInP X.K true) := by
  intro pins s σ H x y v u Q I rx ry h
  obtain ⟨d, e, ds, hd, he, he2, pd, pe, dd, q⟩ := h
  obtain ⟨as, r1⟩ := Dp.reads I d x v hd rx
  obtain ⟨bs, r2⟩ := Dp.reads I e y u he ry
  rcases he2 with rfl | rfl
  · exact SeqAt.notIn_list_data r2 r1 pe pd (by omega) ⟨.bl _, H, I, rfl, q⟩
  · exact SeqAt.notIn_tuple_data r2 r1 pe pd (by omega) ⟨.bl _, H, I, rfl, q⟩
def inP (x y : PV) (S : Sto) : Option Bool := match toD 60 S x, toD 60 S y with
  | some d, some (.list ds) => some (ds.any fun z => PyData.eqv z d)
  | some d, some (.tuple ds) => some (ds.any fun z => PyData.eqv z d)
  | _, _ => none
def gInN (neg : Bool) : G2 := fun x y S => match inP x y S with
  | some b => some (.ok (.bl (if neg then !b else b)) S)
  | none => none
abbrev gIn : G2 := gInN false
abbrev gNotIn : G2 := gInN true
theorem ok_in {K : PySem.W.Frag} {mg : Str → Option Value} {neg : Bool} : OkG2 K mg (rInP K neg) (gInN neg) := fun W σ m S H x y d d' z Q s r1 r2 e p => by
  unfold gInN at e
  split at e
  · rename_i b hb
    cases e
    unfold inP at hb
    split at hb
    · rename_i q1 ds e1 e2
      cases hb
      obtain ⟨a1, a2, a3⟩ := toD_dp s 60 _ _ _ e1 r1
      obtain ⟨b1, b2, b3⟩ := toD_dp s 60 _ _ _ e2 r2
      rw [PyData.plain] at b2
      exact ⟨q1, _, ds, a1, b1, .inl rfl, a2, b2, a3, post_here s (.bl _) p⟩
    · rename_i q1 ds e1 e2
      cases hb
      obtain ⟨a1, a2, a3⟩ := toD_dp s 60 _ _ _ e1 r1
      obtain ⟨b1, b2, b3⟩ := toD_dp s 60 _ _ _ e2 r2
      rw [PyData.plain] at b2
      exact ⟨q1, _, ds, a1, b1, .inr rfl, a2, b2, a3, post_here s (.bl _) p⟩
    · cases hb
  · cases e
/-! ### list.insert -/
section
variable {K : PySem.W.Frag} {mg : Str → Option Value}
def rInsert : V → List V → Hp → VK → Prop := fun x vs H Q => ∃ (l : Addr) (xs : List V) (i : Int) (y : V), x = .ref l ∧ vs = [.int i, y] ∧ H l = some (.lst xs) ∧ xs.length < sizeLine ∧ 0 ≤ i ∧ i < 2 ^ 63 ∧
    Q .non (upd H l (.lst (xs.take i.toNat ++ [y] ++ xs.drop i.toNat)))
def gInsert : GM := fun c d S => match c, d with
  | .loc k, [.int i, y] => match S[k]? with
    | some (.lst l) => if l.length < 16777216 ∧ 0 ≤ i ∧ i < 2 ^ 63 then some (.ok .non (S.set k (.lst (l.take i.toNat ++ [y] ++ l.drop i.toNat)))) else none
    | _ => none
  | _, _ => none
theorem mt_insert2 {X : Cx} : MtR X "list.insert" rInsert := mt_insert
theorem ok_insert : OkGM K mg rInsert gInsert := fun W σ m S H o x c d z Q s ro r e p => by
  unfold gInsert at e
  split at e
  · cases ro with
    | loc hk =>
      cases r with
      | cons a b =>
        cases a
        cases b with
        | cons a2 b2 =>
          cases b2
          split at e
          · rename_i l e1
            split at e
            · rename_i hl
              cases e
              obtain ⟨xs, h1, h2⟩ := s.obj _ _ e1
              exact ⟨_, xs, _, _, rfl, rfl, h1, by rw [← h2.length]; exact Nat.lt_of_lt_of_le hl.1 (by decide), hl.2.1, hl.2.2, list_set s e1 (((h2.take _).append (.one a2)).append (h2.drop _)) .non p⟩
            · cases e
          · cases e
  · cases e
end
end D

/-! D12: dicts: d[k], k in d, d[k] = v, {}. -/
namespace D
open PySem PySem.Spec PyProof.Rows L2

/-! ### d[k] -/
def rDGet : R2 := fun x y H Q => ∃ a v, x = .ref a ∧ DGet H a y (some v) ∧ Q v H
theorem ix_dict {X : Cx} (hu : X.A.units + 1 < cLine) : IxR X rDGet := by
  intro value slice pins s σ H x y v u Q I rx ry h hs
  obtain ⟨a, z, rfl, g, q⟩ := h
  obtain rfl : v = Value.ref a := rx
  have hT := dict_typeIs I g
  unfold subscriptTail
  refine wpAny_bind ?_
  rw [getitemInPython_of_ne hT.not_modules]
  refine wpAny_bind (wpAny_specialOf hT PySem.F.slot_dict_getitem.lookup ?_)
  have fin : wpAny (model X.prog X.w) X.A (subscripted slice false (.ref a) u) (fun r s₃ => wpAny (model X.prog X.w) X.A (letTemporaryGo value (.ref a) r >>= fun _ => pure r) (EP X pins σ Q) X.xe s₃) X.xe s := by
    rw [hs]
    exact wpAny_operating (d_getItem hu I g ry fun w' s3 I3 rw' => wpAny_bind (wpAny_letTemporaryGo (wpAny_pure ⟨z, H, I3, rw', q⟩)))
  first
    | exact wpAny_pure (wpAny_bind fin)
    | exact wpAny_bind (wpAny_pure (wpAny_bind fin))
    | exact wpAny_bind fin
/-! ### k in d -/
def rDIn (neg : Bool) : R2 := fun y x H Q => ∃ a o, x = .ref a ∧ DGet H a y o ∧ Q (.bl (if neg then !o.isSome else o.isSome)) H
theorem op_dIn {X : Cx} (hu : X.A.units + 1 < cLine) : OpR X (compareOp .In) (rDIn false) := by
  intro pins s σ H x y v u Q I rx ry h
  obtain ⟨a, o, rfl, g, q⟩ := h
  obtain rfl : u = Value.ref a := ry
  exact d_in hu I g rx fun s3 I3 => ⟨.bl o.isSome, H, I3, rfl, q⟩
theorem op_dNotIn {X : Cx} (hu : X.A.units + 1 < cLine) : OpR X (compareOp .NotIn) (rDIn true) := by
  intro pins s σ H x y v u Q I rx ry h
  obtain ⟨a, o, rfl, g, q⟩ := h
  obtain rfl : u = Value.ref a := ry
  exact d_notIn hu I g rx fun s3 I3 => ⟨.bl (!o.isSome), H, I3, rfl, q⟩
section
variable {K : PySem.W.Frag} {mg : Str → Option Value} {H : Hp} {m : Nat → Addr} {n : Nat} {S : Sto}
theorem kP_rp {d : PV} {k : Key} {v : V} (h : kP d = some k) (r : Rp K H m n d v) : v = kV k := by
  cases r <;> simp [kP] at h
  · subst h; rfl
  · subst h; rfl
def valD : List (PV × PV) → Key → Option PV
  | [], _ => none
  | p :: r, k => if kP p.1 = some k then some p.2 else valD r k
theorem valD_rp {k : Key} : ∀ {kvs : List (PV × PV)} {kv : List (Key × V)}, RpK K H m n kvs kv → (valD kvs k = none ∧ valV kv k = none) ∨ ∃ d v, valD kvs k = some d ∧ valV kv k = some v ∧ Rp K H m n d v
  | _, _, .nil => .inl ⟨rfl, rfl⟩
  | p :: r, q :: t, .cons h rs => by
    obtain ⟨h1, h2⟩ := h
    unfold valD
    rw [h1]
    by_cases e : q.1 = k
    · rw [if_pos (by rw [e]), valV_pos e]
      exact .inr ⟨_, _, rfl, rfl, h2⟩
    · rw [if_neg (fun z => e (Option.some.inj z)), valV_neg e]
      exact valD_rp rs
def gIxD : G2 := fun x y S => match x with
  | .loc k => match S[k]? with
    | some (.dct false kvs) => match kP y with
      | some q => match valD kvs q with
        | some v => some (.ok v S)
        | none => none
      | none => none
    | some (.fd kvs) => match kP y with
      | some q => match valD kvs q with
        | some v => some (.ok v S)
        | none => none
      | none => none
    | _ => none
  | _ => none
theorem ok_ixD : OkG2 K mg rDGet gIxD := fun W σ m S H x y d d' z Q s r1 r2 e p => by
  unfold gIxD at e
  split at e
  · cases r1
    split at e
    · rename_i kvs e1
      split at e
      · rename_i q e2
        split at e
        · rename_i v e3
          cases e
          have hy := kP_rp e2 r2
          subst hy
          rcases s.obj _ _ e1 with ⟨_, kv, h1, h2⟩ | ⟨ht, _⟩
          · rcases valD_rp (k := q) h2 with ⟨g1, _⟩ | ⟨d, w, g1, g2, g3⟩
            · rw [g1] at e3; cases e3
            · rw [g1] at e3
              cases e3
              exact ⟨_, w, rfl, g2 ▸ DGet.k h1, post_here s g3 p⟩
          · cases ht
        · cases e
      · cases e
    · rename_i kvs e1
      split at e
      · rename_i q e2
        split at e
        · rename_i v e3
          cases e
          have hy := kP_rp e2 r2
          subst hy
          obtain ⟨o, kv, h1, h2⟩ := s.obj _ _ e1
          rcases valD_rp (k := q) h2 with ⟨g1, _⟩ | ⟨d, w, g1, g2, g3⟩
          · rw [g1] at e3; cases e3
          · rw [g1] at e3
            cases e3
            exact ⟨_, w, rfl, g2 ▸ .inl ⟨kv, q, .inr ⟨o, h1⟩, rfl, rfl⟩, post_here s g3 p⟩
        · cases e
      · cases e
    · cases e
  · cases e
def gDIn (neg : Bool) : G2 := fun y x S => match x with
  | .loc k => match S[k]? with
    | some (.dct false kvs) => match kP y with
      | some q => some (.ok (.bl (if neg then !(valD kvs q).isSome else (valD kvs q).isSome)) S)
      | none => none
    | some (.fd kvs) => match kP y with
      | some q => some (.ok (.bl (if neg then !(valD kvs q).isSome else (valD kvs q).isSome)) S)
      | none => none
    | _ => none
  | _ => none
theorem ok_dIn {neg : Bool} : OkG2 K mg (rDIn neg) (gDIn neg) := fun W σ m S H x y d d' z Q s r1 r2 e p => by
  unfold gDIn at e
  split at e
  · cases r2
    split at e
    · rename_i kvs e1
      split at e
      · rename_i q e2
        cases e
        have hy := kP_rp e2 r1
        subst hy
        rcases s.obj _ _ e1 with ⟨_, kv, h1, h2⟩ | ⟨ht, _⟩
        · have hs : (valV kv q).isSome = (valD kvs q).isSome := by
            rcases valD_rp (k := q) h2 with ⟨g1, g2⟩ | ⟨d, w, g1, g2, g3⟩ <;> rw [g1, g2] <;> rfl
          exact ⟨_, _, rfl, DGet.k h1, by rw [hs]; exact post_here s (.bl _) p⟩
        · cases ht
      · cases e
    · rename_i kvs e1
      split at e
      · rename_i q e2
        cases e
        have hy := kP_rp e2 r1
        subst hy
        obtain ⟨o, kv, h1, h2⟩ := s.obj _ _ e1
        have hs : (valV kv q).isSome = (valD kvs q).isSome := by
          rcases valD_rp (k := q) h2 with ⟨g1, g2⟩ | ⟨d, w, g1, g2, g3⟩ <;> rw [g1, g2] <;> rfl
        exact ⟨_, _, rfl, .inl ⟨kv, q, .inr ⟨o, h1⟩, rfl, rfl⟩, by rw [hs]; exact post_here s (.bl _) p⟩
      · cases e
    · cases e
  · cases e
end
/-! ### d[k] = v -/
def putD (kvs : List (PV × PV)) (y v : PV) (k : Key) : List (PV × PV) := if (kvs.any fun p => decide (kP p.1 = some k)) = true then kvs.map (fun p => if kP p.1 = some k then (p.1, v) else p) else kvs ++ [(y, v)]
section
variable {K : PySem.W.Frag} {mg : Str → Option Value} {H : Hp} {m : Nat → Addr} {n : Nat}
theorem rpk_any {k : Key} : ∀ {kvs : List (PV × PV)} {kv : List (Key × V)}, RpK K H m n kvs kv → (kvs.any fun p => decide (kP p.1 = some k)) = kv.any fun q => decide (q.1 = k)
  | _, _, .nil => rfl
  | p :: r, q :: t, .cons h rs => by
    rw [List.any_cons, List.any_cons, rpk_any rs, h.1]
    congr 1
    simp
theorem rpk_map {k : Key} {d : PV} {v : V} (rv : Rp K H m n d v) : ∀ {kvs : List (PV × PV)} {kv : List (Key × V)}, RpK K H m n kvs kv → RpK K H m n (kvs.map fun p => if kP p.1 = some k then (p.1, d) else p) (kv.map fun q => if q.1 = k then (q.1, v) else q)
  | _, _, .nil => .nil
  | p :: r, q :: t, .cons h rs => by
    rw [List.map_cons, List.map_cons]
    refine .cons ?_ (rpk_map rv rs)
    by_cases e : q.1 = k
    · rw [if_pos (by rw [h.1, e]), if_pos e]
      exact ⟨h.1, rv⟩
    · rw [if_neg (by rw [h.1]; exact fun z => e (Option.some.inj z)), if_neg e]
      exact h
theorem rpk_snoc {y d : PV} {k : Key} {v : V} (hk : kP y = some k) (rv : Rp K H m n d v) : ∀ {kvs : List (PV × PV)} {kv : List (Key × V)}, RpK K H m n kvs kv → RpK K H m n (kvs ++ [(y, d)]) (kv ++ [(k, v)])
  | _, _, .nil => .cons ⟨hk, rv⟩ .nil
  | p :: r, q :: t, .cons h rs => .cons h (rpk_snoc hk rv rs)
theorem rpk_put {y d : PV} {k : Key} {v : V} (hk : kP y = some k) (rv : Rp K H m n d v) {kvs : List (PV × PV)} {kv : List (Key × V)} (h : RpK K H m n kvs kv) : RpK K H m n (putD kvs y d k) (putK kv k v) := by
  unfold putD putK
  rw [rpk_any h]
  split
  · exact rpk_map rv h
  · exact rpk_snoc hk rv h
end
def gSetD : GSt := fun o i v S => match o with
  | .loc k => match S[k]? with
    | some (.dct false kvs) => match kP i with
      | some q => if kvs.length < 16777216 then some (S.set k (.dct false (putD kvs i v q))) else none
      | none => none
    | _ => none
  | _ => none
theorem ok_setD {K : PySem.W.Frag} {mg : Str → Option Value} : OkSt K mg rSetD gSetD := fun m S S' H o i v c d e Q s r1 r2 r3 h q => by
  unfold gSetD at h
  split at h
  · cases r1
    split at h
    · rename_i kvs e1
      split at h
      · rename_i ky e2
        split at h
        · rename_i hl
          cases h
          have hy := kP_rp e2 r2
          subst hy
          rcases s.obj _ _ e1 with ⟨_, kv, h1, h2⟩ | ⟨ht, _⟩
          · have hlen : kv.length < sizeLine := by rw [← paired_len h2]; exact Nat.lt_of_lt_of_le hl (by decide)
            have mu := s.mut e1 rfl
            have x : Ext K S.length m H m (upd H (m _) (.dK (putK kv ky v))) := ext_upd (.inr mu)
            refine ⟨_, _, rfl, DPut.k h1 hlen, q m _ (by rw [List.length_set]; exact Nat.le_refl _) x ?_⟩
            exact s.write (ho := .dK (putK kv ky v)) (po' := .dct false (putD kvs d e ky)) e1 rfl rfl (.inl ⟨rfl, _, upd_same, RpK.mono x (Nat.le_refl _) (rpk_put e2 r3 h2)⟩)
          · cases ht
        · cases h
      · cases h
    · cases h
  · cases h
/-! ### {} -/
def dNewD : DE := fun _ S => some (.ok (.loc S.length) (S ++ [.dct false []]))
section
variable {X : Cx} {W : WX} {pos : Pos}
theorem de_dnew : PEd X W (.Dict [] [] pos) dNewD := by
  refine pe_dnewK.imp fun σ H Q h => ?_
  obtain ⟨m, ρ, S, r, s, e, hf, p⟩ := h
  cases hf
  intro q hq
  have st := s.push (p := q) (ho := .dK []) (po := .dct false []) hq rfl (.inl ⟨rfl, [], upd_same, .nil⟩)
  have rp : Rp X.K (upd H q (.dK [])) (mext m S.length q) (S ++ [PO.dct false []]).length (.loc S.length) (.ref (mext m S.length q S.length)) := .loc (by simp)
  rw [mext_same] at rp
  exact p _ (mext m S.length q) _ (by simp) (ext_push hq) st rp
end
end D

/-! D13: instances: o.f -/
namespace D
open PySem PySem.Spec PyProof.Rows L2
section
variable {K : PySem.W.Frag} {mg : Str → Option Value} {H : Hp} {m : Nat → Addr} {n : Nat}
theorem rpf_look {f : Str} : ∀ {fs : List (Str × PV)} {fv : List (Str × V)} {d : PV}, RpF K H m n fs fv → fs.lookup f = some d → ∃ v, fv.lookup f = some v ∧ Rp K H m n d v
  | _, _, d, .nil, h => by cases h
  | p :: r, q :: t, d, .cons h rs, hl => by
    obtain ⟨h1, h2⟩ := h
    obtain ⟨p1, p2⟩ := p
    obtain ⟨q1, q2⟩ := q
    simp only at h1 h2
    subst h1
    rw [List.lookup_cons] at hl ⊢
    cases e : f == p1 with
    | true =>
      rw [e] at hl
      cases hl
      exact ⟨_, rfl, h2⟩
    | false =>
      rw [e] at hl
      exact rpf_look rs hl
end
def gFld (c f : Str) : PV → Sto → Option (R PV) := fun x S => match x with
  | .loc k => match S[k]? with
    | some (.ins c' fs) => if c' = c then match fs.lookup f with
      | some v => some (.ok v S)
      | none => none else none
    | _ => none
  | _ => none
def dFld (c f : Str) (a : DE) : DE := fun ρ S => bR (a ρ S) fun x S1 => gFld c f x S1
section
variable {X : Cx} {W : WX} {pos : Pos} {e : Expr} {fa : DE} {c f : Str} {C : Addr}
theorem de_fld (gC : X.mg c = some (.ref C)) (hc : Cls X.K C) (hn : NoAttr X.K C f) (ha : PEd X W e fa) (hb : attributeBase e f X.env (eval e X.env) = eval e X.env := by rfl) : PEd X W (.Attribute e f pos) (dFld c f fa) := by
  refine (pe_fld ha hb).imp fun σ H Q h => ?_
  refine (bind1 (ra := rE X.K) (k := fun ρ x S1 => gFld c f x S1) h).mono fun v H1 ⟨m, ρ, S, d, z, s, e, r1, hk, p⟩ => ?_
  replace hk : gFld c f d S = some z := hk
  unfold gFld at hk
  split at hk
  · cases r1
    split at hk
    · rename_i c' fs e1
      split at hk
      · rename_i ec
        subst ec
        split at hk
        · rename_i w el
          cases hk
          obtain ⟨C', dx, fv, h1, h2, h3⟩ := s.obj _ _ e1
          rw [gC] at h2
          cases h2
          obtain ⟨u, g1, g2⟩ := rpf_look h3 el
          exact ⟨_, _, dx, fv, u, rfl, h1, hc, hn, g1, post_here s g2 p⟩
        · cases hk
      · cases hk
    · cases hk
  · cases hk
end
/-! ### o.f = v -/
def putFP (f : Str) (v : PV) : List (Str × PV) → List (Str × PV)
  | [] => [(f, v)]
  | (g, x) :: r => if g = f then (g, v) :: r else (g, x) :: putFP f v r
section
variable {K : PySem.W.Frag} {mg : Str → Option Value} {H : Hp} {m : Nat → Addr} {n : Nat}
theorem rpf_put {f : Str} {d : PV} {v : V} (rv : Rp K H m n d v) : ∀ {fs : List (Str × PV)} {fv : List (Str × V)}, RpF K H m n fs fv → RpF K H m n (putFP f d fs) (putF f v fv)
  | _, _, .nil => .cons ⟨rfl, rv⟩ .nil
  | (p1, p2) :: r, (q1, q2) :: t, .cons h rs => by
    obtain ⟨h1, h2⟩ := h
    simp only at h1 h2
    subst h1
    unfold putFP putF
    by_cases e : p1 = f
    · rw [if_pos e, if_pos e]
      exact .cons ⟨rfl, rv⟩ rs
    · rw [if_neg e, if_neg e]
      exact .cons ⟨rfl, h2⟩ (rpf_put rv rs)
theorem rpf_mono {H' : Hp} {m' : Nat → Addr} {n' : Nat} (e : Ext K n m H m' H') (hn : n ≤ n') {fs : List (Str × PV)} {fv : List (Str × V)} (h : RpF K H m n fs fv) : RpF K H' m' n' fs fv := by
  induction h with
  | nil => exact .nil
  | cons h _ ih => exact .cons ⟨h.1, h.2.mono e hn⟩ ih
end

/-- two parts of a statement -/
theorem bindS2 {K : PySem.W.Frag} {mg : Str → Option Value} {W : WX} {σ : L2.St} {H : Hp} {α β α' β' : Type} {ra : Rel α α'} {rb : Rel β β'} (ka : Keeps K ra) {f : En → Sto → Option (R α)} {g : En → Sto → Option (R β)} {k : En → α → β → Sto → Option RS} {D : Ends}
    (h : tS K mg W (fun ρ S => bS ρ (f ρ S) fun x S1 => bS ρ (g ρ S1) fun y S2 => k ρ x y S2) D σ H) :
    tG K mg ra W f σ H fun v H1 => tG K mg rb W g σ H1 fun u H2 => ∃ m ρ S d d' r, StS K mg m S H2 ∧ EnR K H2 m S.length ρ σ ∧ ra H2 m S.length d v ∧ rb H2 m S.length d' u ∧ k ρ d d' S = some r ∧ PostS K mg W m S H2 r D := by
  refine (bindS (ra := ra) (k := fun ρ x S1 => bS ρ (g ρ S1) fun y S2 => k ρ x y S2) h).mono fun v H1 ⟨m, ρ, S, d, r, s, e, rv, hk, p⟩ => ?_
  have hk : bS ρ (g ρ S) (fun y S3 => k ρ d y S3) = some r := hk
  cases q : g ρ S with
  | none => rw [q] at hk; cases hk
  | some z =>
    rw [q] at hk
    cases z with
    | exc x T =>
      cases hk
      exact ⟨m, ρ, S, .exc x T, s, e, q, post_exc e p⟩
    | ok d' T => exact ⟨m, ρ, S, .ok d' T, s, e, q, fun u m' H' le' x' s' ru => ⟨m', ρ, T, d, d', r, s', e.mono x' le', ka _ _ _ _ _ _ _ _ x' le' rv, ru, hk, p.on le' x'⟩⟩
def gSetF (c f : Str) (v x : PV) (ρ : En) (S : Sto) : Option RS := match x with
  | .loc k => match S[k]? with
    | some (.ins c' fs) => if c' = c ∧ fs.length < 1000 then some (.next ρ (S.set k (.ins c' (putFP f v fs)))) else none
    | _ => none
  | _ => none
theorem gSetF_inv {c f : Str} {v x : PV} {ρ : En} {S : Sto} {r : RS} (h : gSetF c f v x ρ S = some r) : ∃ k fs, x = .loc k ∧ S[k]? = some (.ins c fs) ∧ fs.length < 1000 ∧ r = .next ρ (S.set k (.ins c (putFP f v fs))) := by
  unfold gSetF at h
  split at h
  · rename_i k
    split at h
    · rename_i c' fs e1
      split at h
      · rename_i hc
        cases h
        exact ⟨k, fs, rfl, by rw [e1, hc.1], hc.2, by rw [hc.1]⟩
      · cases h
    · cases h
  · cases h
def dSetF (c f : Str) (fo fe : DE) : DS := fun ρ S => bS ρ (fe ρ S) fun v S1 => bS ρ (fo ρ S1) fun x S2 => gSetF c f v x ρ S2
theorem ds_fld {X : Cx} {W : WX} {pos pos' : Pos} {o e : Expr} {fo fe : DE} {c f : Str} {C : Addr} (gC : X.mg c = some (.ref C)) (hc : Cls X.K C) (hn : NoAttr X.K C f) (ho : PEd X W o fo) (he : PEd X W e fe) (hs : swapsWith e (some (.Attribute o f pos')) pos.line X.env = pure false := by rfl) :
    PSd X W (.Assign [.Attribute o f pos'] e pos) (dSetF c f fo fe) := by
  refine (ps_fld ho he hs).imp fun D σ H h => ?_
  refine (bindS2 (ra := rE X.K) (rb := rE X.K) keeps_E (k := fun ρ v x S => gSetF c f v x ρ S) h).mono fun v H1 h1 => h1.mono fun u H2 ⟨m, ρ, S, d, d', r, s, e, r1, r2, hk, p⟩ => ?_
  obtain ⟨k, fs, rfl, e1, hl, rfl⟩ := gSetF_inv (show gSetF c f d d' ρ S = some r from hk)
  cases r2
  obtain ⟨C', dx, fv, h1, h2, h3⟩ := s.obj _ _ e1
  rw [gC] at h2
  cases h2
  have mu := s.mut e1 rfl
  have x : Ext X.K S.length m H2 m (upd H2 (m _) (.ins C dx (putF f v fv))) := ext_upd (.inr mu)
  refine ⟨_, C, dx, fv, rfl, h1, hc, hn, by rw [← paired_len h3]; exact hl, ?_⟩
  have st := s.write (ho := .ins C dx (putF f v fv)) (po' := .ins c (putFP f d fs)) e1 rfl rfl ⟨C, dx, _, upd_same, gC, rpf_mono x (Nat.le_refl _) (rpf_put r1 h3)⟩
  refine p σ m _ (by rw [List.length_set]; exact Nat.le_refl _) x st ?_
  rw [List.length_set]
  exact e.mono x (Nat.le_refl _)

/-! ### o.m(..) -/
def isInsP (c m : Str) (x : PV) (S : Sto) : Bool := match x with
  | .loc k => match S[k]? with
    | some (.ins c' fs) => decide (c' = c) && (fs.lookup m).isNone
    | _ => false
  | _ => false
def dIMeth (c m : Str) (F : DF) (fo : DE) (fa : DA) : DE := fun ρ S => bR (fo ρ S) fun x S1 => if isInsP c m x S1 = true then bR (fa ρ S1) fun xs S2 => F (x :: xs) S2 else none
theorem rpf_none {K : PySem.W.Frag} {H : Hp} {m : Nat → Addr} {n : Nat} {f : Str} : ∀ {fs : List (Str × PV)} {fv : List (Str × V)}, RpF K H m n fs fv → fs.lookup f = none → fv.lookup f = none
  | _, _, .nil, _ => rfl
  | (p1, p2) :: r, (q1, q2) :: t, .cons h rs, hl => by
    obtain ⟨h1, h2⟩ := h
    simp only at h1 h2
    subst h1
    rw [List.lookup_cons] at hl ⊢
    cases e : f == p1 with
    | true => rw [e] at hl; cases hl
    | false =>
      rw [e] at hl
      exact rpf_none rs hl
def tIMethS (C : Addr) (m : Str) (sp : Sp) (E : L2.St → XK) (ta : TE) (t : TA) : TE := fun σ H Q => ta σ H fun x H1 => ∃ a dx fs, x = .ref a ∧ H1 a = some (.ins C dx fs) ∧ fs.lookup m = none ∧ t σ H1 fun vs H2 => sp (x :: vs) H2 Q (E σ)
section
variable {X : Cx} {CX : CXT} {k : Nat} {f C : Addr} {fd : FuncData} {ps : List Str} {sp : Sp} {E : L2.St → XK} {m : Str} {pos apos : Pos} {e o : Expr} {es : List Expr} {ta : TE} {t : TA}
theorem pe_methE {pl : Sem Bool} (he : PE X o ta) (c : Cls X.K C) (hm : Meth X.K C m f) (F : FnOk X.prog X.w X.K X.mg X.base CX k f fd ps sp) (hr : Room k X.A) (hb : Binds X.K fd ps []) (hx : ∀ σ, PassesAt CX X σ (E σ)) (ha : PA X (e :: es) t)
    (hst : starEach (e :: es) X.env = (false, eval e X.env) :: starEach es X.env := by rfl) (hpl : (backTo pos (starEach es X.env)).any (·.1) = false := by rfl)
    (ht : eval (.Call (.Attribute o m apos) (e :: es) [] pos) X.env = (do
      let ov ← eval o X.env
      standAt apos.atName
      let (f, first) ← holding [ov] (getMethod ov m pl)
      callWith pos f first (backTo pos (starEach (e :: es) X.env)) (backToKw pos (keywordEach [] X.env))) := by rfl) :
    PE X (.Call (.Attribute o m apos) (e :: es) [] pos) (tIMethS C m sp E ta t) := by
  refine ⟨fun pins s σ H Q I h => ?_⟩
  refine PySem.W.methodCall_KW (pl := pl) (thn (he.run pins s σ H _ I h) fun u s1 ⟨x, H1, I1, rx, a, dx, fs, ex, ea, l, q⟩ => ?_) ht
  subst ex
  obtain rfl : u = Value.ref a := rx
  refine getmeth_ok I1 ea c hm l ?_
  refine PySem.W.callWith_K (first := [.ref a]) (h₀ := X.base) I.ok.mod.kin hm.kp (thn (ha.run pos pins s1 σ H1 _ I1 q) fun us s2 ⟨vs, H2, I2, r, q2⟩ => ⟨I2.kIn, ?_⟩) hst hpl
  exact run_fnS (us := .ref a :: us) (vs := .ref a :: vs) F hr hb (hx σ) I2 (.cons rfl r) q2
theorem pe_methE0 {pl : Sem Bool} (he : PE X o ta) (c : Cls X.K C) (hm : Meth X.K C m f) (F : FnOk X.prog X.w X.K X.mg X.base CX k f fd ps sp) (hr : Room k X.A) (hb : Binds X.K fd ps []) (hx : ∀ σ, PassesAt CX X σ (E σ))
    (ht : eval (.Call (.Attribute o m apos) [] [] pos) X.env = (do
      let ov ← eval o X.env
      standAt apos.atName
      let (f, first) ← holding [ov] (getMethod ov m pl)
      callWith pos f first (backTo pos (starEach [] X.env)) (backToKw pos (keywordEach [] X.env))) := by rfl) :
    PE X (.Call (.Attribute o m apos) [] [] pos) (tIMethS C m sp E ta tNil) := by
  refine ⟨fun pins s σ H Q I h => ?_⟩
  refine PySem.W.methodCall_KW (pl := pl) (thn (he.run pins s σ H _ I h) fun u s1 ⟨x, H1, I1, rx, a, dx, fs, ex, ea, l, q⟩ => ?_) ht
  subst ex
  obtain rfl : u = Value.ref a := rx
  refine getmeth_ok I1 ea c hm l ?_
  exact PySem.W.callWith_K0 (first := [.ref a]) I1.kIn hm.kp (run_fnS (us := [.ref a]) (vs := [.ref a]) F hr hb (hx σ) I1 (.cons rfl .nil) q)
end
section
variable {X : Cx} {W : WX} {k n : Nat} {f C : Addr} {fd : FuncData} {ps : List Str} {F : DF} {c m : Str} {apos pos : Pos} {o e : Expr} {es : List Expr} {fo : DE} {fa : DA}
theorem lift_imeth (gC : X.mg c = some (.ref C)) (hF : ∀ args S r, F args S = some r → args.length = n) {σ : L2.St} {H : Hp} {Q : VK} (h : tD X.K X.mg W (dIMeth c m F fo fa) σ H Q) :
    tIMethS C m (spD X.K X.mg n F) (WE W) (tD X.K X.mg W fo) (tA X.K X.mg W fa) σ H Q := by
  refine (bind1 (ra := rE X.K) (k := fun ρ x S1 => if isInsP c m x S1 = true then bR (fa ρ S1) fun xs S2 => F (x :: xs) S2 else none) h).mono fun v H1 ⟨m1, ρ, S, d, z, s, e, r1, hk, p⟩ => ?_
  replace hk : (if isInsP c m d S = true then bR (fa ρ S) fun xs S2 => F (d :: xs) S2 else none) = some z := hk
  split at hk
  · rename_i hi
    unfold isInsP at hi
    split at hi
    · rename_i j
      cases id r1
      split at hi
      · rename_i c' fs e1
        rw [Bool.and_eq_true] at hi
        obtain ⟨hi1, hi2⟩ := hi
        have hi1 := of_decide_eq_true hi1
        subst hi1
        obtain ⟨C', dx, fv, h1, h2, h3⟩ := s.obj _ _ e1
        rw [gC] at h2
        cases h2
        refine ⟨_, dx, fv, rfl, h1, rpf_none h3 (by simpa using hi2), ?_⟩
        cases q : fa ρ S with
        | none => rw [q] at hk; cases hk
        | some y =>
          rw [q] at hk
          cases y with
          | exc x T =>
            cases hk
            exact ⟨m1, ρ, S, .exc x T, s, e, q, p⟩
          | ok xs T =>
            replace hk : F (.loc j :: xs) T = some z := hk
            refine ⟨m1, ρ, S, .ok xs T, s, e, q, fun vs m' H' le x s' rv => ?_⟩
            have rl : RpL X.K H' m' T.length (.loc j :: xs) (.ref (m1 j) :: vs) := .cons (r1.mono x le) rv
            exact ⟨by rw [← rl.length]; exact hF _ _ _ hk, m', T, _, z, s', rl, hk, post_sw (p.on le x)⟩
      · cases hi
    · cases hi
  · cases hk
theorem de_imeth (gC : X.mg c = some (.ref C)) (hc : Cls X.K C) (hm : Meth X.K C m f) (G : FnOk X.prog X.w X.K X.mg X.base (L2.CX X.prog X.w) k f fd ps (spD X.K X.mg n F)) (hr : Room k X.A) (hb : Binds X.K fd ps []) (tk : Takes X W) (ho : PEd X W o fo) (ha : PAd X W (e :: es) fa)
    (hF : ∀ args S r, F args S = some r → args.length = n) (hst : starEach (e :: es) X.env = (false, eval e X.env) :: starEach es X.env := by rfl) (hpl : (backTo pos (starEach es X.env)).any (·.1) = false := by rfl) {pl : Sem Bool}
    (ht : eval (.Call (.Attribute o m apos) (e :: es) [] pos) X.env = (do
      let ov ← eval o X.env
      standAt apos.atName
      let (f, first) ← holding [ov] (getMethod ov m pl)
      callWith pos f first (backTo pos (starEach (e :: es) X.env)) (backToKw pos (keywordEach [] X.env))) := by rfl) :
    PEd X W (.Call (.Attribute o m apos) (e :: es) [] pos) (dIMeth c m F fo fa) := (pe_methE (pl := pl) ho hc hm G hr hb (fun σ => passAt tk σ) ha hst hpl ht).imp fun σ H Q h => lift_imeth gC hF h
theorem de_imeth0 (gC : X.mg c = some (.ref C)) (hc : Cls X.K C) (hm : Meth X.K C m f) (G : FnOk X.prog X.w X.K X.mg X.base (L2.CX X.prog X.w) k f fd ps (spD X.K X.mg n F)) (hr : Room k X.A) (hb : Binds X.K fd ps []) (tk : Takes X W) (ho : PEd X W o fo)
    (hF : ∀ args S r, F args S = some r → args.length = n) {pl : Sem Bool}
    (ht : eval (.Call (.Attribute o m apos) [] [] pos) X.env = (do
      let ov ← eval o X.env
      standAt apos.atName
      let (f, first) ← holding [ov] (getMethod ov m pl)
      callWith pos f first (backTo pos (starEach [] X.env)) (backToKw pos (keywordEach [] X.env))) := by rfl) :
    PEd X W (.Call (.Attribute o m apos) [] [] pos) (dIMeth c m F fo dNil) := (pe_methE0 (pl := pl) ho hc hm G hr hb (fun σ => passAt tk σ) ht).imp fun σ H Q h => by
  refine (lift_imeth gC hF h).mono fun v H1 ⟨a, dx, fs, h1, h2, h3, h4⟩ => ⟨a, dx, fs, h1, h2, h3, ?_⟩
  obtain ⟨m1, ρ, S, z, s, e, q, p⟩ := h4
  cases q
  exact p [] m1 H1 (Nat.le_refl _) Ext.refl s .nil
end

/-! ### C(..) -/
def gMake (c : Str) (F : DF) (xs : List PV) (S1 : Sto) : Option RE := match F (.loc S1.length :: xs) (S1 ++ [.ins c []]) with
  | some (.ok .non S2) => some (.ok (.loc S1.length) S2)
  | some (.exc e S2) => some (.exc e S2)
  | _ => none
def dMake (c : Str) (F : DF) (fa : DA) : DE := fun ρ S => bR (fa ρ S) fun xs S1 => gMake c F xs S1
def tMakeS (C : Addr) (sp : Sp) (E : L2.St → XK) (t : TA) : TE := fun σ H Q => t σ H fun vs H1 => ∀ x dx, H1 x = none → H1 dx = none → dx ≠ x →
  sp (.ref x :: vs) (upd (upd H1 dx (.own x)) x (.ins C dx [])) (fun v H2 => v = .non ∧ Q (.ref x) H2) (E σ)
section
variable {X : Cx} {CX : CXT} {k : Nat} {f C : Addr} {fd : FuncData} {ps : List Str} {sp : Sp} {E : L2.St → XK} {x : Str} {pos p : Pos} {e : Expr} {es : List Expr} {t : TA}
theorem run_makeS {pins : List (Addr × Obj)} {σ : L2.St} {H : Hp} {s : Shared} {Q : VK} {us : List Value} {vs : List V} (M : Mk X.K C f) (F : FnOk X.prog X.w X.K X.mg X.base CX k f fd ps sp) (hr : Room (k + 1) X.A) (hb : Binds X.K fd ps [])
    (hx : PassesAt CX X σ (E σ)) (I : Inv X pins σ H s) (r : Vals vs us)
    (h : ∀ x dx, H x = none → H dx = none → dx ≠ x → sp (.ref x :: vs) (upd (upd H dx (.own x)) x (.ins C dx [])) (fun v H2 => v = .non ∧ Q (.ref x) H2) (E σ)) :
    wpAny (model X.prog X.w) X.A (call (.ref C) us) (EP X pins σ Q) X.xe s := by
  have hq := h (s.heap.objs.size + 1) s.heap.objs.size (I.hok.fresh (Nat.le_succ _)) (I.hok.fresh (Nat.le_refl _)) (Nat.ne_of_lt (Nat.lt_succ_self _))
  have I2 := Inv.made (C := C) I
  have r2 : Vals (V.ref (s.heap.objs.size + 1) :: vs) (Value.ref (s.heap.objs.size + 1) :: us) := .cons rfl r
  have hl : (Value.ref (s.heap.objs.size + 1) :: us).length = ps.length := by
    have e := r2.length
    rw [F.len _ _ _ _ hq] at e
    exact e.symm
  refine wpAny_call (make_map (f := f) I.kIn M.makes M.init (beq_iff_eq.mp M.fn) (codeAny_mono (F.run _ X.stack _ _ ⟨Value.ref (s.heap.objs.size + 1) :: us, []⟩ (Value.ref (s.heap.objs.size + 1) :: us) _ _ (E σ) (hr.make C us [])
    (I2.env0.make C us []) (by have b := hb _ (Value.ref (s.heap.objs.size + 1) :: us) I2.kIn (by rw [List.append_nil]; exact hl); rw [List.append_nil] at b; exact b) r2 hq) fun r s' hq' => ?_))
  cases r with
  | error e => exact hx pins _ _ e s' I2 hq'
  | ok fl =>
    cases fl with
    | ret u =>
      obtain ⟨v, H', I3, rv, ev, q3⟩ := I2.after hq'
      subst ev
      exact ⟨rv, ⟨V.ref (s.heap.objs.size + 1), H', I3, rfl, q3⟩⟩
    | next => exact False.elim hq'
    | brk => exact False.elim hq'
    | cont => exact False.elim hq'
theorem pe_makeS (M : Mk X.K C f) (F : FnOk X.prog X.w X.K X.mg X.base CX k f fd ps sp) (hr : Room (k + 1) X.A) (hg : Gl X x) (hm : X.mg x = some (.ref C)) (hb : Binds X.K fd ps []) (hx : ∀ σ, PassesAt CX X σ (E σ))
    (ha : PA X (e :: es) t) (hdb : (x == ("__debug__" : Str)) = false := by decide) (he : starEach (e :: es) X.env = (false, eval e X.env) :: starEach es X.env := by rfl) (hpl : (backTo pos (starEach es X.env)).any (·.1) = false := by rfl) :
    PE X (.Call (.Name x p) (e :: es) [] pos) (tMakeS C sp E t) := by
  refine ⟨fun pins s σ H Q I h => ?_⟩
  refine wpAny_Call_Name_kw (ld_glob I hg hm ?_ hdb)
  refine PySem.W.callWith_K (h₀ := X.base) I.ok.mod.kin M.kp (thn (ha.run pos pins s σ H _ I h) fun us s1 ⟨vs, H1, I1, r, q⟩ => ⟨I1.kIn, ?_⟩) he hpl
  exact run_makeS M F hr hb (hx σ) I1 r q
theorem pe_makeS0 (M : Mk X.K C f) (F : FnOk X.prog X.w X.K X.mg X.base CX k f fd ps sp) (hr : Room (k + 1) X.A) (hg : Gl X x) (hm : X.mg x = some (.ref C)) (hb : Binds X.K fd ps []) (hx : ∀ σ, PassesAt CX X σ (E σ))
    (hdb : (x == ("__debug__" : Str)) = false := by decide) : PE X (.Call (.Name x p) [] [] pos) (tMakeS C sp E tNil) := by
  refine ⟨fun pins s σ H Q I h => ?_⟩
  refine wpAny_Call_Name_kw (ld_glob I hg hm ?_ hdb)
  exact PySem.W.callWith_K0 I.kIn M.kp (run_makeS (us := []) M F hr hb (hx σ) I .nil h)
end
section
variable {X : Cx} {W : WX} {k n : Nat} {f C : Addr} {fd : FuncData} {ps : List Str} {F : DF} {c : Str} {p pos : Pos} {e : Expr} {es : List Expr} {fa : DA}
theorem lift_make (gC : X.mg c = some (.ref C)) (hF : ∀ args S r, F args S = some r → args.length = n) {σ : L2.St} {H : Hp} {Q : VK} (h : tD X.K X.mg W (dMake c F fa) σ H Q) :
    tMakeS C (spD X.K X.mg n F) (WE W) (tA X.K X.mg W fa) σ H Q := by
  refine (bind1 (ra := rA X.K) (k := fun ρ xs S1 => gMake c F xs S1) h).mono fun vs H1 ⟨m, ρ, S, xs, z, s, en, r1, hk, pz⟩ => ?_
  intro x dx hx hdx hne
  replace hk : gMake c F xs S = some z := hk
  unfold gMake at hk
  have s1 : StS X.K X.mg m S (upd H1 dx (.own x)) := sts_new s hdx
  have e1 : Ext X.K S.length m H1 m (upd H1 dx (.own x)) := ext_upd (.inl hdx)
  have hx' : (upd H1 dx (.own x)) x = none := by rw [upd_ne (Ne.symm hne)]; exact hx
  have s2 := s1.push (p := x) (ho := .ins C dx []) (po := .ins c []) hx' rfl ⟨C, dx, [], upd_same, gC, .nil⟩
  have e2 := e1.trans (ext_push (ho := .ins C dx []) hx') (Nat.le_refl _)
  have hlen : (S ++ [PO.ins c []]).length = S.length + 1 := by simp
  have rl : RpL X.K (upd (upd H1 dx (.own x)) x (.ins C dx [])) (mext m S.length x) (S ++ [PO.ins c []]).length (.loc S.length :: xs) (.ref x :: vs) := by
    refine .cons ?_ (by rw [hlen]; exact RpL.mono e2 (Nat.le_succ _) r1)
    have : Rp X.K (upd (upd H1 dx (.own x)) x (.ins C dx [])) (mext m S.length x) (S ++ [PO.ins c []]).length (.loc S.length) (.ref (mext m S.length x S.length)) := .loc (by rw [hlen]; exact Nat.lt_succ_self _)
    rw [mext_same] at this
    exact this
  cases q : F (.loc S.length :: xs) (S ++ [.ins c []]) with
  | none => rw [q] at hk; cases hk
  | some y =>
    rw [q] at hk
    refine ⟨by rw [← rl.length]; exact hF _ _ _ q, mext m S.length x, S ++ [.ins c []], _, y, s2, rl, q, ?_⟩
    cases y with
    | exc ex T =>
      cases hk
      exact post_sw (pz.on (by rw [hlen]; exact Nat.le_succ _) e2)
    | ok v T =>
      intro w m' H' le ex s' rw'
      cases v <;> try cases hk
      cases rw'
      refine ⟨rfl, ?_⟩
      have hlt : S.length < T.length := by rw [hlen] at le; exact le
      have : Rp X.K H' m' T.length (.loc S.length) (.ref (m' S.length)) := .loc hlt
      rw [ex.mp S.length (by rw [hlen]; exact Nat.lt_succ_self _), mext_same] at this
      exact pz _ m' H' (Nat.le_of_lt hlt) (e2.trans ex (by rw [hlen]; exact Nat.le_succ _)) s' this
theorem de_make (M : Mk X.K C f) (G : FnOk X.prog X.w X.K X.mg X.base (L2.CX X.prog X.w) k f fd ps (spD X.K X.mg n F)) (hr : Room (k + 1) X.A) (hg : Gl X c) (hm : X.mg c = some (.ref C)) (hb : Binds X.K fd ps []) (tk : Takes X W) (ha : PAd X W (e :: es) fa) (hF : ∀ args S r, F args S = some r → args.length = n)
    (hdb : (c == ("__debug__" : Str)) = false := by decide) (he : starEach (e :: es) X.env = (false, eval e X.env) :: starEach es X.env := by rfl) (hpl : (backTo pos (starEach es X.env)).any (·.1) = false := by rfl) :
    PEd X W (.Call (.Name c p) (e :: es) [] pos) (dMake c F fa) := (pe_makeS M G hr hg hm hb (fun σ => passAt tk σ) ha hdb he hpl).imp fun σ H Q h => lift_make hm hF h
theorem de_make0 (M : Mk X.K C f) (G : FnOk X.prog X.w X.K X.mg X.base (L2.CX X.prog X.w) k f fd ps (spD X.K X.mg n F)) (hr : Room (k + 1) X.A) (hg : Gl X c) (hm : X.mg c = some (.ref C)) (hb : Binds X.K fd ps []) (tk : Takes X W) (hF : ∀ args S r, F args S = some r → args.length = n)
    (hdb : (c == ("__debug__" : Str)) = false := by decide) : PEd X W (.Call (.Name c p) [] [] pos) (dMake c F dNil) := (pe_makeS0 M G hr hg hm hb (fun σ => passAt tk σ) hdb).imp fun σ H Q h => by
  obtain ⟨m1, ρ, S, z, s, e, q, p⟩ := lift_make hm hF h
  cases q
  exact p [] m1 H (Nat.le_refl _) Ext.refl s .nil
end
end D

/-! D14: list(range(..)); errors with a field. -/
namespace D
open PySem PySem.Spec PyProof.Rows L2

theorem hu1 {k : Nat} {A : Around} (r : Room k A) : A.units + 1 < cLine := Nat.lt_of_le_of_lt (Nat.add_le_add_left (by decide : 1 ≤ 64) _) r.units
/-! ### list(range(n)) -/
def gListR : G1 := fun x S1 => match x with
  | .int j => if -(2 ^ 62) ≤ j ∧ j ≤ 16777216 then some (.ok (.loc S1.length) (S1 ++ [.lst (rangeP 0 j.toNat)])) else none
  | _ => none
def dListR (fa : DE) : DE := fun ρ S => bR (fa ρ S) fun x S1 => gListR x S1
theorem rg_rp {K : PySem.W.Frag} {H : Hp} {m : Nat → Addr} {n : Nat} (j : Int) : RpL K H m n (rangeP 0 j.toNat) (rgV 0 j) := by
  unfold rangeP rgV
  rw [Int.sub_zero]
  generalize List.range j.toNat = l
  induction l with
  | nil => exact .nil
  | cons x l ih => exact .cons (.int _) ih
theorem de_listR {X : Cx} {W : WX} {e : Expr} {fe : DE} {p p2 pos pos2 : Pos} (hc : X.calm = true) (hg : Gl X "list") (hm : X.mg "list" = none) (hg2 : Gl X "range") (hm2 : X.mg "range" = none) (he : PEd X W e fe)
    (na : starEach [e] X.env = (false, eval e X.env) :: starEach [] X.env := by rfl) (nb : starEach [Expr.Call (.Name "range" p2) [e] [] pos2] X.env = (false, eval (.Call (.Name "range" p2) [e] [] pos2) X.env) :: starEach [] X.env := by rfl) :
    PEd X W (.Call (.Name "list" p) [.Call (.Name "range" p2) [e] [] pos2] [] pos) (dListR fe) := (pe_listRg hc hg hm (prg_1 hg2 hm2 he na) nb).imp fun σ H Q h => by
  refine (bind1 (ra := rE X.K) (k := fun ρ x S1 => gListR x S1) h).mono fun v H1 ⟨m, ρ, S, d, z, s, e, r1, hk, p⟩ => ?_
  replace hk : gListR d S = some z := hk
  unfold gListR at hk
  split at hk
  · cases r1
    split at hk
    · rename_i hj
      cases hk
      exact ⟨_, rfl, ⟨by decide, by decide, hj.1, by omega, by omega⟩, new_list s (rg_rp _) p⟩
    · cases hk
  · cases hk

/-! ### raise C(e), C keeping it in a field -/
def dRaiseF (c f : Str) (fe : DE) : DS := fun ρ S => bS ρ (fe ρ S) fun v S1 => some (.exc ⟨c, [(f, v)]⟩ ρ S1)
def spXI (C : Addr) (f : Str) : Sp := fun vs H Q _ => ∃ a y, vs = [.ref a, y] ∧ H a = some (exo a C none) ∧ ∀ dx, H dx = none → dx ≠ a → Q .non (upd (upd H dx (exd dx [(f, y)])) a (exo a C (some dx)))
section
variable {P : Program} {w : World} {K : PySem.W.Frag} {mg : Str → Option Value} {base : Heap}
theorem ok_xinit {x qual f p1 p2 : Str} {st : Stmt} {fa C : Addr} {fd : FuncData} {q1 q2 q3 q4 : Pos} (F : Fun K x qual st fa fd) (S : FnScope [p1, p2] [p1, p2] (defScope st)) (T : OexC K C) (hno : PySem.W.findIn K (.ref C) f = some none)
    (hb : defBody st = [.Assign [.Attribute (.Name p1 q1) f q2] (.Name p2 q3) q4]) (h1 : (p1 == ("__debug__" : Str)) = false := by decide) (h2 : (p1 == ("__classdict__" : Str)) = false := by decide) (h3 : (p2 == ("__debug__" : Str)) = false := by decide) (h4 : (p2 == ("__classdict__" : Str)) = false := by decide)
    (v1 : ∀ (X : Cx), X.env.scope = defScope st → Vis X.env.scope p1 := by intro X e; rw [e]; first | exact Or.inl rfl | exact Or.inr (Or.inl rfl) | exact Or.inr (Or.inr rfl)) (v2 : ∀ (X : Cx), X.env.scope = defScope st → Vis X.env.scope p2 := by intro X e; rw [e]; first | exact Or.inl rfl | exact Or.inr (Or.inl rfl) | exact Or.inr (Or.inr rfl)) :
    FnOk P w K mg base CX0 1 fa fd [p1, p2] (spXI C f) := by
  refine F.ok S (fun vs H Q E h => ?_) (fun cdv A outer s H vs Q E hr h => ?_)
  · obtain ⟨a, y, rfl, _⟩ := h
    rfl
  · obtain ⟨a, y, rfl, ha, q⟩ := h
    rw [hb]
    refine ⟨_, pss_one (ps_ost (pe_var (i := 0) rfl (v1 _ rfl) h1 h2) (pe_var (i := 1) rfl (v2 _ rfl) h3 h4)), ?_⟩
    exact ⟨_, rfl, _, rfl, a, C, rfl, T, hno, .inl ⟨ha, fun dx n ne => q dx n ne⟩⟩
theorem ds_raiseF {X : Cx} {W : WX} {C fI : Addr} {x f : Str} {k : Nat} {fd : FuncData} {ps : List Str} {e : Expr} {fe : DE} {p pos pos2 : Pos} (hc : X.calm = true) (tk : Takes X W) (T : OexC X.K C) (gC : X.mg x = some (.ref C)) (iC : PySem.W.findIn X.K (.ref C) "__init__" = some (some (.ref fI)))
    (tI : PySem.W.typeIn X.K (.ref fI) = some (.type "function")) (F1 : FnOk X.prog X.w X.K X.mg X.base CX0 k fI fd ps (spXI C f)) (hr : Room (k + 1) X.A) (hb : Binds X.K fd ps []) (hg : Gl X x) (he : PEd X W e fe)
    (hdb : (x == ("__debug__" : Str)) = false := by decide) (hs : starEach [e] X.env = (false, eval e X.env) :: starEach [] X.env := by rfl) (hpl : (backTo pos (starEach [] X.env)).any (·.1) = false := by rfl) :
    PSd X W (.Raise (some (.Call (.Name x p) [e] [] pos)) none pos2) (dRaiseF x f fe) := by
  refine (ps_raise hc tk (pmk_oex T iC tI F1 hr hb .nil pass0 hg gC (pa_cons he pa_nil hs) hdb hs hpl)).imp fun D σ H h => ?_
  refine (bindS (ra := rE X.K) (k := fun ρ v S1 => some (.exc ⟨x, [(f, v)]⟩ ρ S1)) h).mono fun y H1 ⟨m, ρ, S, d, r, s, en, r1, hk, pz⟩ => ?_
  replace hk : some (RS.exc ⟨x, [(f, d)]⟩ ρ S) = some r := hk
  cases hk
  refine ⟨by show 1 ≤ 1000; decide, fun a ha => ⟨a, y, rfl, upd_same, fun dx hdx hne => ⟨rfl, dx, [(f, y)], upd_same, ?_, ?_, ?_⟩⟩⟩
  · rw [upd_ne hne, upd_same]
  · rw [upd_ne hne] at hdx; exact hdx
  · have hdx' : H1 dx = none := by rw [upd_ne hne] at hdx; exact hdx
    have eH : upd (del (upd (upd (upd H1 a (exo a C none)) dx (exd dx [(f, y)])) a (exo a C (some dx))) a) dx (.xd [(f, y)]) = upd H1 dx (.xd [(f, y)]) := by
      funext b
      by_cases hb : b = dx
      · subst hb; rw [upd_same, upd_same]
      · rw [upd_ne hb, upd_ne hb]
        by_cases hba : b = a
        · subst hba; rw [del_same, ha]
        · rw [del_ne hba, upd_ne hba, upd_ne hb, upd_ne hba]
    rw [eH]
    have ex : Ext X.K S.length m H1 m (upd H1 dx (.xd [(f, y)])) := ext_upd (.inl hdx')
    refine pz (.ref C) (some dx) σ m _ (Nat.le_refl _) ex (sts_new s hdx') (en.mono ex (Nat.le_refl _)) ⟨C, rfl, gC, .inr ⟨by simp, dx, [(f, y)], rfl, upd_same, .cons ⟨rfl, Rp.mono ex (Nat.le_refl _) r1⟩ .nil⟩⟩
end
/-! ### in a suite: an error with a field -/
def suF (d : Option Addr) (f : Addr → DS) : DS := match d with
  | some dd => f dd
  | none => dNope
theorem su_altF {X : Cx} {cat : Str → Option Bool} {e : Xn} {a : Addr} {oe : Obj} {C A : Addr} {d : Option Addr} {nm : Str} {pn : List (Addr × Obj)} {sts : List Stmt} {f : Addr → DS} {g : DS} (hA : X.mg nm = some (.ref A)) (hs : Su X cat e a oe C d)
    (go : ∀ dd, Zc (.ref A) (some dd) oe → (∃ vs, oe.data = .fields vs) → PSsd (X.suite a ((a, oe) :: pn)) W0 sts (f dd)) (ge : PSsd (X.suite a ((a, oe) :: pn)) W0 sts g) : PSsd (X.suite a ((a, oe) :: pn)) W0 sts (if e.c = nm ∧ e.fs.isEmpty = false then suF d f else g) := by
  split
  · rename_i hc
    have hne : e.fs ≠ [] := fun z => by rw [z] at hc; exact absurd hc.2 (by simp)
    obtain ⟨dd, hd⟩ := hs.d1 hne
    have hm := hs.mg
    rw [hc.1, hA] at hm
    cases hm
    have hz := hs.z
    rw [hd] at hz ⊢
    exact go dd hz hs.f
  · exact ge
def litP : V → Option PV
  | .non => some .non
  | .bl b => some (.bl b)
  | .int i => some (.int i)
  | .str s => some (.str s)
  | _ => none
theorem litP_rp {K : PySem.W.Frag} {H : Hp} {m : Nat → Addr} {n : Nat} {v : V} {d : PV} (h : litP v = some d) : Rp K H m n d v := by
  cases v <;> cases h <;> constructor
def dXf (i : Nat) (a dd : Addr) (f : Str) : DE := fun ρ S => match ρ[i]? with
  | some (some (.xc a' (some d') fv)) => if a' = a ∧ d' = dd then match (fv.lookup f).bind litP with
    | some v => some (.ok v S)
    | none => none else none
  | _ => none
theorem de_xf {X : Cx} {W : WX} {a A dd : Addr} {oe : Obj} {pn : List (Addr × Obj)} {x f : Str} {p2 pos : Pos} (i : Nat) (T : XfC X.K A) (hno : PySem.W.findIn X.K (.ref A) f = some none) (hz : Zc (.ref A) (some dd) oe) (hf : ∃ vs, oe.data = .fields vs)
    (hN : X.N[i]? = some x := by rfl) (hv : Vis X.env.scope x := by first | exact Or.inl rfl | exact Or.inr (Or.inl rfl) | exact Or.inr (Or.inr rfl)) (hd : (x == ("__debug__" : Str)) = false := by decide) (hcd : (x == ("__classdict__" : Str)) = false := by decide)
    (hb : attributeBase (.Name x p2) f X.env (eval (.Name x p2) X.env) = eval (.Name x p2) X.env := by rfl) :
    PEd (X.suite a ((a, oe) :: pn)) W (.Attribute (.Name x p2) f pos) (dXf i a dd f) := by
  refine (pe_xf T hno hz hf (pe_var (X := X.suite a ((a, oe) :: pn)) hN hv hd hcd) hb).imp fun σ H Q h => ?_
  obtain ⟨m, ρ, S, r, s, en, hfn, p⟩ := h
  unfold dXf at hfn
  split at hfn
  · rename_i a' d' fv hi
    split at hfn
    · rename_i ha
      obtain ⟨rfl, rfl⟩ := ha
      split at hfn
      · rename_i v hv'
        cases hfn
        obtain ⟨u, hv1, rv⟩ := en.at_ i _ hi
        cases rv with
        | xc hx =>
          obtain ⟨w, hw1, hw2⟩ := Option.bind_eq_some_iff.mp hv'
          exact ⟨_, hv1, rfl, rfl, d', fv, w, rfl, hx d' rfl, hw1, p _ m H (Nat.le_refl _) Ext.refl s (litP_rp hw2)⟩
      · cases hfn
    · cases hfn
  · cases hfn
/-- isinstance(e, c), e with its own dict -/
def rIsEd (K : PySem.W.Frag) (D a dd : Addr) : List V → Hp → VK → Prop := fun xs H Q => ∃ (c : V) (cv : Value) (b : Bool) (fs : List (Str × V)), xs = [.ref a, c] ∧ (∀ u, RelV c u → u = cv) ∧ PySem.W.kitOne K (.ref D) cv = some b ∧ H dd = some (.xd fs) ∧ Q (.bl b) H
theorem call_isEd {X : Cx} {a D dd : Addr} {oe : Obj} {pn : List (Addr × Obj)} (C : ExcC X.K D) (hz : Zc (.ref D) (some dd) oe) (hf : ∃ vs, oe.data = .fields vs) : CallR (X.suite a ((a, oe) :: pn)) (.builtin "isinstance") (rIsEd X.K D a dd) := by
  intro pins s σ H xs us Q I r h
  obtain ⟨c, cv, b, fs, rfl, hcv, e, ea, q⟩ := h
  cases r with
  | cons rx rr =>
    cases rr with
    | cons rt rr =>
      cases rr
      cases rx
      have ec := hcv _ rt
      subst ec
      obtain ⟨hget, _⟩ := I.pin (a, oe) (List.mem_append.mpr (.inl List.mem_cons_self))
      obtain ⟨vs, hv⟩ := hf
      have hx : ObjOk X.prog X.w H s.heap dd (.xd fs) := I.hok dd _ ea
      obtain ⟨mA, hns, hr⟩ := hx
      obtain ⟨od, ho, hl⟩ := lookIn_ns hns
      have J : PySem.W.InstAt s.heap a oe D (some od) := ⟨hget, hz.1, by unfold PySem.W.notCls; rw [hv] <;> rfl, by rw [hz.2]; exact ho⟩
      exact PySem.W.kia_one (PySem.W.kitx_exc (by obtain ⟨cd, hc, _⟩ := PySem.W.any_some C.hd; rw [hc]; rfl) C.hg C.hk C.hs C.ha C.hn C.ht C.hm) I.kIn J e (fun z => nomatch z) fun tk => ⟨.bl b, H, I.kept (t' := tk) fun _ _ z => z, rfl, q⟩
def dIsEd (i : Nat) (a dd : Addr) (b : Bool) : DE := fun ρ S => match ρ[i]? with
  | some (some (.xc a' (some d') _)) => if a' = a ∧ d' = dd then some (.ok (.bl b) S) else none
  | _ => none
theorem de_isEd {X : Cx} {W : WX} {a C dd : Addr} {oe : Obj} {pn : List (Addr × Obj)} {x : Str} {ce : Expr} {cv : V} {cu : Value} {b : Bool} {p p2 pos : Pos} (i : Nat) (hC : ExcC X.K C) (hz : Zc (.ref C) (some dd) oe) (hf : ∃ vs, oe.data = .fields vs)
    (hg : Gl X "isinstance") (hm : X.mg "isinstance" = none) (hN : X.N[i]? = some x) (hv : Vis X.env.scope x) (hce : PE (X.suite a ((a, oe) :: pn)) ce (tC cv)) (hrel : ∀ u, RelV cv u → u = cu) (hk : PySem.W.kitOne X.K (.ref C) cu = some b)
    (hd : (x == ("__debug__" : Str)) = false := by decide) (hcd : (x == ("__classdict__" : Str)) = false := by decide)
    (h1 : starEach [.Name x p2, ce] X.env = (false, eval (.Name x p2) X.env) :: starEach [ce] X.env := by rfl) (h2 : starEach [ce] X.env = (false, eval ce X.env) :: starEach [] X.env := by rfl) (hpl : (backTo pos (starEach [ce] X.env)).any (·.1) = false := by rfl) :
    PEd (X.suite a ((a, oe) :: pn)) W (.Call (.Name "isinstance" p) [.Name x p2, ce] [] pos) (dIsEd i a dd b) := by
  have hl : PA (X.suite a ((a, oe) :: pn)) [.Name x p2, ce] _ := pa_cons (pe_var (X := X.suite a ((a, oe) :: pn)) hN hv hd hcd) (pa_cons hce pa_nil h2) h1
  refine (pe_callB (X := X.suite a ((a, oe) :: pn)) (call_isEd hC hz hf) hg hm boot_isinstance hl (by decide) (by decide) h1 hpl).imp fun σ H Q h => ?_
  obtain ⟨m, ρ, S, r, s, en, hfn, p⟩ := h
  unfold dIsEd at hfn
  split at hfn
  · rename_i a' d' fv hi
    split at hfn
    · rename_i ha
      obtain ⟨rfl, rfl⟩ := ha
      cases hfn
      obtain ⟨v, hv1, rv⟩ := en.at_ i _ hi
      cases rv with
      | xc hx => exact ⟨_, hv1, cv, cu, b, fv, rfl, hrel, hk, hx d' rfl, p _ m H (Nat.le_refl _) Ext.refl s (.bl b)⟩
    · cases hfn
  · cases hfn
theorem ds_nope {X : Cx} {W : WX} {st : Stmt} : PSd X W st dNope := ⟨fun pins s σ H D I h => by
  obtain ⟨m, ρ, S, r, st, e, hf, p⟩ := h
  cases hf⟩
end D

/-! D15: a loop's body lets go what it made. -/
namespace D
open PySem PySem.Spec PyProof.Rows L2
def bdE (n : Nat) : En → Prop
  | [] => True
  | none :: r => bdE n r
  | some v :: r => bd n v ∧ bdE n r
theorem bdE_at {n : Nat} : ∀ {ρ : En} {i : Nat} {v : PV}, bdE n ρ → ρ[i]? = some (some v) → bd n v
  | [], i, v, h, e => by simp at e
  | none :: r, 0, v, h, e => by simp at e
  | some x :: r, 0, v, h, e => by simp at e; subst e; exact h.1
  | none :: r, i + 1, v, h, e => bdE_at (ρ := r) h (by simpa using e)
  | some x :: r, i + 1, v, h, e => bdE_at (ρ := r) h.2 (by simpa using e)
open Classical in
noncomputable def gcS (kill : List Nat) (S : Sto) : RS → RS
  | .next ρ S' => if Cl S S' ∧ bdE S.length (killE kill ρ) then .next (killE kill ρ) (S'.take S.length) else .next ρ S'
  | .ctn ρ S' => if Cl S S' ∧ bdE S.length (killE kill ρ) then .ctn (killE kill ρ) (S'.take S.length) else .ctn ρ S'
  | r => r
noncomputable def dBody (kill : List Nat) (f : DS) : DS := fun ρ S => (f ρ S).map (gcS kill S)
theorem EnR.cut {K : PySem.W.Frag} {H : Hp} {m : Nat → Addr} {n n' : Nat} {ρ : En} {σ : L2.St} (h : EnR K H m n' ρ σ) (b : bdE n ρ) : EnR K H m n ρ σ :=
  ⟨h.len, fun i v e => let ⟨x, a, c⟩ := h.at_ i v e; ⟨x, a, c.cut (bdE_at b e)⟩⟩
section
variable {K : PySem.W.Frag} {mg : Str → Option Value} {W : WX} {m : Nat → Addr} {S : Sto} {H : Hp} {D : Ends}
theorem gcS_ok {kill : List Nat} {r : RS} (s : StS K mg m S H) (p : PostS K mg W m S H (gcS kill S r) D) : PostS K mg W m S H r D := by
  have key : ∀ (ρ : En) (S' : Sto) (C : L2.St → Hp → Prop) (b : Prop), (b → Cl S S' ∧ bdE S.length (killE kill ρ)) →
      (b → ∀ σ' m' H', S.length ≤ (S'.take S.length).length → Ext K S.length m H m' H' → StS K mg m' (S'.take S.length) H' → EnR K H' m' (S'.take S.length).length (killE kill ρ) σ' → C σ' H') →
      (¬ b → ∀ σ' m' H', S.length ≤ S'.length → Ext K S.length m H m' H' → StS K mg m' S' H' → EnR K H' m' S'.length ρ σ' → C σ' H') →
      ∀ σ' m' H', S.length ≤ S'.length → Ext K S.length m H m' H' → StS K mg m' S' H' → EnR K H' m' S'.length ρ σ' → C σ' H' := by
    intro ρ S' C b hb h1 h2 σ' m' H' le ex s' en
    by_cases h : b
    · obtain ⟨c1, c2⟩ := hb h
      have hl : (S'.take S.length).length = S.length := by rw [List.length_take]; exact Nat.min_eq_left le
      refine h1 h σ' m' H' (by rw [hl]; exact Nat.le_refl _) ex (s.cutT s' le c1) ?_
      rw [hl]
      exact (en.kill kill).cut c2
    · exact h2 h σ' m' H' le ex s' en
  cases r with
  | next ρ S' =>
    refine key ρ S' D.nx (Cl S S' ∧ bdE S.length (killE kill ρ)) id (fun h => ?_) fun h => ?_
    · have p' : PostS K mg W m S H (.next (killE kill ρ) (S'.take S.length)) D := by
        have : gcS kill S (.next ρ S') = .next (killE kill ρ) (S'.take S.length) := if_pos h
        exact this ▸ p
      exact p'
    · have p' : PostS K mg W m S H (.next ρ S') D := by
        have : gcS kill S (.next ρ S') = .next ρ S' := if_neg h
        exact this ▸ p
      exact p'
  | ctn ρ S' =>
    refine key ρ S' D.ct (Cl S S' ∧ bdE S.length (killE kill ρ)) id (fun h => ?_) fun h => ?_
    · have p' : PostS K mg W m S H (.ctn (killE kill ρ) (S'.take S.length)) D := by
        have : gcS kill S (.ctn ρ S') = .ctn (killE kill ρ) (S'.take S.length) := if_pos h
        exact this ▸ p
      exact p'
    · have p' : PostS K mg W m S H (.ctn ρ S') D := by
        have : gcS kill S (.ctn ρ S') = .ctn ρ S' := if_neg h
        exact this ▸ p
      exact p'
  | brk ρ S' => exact p
  | ret v S' => exact p
  | exc e ρ S' => exact p
end
theorem dss_body {X : Cx} {W : WX} {sts : List Stmt} {f : DS} (kill : List Nat) (h : PSsd X W sts f) : PSsd X W sts (dBody kill f) := h.imp fun D σ H h => by
  obtain ⟨m, ρ, S, r, s, e, hf, p⟩ := h
  have hf : (f ρ S).map (gcS kill S) = some r := hf
  cases q : f ρ S with
  | none => rw [q] at hf; cases hf
  | some z =>
    rw [q] at hf
    cases hf
    exact ⟨m, ρ, S, z, s, e, q, gcS_ok s p⟩
end D

/-! D16: xs[::-1] of a list. -/
namespace D
open PySem PySem.Spec PyProof.Rows L2
section
variable {X : Cx} {e se : Expr} {te : TE} {ts : TO} {pos p2 : Pos}
def tRevL (K : PySem.W.Frag) (te : TE) (ts : TO) : TE := fun σ H Q => te σ H fun x H1 => ts σ H1 fun st H2 => st = some (-1) ∧ ∃ a xs, x = .ref a ∧ SqL K H2 a xs ∧ ∀ p, H2 p = none → Q (.ref p) (upd H2 p (.lst xs.reverse))
theorem pe_revL (he : PE X e te) (hs : L2.PO X (some se) ts) : PE X (.Subscript e (.Slice none none (some se) p2) pos) (tRevL X.K te ts) := by
  refine ⟨fun pins s σ H Q I h => ?_⟩
  refine Subscript_ (thn (he.run pins s σ H _ I h) fun v s1 ⟨x, H1, I1, r1, q1⟩ => ?_)
  refine wpAny_Slice ?_
  rw [evalPart_none]
  refine wpAny_pure ?_
  refine wpAny_pure ?_
  refine thn (hs.run pins s1 σ H1 _ I1 q1) fun vk s2 ⟨st, H2, I2, pk, q2⟩ => ?_
  obtain ⟨rfl, a, xs, rfl, hx, q⟩ := q2
  cases r1
  have I4 : Inv X pins σ H2 { s2 with heap := s2.heap.push { cls := .type "slice", data := .fields #[.none, .none, vk] } } := I2.kept (t' := s2.toks) fun b ob q => Heap.get?_push_of_some _ q
  obtain ⟨its, r, ht, hz⟩ := I4.list hx
  have hlen := r.length
  show wpAny (model X.prog X.w) X.A (subscriptTail e (.Slice none none (some se) p2) (.ref a) (.ref s2.heap.objs.size)) (EP X pins σ Q) X.xe { s2 with heap := s2.heap.push { cls := .type "slice", data := .fields #[.none, .none, vk] } }
  refine tail_any (ops := [.ref a, .ref s2.heap.objs.size]) ht.isList.typeIs slot_list_getitem.lookup ?_ (by with_unfolding_all rfl)
  refine wpAny_getItem_list_slice ht.isList (Heap.IsSliceOf.new ..) .none .none pk (by simp) ?_ (by rw [List.size_toArray] <;> omega)
  rw [PySem.W.krv_pick]
  refine ⟨.ref _, _, I4.laid (t' := s2.toks) (o := .lst xs.reverse) (fun b ob q => Heap.get?_push_of_some _ q) (Nat.le_refl _) ?_, rfl, q _ (I4.hok.fresh (Nat.le_refl _))⟩
  exact ⟨by rw [List.length_reverse]; exact hz, _, 0, r.reverse, Heap.get?_push_size _ rfl⟩
end
def gRev : PV → Option Int → Sto → Option (R PV) := fun x st S => if st = some (-1) then (match x with
  | .loc k => match S[k]? with
    | some (.lst l) => some (.ok (.loc S.length) (S ++ [.lst l.reverse]))
    | some (.fz l) => some (.ok (.loc S.length) (S ++ [.lst l.reverse]))
    | _ => none
  | _ => none) else none
def dRev (a : DE) (st : DO) : DE := fun ρ S => bR (a ρ S) fun x S1 => bR (st ρ S1) fun l S2 => gRev x l S2
theorem de_rev {X : Cx} {W : WX} {e se : Expr} {p2 pos : Pos} {fa : DE} {fs : DO} (ha : PEd X W e fa) (hs : POd X W (some se) fs) : PEd X W (.Subscript e (.Slice none none (some se) p2) pos) (dRev fa fs) :=
  (pe_revL ha hs).imp fun σ H Q h => by
  refine (bind1 (ra := rE X.K) (k := fun ρ x S1 => bR (fs ρ S1) fun l S2 => gRev x l S2) h).mono fun v H1 ⟨m, ρ, S, d, z, s, e, r1, hk, p⟩ => ?_
  have hk : bR (fs ρ S) (fun l S2 => gRev d l S2) = some z := hk
  cases q : fs ρ S with
  | none => rw [q] at hk; cases hk
  | some z1 =>
    rw [q] at hk
    cases z1 with
    | exc x T =>
      cases hk
      exact ⟨m, ρ, S, .exc x T, s, e, q, p⟩
    | ok l T =>
      refine ⟨m, ρ, S, .ok l T, s, e, q, fun l' m2 H2 le x s2 rl => ?_⟩
      cases rl
      have hk : gRev d l T = some z := hk
      have r2 := r1.mono x le
      have p2 := p.on le x
      unfold gRev at hk
      split at hk
      · rename_i h1
        refine ⟨h1, ?_⟩
        split at hk
        · cases r2 with
          | loc hk2 =>
            split at hk
            · rename_i l e1
              obtain ⟨xs, hs, hl⟩ := s2.obj _ _ e1
              cases hk
              exact ⟨_, _, rfl, SqL.of hs, new_list s2 hl.reverse p2⟩
            · rename_i l e1
              obtain ⟨xs, hs, hl⟩ := s2.obj _ _ e1
              cases hk
              exact ⟨_, _, rfl, hs.sq, new_list s2 hl.reverse p2⟩
            · cases hk
        · cases hk
      · cases hk
end D

/-! D17: a dict that is walked; sorted(d), list(d); displays of dicts; global texts and tuples. -/
namespace D
open PySem PySem.Spec PyProof.Rows L2
/-! ### a dict is locked while it is walked -/
section
variable {K : PySem.W.Frag} {mg : Str → Option Value} {H : Hp} {m : Nat → Addr} {n : Nat} {S : Sto} {X : Cx} {W : WX}
theorem ext0_open {d : Addr} {o : Obj} {kv : List (Key × V)} {u : HO} (h : H d = some (.frz o (.dK kv))) : Ext0 K n m H m (upd H d u) := by
  have ne : ∀ a v, H a = some v → (∀ o kv, v ≠ .frz o (.dK kv)) → a ≠ d := fun a v e hn z => by
    subst z
    rw [h] at e
    cases e
    exact hn _ _ rfl
  refine ⟨fun _ _ => rfl, fun a xs q => ?_, fun a fv q => ?_⟩
  · rcases q with (q | ⟨ob, q⟩) | q
    · exact .inl (.inl (by rw [upd_ne (ne _ _ q fun _ _ z => by cases z)]; exact q))
    · exact .inl (.inr ⟨ob, by rw [upd_ne (ne _ _ q fun _ _ z => by cases z)]; exact q⟩)
    · exact .inr q
  · rw [upd_ne (ne _ _ q fun _ _ z => by cases z)]
    exact q
/-- the place k is locked -/
theorem StS.lock {k : Nat} {kvs : List (PV × PV)} {kv : List (Key × V)} {od : Obj} (s : StS K mg m S H) (e : S[k]? = some (.dct false kvs)) (h : H (m k) = some (.dK kv)) (r : RpK K H m S.length kvs kv) :
    StS K mg m (S.set k (.fd kvs)) (upd H (m k) (.frz od (.dK kv))) :=
  s.write e rfl rfl ⟨od, kv, upd_same, r.mono (ext_upd (.inr (by rw [h]; exact trivial))) (Nat.le_refl _)⟩
/-- .. and open again -/
theorem StS.unlock {k : Nat} {kvs : List (PV × PV)} {kv : List (Key × V)} {od : Obj} (s : StS K mg m S H) (e : S[k]? = some (.fd kvs)) (h : H (m k) = some (.frz od (.dK kv))) (r : RpK K H m S.length kvs kv) :
    StS K mg m (S.set k (.dct false kvs)) (upd H (m k) (.dK kv)) := by
  have x : Ext0 K S.length m H m (upd H (m k) (.dK kv)) := ext0_open h
  have hlt := lt_of_get e
  refine ⟨fun j o ej => ?_, fun i j oi oj ei ej mi mj q => ?_⟩
  · rw [List.length_set]
    by_cases hj : j = k
    · subst hj
      rw [List.getElem?_set_self hlt] at ej
      cases ej
      exact .inl ⟨rfl, kv, upd_same, r.mono0 x (Nat.le_refl _)⟩
    · rw [List.getElem?_set_ne (Ne.symm hj)] at ej
      have hne : isMut o = true → m j ≠ m k := fun hm q => hj (s.inj j k o _ ej e hm rfl q)
      have ho := s.obj j o ej
      cases o with
      | lst l => obtain ⟨xs, h1, h2⟩ := ho; exact ⟨xs, by rw [upd_ne (hne rfl)]; exact h1, h2.mono0 x (Nat.le_refl _)⟩
      | fz l =>
        obtain ⟨xs, h1, h2⟩ := ho
        refine ⟨xs, ?_, h2.mono0 x (Nat.le_refl _)⟩
        rcases h1 with ⟨ob, h1⟩ | h1
        · have ne : m j ≠ m k := fun z => by rw [z, h] at h1; cases h1
          exact .inl ⟨ob, by rw [upd_ne ne]; exact h1⟩
        · exact .inr h1
      | dct t l =>
        rcases ho with ⟨ht, xs, h1, h2⟩ | ⟨ht, xs, h1, h2⟩
        · exact .inl ⟨ht, xs, by rw [upd_ne (hne rfl)]; exact h1, h2.mono0 x (Nat.le_refl _)⟩
        · exact .inr ⟨ht, xs, by rw [upd_ne (hne rfl)]; exact h1, h2.mono0 x (Nat.le_refl _)⟩
      | fd l => obtain ⟨o, kv, h1, h2⟩ := ho; exact ⟨o, kv, by rw [upd_ne (hne rfl)]; exact h1, h2.mono0 x (Nat.le_refl _)⟩
      | ins c fs => obtain ⟨C, dx, fv, h1, h2, h3⟩ := ho; exact ⟨C, dx, fv, by rw [upd_ne (hne rfl)]; exact h1, h2, h3.mono0 x (Nat.le_refl _)⟩
  · have old : ∀ (i : Nat) (oi : PO), (S.set k (.dct false kvs))[i]? = some oi → isMut oi = true → ∃ o, S[i]? = some o ∧ isMut o = true := fun i oi e' mi => by
      by_cases hi : i = k
      · subst hi; exact ⟨_, e, rfl⟩
      · rw [List.getElem?_set_ne (Ne.symm hi)] at e'
        exact ⟨oi, e', mi⟩
    obtain ⟨o1, e1, m1⟩ := old i oi ei mi
    obtain ⟨o2, e2, m2⟩ := old j oj ej mj
    exact s.inj i j o1 o2 e1 e2 m1 m2 q
/-- the end of an exception's way, the dict at d open again -/
def WL (d : Addr) (W : WX) : WX := fun c dd σ H => ∃ o kv, H d = some (.frz o (.dK kv)) ∧ W c dd σ (upd H d (.dK kv))
theorem takes_lock {d : Addr} (hn : ∀ o' u', X.H_0 d ≠ some (.frz o' u')) (t : Takes X W) : Takes X (WL d W) := fun u s' h => by
  obtain ⟨a, B, sI, pins, σ, H, cls, dd, e, I, nb, up, sky, na, os, ag, o, kv, w1, w2⟩ := h
  have I2 := I.unlock w1 hn
  exact t u s' ⟨a, B, sI, pins, σ, _, cls, dd, e, I2, nb, up, sky, by rw [upd_ne (fun z => by rw [z, w1] at na; cases na)]; exact na, os, ag, w2⟩
end
def unS (k : Nat) (S : Sto) : Option Sto := match S[k]? with
  | some (.fd kvs) => some (S.set k (.dct false kvs))
  | _ => none
def unR (k : Nat) : RS → Option RS
  | .next ρ S => (unS k S).map (.next ρ)
  | .brk ρ S => (unS k S).map (.brk ρ)
  | .ctn ρ S => (unS k S).map (.ctn ρ)
  | .ret v S => (unS k S).map (.ret v)
  | .exc e ρ S => (unS k S).map (.exc e ρ)
/-- the statement, while the dict in slot i is walked -/
noncomputable def dLock (i : Nat) (f : DS) : DS := fun ρ S => match ρ[i]? with
  | some (some (.loc k)) => match S[k]? with
    | some (.dct false kvs) => (f ρ (S.set k (.fd kvs))).bind (unR k)
    | some (.fd _) => f ρ S
    | _ => none
  | _ => none
section
variable {X : Cx} {W : WX} {st : Stmt} {f : DS}
theorem unS_eq {k : Nat} {S T : Sto} (h : unS k S = some T) : ∃ kvs, S[k]? = some (.fd kvs) ∧ T = S.set k (.dct false kvs) := by
  unfold unS at h
  split at h
  · rename_i kvs e
    cases h
    exact ⟨kvs, e, rfl⟩
  · cases h
/-- what holds behind, the dict open again -/
theorem open_end {K : PySem.W.Frag} {mg : Str → Option Value} {m m' : Nat → Addr} {H H' : Hp} {k n : Nat} {kv0 : List (Key × V)} {od : Obj} {S' T : Sto} (hk : k < n) (h0 : H (m k) = some (.dK kv0)) (hT : unS k S' = some T) (x : Ext K n m (upd H (m k) (.frz od (.dK kv0))) m' H') (s : StS K mg m' S' H') :
    ∃ kv, H' (m k) = some (.frz od (.dK kv0)) ∧ kv = kv0 ∧ T.length = S'.length ∧ StS K mg m' T (upd H' (m k) (.dK kv0)) ∧ Ext K n m H m' (upd H' (m k) (.dK kv0)) ∧ Ext0 K S'.length m' H' m' (upd H' (m k) (.dK kv0)) := by
  obtain ⟨kvs, e, rfl⟩ := unS_eq hT
  have hf := x.fz _ _ _ (upd_same (H := H) (a := m k))
  obtain ⟨o, kv, h1, r⟩ := s.obj k _ e
  have hm := x.mp k hk
  rw [hm, hf] at h1
  cases h1
  have s2 := s.unlock (od := od) (kv := kv0) e (by rw [hm]; exact hf) r
  rw [hm] at s2
  have x0 : Ext0 K S'.length m' H' m' (upd H' (m k) (.dK kv0)) := ext0_open hf
  have xo : Ext0 K n m H m (upd H (m k) (.frz od (.dK kv0))) := (ext_upd (.inr (by rw [h0]; exact trivial))).toExt0
  refine ⟨kv0, hf, rfl, List.length_set, s2, ⟨⟨x.mp, fun a xs q => x0.tp _ _ (x.tp _ _ (xo.tp _ _ q)), fun a fv q => x0.xd _ _ (x.xd _ _ (xo.xd _ _ q))⟩, fun a o u q => ?_⟩, x0⟩
  have ne : a ≠ m k := fun z => by rw [z, h0] at q; cases q
  rw [upd_ne ne]
  exact x.fz _ _ _ (by rw [upd_ne ne]; exact q)
theorem ds_lock (i : Nat) (tk : Takes X W) (h : ∀ W', Takes X W' → PSd X W' st f) : PSd X W st (dLock i f) := by
  refine ⟨fun pins s σ H D I hw => ?_⟩
  obtain ⟨m, ρ, S, r, st0, en, hf, p⟩ := hw
  unfold dLock at hf
  split at hf
  · rename_i k hk
    obtain ⟨x, hx, rx⟩ := en.at_ i _ hk
    cases rx with
    | loc hkl =>
      split at hf
      · rename_i kvs e
        rcases st0.obj k _ e with ⟨_, kv, h1, rk⟩ | ⟨ht, _⟩
        · have mu : Mut (some (HO.dK kv)) := trivial
          obtain ⟨od, I1⟩ := I.lock h1 mu
          have hn := I.nofrz h1 mu
          have s1 := st0.lock (od := od) e h1 rk
          have x1 : Ext X.K S.length m H m (upd H (m k) (.frz od (.dK kv))) := ext_upd (.inr (by rw [h1]; exact trivial))
          have e1 := en.mono x1 (Nat.le_refl _)
          cases q : f ρ (S.set k (.fd kvs)) with
          | none => rw [q] at hf; cases hf
          | some r0 =>
            rw [q] at hf
            have hf : unR k r0 = some r := hf
            have hl : (S.set k (.fd kvs)).length = S.length := List.length_set
            refine thn ((h (WL (m k) W) (takes_lock hn tk)).run pins s σ _ ⟨fun σ' H' => ∃ o kv, H' (m k) = some (.frz o (.dK kv)) ∧ D.nx σ' (upd H' (m k) (.dK kv)), fun v H' => ∃ o kv, H' (m k) = some (.frz o (.dK kv)) ∧ D.rt v (upd H' (m k) (.dK kv)), fun σ' H' => ∃ o kv, H' (m k) = some (.frz o (.dK kv)) ∧ D.bk σ' (upd H' (m k) (.dK kv)), fun σ' H' => ∃ o kv, H' (m k) = some (.frz o (.dK kv)) ∧ D.ct σ' (upd H' (m k) (.dK kv))⟩ I1 ⟨m, ρ, _, r0, s1, by rw [hl]; exact e1, q, ?_⟩) fun fl s2 z => ?_
            · cases r0 with
              | next ρ' S' =>
                unfold unR at hf
                rw [Option.map_eq_some_iff] at hf
                obtain ⟨T, hT, rfl⟩ := hf
                intro σ' m' H' le x2 s2 en2
                rw [hl] at le x2
                obtain ⟨_, g1, _, g2, g3, g4, g5⟩ := open_end hkl h1 hT x2 s2
                exact ⟨od, kv, g1, p σ' m' _ (by rw [g2]; exact le) g4 g3 (by rw [g2]; exact en2.mono0 g5 (Nat.le_refl _))⟩
              | brk ρ' S' =>
                unfold unR at hf
                rw [Option.map_eq_some_iff] at hf
                obtain ⟨T, hT, rfl⟩ := hf
                intro σ' m' H' le x2 s2 en2
                rw [hl] at le x2
                obtain ⟨_, g1, _, g2, g3, g4, g5⟩ := open_end hkl h1 hT x2 s2
                exact ⟨od, kv, g1, p σ' m' _ (by rw [g2]; exact le) g4 g3 (by rw [g2]; exact en2.mono0 g5 (Nat.le_refl _))⟩
              | ctn ρ' S' =>
                unfold unR at hf
                rw [Option.map_eq_some_iff] at hf
                obtain ⟨T, hT, rfl⟩ := hf
                intro σ' m' H' le x2 s2 en2
                rw [hl] at le x2
                obtain ⟨_, g1, _, g2, g3, g4, g5⟩ := open_end hkl h1 hT x2 s2
                exact ⟨od, kv, g1, p σ' m' _ (by rw [g2]; exact le) g4 g3 (by rw [g2]; exact en2.mono0 g5 (Nat.le_refl _))⟩
              | ret v S' =>
                unfold unR at hf
                rw [Option.map_eq_some_iff] at hf
                obtain ⟨T, hT, rfl⟩ := hf
                intro y m' H' le x2 s2 ry
                rw [hl] at le x2
                obtain ⟨_, g1, _, g2, g3, g4, g5⟩ := open_end hkl h1 hT x2 s2
                exact ⟨od, kv, g1, p y m' _ (by rw [g2]; exact le) g4 g3 (by rw [g2]; exact ry.mono0 g5 (Nat.le_refl _))⟩
              | exc xn ρ' S' =>
                unfold unR at hf
                rw [Option.map_eq_some_iff] at hf
                obtain ⟨T, hT, rfl⟩ := hf
                intro cls dd σ' m' H' le x2 s2 en2 rx
                rw [hl] at le x2
                obtain ⟨_, g1, _, g2, g3, g4, g5⟩ := open_end hkl h1 hT x2 s2
                refine ⟨od, kv, g1, p cls dd σ' m' _ (by rw [g2]; exact le) g4 g3 (by rw [g2]; exact en2.mono0 g5 (Nat.le_refl _)) ?_⟩
                obtain ⟨C, c1, c2, c3⟩ := rx
                refine ⟨C, c1, c2, ?_⟩
                rcases c3 with c3 | ⟨n1, d', fv, n2, n3, n4⟩
                · exact .inl c3
                · exact .inr ⟨n1, d', fv, n2, g5.xd _ _ n3, by rw [g2]; exact n4.mono0 g5 (Nat.le_refl _)⟩
            · cases fl with
              | next => obtain ⟨σ', H', I2, o, kv2, e2, q2⟩ := z; exact ⟨σ', _, I2.unlock e2 hn, q2⟩
              | brk => obtain ⟨σ', H', I2, o, kv2, e2, q2⟩ := z; exact ⟨σ', _, I2.unlock e2 hn, q2⟩
              | cont => obtain ⟨σ', H', I2, o, kv2, e2, q2⟩ := z; exact ⟨σ', _, I2.unlock e2 hn, q2⟩
              | ret v => obtain ⟨y, σ', H', I2, ry, o, kv2, e2, q2⟩ := z; exact ⟨y, σ', _, I2.unlock e2 hn, ry, q2⟩
        · cases ht
      · exact (h W tk).run pins s σ H D I ⟨m, ρ, S, r, st0, en, hf, p⟩
      · cases hf
  · cases hf
end
end D

/-! D18: dicts: walked, sorted, as a list, displayed, made of pairs; global tuples. -/
namespace D
open PySem PySem.Spec PyProof.Rows L2
def dctOf (S : Sto) (k : Nat) : Option (List (PV × PV)) := match S[k]? with
  | some (.dct false kvs) => some kvs
  | some (.fd kvs) => some kvs
  | _ => none
section
variable {K : PySem.W.Frag} {mg : Str → Option Value} {H : Hp} {m : Nat → Addr} {n : Nat} {S : Sto}
theorem dct_rd {k : Nat} {kvs : List (PV × PV)} (s : StS K mg m S H) (h : dctOf S k = some kvs) : ∃ kv, Rd H (m k) (.dK kv) ∧ RpK K H m S.length kvs kv := by
  unfold dctOf at h
  split at h
  · rename_i e
    cases h
    rcases s.obj k _ e with ⟨_, kv, h1, h2⟩ | ⟨ht, _⟩
    · exact ⟨kv, .inl h1, h2⟩
    · cases ht
  · rename_i e
    cases h
    obtain ⟨o, kv, h1, h2⟩ := s.obj k _ e
    exact ⟨kv, .inr ⟨o, h1⟩, h2⟩
  · cases h
theorem kP_of {d : PV} {q : Key} (h : kP d = some q) : Rp K H m n d (kV q) := by
  unfold kP at h
  split at h
  · cases h; exact .int _
  · cases h; exact .str _
  · cases h
theorem rpk_keys : ∀ {kvs : List (PV × PV)} {kv : List (Key × V)}, RpK K H m n kvs kv → RpL K H m n (kvs.map Prod.fst) (kv.map fun q => kV q.1)
  | _, _, .nil => .nil
  | _, _, .cons h r => .cons (kP_of h.1) (rpk_keys r)
/-! ### list(d) -/
def gListD : GA := fun l S => match l with
  | [.loc k] => match dctOf S k with
    | some kvs => some (.ok (.loc S.length) (S ++ [.lst (kvs.map Prod.fst)]))
    | none => none
  | _ => none
def rListDk : List V → Hp → VK → Prop := fun xs H Q => ∃ (a : Addr) (kvs : List (Key × V)), xs = [.ref a] ∧ Rd H a (.dK kvs) ∧ ∀ p, H p = none → Q (.ref p) (upd H p (.lst (kvs.map fun kv => kV kv.1)))
theorem ok_listD : OkGA K mg rListDk gListD := fun W σ m S H x d z Q s r e p => by
  unfold gListD at e
  split at e
  · rename_i k
    split at e
    · rename_i kvs hk
      cases e
      cases r with
      | cons a b =>
        cases b; cases a
        obtain ⟨kv, h1, h2⟩ := dct_rd s hk
        exact ⟨_, kv, rfl, h1, new_list s (rpk_keys h2) p⟩
    · cases e
  · cases e
/-! ### sorted(d), its keys texts -/
def leSt (a b : Str) : Bool := !ltCps b.cps.toList a.cps.toList
def sortSt (ks : List Str) : List Str := ks.mergeSort leSt
theorem leSt_iff {a b : Str} : leSt a b = true ↔ a.cps.toList ≤ b.cps.toList := by
  unfold leSt
  rw [ltCps_eq, Bool.not_eq_true', decide_eq_false_iff_not]
  exact List.not_lt
theorem leSt_trans (a b c : Str) (h1 : leSt a b = true) (h2 : leSt b c = true) : leSt a c = true := leSt_iff.mpr (List.le_trans (leSt_iff.mp h1) (leSt_iff.mp h2))
theorem leSt_total (a b : Str) : (leSt a b || leSt b a) = true := by
  rw [Bool.or_eq_true, leSt_iff, leSt_iff]
  exact List.le_total _ _
theorem leSt_anti {a b : Str} (h1 : leSt a b = true) (h2 : leSt b a = true) : a = b := by
  have := List.le_antisymm (leSt_iff.mp h1) (leSt_iff.mp h2)
  cases a; cases b
  simp only at this
  congr 1
  exact Array.toList_inj.mp this
theorem rising_pw : ∀ (l : List Str) (p : Str), risingS p l = true → (p :: l).Pairwise fun a b => leSt a b = true
  | [], p, _ => List.pairwise_singleton _ _
  | x :: r, p, h => by
    have h : (!ltCps x.cps.toList p.cps.toList && risingS x r) = true := h
    rw [Bool.and_eq_true] at h
    have ih := rising_pw r x h.2
    refine List.pairwise_cons.mpr ⟨fun y hy => ?_, ih⟩
    rcases List.mem_cons.mp hy with rfl | hy
    · exact h.1
    · exact leSt_trans p x y h.1 (List.rel_of_pairwise_cons ih hy)
theorem sortSt_uniq {ys ks : List Str} (hp : ys.Perm ks) (h : sortedS ys = true) : ys = sortSt ks := by
  have h1 : ys.Pairwise fun a b => leSt a b = true := by
    cases ys with
    | nil => exact .nil
    | cons x r => exact rising_pw r x h
  have h2 : (sortSt ks).Pairwise fun a b => leSt a b = true := List.pairwise_mergeSort leSt_trans leSt_total ks
  exact (hp.trans (List.mergeSort_perm ks leSt).symm).eq_of_pairwise (fun a b _ _ => leSt_anti) h1 h2
def keyS : PV × PV → Option Str
  | (.str s, _) => some s
  | _ => none
theorem keys_strs : ∀ {kvs : List (PV × PV)} {kv : List (Key × V)} {ks : List Str}, RpK K H m n kvs kv → mapO keyS kvs = some ks → kv.map (·.1) = ks.map Sum.inr
  | _, _, ks, .nil, h => by cases h; rfl
  | p :: r, q :: t, ks, .cons h rs, e => by
    unfold mapO at e
    cases e1 : keyS p with
    | none => rw [e1] at e; simp at e
    | some s =>
      cases e2 : mapO keyS r with
      | none => rw [e1, e2] at e; simp at e
      | some ss =>
        rw [e1, e2] at e
        cases e
        obtain ⟨a, b⟩ := p
        unfold keyS at e1
        split at e1
        · rename_i heq
          cases heq
          cases e1
          have h1 := h.1
          simp only [kP, Option.some.injEq] at h1
          rw [List.map_cons, List.map_cons, ← h1, keys_strs rs e2]
        · cases e1
def gSortD : GA := fun l S => match l with
  | [.loc k] => match dctOf S k with
    | some kvs => match mapO keyS kvs with
      | some ks => if ks.length < 64 then some (.ok (.loc S.length) (S ++ [.lst ((sortSt ks).map PV.str)])) else none
      | none => none
    | none => none
  | _ => none
def rSortDk : List V → Hp → VK → Prop := fun xs H Q => ∃ (a : Addr) (kvs : List (Key × V)) (ks : List Str), xs = [.ref a] ∧ Rd H a (.dK kvs) ∧ kvs.map (·.1) = ks.map Sum.inr ∧ ks.length < 64 ∧
    ∀ ys p, ys.Perm ks → sortedS ys = true → H p = none → Q (.ref p) (upd H p (.lst (ys.map V.str)))
theorem of_strs : ∀ {ns : List Str}, RpL K H m n (ns.map PV.str) (ns.map V.str)
  | [] => .nil
  | i :: _ => .cons (.str i) of_strs
theorem ok_sortDk : OkGA K mg rSortDk gSortD := fun W σ m S H x d z Q s r e p => by
  unfold gSortD at e
  split at e
  · rename_i k
    split at e
    · rename_i kvs hk
      split at e
      · rename_i ks hks
        split at e
        · rename_i h64
          cases e
          cases r with
          | cons a b =>
            cases b; cases a
            obtain ⟨kv, h1, h2⟩ := dct_rd s hk
            exact ⟨_, kv, ks, rfl, h1, keys_strs h2 hks, h64, fun ys q hp hs hq => by
              rw [sortSt_uniq hp hs]
              exact new_list s of_strs p q hq⟩
        · cases e
      · cases e
    · cases e
  · cases e
/-! ### for k in d -/
theorem itOk_keys {k : Nat} {kvs : List (PV × PV)} {kv : List (Key × V)} {o : Obj} (s0 : StS K mg m S H) (e0 : S[k]? = some (.fd kvs)) (h0 : H (m k) = some (.frz o (.dK kv))) (r0 : RpK K H m S.length kvs kv) : ItOk K mg (Itk (m k) o kv) ⟨kvs.map Prod.fst, [(k, .fd kvs)]⟩ S.length m H where
  go := fun i d m' S' H' le x s kp e => by
    have hl := rpk_keys r0
    obtain ⟨y, h1, h2⟩ := hl.get e
    have hf := x.fz _ _ _ h0
    rw [List.getElem?_map] at h1
    cases q : kv[i]? with
    | none => rw [q] at h1; cases h1
    | some p =>
      rw [q] at h1
      cases h1
      have hi := lt_of_get q
      refine ⟨⟨hf, hi⟩, fun y H2 hy => ?_⟩
      obtain ⟨rfl, k', v', e1, rfl⟩ := hy
      rw [q] at e1
      cases e1
      exact ⟨m', Ext.refl, s, h2.mono x le⟩
  stop := fun m' S' H' le x s kp => by
    have hf := x.fz _ _ _ h0
    have hl := (rpk_keys r0).length
    rw [List.length_map, List.length_map] at hl
    exact ⟨hf, by show kv.length ≤ (kvs.map Prod.fst).length; rw [List.length_map, hl]; exact Nat.le_refl _⟩
end
def dKeysI (f : DE) : DI := fun ρ S => bR (f ρ S) fun x S1 => match x with
  | .loc k => match S1[k]? with
    | some (.fd kvs) => some (.ok ⟨kvs.map Prod.fst, [(k, .fd kvs)]⟩ S1)
    | _ => none
  | _ => none
section
variable {X : Cx} {W : WX} {tg e : Expr} {fe : DE}
theorem di_keys (h : PEd X W e fe) : PId X W tg e (dKeysI fe) := (pi_keys h).imp fun σ H Q h => by
  refine (bind1 (ra := rE X.K) h).mono fun v H1 ⟨m, ρ, S, d, z, s, en, r1, hk, p⟩ => ?_
  split at hk
  · cases r1 with
    | loc hk' =>
      split at hk
      · rename_i k kvs e1
        cases hk
        obtain ⟨o, kv, h1, h2⟩ := s.obj _ _ e1
        exact ⟨_, o, rfl, .inl ⟨kv, h1, p _ m H1 (Nat.le_refl _) Ext.refl s (itOk_keys s e1 h1 h2)⟩⟩
      · cases hk
  · cases hk
/-! ### a module's tuple -/
theorem de_gtup {x : Str} {a : Addr} {d : PV} {pos : Pos} (hg : Gl X x) (hm : X.mg x = some (.ref a)) (hr : ∀ H m n, Rp X.K H m n d (.ref a)) (hd : (x == ("__debug__" : Str)) = false := by decide) : PEd X W (.Name x pos) (dC d) :=
  (pe_glob (v := .ref a) hg hm rfl hd).imp fun σ H Q h => by
    obtain ⟨m, ρ, S, r, s, e, hf, p⟩ := h
    cases hf
    exact p _ m H (Nat.le_refl _) Ext.refl s (hr _ _ _)
/-! ### displays -/
abbrev RPs := List (PV × PV)
def rPs (K : PySem.W.Frag) : Rel RPs (List (V × V)) := fun H m n l ps => Paired (fun p q => Rp K H m n p.1 q.1 ∧ Rp K H m n p.2 q.2) l ps
def dPairs : List (DE × DE) → En → Sto → Option (R RPs)
  | [], _, S => some (.ok [] S)
  | p :: r, ρ, S => bR (p.1 ρ S) fun x S1 => bR (p.2 ρ S1) fun y S2 => bR (dPairs r ρ S2) fun l S3 => some (.ok ((x, y) :: l) S3)
def mergeD (kvs more : RPs) : Option RPs := match more with
  | [] => some kvs
  | p :: r => match kP p.1 with
    | some k => mergeD (putD kvs p.1 p.2 k) r
    | none => none
def dDisp (ps : List (DE × DE)) : DE := fun ρ S => bR (dPairs ps ρ (S ++ [.dct false []])) fun l S1 => if l.length ≤ 15 then match S1[S.length]?, mergeD [] l with
  | some (.dct false []), some kvs => some (.ok (.loc S.length) (S1.set S.length (.dct false kvs)))
  | _, _ => none else none
abbrev PPsd (X : Cx) (W : WX) (pos : Pos) (ks : List (Option Expr)) (vs : List Expr) (ps : List (DE × DE)) : Prop := PPs X pos ks vs (ps.map fun p => (tD X.K X.mg W p.1, tD X.K X.mg W p.2))
theorem dps_nil {pos : Pos} : PPsd X W pos [] [] [] := pps_nil
theorem dps_cons {pos : Pos} {k v : Expr} {ks : List (Option Expr)} {vs : List Expr} {fk fv : DE} {ps : List (DE × DE)} (hk : PEd X W k fk) (hv : PEd X W v fv) (hr : PPsd X W pos ks vs ps) : PPsd X W pos (some k :: ks) (v :: vs) ((fk, fv) :: ps) := pps_cons hk hv hr
theorem lift_pairs {K : PySem.W.Frag} {mg : Str → Option Value} {σ : L2.St} : ∀ (ps : List (DE × DE)) (H : Hp) (Q : List (V × V) → Hp → Prop), tG K mg (rPs K) W (fun ρ S => dPairs ps ρ S) σ H Q → tPairs (ps.map fun p => (tD K mg W p.1, tD K mg W p.2)) σ H Q
  | [], H, Q, h => by
    obtain ⟨m, ρ, S, r, s, e, hf, p⟩ := h
    cases hf
    exact p [] m H (Nat.le_refl _) Ext.refl s .nil
  | q :: ps, H, Q, h => by
    have h : tG K mg (rPs K) W (fun ρ S => bR (q.1 ρ S) fun x S1 => bR (q.2 ρ S1) fun y S2 => bR (dPairs ps ρ S2) fun l S3 => some (.ok ((x, y) :: l) S3)) σ H Q := h
    refine (bind2 (ra := rE K) (rb := rE K) keeps_E h).mono fun v H1 h1 => h1.mono fun u H2 ⟨m, ρ, S, d, d', z, s, e, r1, r2, hk, p⟩ => ?_
    refine lift_pairs ps H2 _ ?_
    cases q2 : dPairs ps ρ S with
    | none => rw [q2] at hk; cases hk
    | some z1 =>
      rw [q2] at hk
      cases z1 with
      | exc x T =>
        cases hk
        exact ⟨m, ρ, S, .exc x T, s, e, q2, p⟩
      | ok l T =>
        cases hk
        refine ⟨m, ρ, S, .ok l T, s, e, q2, fun l' m2 H3 le x s2 rl => ?_⟩
        exact p _ m2 H3 le x s2 (.cons ⟨r1.mono x le, r2.mono x le⟩ rl)
theorem merge_rp {K : PySem.W.Frag} {H : Hp} {m : Nat → Addr} {n : Nat} : ∀ {more kvs out : RPs} {ps : List (V × V)} {kv : List (Key × V)}, Paired (fun p q => Rp K H m n p.1 q.1 ∧ Rp K H m n p.2 q.2) more ps → RpK K H m n kvs kv → mergeD kvs more = some out →
    ∃ kv2 : List (Key × V), ps = kv2.map (fun p => (kV p.1, p.2)) ∧ kv2.length = more.length ∧ RpK K H m n out (mergeK kv kv2)
  | [], kvs, out, _, kv, .nil, r, e => by
    cases e
    exact ⟨[], rfl, rfl, r⟩
  | p :: more, kvs, out, q :: ps, kv, .cons h t, r, e => by
    unfold mergeD at e
    split at e
    · rename_i k hk
      have hq := kP_rp hk h.1
      obtain ⟨kv2, h1, h2, h3⟩ := merge_rp t (rpk_put hk h.2 r) e
      refine ⟨(k, q.2) :: kv2, ?_, by simp [h2], h3⟩
      rw [List.map_cons, ← h1]
      congr 1
      rw [← hq]
    · cases e
theorem de_disp {pos : Pos} {ks : List (Option Expr)} {vs : List Expr} {ps : List (DE × DE)} (h : PPsd X W pos ks vs ps) (hall : ks.all (·.isSome) = true := by rfl) (hl : ks.length = vs.length := by rfl) (h0 : ks ≠ [] := by simp) (h15 : ks.length ≤ 15 := by decide) :
    PEd X W (.Dict ks vs pos) (dDisp ps) := (pe_disp h hall hl h0 h15).imp fun σ H Q h => by
  obtain ⟨m, ρ, S, r, s, en, hf, p⟩ := h
  intro q hq
  have st := s.push (p := q) (ho := .dK []) (po := .dct false []) hq rfl (.inl ⟨rfl, [], upd_same, .nil⟩)
  have hl1 : (S ++ [PO.dct false []]).length = S.length + 1 := by simp
  have e1 : EnR X.K (upd H q (.dK [])) (mext m S.length q) (S ++ [PO.dct false []]).length ρ σ := en.mono (ext_push hq) (by rw [hl1]; exact Nat.le_succ _)
  refine lift_pairs ps _ _ ?_
  unfold dDisp at hf
  cases q2 : dPairs ps ρ (S ++ [.dct false []]) with
  | none => rw [q2] at hf; cases hf
  | some z1 =>
    rw [q2] at hf
    cases z1 with
    | exc x T =>
      cases hf
      refine ⟨_, ρ, _, .exc x T, st, e1, q2, fun cls dd m2 H2 le x2 s2 rx => ?_⟩
      exact p cls dd m2 H2 (by rw [hl1] at le; omega) ((ext_push hq).trans x2 (by rw [hl1]; exact Nat.le_succ _)) s2 rx
    | ok l T =>
      refine ⟨_, ρ, _, .ok l T, st, e1, q2, fun ls m2 H2 le x2 s2 rl => ?_⟩
      have hf : (if l.length ≤ 15 then match T[S.length]?, mergeD [] l with
        | some (.dct false []), some kvs => some (.ok (.loc S.length) (T.set S.length (.dct false kvs)))
        | _, _ => none else none) = some r := hf
      rw [hl1] at le x2
      have hm : m2 S.length = q := by rw [x2.mp _ (Nat.lt_succ_self _), mext_same]
      split at hf
      · rename_i h15
        split at hf
        · rename_i kvs ea eb
          cases hf
          have rl : Paired (fun p q => Rp X.K H2 m2 T.length p.1 q.1 ∧ Rp X.K H2 m2 T.length p.2 q.2) l ls := rl
          obtain ⟨kv2, g1, g2, g3⟩ := merge_rp rl .nil eb
          rcases s2.obj _ _ ea with ⟨_, kv, h1, h2⟩ | ⟨ht, _⟩
          · cases h2
            rw [hm] at h1
            refine ⟨h1, kv2, g1, by rw [g2]; exact h15, ?_⟩
            have mu : Mut (H2 q) := by rw [h1]; exact trivial
            have xw : Ext X.K T.length m2 H2 m2 (upd H2 q (.dK (mergeK [] kv2))) := ext_upd (.inr mu)
            have sw := s2.write (ho := .dK (mergeK [] kv2)) (po' := .dct false kvs) ea rfl rfl (.inl ⟨rfl, _, upd_same, by
              rw [hm]
              exact g3.mono xw (Nat.le_refl _)⟩)
            rw [hm] at sw
            have rr : Rp X.K (upd H2 q (.dK (mergeK [] kv2))) m2 (T.set S.length (.dct false kvs)).length (.loc S.length) (.ref (m2 S.length)) := .loc (by rw [List.length_set]; omega)
            rw [hm] at rr
            refine p _ m2 _ (by rw [List.length_set]; omega) ?_ sw rr
            exact ((ext_push hq).trans x2 (Nat.le_succ _)).trans xw (by omega)
          · cases ht
        · cases hf
      · cases hf
/-! ### dict(list of pairs), dict(d) -/
def rCopyD : List V → Hp → VK → Prop := fun xs H Q => ∃ (a : Addr) (kvs : List (Key × V)), xs = [.ref a] ∧ Rd H a (.dK kvs) ∧ ∀ p, H p = none → Q (.ref p) (upd H p (.dK kvs))
theorem call_copyD : CallR X (.type "dict") rCopyD := by
  intro pins s σ H xs us Q I r q
  obtain ⟨a, kvs, ex, hd, q⟩ := q
  subst ex
  cases r with
  | cons r1 r2 =>
    cases r2
    cases r1
    exact d_copyOf I hd fun p s' hp I' => ⟨.ref p, _, I', rfl, q p hp⟩
def rDictP (K : PySem.W.Frag) : List V → Hp → VK → Prop := fun xs H Q => ∃ (a : Addr) (ps : List Addr) (kvs : List (Key × V)), xs = [.ref a] ∧ SqL K H a (ps.map V.ref) ∧ Paired (fun p kv => SqT K H p [kV kv.1, kv.2]) ps kvs ∧
    ∀ p, H p = none → Q (.ref p) (upd H p (.dK (mergeK [] kvs)))
def rDict (K : PySem.W.Frag) : List V → Hp → VK → Prop := fun xs H Q => rDictP K xs H Q ∨ rCopyD xs H Q
theorem call_dict (hc : X.calm = true) : CallR X (.type "dict") (rDict X.K) := (call_dictP hc).or call_copyD
def pairsOf2 : List PV → Option RPs
  | [] => some []
  | .tup [a, b] :: r => match pairsOf2 r with
    | some l => some ((a, b) :: l)
    | none => none
  | _ => none
theorem pairs_rp {K : PySem.W.Frag} {mg : Str → Option Value} {H : Hp} {m : Nat → Addr} {n : Nat} : ∀ {l : List PV} {xs : List V} {ps kvs out : RPs} {kv : List (Key × V)}, RpL K H m n l xs → pairsOf2 l = some ps → RpK K H m n kvs kv → mergeD kvs ps = some out →
    ∃ (as : List Addr) (kv2 : List (Key × V)), xs = as.map V.ref ∧ Paired (fun p kv => SqT K H p [kV kv.1, kv.2]) as kv2 ∧ RpK K H m n out (mergeK kv kv2)
  | _, _, ps, kvs, out, kv, .nil, e, r, h => by
    cases e
    cases h
    exact ⟨[], [], rfl, .nil, r⟩
  | d :: l, x :: xs, ps, kvs, out, kv, .cons a t, e, r, h => by
    unfold pairsOf2 at e
    split at e
    · cases e
      cases h
      rename_i q
      cases q
    · rename_i a1 b1 r1 heq
      cases heq
      split at e
      · rename_i l2 e2
        cases e
        unfold mergeD at h
        split at h
        · rename_i k hk
          cases a with
          | tup h1 h2 =>
            cases h2 with
            | cons ra h3 =>
              cases h3 with
              | cons rb h4 =>
                cases h4
                have hq := kP_rp hk ra
                obtain ⟨as, kv2, g1, g2, g3⟩ := pairs_rp (mg := mg) t e2 (rpk_put hk rb r) h
                subst hq
                exact ⟨_ :: as, (k, _) :: kv2, by rw [List.map_cons, ← g1], .cons h1 g2, g3⟩
        · cases h
      · cases e
    · cases e
def gDict : GA := fun l S => match l with
  | [.loc k] => match dctOf S k with
    | some kvs => some (.ok (.loc S.length) (S ++ [.dct false kvs]))
    | none => match lstOf k S with
      | some l => match pairsOf2 l with
        | some ps => match mergeD [] ps with
          | some kvs => some (.ok (.loc S.length) (S ++ [.dct false kvs]))
          | none => none
        | none => none
      | none => none
  | _ => none
theorem new_dct {K : PySem.W.Frag} {mg : Str → Option Value} {σ : L2.St} {H : Hp} {m : Nat → Addr} {S : Sto} {kvs : RPs} {kv : List (Key × V)} {Q : VK} (s : StS K mg m S H) (r : RpK K H m S.length kvs kv)
    (p : PostG K mg (rE K) W σ m S H (.ok (.loc S.length) (S ++ [.dct false kvs])) Q) (q : Addr) (hq : H q = none) : Q (.ref q) (upd H q (.dK kv)) := by
  have st := s.push (p := q) (ho := .dK kv) (po := .dct false kvs) hq rfl (.inl ⟨rfl, kv, upd_same, r.mono (ext_push hq) (Nat.le_succ _)⟩)
  have rp : Rp K (upd H q (.dK kv)) (mext m S.length q) (S ++ [PO.dct false kvs]).length (.loc S.length) (.ref (mext m S.length q S.length)) := .loc (by simp)
  rw [mext_same] at rp
  exact p _ (mext m S.length q) _ (by simp) (ext_push hq) st rp
theorem ok_dict {K : PySem.W.Frag} {mg : Str → Option Value} : OkGA K mg (rDict K) gDict := fun W σ m S H x d z Q s r e p => by
  unfold gDict at e
  split at e
  · rename_i k
    cases r with
    | cons a b =>
      cases b; cases a
      split at e
      · rename_i kvs hk
        cases e
        obtain ⟨kv, h1, h2⟩ := dct_rd s hk
        exact .inr ⟨_, kv, rfl, h1, new_dct s h2 p⟩
      · split at e
        · rename_i l hl
          split at e
          · rename_i ps hps
            split at e
            · rename_i kvs hm
              cases e
              obtain ⟨xs, h1, h2⟩ := lst_rp s hl
              obtain ⟨as, kv2, g1, g2, g3⟩ := pairs_rp (mg := mg) h2 hps .nil hm
              subst g1
              exact .inl ⟨_, as, kv2, rfl, h1, g2, new_dct s g3 p⟩
            · cases e
          · cases e
        · cases e
  · cases e
/-! ### texts: in, < -/
def inStr (i j : Str) : Bool := !(Builtin.Str.occurrences j i 0 j.length 1).isEmpty
def gInS (neg : Bool) : G2 := fun x y S => match x, y with
  | .str i, .str j => some (.ok (.bl (if neg then !inStr i j else inStr i j)) S)
  | _, _ => none
def rInS (neg : Bool) : R2 := fun x y H Q => ∃ i j, x = .str i ∧ y = .str j ∧ Q (.bl (if neg then !inStr i j else inStr i j)) H
theorem op_inS : OpR X (compareOp .In) (rInS false) := op_in_str
theorem op_notinS : OpR X (compareOp .NotIn) (rInS true) := op_notin_str
theorem ok_inS {K : PySem.W.Frag} {mg : Str → Option Value} {neg : Bool} : OkG2 K mg (rInS neg) (gInS neg) := fun W σ m S H x y d d' z Q s r1 r2 e p => by
  unfold gInS at e
  split at e
  · cases e; cases r1; cases r2
    exact ⟨_, _, rfl, rfl, post_here s (.bl _) p⟩
  · cases e
def rRelS (f : Str → Str → Bool) : R2 := fun x y H Q => ∃ i j, x = .str i ∧ y = .str j ∧ Q (.bl (f i j)) H
def gRelS (f : Str → Str → Bool) : G2 := fun x y S => match x, y with
  | .str i, .str j => some (.ok (.bl (f i j)) S)
  | _, _ => none
theorem ok_relS {K : PySem.W.Frag} {mg : Str → Option Value} {f : Str → Str → Bool} : OkG2 K mg (rRelS f) (gRelS f) := fun W σ m S H x y d d' z Q s r1 r2 e p => by
  unfold gRelS at e
  split at e
  · cases e; cases r1; cases r2
    exact ⟨_, _, rfl, rfl, post_here s (.bl _) p⟩
  · cases e
def ltS (i j : Str) : Bool := decide (i.cps.toList < j.cps.toList)
def leS (i j : Str) : Bool := !decide (j.cps.toList < i.cps.toList)
def gtS (i j : Str) : Bool := decide (j.cps.toList < i.cps.toList)
def geS (i j : Str) : Bool := !decide (i.cps.toList < j.cps.toList)
theorem op_ltS : OpR X (compareOp .Lt) (rRelS ltS) := op_lt_str
theorem op_leS : OpR X (compareOp .LtE) (rRelS leS) := op_le_str
theorem op_gtS : OpR X (compareOp .Gt) (rRelS gtS) := op_gt_str
theorem op_geS : OpR X (compareOp .GtE) (rRelS geS) := op_ge_str
end
/-! ### a tuple of texts (and ints) of the table -/
theorem tup_rp {K : PySem.W.Frag} {a : Addr} {o : Obj} {its : Array Value} {k : Nat} {l : List PV} {xs : List V} (h : K.lookup a = some o) (hc : o.cls = .type "tuple") (hd : o.data = .seq its k) (hz : its.size ≤ sizeLine) (hv : Vals xs its.toList) (hr : ∀ H m n, RpL K H m n l xs) :
    ∀ H m n, Rp K H m n (.tup l) (.ref a) := fun H m n => .tup (.inr ⟨o, its, k, h, hc, hd, hz, hv⟩) (hr H m n)
end D

/-! D19: list.remove. -/
namespace D
open PySem PySem.Spec PyProof.Rows L2
def rRemD (K : PySem.W.Frag) : V → List V → Hp → VK → Prop := fun x xs H Q => ∃ (l : Addr) (vs : List V) (y : V) (ds : List PyData) (d : PyData) (j : Nat), x = .ref l ∧ xs = [y] ∧ H l = some (.lst vs) ∧ L2.DpAll K H vs ds ∧ L2.Dp K H y d ∧
  PyData.plainAll ds = true ∧ d.plain = true ∧ d.depth ≤ 60 ∧ SeqAt.dataPlace ds d = some j ∧ Q .non (upd H l (.lst (vs.eraseIdx j)))
theorem reads_all {X : Cx} {pins : List (Addr × Obj)} {σ : L2.St} {H : Hp} {s : Shared} (I : Inv X pins σ H s) : ∀ {xs : List V} {ds : List PyData} {us : List Value}, L2.DpAll X.K H xs ds → Vals xs us → ∃ as, ReadsAll s.heap us ds as
  | _, _, _, .nil, .nil => ⟨_, .nil⟩
  | _, _, _, .cons a b, .cons r t => by
    obtain ⟨as, h1⟩ := Dp.reads I _ _ _ a r
    obtain ⟨bs, h2⟩ := reads_all I b t
    exact ⟨_, .cons h1 h2⟩
theorem mt_removeD {X : Cx} (hu : X.A.units + 64 < cLine) : MtR X "list.remove" (rRemD X.K) := by
  intro pins s σ H x xs v us Q I rx rxs h
  obtain ⟨l, vs, y, ds, d, j, rfl, rfl, hH, hds, hd, pp, pd, dep, hp, q⟩ := h
  cases rx
  obtain ⟨u, rfl, ru⟩ := rxs.one
  obtain ⟨z, its, n, r, hl, e⟩ := I.lstM hH
  obtain ⟨as, r1⟩ := reads_all I hds r
  obtain ⟨bs, r2⟩ := Dp.reads I d y u hd ru
  refine SeqAt.remove_list_data (vs := its.toArray) ⟨_, e, rfl, n, rfl⟩ (by simpa using r1) r2 pp pd (by omega) hp (by rw [List.size_toArray]; omega) ?_
  have rr := r.eraseIdx j
  refine ⟨.non, _, I.lset (its' := its.eraseIdx j) (t' := s.toks) hH e ?_ rr ?_, rfl, q⟩
  · show its.toArray.eraseIdxIfInBounds j = (its.eraseIdx j).toArray
    rw [List.eraseIdxIfInBounds_toArray]
  · have := List.length_eraseIdx_le vs j
    omega
def gRemove : GM := fun o l S => match o, l with
  | .loc k, [y] => match S[k]? with
    | some (.lst xs) => match mapO (toD 60 S) xs, toD 60 S y with
      | some ds, some d => match SeqAt.dataPlace ds d with
        | some j => some (.ok .non (S.set k (.lst (xs.eraseIdx j))))
        | none => none
      | _, _ => none
    | _ => none
  | _, _ => none
theorem ok_removeD {K : PySem.W.Frag} {mg : Str → Option Value} : OkGM K mg (rRemD K) gRemove := fun W σ m S H o x c d z Q s ro r e p => by
  unfold gRemove at e
  split at e
  · cases ro with
    | loc hk =>
      cases r with
      | cons a b =>
        cases b
        split at e
        · rename_i xs e1
          split at e
          · rename_i ds dd hds hd
            split at e
            · rename_i j hj
              cases e
              obtain ⟨vs, h1, h2⟩ := s.obj _ _ e1
              obtain ⟨a1, a2, a3⟩ := mapO_dp (c := 60) (toD_dp s 60) hds h2
              obtain ⟨b1, b2, b3⟩ := toD_dp s 60 _ _ _ hd a
              exact ⟨_, vs, _, ds, dd, j, rfl, rfl, h1, a1, b1, a2, b2, b3, hj, list_set s e1 (h2.eraseIdx j) .non p⟩
            · cases e
          · cases e
        · cases e
  · cases e
/-! ### f() -/
section
variable {X : Cx} {W : WX} {k n : Nat} {f : Addr} {fd : FuncData} {ps : List Str} {F : DF} {x : Str} {p pos : Pos}
theorem pe_callSD0 {sp : Sp} {E : L2.St → XK} (F : FnOk X.prog X.w X.K X.mg X.base (L2.CX X.prog X.w) k f fd ps sp) (hr : Room k X.A) (hg : Gl X x) (hm : X.mg x = some (.ref f)) (hk : PySem.W.keepIn X.K (.ref f) = true) (hb : Binds X.K fd ps []) (hx : ∀ σ, PassesAt (L2.CX X.prog X.w) X σ (E σ))
    (hdb : (x == ("__debug__" : Str)) = false := by decide) : PE X (.Call (.Name x p) [] [] pos) (tCallSD sp [] E tNil) := by
  refine ⟨fun pins s σ H Q I h => ?_⟩
  refine wpAny_Call_Name_kw (ld_glob I hg hm ?_ hdb)
  exact PySem.W.callWith_K0 I.kIn hk (run_fnSD (us := []) F hr hb .nil (hx σ) I .nil h)
theorem de_call0 (G : FnOk X.prog X.w X.K X.mg X.base (L2.CX X.prog X.w) k f fd ps (spD X.K X.mg n F)) (hr : Room k X.A) (hg : Gl X x) (hm : X.mg x = some (.ref f)) (hk : PySem.W.keepIn X.K (.ref f) = true) (hb : Binds X.K fd ps []) (tk : Takes X W)
    (hF : ∀ args S r, F args S = some r → args.length = n) (hdb : (x == ("__debug__" : Str)) = false := by decide) : PEd X W (.Call (.Name x p) [] [] pos) (dOpA F dNil) := (pe_callSD0 G hr hg hm hk hb (fun σ => passAt tk σ) hdb).imp fun σ H Q h => by
  obtain ⟨m, ρ, S, r, s, e, hf, p⟩ := h
  have hf : F [] S = some r := hf
  exact ⟨hF _ _ _ hf, m, S, [], r, s, .nil, hf, post_sw p⟩
end
/-! ### defs that call themselves -/
def noF : DF := fun _ _ => none
theorem fnok_none {P : Program} {w : World} {K : PySem.W.Frag} {mg : Str → Option Value} {base : Heap} {k n : Nat} {f : Addr} {fd : FuncData} {ps : List Str} (hn : ps.length = n) : FnOk P w K mg base (L2.CX P w) k f fd ps (spD K mg n noF) :=
  ⟨fun vs H Q E h => by rw [h.1, hn], fun A outer s H args us vs Q E _ _ _ _ h => by
    obtain ⟨_, m, S, as, r, _, _, hf, _⟩ := h
    cases hf⟩
end D

/-! D20: name += e. -/
namespace D
open PySem PySem.Spec PyProof.Rows L2
def dAugN (i : Nat) (g : G2) (fe : DE) : DS := fun ρ S => match ρ[i]? with
  | some (some v) => bS ρ (fe ρ S) fun y S1 => bS ρ (g v y S1) fun z S2 => some (.next (ρ.set i (some z)) S2)
  | _ => none
def gAddA : G2 := fun x y S => match x, y with
  | .int i, .int j => some (.ok (.int (i + j)) S)
  | .str i, .str j => if i.length + j.length ≤ 16777216 then some (.ok (.str (i ++ j)) S) else none
  | _, _ => none
def rAddA : R2 := fun x y H Q => rAdd x y H Q ∨ rAddS x y H Q
section
variable {X : Cx} {W : WX} {x : Str} {e : Expr} {op : Operator} {r : R2} {g : G2} {fe : DE} {pos pos' : Pos}
theorem in_addA : InOp X .Add rAddA := fun pins s σ H x y u v Q I rx ry h => h.elim (in_add pins s σ H x y u v Q I rx ry) (in_addS pins s σ H x y u v Q I rx ry)
theorem ok_addA {K : PySem.W.Frag} {mg : Str → Option Value} : OkG2 K mg rAddA gAddA := fun W σ m S H x y d d' z Q s r1 r2 e p => by
  unfold gAddA at e
  split at e
  · cases e; cases r1; cases r2
    exact .inl ⟨_, _, rfl, rfl, post_here s (.int _) p⟩
  · split at e
    · rename_i hl
      cases e; cases r1; cases r2
      exact .inr ⟨_, _, rfl, rfl, by rw [sizeLine_eq]; omega, post_here s (.str _) p⟩
    · cases e
  · cases e
theorem ds_augN (i : Nat) (hN : X.N.Nodup) (hi : X.N[i]? = some x) (hx : Loc X.env.scope x) (hop : InOp X op r) (hg : OkG2 X.K X.mg r g) (he : PEd X W e fe) (hf : X.fn x = true ∨ X.env.scope.names.lookup x = some .local := by first | exact .inl rfl | exact .inr rfl | assumption) :
    PSd X W (.AugAssign (.Name x pos') op e pos) (dAugN i g fe) := (ps_aug hN hi hx he hop hf).imp fun D σ H h => by
  obtain ⟨m, ρ, S, r0, s, en, hf, p⟩ := h
  unfold dAugN at hf
  split at hf
  · rename_i v hv
    obtain ⟨x0, hx0, rx⟩ := en.at_ i v hv
    refine ⟨x0, hx0, ?_⟩
    cases q : fe ρ S with
    | none => rw [q] at hf; cases hf
    | some z1 =>
      rw [q] at hf
      cases z1 with
      | exc xn T =>
        cases hf
        exact ⟨m, ρ, S, .exc xn T, s, en, q, post_exc en p⟩
      | ok y T =>
        refine ⟨m, ρ, S, .ok y T, s, en, q, fun y' m2 H2 le x2 s2 ry => ?_⟩
        have hf : bS ρ (g v y T) (fun z S2 => some (.next (ρ.set i (some z)) S2)) = some r0 := hf
        have p2 := p.on le x2
        have en2 := en.mono x2 le
        cases q2 : g v y T with
        | none => rw [q2] at hf; cases hf
        | some z2 =>
          rw [q2] at hf
          refine hg W σ m2 T H2 x0 y' v y z2 _ s2 (rx.mono x2 le) ry q2 ?_
          cases z2 with
          | exc xn T2 =>
            cases hf
            exact post_exc en2 p2
          | ok z T2 =>
            cases hf
            exact fun z' m3 H3 le3 x3 s3 rz => p2 (σ.set i (some z')) m3 H3 le3 x3 s3 ((en2.mono x3 le3).set rz)
  · cases hf
end
end D

/-! D21: d.get(k), d.get(k, x); dicts of the module; list.index. -/
namespace D
open PySem PySem.Spec PyProof.Rows L2
/-! ### d.get -/
def gGetD : PV → PV → PV → Sto → Option (R PV) := fun x y z S => match x with
  | .loc k => match dctOf S k, kP y with
    | some kvs, some q => some (.ok ((valD kvs q).getD z) S)
    | _, _ => none
  | _ => none
def isDct (x : PV) (S : Sto) : Bool := match x with
  | .loc k => (dctOf S k).isSome
  | _ => false
noncomputable def dGet2 (fo fk fx : DE) : DE := fun ρ S => bR (fo ρ S) fun x S1 => if isDct x S1 = true then bR (fk ρ S1) fun y S2 => bR (fx ρ S2) fun z S3 => gGetD x y z S3 else none
noncomputable def dGet1 (fo fk : DE) : DE := fun ρ S => bR (fo ρ S) fun x S1 => if isDct x S1 = true then bR (fk ρ S1) fun y S2 => gGetD x y .non S2 else none
section
variable {X : Cx} {W : WX} {o e f : Expr} {fo fk fx : DE} {apos cpos : Pos}
theorem isD_of {K : PySem.W.Frag} {mg : Str → Option Value} {H : Hp} {m : Nat → Addr} {S : Sto} {x : PV} {v : V} (s : StS K mg m S H) (h : isDct x S = true) (r : Rp K H m S.length x v) : ∃ a, v = .ref a ∧ IsD H a := by
  unfold isDct at h
  split at h
  · cases r
    obtain ⟨kvs, hk⟩ := Option.isSome_iff_exists.mp h
    obtain ⟨kv, h1, _⟩ := dct_rd s hk
    exact ⟨_, rfl, .inl ⟨kv, h1⟩⟩
  · cases h
theorem get_ok {K : PySem.W.Frag} {mg : Str → Option Value} {σ : L2.St} {H : Hp} {m : Nat → Addr} {S : Sto} {x y z : PV} {v u t : V} {r : R PV} {Q : VK} (s : StS K mg m S H) (r1 : Rp K H m S.length x v) (r2 : Rp K H m S.length y u) (r3 : Rp K H m S.length z t) (h : gGetD x y z S = some r) (p : PostG K mg (rE K) W σ m S H r Q) :
    ∃ a oo, v = .ref a ∧ DGet H a u oo ∧ Q (oo.getD t) H := by
  unfold gGetD at h
  split at h
  · split at h
    · rename_i kvs q e1 e2
      cases h
      cases r1
      obtain ⟨kv, h1, h2⟩ := dct_rd s e1
      have hy := kP_rp e2 r2
      subst hy
      refine ⟨_, valV kv q, rfl, .inl ⟨kv, q, h1, rfl, rfl⟩, ?_⟩
      rcases valD_rp (k := q) h2 with ⟨g1, g2⟩ | ⟨d, w, g1, g2, g3⟩
      · rw [g1] at p
        rw [g2]
        exact post_here s r3 p
      · rw [g1] at p
        rw [g2]
        exact post_here s g3 p
    · cases h
  · cases h
theorem de_get2 (hu : X.A.units + 1 < cLine) (ho : PEd X W o fo) (he : PEd X W e fk) (hf : PEd X W f fx) (mm : M2 X o "get" apos e f cpos) : PEd X W (.Call (.Attribute o "get" apos) [e, f] [] cpos) (dGet2 fo fk fx) := (pe_dget2 hu ho he hf mm).imp fun σ H Q h => by
  refine (bind1 (ra := rE X.K) (k := fun ρ x S1 => if isDct x S1 = true then bR (fk ρ S1) fun y S2 => bR (fx ρ S2) fun z S3 => gGetD x y z S3 else none) h).mono fun v H1 ⟨m, ρ, S, d, r, s, en, r1, hk, p⟩ => ?_
  split at hk
  · rename_i hd
    obtain ⟨a, rfl, ha⟩ := isD_of s hd r1
    refine ⟨a, rfl, ha, ?_⟩
    have hk : bR (fk ρ S) (fun y S2 => bR (fx ρ S2) fun z S3 => gGetD d y z S3) = some r := hk
    cases q : fk ρ S with
    | none => rw [q] at hk; cases hk
    | some z1 =>
      rw [q] at hk
      cases z1 with
      | exc xn T =>
        cases hk
        exact ⟨m, ρ, S, .exc xn T, s, en, q, p⟩
      | ok y T =>
        refine ⟨m, ρ, S, .ok y T, s, en, q, fun y' m2 H2 le x2 s2 ry => ?_⟩
        have hk : bR (fx ρ T) (fun z S3 => gGetD d y z S3) = some r := hk
        cases q2 : fx ρ T with
        | none => rw [q2] at hk; cases hk
        | some z2 =>
          rw [q2] at hk
          cases z2 with
          | exc xn T2 =>
            cases hk
            exact ⟨m2, ρ, T, .exc xn T2, s2, en.mono x2 le, q2, p.on le x2⟩
          | ok z T2 =>
            refine ⟨m2, ρ, T, .ok z T2, s2, en.mono x2 le, q2, fun z' m3 H3 le3 x3 s3 rz => ?_⟩
            obtain ⟨a', oo, ea, g1, g2⟩ := get_ok (W := W) (σ := σ) s3 (r1.mono (x2.trans x3 le) (Nat.le_trans le le3)) (ry.mono x3 le3) rz hk (p.on (Nat.le_trans le le3) (x2.trans x3 le))
            cases ea
            exact ⟨oo, g1, g2⟩
  · cases hk
theorem de_get1 (hu : X.A.units + 1 < cLine) (ho : PEd X W o fo) (he : PEd X W e fk) (mm : M1 X o "get" apos e cpos) : PEd X W (.Call (.Attribute o "get" apos) [e] [] cpos) (dGet1 fo fk) := (pe_dget1 hu ho he mm).imp fun σ H Q h => by
  refine (bind1 (ra := rE X.K) (k := fun ρ x S1 => if isDct x S1 = true then bR (fk ρ S1) fun y S2 => gGetD x y .non S2 else none) h).mono fun v H1 ⟨m, ρ, S, d, r, s, en, r1, hk, p⟩ => ?_
  split at hk
  · rename_i hd
    obtain ⟨a, rfl, ha⟩ := isD_of s hd r1
    refine ⟨a, rfl, ha, ?_⟩
    have hk : bR (fk ρ S) (fun y S2 => gGetD d y .non S2) = some r := hk
    cases q : fk ρ S with
    | none => rw [q] at hk; cases hk
    | some z1 =>
      rw [q] at hk
      cases z1 with
      | exc xn T =>
        cases hk
        exact ⟨m, ρ, S, .exc xn T, s, en, q, p⟩
      | ok y T =>
        refine ⟨m, ρ, S, .ok y T, s, en, q, fun y' m2 H2 le x2 s2 ry => ?_⟩
        obtain ⟨a', oo, ea, g1, g2⟩ := get_ok (W := W) (σ := σ) s2 (r1.mono x2 le) ry (.non : Rp X.K H2 m2 T.length .non .non) hk (p.on le x2)
        cases ea
        exact ⟨oo, g1, g2⟩
  · cases hk
end
end D

/-! D22: text.index, list.index. -/
namespace D
open PySem PySem.Spec PyProof.Rows L2
def gIndexS : GM := fun o l S => match o, l with
  | .str a, [.str b] => match Builtin.Str.occurrences a b 0 a.length 1 with
    | i :: _ => some (.ok (.int (i : Nat)) S)
    | [] => none
  | _, _ => none
def rIndexS : V → List V → Hp → VK → Prop := fun x xs H Q => ∃ a b i rest, x = .str a ∧ xs = [.str b] ∧ Builtin.Str.occurrences a b 0 a.length 1 = i :: rest ∧ Q (.int (i : Nat)) H
theorem mt_indexS {X : Cx} : MtR X "str.index" rIndexS := mt_sindex
theorem ok_indexS {K : PySem.W.Frag} {mg : Str → Option Value} : OkGM K mg rIndexS gIndexS := fun W σ m S H o x c d z Q s ro r e p => by
  unfold gIndexS at e
  split at e
  · split at e
    · rename_i i rest ho
      cases e
      cases ro
      cases r with
      | cons a b =>
        cases b; cases a
        exact ⟨_, _, i, rest, rfl, rfl, ho, post_here s (.int _) p⟩
    · cases e
  · cases e
/-! ### list.index -/
theorem Room.units65 {k : Nat} {A : Around} (r : Room k A) : A.units + 65 < cLine := by have := r.un; omega
def gIndexL : GM := fun o l S => match o, l with
  | .loc k, [y] => match toD 60 S (.loc k), toD 60 S y with
    | some (.list ds), some d => if SeqAt.shaped (.list ds) = true ∧ SeqAt.shaped d = true then match ds.findIdx? (fun z => PyData.eqv z d) with
      | some j => some (.ok (.int (j : Nat)) S)
      | none => none else none
    | _, _ => none
  | _, _ => none
theorem ok_indexL {K : PySem.W.Frag} {mg : Str → Option Value} : OkGM K mg (rIndexD K) gIndexL := fun W σ m S H o x c d z Q s ro r e p => by
  unfold gIndexL at e
  split at e
  · cases r with
    | cons a b =>
      cases b
      split at e
      · rename_i ds dd h1 h2
        split at e
        · rename_i hs
          split at e
          · rename_i j hj
            cases e
            obtain ⟨a1, _, _⟩ := toD_dp s 60 _ _ _ h1 ro
            obtain ⟨b1, _, _⟩ := toD_dp s 60 _ _ _ h2 a
            cases ro
            rw [List.findIdx?_eq_some_iff_getElem] at hj
            obtain ⟨hjl, hje, hjn⟩ := hj
            refine ⟨_, _, dd, ds, j, ds[j], rfl, rfl, a1, b1, hs.1, hs.2, List.getElem?_eq_getElem hjl, hje, fun k z' hk ez => ?_, post_here s (.int _) p⟩
            obtain ⟨hkl, rfl⟩ := List.getElem?_eq_some_iff.mp ez
            simpa using hjn k hk
          · cases e
        · cases e
      · cases e
  · cases e
end D

/-! D23: dicts of the module, their keys texts. -/
namespace D
open PySem PySem.Spec PyProof.Rows L2
/-- the dict at a is l -/
structure KD (K : PySem.W.Frag) (a : Addr) (es : Array DictEntry) (n : Nat) (l : List (Str × PV)) : Prop where
  look : K.lookup a = some ⟨.type "dict", none, .dict es n, #[]⟩
  yes : ∀ z pv, l.lookup z = some pv → ∃ u v, PySem.W.nsIn K a z = some (some u) ∧ RelV v u ∧ ∀ H m n, Rp K H m n pv v
  no : ∀ z, l.lookup z = none → PySem.W.nsIn K a z = some none
  low : (a == sysModules) = false
def dKin (neg : Bool) (l : List (Str × PV)) (fe : DE) : DB := fun ρ S => bR (fe ρ S) fun x S1 => match x with
  | .str z => some (.ok (if neg then !(l.lookup z).isSome else (l.lookup z).isSome) S1)
  | _ => none
def dKix (l : List (Str × PV)) (fe : DE) : DE := fun ρ S => bR (fe ρ S) fun x S1 => match x with
  | .str z => match l.lookup z with
    | some v => some (.ok v S1)
    | none => none
  | _ => none
section
variable {X : Cx} {W : WX} {e : Expr} {fe : DE} {x : Str} {a : Addr} {es : Array DictEntry} {n : Nat} {l : List (Str × PV)} {p pos : Pos}
theorem kd_nsO (K0 : KD X.K a es n l) (z : Str) : ∃ r, PySem.W.nsIn X.K a z = some r ∧ r.isSome = (l.lookup z).isSome := by
  cases q : l.lookup z with
  | none => exact ⟨_, K0.no z q, rfl⟩
  | some pv =>
    obtain ⟨u, v, h, _⟩ := K0.yes z pv q
    exact ⟨_, h, rfl⟩
theorem de_kix (K0 : KD X.K a es n l) (lit : PySem.W.KeysLit X.w.params es.toList) (hg : Gl X x) (hm : X.mg x = some (.ref a)) (he : PEd X W e fe) (hs : PlainIx e := by intro _ _; rfl) (hd : (x == ("__debug__" : Str)) = false := by decide) :
    PEd X W (.Subscript (.Name x p) e pos) (dKix l fe) := (pe_ix ix_kdict (pe_glob (v := .ref a) hg hm rfl hd) he hs).imp fun σ H Q h => by
  refine (bind1 (ra := rE X.K) (k := fun ρ x S1 => match x with
    | .str z => match l.lookup z with
      | some v => some (.ok v S1)
      | none => none
    | _ => none) h).mono fun v H1 ⟨m, ρ, S, d, r, s, en, r1, hk, p⟩ => ?_
  split at hk
  · split at hk
    · rename_i z _ pv hz
      cases hk
      cases r1
      obtain ⟨u, v0, e1, e2, e3⟩ := K0.yes z pv hz
      exact ⟨a, z, v0, rfl, rfl, ⟨es, n, u, K0.look, lit, e1, e2⟩, p v0 m H1 (Nat.le_refl _) Ext.refl s (e3 _ _ _)⟩
    · cases hk
  · cases hk
theorem dt_kin (K0 : KD X.K a es n l) (lit : PySem.W.KeysLit X.w.params es.toList) (hg : Gl X x) (hm : X.mg x = some (.ref a)) (he : PEd X W e fe) (hd : (x == ("__debug__" : Str)) = false := by decide) (hb : behindInMarks .In (.Name x p) = false := by with_unfolding_all rfl) :
    PTd X W (.Compare e [.In] [.Name x p] pos) (dKin false l fe) := (pt_cmpR (op_in_kd ⟨K0.look, lit, K0.low⟩) he (pe_glob (v := .ref a) hg hm rfl hd) hb).imp fun σ H Q h => by
  refine (bind1 (ra := rE X.K) (k := fun ρ x S1 => match x with
    | .str z => some (.ok (if false = true then !(l.lookup z).isSome else (l.lookup z).isSome) S1)
    | _ => none) h).mono fun v H1 ⟨m, ρ, S, d, r, s, en, r1, hk, p⟩ => ?_
  split at hk
  · rename_i z
    cases hk
    cases r1
    obtain ⟨r, h1, h2⟩ := kd_nsO K0 z
    exact ⟨z, r, rfl, rfl, h1, _, rfl, p _ m H1 (Nat.le_refl _) Ext.refl s (show (if false = true then !(l.lookup z).isSome else (l.lookup z).isSome) = r.isSome from h2.symm)⟩
  · cases hk
end
/-- the entries of a dict of the module, keys and values texts -/
inductive Ents (Pr : Params) : List DictEntry → List (Str × PV) → Prop where
  | nil : Ents Pr [] []
  | cons {x y : Str} {t t' : Tok} {es : List DictEntry} {l : List (Str × PV)} : Ents Pr es l → Ents Pr (⟨PyData.keyHash Pr x, .str x t, .str y t'⟩ :: es) ((x, .str y) :: l)
theorem ents_lit {Pr : Params} : ∀ {es : List DictEntry} {l : List (Str × PV)}, Ents Pr es l → PySem.W.KeysLit Pr es
  | _, _, .nil => trivial
  | _, _, .cons h => ⟨⟨_, _, rfl, rfl⟩, ents_lit h⟩
theorem ents_any {Pr : Params} : ∀ {es : List DictEntry} {l : List (Str × PV)}, Ents Pr es l → es.any (·.refKey) = false
  | _, _, .nil => rfl
  | _, _, .cons h => by rw [List.any_cons, ents_any h]; rfl
theorem ents_find {Pr : Params} (z : Str) : ∀ {es : List DictEntry} {l : List (Str × PV)}, Ents Pr es l →
    (∃ e y t, es.find? (·.key.isStr z) = some e ∧ e.val = .str y t ∧ l.lookup z = some (.str y)) ∨ (es.find? (·.key.isStr z) = none ∧ l.lookup z = none)
  | _, _, .nil => .inr ⟨rfl, rfl⟩
  | _, _, .cons (x := x) (y := y) (t := t) (t' := t') h => by
    have q : (Value.str x t).isStr z = (x == z) := rfl
    rw [List.find?_cons, List.lookup_cons]
    dsimp only
    rw [q]
    by_cases hx : x = z
    · subst hx
      rw [beq_self_eq_true]
      exact .inl ⟨_, y, t', rfl, rfl, rfl⟩
    · rw [beq_eq_false_iff_ne.mpr hx, beq_eq_false_iff_ne.mpr (Ne.symm hx)]
      exact ents_find z h
theorem kd_mk {Pr : Params} {K : PySem.W.Frag} {a : Addr} {es : Array DictEntry} {n : Nat} {l : List (Str × PV)} (hl : K.lookup a = some ⟨.type "dict", none, .dict es n, #[]⟩) (h : Ents Pr es.toList l) (low : (a == sysModules) = false) : KD K a es n l where
  look := hl
  low := low
  yes := fun z pv hz => by
    rcases ents_find z h with ⟨e, y, t, h1, h2, h3⟩ | ⟨h1, h2⟩
    · rw [hz] at h3
      cases h3
      refine ⟨.str y t, .str y, ?_, ⟨_, rfl⟩, fun _ _ _ => .str _⟩
      unfold PySem.W.nsIn
      rw [hl]
      dsimp only
      rw [h1]
      dsimp only
      rw [h2]
    · rw [hz] at h2
      cases h2
  no := fun z hz => by
    rcases ents_find z h with ⟨e, y, t, h1, h2, h3⟩ | ⟨h1, h2⟩
    · rw [hz] at h3
      cases h3
    · unfold PySem.W.nsIn
      rw [hl]
      dsimp only
      rw [h1]
      dsimp only
      rw [ents_any h]
      rfl
end D

/-! D24: text * int, tuple * int. -/
namespace D
open PySem PySem.Spec PyProof.Rows L2
/-! ### text * int -/
def repS (s : Str) (k : Int) : Str := ⟨(List.replicate k.toNat s.cps).foldl (· ++ ·) #[]⟩
theorem foldl_rep_toList (a : Array Nat) : ∀ (n : Nat) (b : Array Nat), ((List.replicate n a).foldl (· ++ ·) b).toList = b.toList ++ (List.replicate n a.toList).flatten
  | 0, b => by simp
  | n + 1, b => by
    rw [List.replicate_succ, List.foldl_cons, foldl_rep_toList a n, List.replicate_succ, List.flatten_cons, Array.toList_append, List.append_assoc]
theorem repS_cps (s : Str) (k : Int) : (repS s k).cps.toList = (List.replicate k.toNat s.cps.toList).flatten := by
  have := foldl_rep_toList s.cps k.toNat #[]
  simpa [repS] using this
theorem str_ext {a b : Str} (h : a.cps.toList = b.cps.toList) : a = b := by
  cases a; cases b
  congr 1
  exact Array.toList_inj.mp h
def rMulS : R2 := fun x y H Q => ∃ s k, x = .str s ∧ y = .int k ∧ -1000 ≤ k ∧ k ≤ 100000 ∧ s.length ≤ 100 ∧ Q (.str (repS s k)) H
theorem op_mulS {X : Cx} : OpR X (binaryOp .Mult) rMulS := by
  intro pins s σ H x y v u Q I rx ry h
  obtain ⟨z, k, rfl, rfl, h1, h2, h3, q⟩ := h
  obtain ⟨t, rfl⟩ := rx
  obtain ⟨t', rfl⟩ := ry
  refine PySem.P.mul_str ?_ (fun a b => ?_) (fun a b => ?_) ?_
  · rw [decide_eq_false (by omega), decide_eq_false (by omega)] <;> rfl
  · have hk : 0 < k := by omega
    have e : (2 ^ 63 - 1 : Int) / k ≥ 100 := by
      refine (Int.le_ediv_iff_mul_le hk).mpr ?_
      omega
    omega
  · unfold PySem.Builtin.Str.tooLong
    have : z.length * k.toNat ≤ 100 * 100000 := Nat.mul_le_mul h3 (by omega)
    rw [sizeLine_eq]
    exact decide_eq_false (by omega)
  · have fin : ∀ w : Str, w = repS z k → ∀ t tk, (EP X pins σ Q) (.str w t) { s with toks := tk } := fun w hw t tk => by
      rw [hw]
      exact ⟨.str (repS z k), H, I.tok _, ⟨_, rfl⟩, q⟩
    have e0 : ∀ n : Nat, k.toNat = n → (repS z k).cps.toList = (List.replicate n z.cps.toList).flatten := fun n hn => by rw [repS_cps, hn]
    by_cases a : k < 1
    · rw [if_pos a]
      refine ⟨by decide, fin _ (str_ext ?_) _ _⟩
      rw [e0 0 (by omega)]
      rfl
    · rw [if_neg a]
      by_cases b : (k == 1 || z.length == 0) = true
      · rw [if_pos b]
        refine ⟨.str (repS z k), H, I, ?_, q⟩
        have : repS z k = z := by
          refine str_ext ?_
          rw [Bool.or_eq_true, beq_iff_eq, beq_iff_eq] at b
          rcases b with b | b
          · rw [e0 1 (by omega)]; simp
          · have hz : z.cps.toList = [] := List.eq_nil_of_length_eq_zero (by simpa [Str.length] using b)
            rw [repS_cps, hz]
            simp
        rw [this]
        exact ⟨_, rfl⟩
      · rw [if_neg b]
        refine ⟨?_, fin _ rfl _ _⟩
        have l : (repS z k).cps.toList.length = k.toNat * z.cps.toList.length := by rw [repS_cps]; simp
        have l2 : z.cps.toList.length = z.length := by simp [Str.length]
        have l3 : k.toNat * z.length ≤ 100000 * 100 := Nat.mul_le_mul (by omega) h3
        have : (repS z k).length ≤ sizeLine := by
          rw [sizeLine_eq]
          have : (repS z k).length = (repS z k).cps.toList.length := by simp [Str.length]
          rw [this, l, l2]
          omega
        exact this
def gMulS : G2 := fun x y S => match x, y with
  | .str z, .int k => if -1000 ≤ k ∧ k ≤ 100000 ∧ z.length ≤ 100 then some (.ok (.str (repS z k)) S) else none
  | _, _ => none
theorem ok_mulS {K : PySem.W.Frag} {mg : Str → Option Value} : OkG2 K mg rMulS gMulS := fun W σ m S H x y d d' z Q s r1 r2 e p => by
  unfold gMulS at e
  split at e
  · cases r1; cases r2
    split at e
    · rename_i h
      cases e
      exact ⟨_, _, rfl, rfl, h.1, h.2.1, h.2.2, post_here s (.str _) p⟩
    · cases e
  · cases e
/-! ### a comprehension within a comprehension -/
theorem look_relab {c : Str × NameKind → Bool} {x : Str} : ∀ names : List (Str × NameKind), (names.lookup x = some .cell ∨ names.lookup x = some .free) → ((names.map fun (n, k) => if c (n, k) then (n, NameKind.cell) else (n, k)).lookup x = some .cell ∨ (names.map fun (n, k) => if c (n, k) then (n, NameKind.cell) else (n, k)).lookup x = some .free)
  | [], h => by simp at h
  | (n, k) :: r, h => by
    have ih := look_relab (c := c) (x := x) r
    rw [List.lookup_cons] at h
    rw [List.map_cons]
    dsimp only
    by_cases hx : x = n
    · subst hx
      rw [beq_self_eq_true] at h
      dsimp only at h
      by_cases hc : c (x, k) = true
      · rw [if_pos hc, List.lookup_cons, beq_self_eq_true]
        exact .inl rfl
      · rw [if_neg hc, List.lookup_cons, beq_self_eq_true]
        exact h
    · have e : (x == n) = false := beq_eq_false_iff_ne.mpr hx
      rw [e] at h
      by_cases hc : c (n, k) = true
      · rw [if_pos hc, List.lookup_cons, e]
        exact ih h
      · rw [if_neg hc, List.lookup_cons, e]
        exact ih h
theorem blkOk_in {X : Cx} {s : Shared} {H : Hp} {scope0 scope : Scope} {cl : List (Str × Addr)} {C : Addr} {env : Env} {fp : List Addr} {N : List Str} {own : List (Str × Nat)} (hN : X.N = N) (h : BlkOk N scope0 scope own) :
    BlkOk (X.blk s H scope0 (compEnvC scope0 cl C env) fp).N (X.blk s H scope0 (compEnvC scope0 cl C env) fp).env.scope scope own := by
  subst hN
  refine ⟨h.kind, h.uniq, h.ix, fun y hy e => ?_, h.own⟩
  exact look_relab (c := fun p => p.2 == NameKind.free && env.scope.kind == .function && env.kindOf p.1 == some .cell) scope0.names (h.free y hy e)
/-! ### tuple * int -/
theorem tuple_mul1 (l : Addr) (items : Array Value) (n : Nat) (dd : Option Addr) (sl : Array (Option Value)) (u : Tok) :
    Meets (Builtin.«tuple.__mul__» ⟨[.ref l, .int 1 u], []⟩) (fun _ R s => s.heap.get? l = some { cls := .type "tuple", dict := dd, data := .seq items n, slots := sl } ∧ R (.ok (.ret (Value.ref l))) s) :=
  .of_wp fun prog w A R s h => by
    obtain ⟨hp, g, d, tk, os⟩ := s
    obtain ⟨hl, h⟩ := h
    have f1 := AutoSeq1.idx_int
    have c1 : (items.isEmpty || (1 : Int) == 1) = true := by simp
    wp_walk using wpAny_loadPart' hl
    repeat (first
      | (refine wpAny_ite_false (decide_eq_false (by decide)) ?_; wp_walk using wpAny_loadPart' hl)
      | (refine wpAny_ite_true (decide_eq_true (by rw [c1])) ?_; wp_walk using wpAny_loadPart' hl))
    exact ⟨_, rfl, h⟩
def rRepT1 (K : PySem.W.Frag) : R2 := fun x y H Q => (∃ l xs, x = .ref l ∧ y = .int 1 ∧ SqT K H l xs ∧ Q (.ref l) H) ∨ rRepT K x y H Q
theorem op_rep1 {X : Cx} : OpR X (binaryOp .Mult) (rRepT1 X.K) := by
  intro pins s σ H x y v u Q I rx ry h
  rcases h with ⟨l, xs, rfl, rfl, hT, q⟩ | h
  · cases rx
    obtain ⟨t, rfl⟩ := ry
    obtain ⟨its, r, ⟨⟨cls, dd, data, sl⟩, ho, hc, n, hd⟩, hs⟩ := I.tuple hT
    simp only at hc hd
    subst hc hd
    refine wpAny_binaryOp_repeat_ref (T := "tuple") (U := "int") (by decide) ⟨_, ho, rfl⟩ (fun s' => typeIs_int s' 1 t) noFill_tuple_mul F.fills_int_mul F.slot_int_rmul repeat_tuple F.slot_int_index.lookup
      (call_meets F.slot_int_rmul (typeIs_int s 1 t) F.entry_int_rmul (F.args_int_rmul_2 _ _) (int_rmul_tuple 1 t l its.toArray n dd sl)
        ⟨ho, rfl, ⟨_, ho, rfl⟩, call_meets F.slot_tuple_mul ⟨_, ho, rfl⟩ F.entry_tuple_mul (F.args_tuple_mul_2 _ _) (tuple_mul1 l its.toArray n dd sl t) ⟨ho, ?_⟩⟩)
    exact ⟨.ref l, H, I, rfl, q⟩
  · exact op_repT pins s σ H x y v u Q I rx ry h
def gRepT : G2 := fun x y S => match x, y with
  | .tup l, .int k => if k = 1 then some (.ok (.tup l) S) else if l ≠ [] ∧ 2 ≤ k ∧ k ≤ 1000 ∧ l.length ≤ 1000 then some (.ok (.tup (List.replicate k.toNat l).flatten) S) else none
  | _, _ => none
theorem ok_repT {K : PySem.W.Frag} {mg : Str → Option Value} : OkG2 K mg (rRepT1 K) gRepT := fun W σ m S H x y d d' z Q s r1 r2 e p => by
  unfold gRepT at e
  split at e
  · rename_i l k
    cases r1 with
    | @tup _ a xs h1 q1 => cases r2 with
      | int i =>
        split at e
        · rename_i hk
          subst hk
          cases e
          exact .inl ⟨a, xs, rfl, rfl, h1, post_here s (.tup h1 q1) p⟩
        · split at e
          · rename_i h
            cases e
            exact .inr ⟨a, k, xs, rfl, rfl, h1, fun z => h.1 ((nil_iff q1).mpr z), h.2.1, h.2.2.1, by rw [← q1.length]; exact h.2.2.2, new_tup s (q1.flat_rep _) p⟩
          · cases e
  · cases e
end D

/-! E: how denotations are reckoned out. -/
namespace D
open PySem PySem.Spec PyProof.Rows L2
section
variable {α β : Type} {ρ : En} {S : Sto}
@[simp] theorem ev_bR_ok (v : α) (S : Sto) (k : α → Sto → Option (R β)) : bR (some (.ok v S)) k = k v S := (rfl)
@[simp] theorem ev_bR_exc (e : Xn) (S : Sto) (k : α → Sto → Option (R β)) : bR (some (.exc e S)) k = some (.exc e S) := (rfl)
@[simp] theorem ev_bS_ok (v : α) (S : Sto) (k : α → Sto → Option RS) : bS ρ (some (.ok v S)) k = k v S := (rfl)
@[simp] theorem ev_bS_exc (e : Xn) (S : Sto) (k : α → Sto → Option RS) : bS ρ (some (.exc e S)) k = some (.exc e ρ S) := (rfl)
@[simp] theorem ev_bN_next (k : En → Sto → Option RS) : bN (some (.next ρ S)) k = k ρ S := (rfl)
@[simp] theorem ev_bN_ret (v : PV) (k : En → Sto → Option RS) : bN (some (.ret v S)) k = some (.ret v S) := (rfl)
@[simp] theorem ev_bN_brk (k : En → Sto → Option RS) : bN (some (.brk ρ S)) k = some (.brk ρ S) := (rfl)
@[simp] theorem ev_bN_ctn (k : En → Sto → Option RS) : bN (some (.ctn ρ S)) k = some (.ctn ρ S) := (rfl)
@[simp] theorem ev_bN_exc (e : Xn) (k : En → Sto → Option RS) : bN (some (.exc e ρ S)) k = some (.exc e ρ S) := (rfl)
@[simp] theorem ev_var (i : Nat) : dVar i ρ S = match ρ[i]? with
  | some (some v) => some (.ok v S)
  | _ => none := (rfl)
@[simp] theorem ev_c (v : PV) : dC v ρ S = some (.ok v S) := (rfl)
@[simp] theorem ev_op2 (g : G2) (a b : DE) : dOp2 g a b ρ S = bR (a ρ S) fun x S1 => bR (b ρ S1) fun y S2 => g x y S2 := (rfl)
@[simp] theorem ev_op1 (g : G1) (a : DE) : dOp1 g a ρ S = bR (a ρ S) fun x S1 => g x S1 := (rfl)
@[simp] theorem ev_opA (g : GA) (a : DA) : dOpA g a ρ S = bR (a ρ S) fun x S1 => g x S1 := (rfl)
@[simp] theorem ev_cmp (g : G2) (a b : DE) : dCmp g a b ρ S = asB (bR (a ρ S) fun x S1 => bR (b ρ S1) fun y S2 => g x y S2) := (rfl)
@[simp] theorem ev_asB (b : Bool) : asB (some (.ok (.bl b) S)) = some (.ok b S) := (rfl)
@[simp] theorem ev_asBx (e : Xn) : asB (some (.exc e S)) = some (.exc e S) := (rfl)
@[simp] theorem ev_tru (f : DE) : dTru f ρ S = bR (f ρ S) fun x S1 => gTru x S1 := (rfl)
@[simp] theorem ev_gTru_bl (b : Bool) : gTru (.bl b) S = some (.ok b S) := (rfl)
@[simp] theorem ev_gTru_int (i : Int) : gTru (.int i) S = some (.ok (i != 0) S) := (rfl)
@[simp] theorem ev_gTru_tup (l : List PV) : gTru (.tup l) S = some (.ok (!l.isEmpty) S) := (rfl)
@[simp] theorem ev_notT (f : DB) : dNotT f ρ S = bR (f ρ S) fun x S1 => some (.ok (!x) S1) := (rfl)
@[simp] theorem ev_andT (f g : DB) : dAndT f g ρ S = bR (f ρ S) fun x S1 => if x = true then g ρ S1 else some (.ok false S1) := (rfl)
@[simp] theorem ev_orT (f g : DB) : dOrT f g ρ S = bR (f ρ S) fun x S1 => if x = true then some (.ok true S1) else g ρ S1 := (rfl)
@[simp] theorem ev_isBl (b : Bool) (k : Bool → Sto → Option (R PV)) : isBl (some (.ok (.bl b) S)) k = k b S := (rfl)
@[simp] theorem ev_isBlx (e : Xn) (k : Bool → Sto → Option (R PV)) : isBl (some (.exc e S)) k = some (.exc e S) := (rfl)
@[simp] theorem ev_and2 (f g : DE) : dAnd2 f g ρ S = isBl (f ρ S) fun b S1 => if b = true then g ρ S1 else some (.ok (.bl false) S1) := (rfl)
@[simp] theorem ev_or2 (f g : DE) : dOr2 f g ρ S = isBl (f ρ S) fun b S1 => if b = true then some (.ok (.bl true) S1) else g ρ S1 := (rfl)
@[simp] theorem ev_not2 (f : DE) : dNot2 f ρ S = isBl (f ρ S) fun b S1 => some (.ok (.bl (!b)) S1) := (rfl)
@[simp] theorem ev_if (c : DB) (f g : DE) : dIf c f g ρ S = bR (c ρ S) fun x S1 => if x = true then f ρ S1 else g ρ S1 := (rfl)
@[simp] theorem ev_chain (g g' : G2) (a b c : DE) : dChain g g' a b c ρ S = bR (a ρ S) fun x S1 => bR (b ρ S1) fun y S2 => bR (g x y S2) fun z S3 => match z with
  | .bl true => bR (c ρ S3) fun w S4 => g' y w S4
  | .bl false => some (.ok (.bl false) S3)
  | _ => none := (rfl)
@[simp] theorem ev_chainT (g g' : G2) (a b c : DE) : dChainT g g' a b c ρ S = asB (dChain g g' a b c ρ S) := (rfl)
@[simp] theorem ev_nil : dNil ρ S = some (.ok [] S) := (rfl)
@[simp] theorem ev_cons (f : DE) (g : DA) : dCons f g ρ S = bR (f ρ S) fun x S1 => bR (g ρ S1) fun xs S2 => some (.ok (x :: xs) S2) := (rfl)
@[simp] theorem ev_tup (f : DA) : dTup f ρ S = bR (f ρ S) fun x S1 => gTupP x S1 := (rfl)
@[simp] theorem ev_lst (f : DA) : dLst f ρ S = bR (f ρ S) fun x S1 => gLstP x S1 := (rfl)
theorem ev_gTupP {l : List PV} (h : l.length ≤ 16777216) : gTupP l S = some (.ok (.tup l) S) := if_pos h
theorem ev_gLstP {l : List PV} (h : l.length ≤ 16777216) : gLstP l S = some (.ok (.loc S.length) (S ++ [.lst l])) := if_pos h
@[simp] theorem ev_tup0 : gTupP [] S = some (.ok (.tup []) S) := (rfl)
@[simp] theorem ev_tup1 (a : PV) : gTupP [a] S = some (.ok (.tup [a]) S) := (rfl)
@[simp] theorem ev_tup2 (a b : PV) : gTupP [a, b] S = some (.ok (.tup [a, b]) S) := (rfl)
@[simp] theorem ev_tup3 (a b c : PV) : gTupP [a, b, c] S = some (.ok (.tup [a, b, c]) S) := (rfl)
@[simp] theorem ev_lst0 : gLstP [] S = some (.ok (.loc S.length) (S ++ [.lst []])) := (rfl)
@[simp] theorem ev_lst1 (a : PV) : gLstP [a] S = some (.ok (.loc S.length) (S ++ [.lst [a]])) := (rfl)
@[simp] theorem ev_lst2 (a b : PV) : gLstP [a, b] S = some (.ok (.loc S.length) (S ++ [.lst [a, b]])) := (rfl)
@[simp] theorem ev_lst3 (a b c : PV) : gLstP [a, b, c] S = some (.ok (.loc S.length) (S ++ [.lst [a, b, c]])) := (rfl)
@[simp] theorem ev_lst4 (a b c d : PV) : gLstP [a, b, c, d] S = some (.ok (.loc S.length) (S ++ [.lst [a, b, c, d]])) := (rfl)
/-! statements -/
@[simp] theorem ev_pass : dPass ρ S = some (.next ρ S) := (rfl)
@[simp] theorem ev_brk : dBrk ρ S = some (.brk ρ S) := (rfl)
@[simp] theorem ev_ctn : dCtn ρ S = some (.ctn ρ S) := (rfl)
@[simp] theorem ev_seq (f g : DS) : dSeq f g ρ S = bN (f ρ S) g := (rfl)
@[simp] theorem ev_ret (f : DE) : dRet f ρ S = bS ρ (f ρ S) fun v S1 => some (.ret v S1) := (rfl)
@[simp] theorem ev_retN : dRetN ρ S = some (.ret .non S) := (rfl)
@[simp] theorem ev_expr (f : DE) : dExpr f ρ S = bS ρ (f ρ S) fun _ S1 => some (.next ρ S1) := (rfl)
@[simp] theorem ev_ifS (c : DB) (f g : DS) : dIfS c f g ρ S = bS ρ (c ρ S) fun b S1 => if b = true then f ρ S1 else g ρ S1 := (rfl)
@[simp] theorem ev_set (i : Nat) (f : DE) : dSet i f ρ S = bS ρ (f ρ S) fun v S1 => some (.next (ρ.set i (some v)) S1) := (rfl)
@[simp] theorem ev_raise (c : Str) : dRaise c ρ S = some (.exc ⟨c, []⟩ ρ S) := (rfl)
@[simp] theorem ev_asg (g : DG) (f : DE) : dAsg g f ρ S = bS ρ (f ρ S) fun v S1 => match g v ρ S1 with
  | some (ρ', S') => some (.next ρ' S')
  | none => none := (rfl)
@[simp] theorem ev_gN (i : Nat) (v : PV) : gN i v ρ S = some (ρ.set i (some v), S) := (rfl)
@[simp] theorem ev_gsNil : gsNil [] ρ S = some (ρ, S) := (rfl)
@[simp] theorem ev_gsCons (g : DG) (h : DGs) (v : PV) (r : List PV) : gsCons g h (v :: r) ρ S = match g v ρ S with
    | some (ρ1, S1) => h r ρ1 S1
    | none => none := (rfl)
@[simp] theorem ev_gT (n : Nat) (h : DGs) (l : List PV) : gT n h (.tup l) ρ S = if l.length = n then h l ρ S else none := (rfl)
@[simp] theorem ev_killN : killE [] ρ = ρ := (rfl)
@[simp] theorem ev_killC (i : Nat) (l : List Nat) : killE (i :: l) ρ = killE l (ρ.set i none) := (rfl)
@[simp] theorem ev_for (it : DI) (g : DG) (kill : List Nat) (body : DS) : dFor it g kill body ρ S = bS ρ (it ρ S) fun src S1 => forL g kill body src.keep src.items (killE kill ρ) S1 := (rfl)
@[simp] theorem ev_seqI (f : DE) : dSeqI f ρ S = bR (f ρ S) fun x S1 => match x with
  | .tup l => some (.ok ⟨l, []⟩ S1)
  | .loc k => match S1[k]? with
    | some (.lst l) => some (.ok ⟨l, [(k, .lst l)]⟩ S1)
    | some (.fz l) => some (.ok ⟨l, [(k, .fz l)]⟩ S1)
    | _ => none
  | _ => none := (rfl)
@[simp] theorem ev_rng1 (f : DA) : dRng1 f ρ S = bR (f ρ S) fun x S1 => match x with
  | [.int j] => some (.ok ⟨rangeP 0 j.toNat, []⟩ S1)
  | _ => none := (rfl)
@[simp] theorem ev_rng2 (f : DA) : dRng2 f ρ S = bR (f ρ S) fun x S1 => match x with
  | [.int i, .int j] => some (.ok ⟨rangeP i (j - i).toNat, []⟩ S1)
  | _ => none := (rfl)
@[simp] theorem kept_nil : Kept [] S := fun p h => by cases h
@[simp] theorem kept_one (k : Nat) (o : PO) : Kept [(k, o)] S ↔ S[k]? = some o := ⟨fun h => h (k, o) (by simp), fun h p hp => by
  rw [List.mem_singleton] at hp
  subst hp
  exact h⟩
theorem forL_nil {g : DG} {kill : List Nat} {body : DS} {keep : List (Nat × PO)} (hk : Kept keep S) : forL g kill body keep [] ρ S = some (.next ρ S) := by
  unfold forL
  rw [if_pos hk]
theorem forL_cons {g : DG} {kill : List Nat} {body : DS} {keep : List (Nat × PO)} {x : PV} {xs : List PV} (hk : Kept keep S) : forL g kill body keep (x :: xs) ρ S = match g x ρ S with
    | some (ρ1, S1) => match body ρ1 S1 with
      | some (.next ρ2 S2) => forL g kill body keep xs (killE kill ρ2) S2
      | some (.ctn ρ2 S2) => forL g kill body keep xs (killE kill ρ2) S2
      | some (.brk ρ2 S2) => some (.next (killE kill ρ2) S2)
      | r => r
    | none => none := by
  conv => lhs; unfold forL
  rw [if_pos hk]
  all_goals rfl
/-! operators -/
@[simp] theorem ev_addI (i j : Int) : gAdd (.int i) (.int j) S = some (.ok (.int (i + j)) S) := (rfl)
theorem ev_addT {l r : List PV} (h : l.length + r.length ≤ 16777216) : gAdd (.tup l) (.tup r) S = some (.ok (.tup (l ++ r)) S) := if_pos h
theorem ev_addL {j k : Nat} {l r : List PV} (h1 : S[j]? = some (.lst l)) (h2 : S[k]? = some (.lst r)) (h : l.length + r.length ≤ 16777216) : gAdd (.loc j) (.loc k) S = some (.ok (.loc S.length) (S ++ [.lst (l ++ r)])) := by
  unfold gAdd
  dsimp only
  rw [h1, h2]
  exact if_pos h
@[simp] theorem ev_sub (i j : Int) : gSub (.int i) (.int j) S = some (.ok (.int (i - j)) S) := by unfold gSub gI2; simp
theorem ev_mul {i j : Int} (h : CMulD i j) : gMul (.int i) (.int j) S = some (.ok (.int (i * j)) S) := by unfold gMul gOr2 gMulI gI2; simp [h]
theorem ev_mulR {i j : Int} (h : -(2 ^ 64) < j ∧ j < 2 ^ 64) : gMul (.int i) (.int j) S = some (.ok (.int (i * j)) S) := ev_mul (.inr h)
theorem ev_mulL {i j : Int} (h : -(2 ^ 64) < i ∧ i < 2 ^ 64) : gMul (.int i) (.int j) S = some (.ok (.int (i * j)) S) := ev_mul (.inl h)
theorem ev_div {i j : Int} (h : 0 < j ∧ j < 1073741824) : gDiv (.int i) (.int j) S = some (.ok (.int (i / j)) S) := by unfold gDiv gI2 CDivD; simp [h]
theorem ev_mod {i j : Int} (h : 0 < j) : gMod (.int i) (.int j) S = some (.ok (.int (i % j)) S) := by unfold gMod gI2; simp [h]
theorem ev_pow {i j : Int} (h : CPowD i j) : gPow (.int i) (.int j) S = some (.ok (.int (i ^ j.toNat)) S) := by unfold gPow gI2; simp [h]
@[simp] theorem ev_neg (i : Int) : gNeg (.int i) S = some (.ok (.int (-i)) S) := (rfl)
@[simp] theorem ev_rel (f : Int → Int → Bool) (i j : Int) : gRel f (.int i) (.int j) S = some (.ok (.bl (f i j)) S) := by unfold gRel gI2; simp
@[simp] theorem ev_isNN (n : Bool) : gIsN n .non .non S = some (.ok (.bl (!n)) S) := (rfl)
@[simp] theorem ev_isBB (n a b : Bool) : gIsN n (.bl a) (.bl b) S = some (.ok (.bl (if n then !decide (a = b) else decide (a = b))) S) := (rfl)
@[simp] theorem ev_isIN (n : Bool) (i : Int) : gIsN n (.int i) .non S = some (.ok (.bl n) S) := (rfl)
@[simp] theorem ev_isTN (n : Bool) (i : List PV) : gIsN n (.tup i) .non S = some (.ok (.bl n) S) := (rfl)
@[simp] theorem ev_isLN (n : Bool) (i : Nat) : gIsN n (.loc i) .non S = some (.ok (.bl n) S) := (rfl)
@[simp] theorem ev_isSN (n : Bool) (i : Str) : gIsN n (.str i) .non S = some (.ok (.bl n) S) := (rfl)
@[simp] theorem ev_isBN (n : Bool) (i : Bool) : gIsN n (.bl i) .non S = some (.ok (.bl n) S) := (rfl)
theorem ev_ixT {l : List PV} {i : Int} {v : PV} (h : atI l i = some v) : gIx (.tup l) (.int i) S = some (.ok v S) := by
  unfold gIx; simp [h]
theorem ev_ixL {k : Nat} {l : List PV} {i : Int} {v : PV} (h1 : S[k]? = some (.lst l)) (h : atI l i = some v) : gIx (.loc k) (.int i) S = some (.ok v S) := by
  unfold gIx; simp [h1, h]
theorem atI_ok {γ : Type} {l : List γ} {n : Nat} (h : n < l.length) : atI l (n : Int) = some l[n] := by
  unfold atI ixN
  rw [if_pos (by omega)]
  simp [h]
theorem atI_nat {γ : Type} {l : List γ} {i : Int} (h0 : 0 ≤ i) (h : i.toNat < l.length) : atI l i = some l[i.toNat] := by
  obtain ⟨n, rfl⟩ : ∃ n : Nat, i = n := ⟨i.toNat, by omega⟩
  have : ((n : Int)).toNat = n := by simp
  simp only [this] at h ⊢
  exact atI_ok h
theorem atI_last {γ : Type} {l : List γ} {x : γ} : atI (l ++ [x]) (-1) = some x := by
  unfold atI ixN
  rw [if_neg (by omega), if_pos (by rw [List.length_append, List.length_singleton]; omega)]
  have : (-1 + ((l ++ [x]).length : Int)).toNat = l.length := by rw [List.length_append, List.length_singleton]; omega
  rw [this, Option.bind_some, List.getElem?_append_right (Nat.le_refl _), Nat.sub_self]
  rfl
@[simp] theorem atI_p0 (a b : PV) : atI [a, b] 0 = some a := (rfl)
@[simp] theorem atI_p1 (a b : PV) : atI [a, b] 1 = some b := (rfl)
@[simp] theorem ev_ixp0 (a b : PV) : gIx (.tup [a, b]) (.int 0) S = some (.ok a S) := (rfl)
@[simp] theorem ev_ixp1 (a b : PV) : gIx (.tup [a, b]) (.int 1) S = some (.ok b S) := (rfl)
@[simp] theorem ev_lenT (l : List PV) : gLen [.tup l] S = some (.ok (.int l.length) S) := (rfl)
theorem ev_lenL {k : Nat} {l : List PV} (h : S[k]? = some (.lst l)) : gLen [.loc k] S = some (.ok (.int l.length) S) := by unfold gLen; simp [h]
theorem ev_lenF {k : Nat} {l : List PV} (h : S[k]? = some (.fz l)) : gLen [.loc k] S = some (.ok (.int l.length) S) := by unfold gLen; simp [h]
@[simp] theorem ev_int (i : Int) : gInt [.int i] S = some (.ok (.int i) S) := (rfl)
@[simp] theorem ev_intB (b : Bool) : gInt [.bl b] S = some (.ok (.int (if b then 1 else 0)) S) := (rfl)
@[simp] theorem ev_abs (i : Int) : gAbs [.int i] S = some (.ok (.int (if i < 0 then -i else i)) S) := (rfl)
@[simp] theorem ev_max2 (i j : Int) : gMax2 [.int i, .int j] S = some (.ok (.int (if j > i then j else i)) S) := (rfl)
@[simp] theorem ev_min2 (i j : Int) : gMin2 [.int i, .int j] S = some (.ok (.int (if j < i then j else i)) S) := (rfl)
@[simp] theorem ev_meth (T : String) (g : GM) (o : DE) (a : DA) : dMeth T g o a ρ S = bR (o ρ S) fun x S1 => if tyP T x S1 = true then bR (a ρ S1) fun xs S2 => g x xs S2 else none := (rfl)
theorem ev_tyL {k : Nat} {l : List PV} (h : S[k]? = some (.lst l)) : tyP "list" (.loc k) S = true := by unfold tyP; simp [h]
theorem ev_append {k : Nat} {l : List PV} {y : PV} (h : S[k]? = some (.lst l)) (hl : l.length < 16777216) : gAppend (.loc k) [y] S = some (.ok .non (S.set k (.lst (l ++ [y])))) := by
  unfold gAppend
  simp [h, hl]
theorem ev_listL {k : Nat} {l : List PV} (h : S[k]? = some (.lst l)) : gList [.loc k] S = some (.ok (.loc S.length) (S ++ [.lst l])) := by unfold gList itemsP; simp [h]
@[simp] theorem ev_listT (l : List PV) : gList [.tup l] S = some (.ok (.loc S.length) (S ++ [.lst l])) := (rfl)
theorem ev_tupleL {k : Nat} {l : List PV} (h : S[k]? = some (.lst l)) : gTuple [.loc k] S = some (.ok (.tup l) S) := by unfold gTuple itemsP; simp [h]
@[simp] theorem ev_tupleT (l : List PV) : gTuple [.tup l] S = some (.ok (.tup l) S) := (rfl)
@[simp] theorem ev_gsub (g : GSt) (o i : DE) (v : PV) : gSubT g o i v ρ S = match o ρ S with
  | some (.ok x S1) => match i ρ S1 with
    | some (.ok y S2) => match g x y v S2 with
      | some S3 => some (ρ, S3)
      | none => none
    | _ => none
  | _ => none := (rfl)
/-! slices -/
@[simp] theorem ev_noPart : dNoPart ρ S = some (.ok none S) := (rfl)
@[simp] theorem ev_part (f : DE) : dPart f ρ S = bR (f ρ S) fun x S1 => match x with
  | .int i => some (.ok (some i) S1)
  | _ => none := (rfl)
@[simp] theorem ev_sl (a : DE) (lo hi : DO) : dSl a lo hi ρ S = bR (a ρ S) fun x S1 => bR (lo ρ S1) fun l S2 => bR (hi ρ S2) fun h S3 => gSl x l h S3 := (rfl)
@[simp] theorem ev_gSlT (l : List PV) (lo hi : Option Int) : gSl (.tup l) lo hi S = some (.ok (.tup (cutP l lo hi)) S) := (rfl)
theorem ev_gSlL {k : Nat} {l : List PV} {lo hi : Option Int} (h : S[k]? = some (.lst l)) : gSl (.loc k) lo hi S = some (.ok (.loc S.length) (S ++ [.lst (cutP l lo hi)])) := by unfold gSl; simp [h]
theorem ev_gSlF {k : Nat} {l : List PV} {lo hi : Option Int} (h : S[k]? = some (.fz l)) : gSl (.loc k) lo hi S = some (.ok (.loc S.length) (S ++ [.lst (cutP l lo hi)])) := by unfold gSl; simp [h]
theorem cut_to {l : List PV} {i : Int} (h : 0 ≤ i) : cutP l none (some i) = l.take i.toNat := by
  unfold cutP HT.sIx
  simp only [List.drop_zero]
  rw [if_neg (by omega), Nat.sub_zero]
  by_cases h2 : i.toNat ≤ l.length
  · rw [Nat.min_eq_left h2]
  · rw [Nat.min_eq_right (by omega), List.take_of_length_le (Nat.le_refl _), List.take_of_length_le (by omega)]
theorem cut_from {l : List PV} {i : Int} (h : 0 ≤ i) : cutP l (some i) none = l.drop i.toNat := by
  unfold cutP HT.sIx
  simp only
  rw [if_neg (by omega)]
  by_cases h2 : i.toNat ≤ l.length
  · rw [Nat.min_eq_left h2, List.take_of_length_le (by simp)]
  · rw [Nat.min_eq_right (by omega), List.drop_of_length_le (Nat.le_refl _), List.drop_of_length_le (by omega)]
    simp
/-! isinstance -/
@[simp] theorem ev_isaT (l : List PV) : gIsa [.tup l, .ty "tuple"] S = some (.ok (.bl true) S) := by unfold gIsa tyName isaP; simp
@[simp] theorem ev_isaI (i : Int) : gIsa [.int i, .ty "int"] S = some (.ok (.bl true) S) := by unfold gIsa tyName isaP; simp
@[simp] theorem ev_isaIB (i : Int) : gIsa [.int i, .ty "bool"] S = some (.ok (.bl false) S) := by unfold gIsa tyName isaP; simp
@[simp] theorem ev_isaB (i : Bool) : gIsa [.bl i, .ty "bool"] S = some (.ok (.bl true) S) := by unfold gIsa tyName isaP; simp
end
/-! ### what a def leaves -/
section
variable {S : Sto}
theorem gc_ok_val {v : PV} {T : Sto} (h : noLoc v = true) : gcE S (.ok v (S ++ T)) = .ok v S := by
  unfold gcE
  simp [h]
theorem gc_ok_same {v : PV} (h : noLoc v = true) : gcE S (.ok v S) = .ok v S := by
  unfold gcE
  simp [h]
theorem gc_ok_new {k : Nat} {l : List PV} {T : Sto} (h : (S ++ T)[k]? = some (.lst l)) (hk : S.length ≤ k) (hn : noLocs l = true) : gcE S (.ok (.loc k) (S ++ T)) = .ok (.loc S.length) (S ++ [.lst l]) := by
  have : noLoc (.loc k) = false := (rfl)
  unfold gcE
  simp [h, hk, hn, this]
theorem gc_exc {c : Str} {T : Sto} : gcE S (.exc ⟨c, []⟩ (S ++ T)) = .exc ⟨c, []⟩ S := by
  unfold gcE
  simp
theorem gc_exc_same {c : Str} : gcE S (.exc ⟨c, []⟩ S) = .exc ⟨c, []⟩ S := by
  unfold gcE
  simp
theorem dDef_ret {k n : Nat} {body : DS} {args : List PV} {v : PV} {S' : Sto} (hl : args.length = k) (h : body (args.map some ++ List.replicate (n - k) none) S = some (.ret v S')) : dDef k n body args S = some (gcE S (.ok v S')) := by
  unfold dDef
  rw [if_pos hl, h]
theorem dDef_next {k n : Nat} {body : DS} {args : List PV} {ρ : En} {S' : Sto} (hl : args.length = k) (h : body (args.map some ++ List.replicate (n - k) none) S = some (.next ρ S')) : dDef k n body args S = some (gcE S (.ok .non S')) := by
  unfold dDef
  rw [if_pos hl, h]
theorem dDef_exc {k n : Nat} {body : DS} {args : List PV} {e : Xn} {ρ : En} {S' : Sto} (hl : args.length = k) (h : body (args.map some ++ List.replicate (n - k) none) S = some (.exc e ρ S')) : dDef k n body args S = some (gcE S (.exc e S')) := by
  unfold dDef
  rw [if_pos hl, h]
end
theorem call_val {S : Sto} {k n : Nat} {body : DS} {args : List PV} {v : PV} {T : Sto} (hb : body (args.map some ++ List.replicate (n - k) none) S = some (.ret v (S ++ T))) (hn : noLoc v = true) (hl : args.length = k := by rfl) : dDef k n body args S = some (.ok v S) := by
  rw [dDef_ret hl hb, gc_ok_val hn]
theorem call_val0 {S : Sto} {k n : Nat} {body : DS} {args : List PV} {v : PV} (hb : body (args.map some ++ List.replicate (n - k) none) S = some (.ret v S)) (hn : noLoc v = true) (hl : args.length = k := by rfl) : dDef k n body args S = some (.ok v S) := by
  rw [dDef_ret hl hb, gc_ok_same hn]
theorem call_new {S : Sto} {k n j : Nat} {body : DS} {args : List PV} {T : Sto} {l : List PV} (hb : body (args.map some ++ List.replicate (n - k) none) S = some (.ret (.loc j) (S ++ T))) (hj : (S ++ T)[j]? = some (.lst l)) (hk : S.length ≤ j) (hn : noLocs l = true) (hl : args.length = k := by rfl) : dDef k n body args S = some (.ok (.loc S.length) (S ++ [.lst l])) := by
  rw [dDef_ret hl hb, gc_ok_new hj hk hn]
theorem call_exc {S : Sto} {k n : Nat} {body : DS} {args : List PV} {c : Str} {ρ : En} {T : Sto} (hb : body (args.map some ++ List.replicate (n - k) none) S = some (.exc ⟨c, []⟩ ρ (S ++ T))) (hl : args.length = k := by rfl) : dDef k n body args S = some (.exc ⟨c, []⟩ S) := by
  rw [dDef_exc hl hb, gc_exc]
theorem call_exc0 {S : Sto} {k n : Nat} {body : DS} {args : List PV} {c : Str} {ρ : En} (hb : body (args.map some ++ List.replicate (n - k) none) S = some (.exc ⟨c, []⟩ ρ S)) (hl : args.length = k := by rfl) : dDef k n body args S = some (.exc ⟨c, []⟩ S) := by
  rw [dDef_exc hl hb, gc_exc_same]
/-- ints as values -/
def intsP (l : List Int) : List PV := l.map PV.int
@[simp] theorem intsP_nil : intsP [] = [] := (rfl)
@[simp] theorem intsP_cons (i : Int) (l : List Int) : intsP (i :: l) = .int i :: intsP l := (rfl)
@[simp] theorem intsP_len (l : List Int) : (intsP l).length = l.length := List.length_map ..
theorem intsP_append (l r : List Int) : intsP (l ++ r) = intsP l ++ intsP r := List.map_append
theorem intsP_snoc (l : List Int) (i : Int) : intsP l ++ [.int i] = intsP (l ++ [i]) := by rw [intsP_append]; rfl
theorem noLocs_ints : ∀ l : List Int, noLocs (intsP l) = true
  | [] => rfl
  | i :: l => by
    show (noLoc (.int i) && noLocs (intsP l)) = true
    rw [noLocs_ints l]; rfl
theorem ints_at {l : List Int} {i : Int} (h0 : 0 ≤ i) (h : i < l.length) : atI (intsP l) i = some (.int (l.getD i.toNat 0)) := by
  have hl : i.toNat < l.length := by omega
  rw [atI_nat h0 (by rw [intsP_len]; exact hl)]
  unfold intsP
  rw [List.getElem_map, List.getD_eq_getElem?_getD, List.getElem?_eq_getElem hl, Option.getD_some]
/-- pairs of ints as values -/
def pairP (p : Int × Int) : PV := .tup [.int p.1, .int p.2]
def pairsP (l : List (Int × Int)) : List PV := l.map pairP
@[simp] theorem pairsP_nil : pairsP [] = [] := (rfl)
@[simp] theorem pairsP_cons (i : Int × Int) (l : List (Int × Int)) : pairsP (i :: l) = pairP i :: pairsP l := (rfl)
@[simp] theorem pairsP_len (l : List (Int × Int)) : (pairsP l).length = l.length := List.length_map ..
theorem pairsP_append (l r : List (Int × Int)) : pairsP (l ++ r) = pairsP l ++ pairsP r := List.map_append
theorem pairsP_snoc (l : List (Int × Int)) (i : Int × Int) : pairsP l ++ [pairP i] = pairsP (l ++ [i]) := by rw [pairsP_append]; rfl
theorem pairsP_take (l : List (Int × Int)) (n : Nat) : (pairsP l).take n = pairsP (l.take n) := (List.map_take).symm
theorem pairsP_drop (l : List (Int × Int)) (n : Nat) : (pairsP l).drop n = pairsP (l.drop n) := (List.map_drop).symm
theorem noLocs_pairs : ∀ l : List (Int × Int), noLocs (pairsP l) = true
  | [] => rfl
  | i :: l => by
    show (noLoc (pairP i) && noLocs (pairsP l)) = true
    rw [noLocs_pairs l]; rfl
theorem pairs_at {l : List (Int × Int)} {i : Int} (h0 : 0 ≤ i) (h : i < l.length) : atI (pairsP l) i = some (pairP (l.getD i.toNat (0, 0))) := by
  have hl : i.toNat < l.length := by omega
  rw [atI_nat h0 (by rw [pairsP_len]; exact hl)]
  unfold pairsP
  rw [List.getElem_map, List.getD_eq_getElem?_getD, List.getElem?_eq_getElem hl, Option.getD_some]

/-! places behind a store -/
section
variable {S T : Sto} {a b c d e o : PO}
@[simp] theorem at_0 : (S ++ o :: T)[S.length]? = some o := by simp
@[simp] theorem at_1 : (S ++ a :: o :: T)[S.length + 1]? = some o := by
  rw [List.getElem?_append_right (by omega)]
  simp
@[simp] theorem at_2 : (S ++ a :: b :: o :: T)[S.length + 2]? = some o := by
  rw [List.getElem?_append_right (by omega)]
  simp
@[simp] theorem at_3 : (S ++ a :: b :: c :: o :: T)[S.length + 3]? = some o := by
  rw [List.getElem?_append_right (by omega)]
  simp
@[simp] theorem put_0 : (S ++ a :: T).set S.length o = S ++ o :: T := by
  rw [List.set_append_right _ _ (by omega)]
  simp
@[simp] theorem put_1 : (S ++ a :: b :: T).set (S.length + 1) o = S ++ a :: o :: T := by
  rw [List.set_append_right _ _ (by omega)]
  simp
@[simp] theorem put_2 : (S ++ a :: b :: c :: T).set (S.length + 2) o = S ++ a :: b :: o :: T := by
  rw [List.set_append_right _ _ (by omega)]
  simp
theorem at_old {k : Nat} (h : S[k]? = some o) : (S ++ T)[k]? = some o := by
  rw [List.getElem?_append_left (lt_of_get h)]
  exact h
end
/-! data of values -/
section
variable {S : Sto} {n : Nat}
@[simp] theorem toD_int (i : Int) : toD n S (.int i) = some (.int i) := by cases n <;> rfl
@[simp] theorem toD_bl (i : Bool) : toD n S (.bl i) = some (.bool i) := by cases n <;> rfl
@[simp] theorem toD_non : toD n S .non = some .none := by cases n <;> rfl
@[simp] theorem toD_str (i : Str) : toD n S (.str i) = some (.str i) := by cases n <;> rfl
theorem toD_tup {l : List PV} {ds : List PyData} (h : mapO (toD n S) l = some ds) : toD (n + 1) S (.tup l) = some (.tuple ds) := by
  unfold toD
  rw [h]; rfl
theorem toD_lst {k : Nat} {l : List PV} {ds : List PyData} (hk : S[k]? = some (.lst l)) (h : mapO (toD n S) l = some ds) : toD (n + 1) S (.loc k) = some (.list ds) := by
  unfold toD
  rw [hk]
  dsimp only
  rw [h]; rfl
theorem toD_fz {k : Nat} {l : List PV} {ds : List PyData} (hk : S[k]? = some (.fz l)) (h : mapO (toD n S) l = some ds) : toD (n + 1) S (.loc k) = some (.list ds) := by
  unfold toD
  rw [hk]
  dsimp only
  rw [h]; rfl
theorem mapO_map {α β γ : Type} {f : β → Option γ} {e : α → β} {d : α → γ} : ∀ {l : List α}, (∀ x ∈ l, f (e x) = some (d x)) → mapO f (l.map e) = some (l.map d)
  | [], _ => rfl
  | x :: l, h => by
    rw [List.map_cons, List.map_cons]
    unfold mapO
    rw [h x List.mem_cons_self, mapO_map fun y hy => h y (List.mem_cons_of_mem _ hy)]
@[simp] theorem eqv_int (i j : Int) : PyData.eqv (.int i) (.int j) = decide (i = j) := by
  unfold PyData.eqv
  by_cases h : i = j <;> simp [h]
@[simp] theorem eqv_bool (i j : Bool) : PyData.eqv (.bool i) (.bool j) = decide (i = j) := by
  unfold PyData.eqv
  by_cases h : i = j <;> simp [h]
@[simp] theorem eqv_str (i j : Str) : PyData.eqv (.str i) (.str j) = decide (i = j) := by
  unfold PyData.eqv
  by_cases h : i = j <;> simp [h]
@[simp] theorem eqv_none : PyData.eqv .none .none = true := by unfold PyData.eqv; rfl
@[simp] theorem eqv_tuple (l r : List PyData) : PyData.eqv (.tuple l) (.tuple r) = PyData.eqvAll l r := by
  conv => lhs; unfold PyData.eqv
@[simp] theorem eqv_list (l r : List PyData) : PyData.eqv (.list l) (.list r) = PyData.eqvAll l r := by
  conv => lhs; unfold PyData.eqv
@[simp] theorem eqvAll_nil : PyData.eqvAll [] [] = true := by unfold PyData.eqvAll; rfl
@[simp] theorem eqvAll_nc (x : PyData) (l : List PyData) : PyData.eqvAll [] (x :: l) = false := by unfold PyData.eqvAll; rfl
@[simp] theorem eqvAll_cn (x : PyData) (l : List PyData) : PyData.eqvAll (x :: l) [] = false := by unfold PyData.eqvAll; rfl
@[simp] theorem eqvAll_cc (x y : PyData) (l r : List PyData) : PyData.eqvAll (x :: l) (y :: r) = (PyData.eqv x y && PyData.eqvAll l r) := by
  conv => lhs; unfold PyData.eqvAll
theorem eqvAll_map {α : Type} [DecidableEq α] {d : α → PyData} (hd : ∀ x y, PyData.eqv (d x) (d y) = decide (x = y)) : ∀ (l r : List α), PyData.eqvAll (l.map d) (r.map d) = decide (l = r)
  | [], [] => by simp
  | [], y :: r => by simp
  | x :: l, [] => by simp
  | x :: l, y :: r => by
    rw [List.map_cons, List.map_cons, eqvAll_cc, hd, eqvAll_map hd l r]
    by_cases h1 : x = y <;> by_cases h2 : l = r <;> simp [h1, h2]
theorem ev_eq {neg : Bool} {x y : PV} {d e : PyData} (h1 : toD 60 S x = some d) (h2 : toD 60 S y = some e) : gEqN neg x y S = some (.ok (.bl (if neg then !PyData.eqv d e else PyData.eqv d e)) S) := by
  unfold gEqN eqP
  rw [h1, h2]
@[simp] theorem ev_eqI (i j : Int) : gEqN false (.int i) (.int j) S = some (.ok (.bl (decide (i = j))) S) := by rw [ev_eq (toD_int i) (toD_int j)]; simp
@[simp] theorem ev_neI (i j : Int) : gEqN true (.int i) (.int j) S = some (.ok (.bl (!decide (i = j))) S) := by rw [ev_eq (toD_int i) (toD_int j)]; simp
@[simp] theorem ev_eqB (i j : Bool) : gEqN false (.bl i) (.bl j) S = some (.ok (.bl (decide (i = j))) S) := by rw [ev_eq (toD_bl i) (toD_bl j)]; simp
@[simp] theorem ev_neB (i j : Bool) : gEqN true (.bl i) (.bl j) S = some (.ok (.bl (!decide (i = j))) S) := by rw [ev_eq (toD_bl i) (toD_bl j)]; simp
@[simp] theorem ev_eqS (i j : Str) : gEqN false (.str i) (.str j) S = some (.ok (.bl (decide (i = j))) S) := by rw [ev_eq (toD_str i) (toD_str j)]; simp
@[simp] theorem ev_neS (i j : Str) : gEqN true (.str i) (.str j) S = some (.ok (.bl (!decide (i = j))) S) := by rw [ev_eq (toD_str i) (toD_str j)]; simp
def pairD (p : Int × Int) : PyData := .tuple [.int p.1, .int p.2]
theorem toD_pair (p : Int × Int) : toD (n + 1) S (pairP p) = some (pairD p) := toD_tup (by simp [mapO])
theorem eqv_pair (p q : Int × Int) : PyData.eqv (pairD p) (pairD q) = decide (p = q) := by
  obtain ⟨a, b⟩ := p
  obtain ⟨c, d⟩ := q
  unfold pairD
  by_cases h1 : a = c <;> by_cases h2 : b = d <;> simp [h1, h2]
theorem mapO_pairs (l : List (Int × Int)) : mapO (toD (n + 1) S) (pairsP l) = some (l.map pairD) := mapO_map fun x _ => toD_pair x
theorem eqv_pairs (l r : List (Int × Int)) : PyData.eqvAll (l.map pairD) (r.map pairD) = decide (l = r) := eqvAll_map eqv_pair l r
theorem mapO_ints (l : List Int) : mapO (toD n S) (intsP l) = some (l.map PyData.int) := mapO_map fun x _ => toD_int x
theorem eqv_ints (l r : List Int) : PyData.eqvAll (l.map PyData.int) (r.map PyData.int) = decide (l = r) := eqvAll_map eqv_int l r
/-- tuples of pairs -/
theorem ev_eqTP (neg : Bool) (l r : List (Int × Int)) : gEqN neg (.tup (pairsP l)) (.tup (pairsP r)) S = some (.ok (.bl (if neg then !decide (l = r) else decide (l = r))) S) := by
  rw [ev_eq (toD_tup (mapO_pairs l)) (toD_tup (mapO_pairs r)), eqv_tuple, eqv_pairs]
theorem ev_eqLP (neg : Bool) {j k : Nat} {l r : List (Int × Int)} (h1 : S[j]? = some (.lst (pairsP l))) (h2 : S[k]? = some (.lst (pairsP r))) : gEqN neg (.loc j) (.loc k) S = some (.ok (.bl (if neg then !decide (l = r) else decide (l = r))) S) := by
  rw [ev_eq (toD_lst h1 (mapO_pairs l)) (toD_lst h2 (mapO_pairs r)), eqv_list, eqv_pairs]
end
/-! sorted -/
theorem sort_enc {α : Type} (e : α → PV) (d : α → PyData) (l : List α) : sortP (l.map e) (l.map d) = (l.mergeSort (PySem.W.dataLe false d)).map e := by
  unfold sortP
  have hz : (l.map e).zip (l.map d) = l.map fun x => (e x, d x) := by
    induction l with
    | nil => rfl
    | cons x l ih => rw [List.map_cons, List.map_cons, List.zip_cons_cons, ih, List.map_cons]
  rw [hz, ← List.map_mergeSort (f := fun x => (e x, d x)) (r := PySem.W.dataLe false d) (s := PySem.W.dataLe false Prod.snd) (fun a _ b _ => rfl), List.map_map]
  rfl
theorem ev_sorted {S : Sto} {k : Nat} {α : Type} {e : α → PV} {d : α → PyData} {l : List α} (h : S[k]? = some (.lst (l.map e))) (hd : ∀ x ∈ l, toD 40 S (e x) = some (d x)) (ha : alikeB (l.map d) = true) (hs : sortableB (l.map d) = true) :
    gSorted [.loc k] S = some (.ok (.loc S.length) (S ++ [.lst ((l.mergeSort (PySem.W.dataLe false d)).map e)])) := by
  unfold gSorted lstOf
  dsimp only
  rw [h]
  dsimp only
  rw [mapO_map hd]
  dsimp only
  rw [if_pos ⟨ha, hs⟩, sort_enc]
theorem alike_pairs (l : List (Int × Int)) : alikeB (l.map pairD) = true := by
  unfold alikeB
  rw [List.all_eq_true]
  intro x hx
  rw [List.all_eq_true]
  intro y hy
  obtain ⟨p, _, rfl⟩ := List.mem_map.mp hx
  obtain ⟨q, _, rfl⟩ := List.mem_map.mp hy
  simp [pairD, PySem.W.alike, PySem.W.alikeAll]
theorem sortable_pairs (l : List (Int × Int)) : sortableB (l.map pairD) = true := by
  unfold sortableB
  rw [Bool.or_eq_true]
  refine .inl ?_
  rw [List.all_eq_true]
  intro x hx
  obtain ⟨p, _, rfl⟩ := List.mem_map.mp hx
  rfl
/-- pairs in order -/
def sortPr (l : List (Int × Int)) : List (Int × Int) := l.mergeSort (PySem.W.dataLe false pairD)
theorem sortPr_perm (l : List (Int × Int)) : (sortPr l).Perm l := List.mergeSort_perm ..
theorem pairLe_iff (p q : Int × Int) : PySem.W.dataLe false pairD p q = true ↔ p.1 < q.1 ∨ (p.1 = q.1 ∧ p.2 ≤ q.2) := by
  obtain ⟨a, b⟩ := p
  obtain ⟨c, d⟩ := q
  show (!PyProof.Rows.lexLt PyProof.Rows.itemOrd [.inl 1, .inl c, .inl 1, .inl d, .inl 0] [.inl 1, .inl a, .inl 1, .inl b, .inl 0]) = true ↔ _
  have lt : ∀ i j : Int, PyProof.Rows.itemOrd.blt (.inl i) (.inl j) = decide (i < j) := fun _ _ => rfl
  rw [PyProof.Rows.lex_self, PyProof.Rows.lex_cons, PyProof.Rows.lex_self, PyProof.Rows.lex_cons, PyProof.Rows.lex_self]
  have lt2 : ∀ i j : Int, PyProof.Rows.itemLt (.inl i) (.inl j) = decide (i < j) := fun _ _ => rfl
  have e : PyProof.Rows.lexLt PyProof.Rows.itemOrd [] [] = false := (rfl)
  rw [e]
  by_cases h1 : c < a
  · have : ¬ a < c ∧ ¬ a = c := by omega
    simp [lt2, h1, this]
  · by_cases h2 : a < c
    · simp [lt2, h1, h2]
    · have h3 : a = c := by omega
      subst h3
      simp [lt2]
theorem sortPr_sorted (l : List (Int × Int)) : (sortPr l).Pairwise fun p q => p.1 < q.1 ∨ (p.1 = q.1 ∧ p.2 ≤ q.2) := by
  have h := List.pairwise_mergeSort (le := PySem.W.dataLe false pairD) (fun a b c h1 h2 => by
    rw [pairLe_iff] at *
    omega) (fun a b => by
    rw [Bool.or_eq_true, pairLe_iff, pairLe_iff]
    omega) l
  exact h.imp fun h => (pairLe_iff _ _).mp h
theorem sortPr_same {l : List (Int × Int)} (h : l.Pairwise fun p q => p.1 < q.1 ∨ (p.1 = q.1 ∧ p.2 ≤ q.2)) : sortPr l = l := List.mergeSort_of_pairwise (h.imp fun h => (pairLe_iff _ _).mpr h)
theorem ev_sortedP {S : Sto} {k : Nat} {l : List (Int × Int)} (h : S[k]? = some (.lst (pairsP l))) : gSorted [.loc k] S = some (.ok (.loc S.length) (S ++ [.lst (pairsP (sortPr l))])) :=
  ev_sorted h (fun x _ => toD_pair x) (alike_pairs l) (sortable_pairs l)

/-! errors -/
section
variable {ρ : En} {S : Sto}
@[simp] theorem ev_isE (i : Nat) (a : Addr) (b : Bool) : dIsE i a b ρ S = match ρ[i]? with
  | some (some (.xc a' _ _)) => if a' = a then some (.ok (.bl b) S) else none
  | _ => none := (rfl)
theorem ev_tryAs_ok {body : DS} {i : Nat} {cat : Str → Option Bool} {su : Hd} {r : RS} (h : body ρ S = some r) (hx : ∀ e ρ1 S1, r ≠ .exc e ρ1 S1) : dTryAs body i cat su ρ S = some r := by
  unfold dTryAs
  rw [h]
  cases r <;> first | rfl | exact absurd rfl (hx _ _ _)
theorem ev_tryAs_exc {body : DS} {i : Nat} {cat : Str → Option Bool} {su : Hd} {e : Xn} {ρ1 : En} {S1 : Sto} (h : body ρ S = some (.exc e ρ1 S1)) (hc : cat e.c = some true) : dTryAs body i cat su ρ S = hdAs i su e ρ1 S1 := by
  unfold dTryAs
  rw [h]
  dsimp only
  rw [hc]
end
/-! comprehensions -/
theorem compL_map {c i : Nat} {own : List Nat} {elt : DE} {g : PV → PV} {ρ : En} : ∀ (items acc : List PV) (S : Sto), (∀ x ∈ items, ∀ S', elt ((killE own ρ).set i (some x)) S' = some (.ok (g x) S')) → S[c]? = some (.lst acc) → acc.length + items.length ≤ 16777216 →
    compL c (nmOne i) own dYes elt [] items ρ S = some (.ok (.loc c) (S.set c (.lst (acc ++ items.map g))))
  | [], acc, S, _, hc, _ => by
    unfold compL
    rw [if_pos (by simp), List.map_nil, List.append_nil]
    congr 2
    have hl := (List.getElem?_eq_some_iff.mp hc).1
    refine List.ext_getElem? fun j => ?_
    by_cases hj : j = c
    · subst hj
      rw [List.getElem?_set_self hl]; exact hc
    · rw [List.getElem?_set_ne (fun e => hj e.symm)]
  | x :: items, acc, S, he, hc, hl => by
    rw [List.length_cons] at hl
    have hlt := (List.getElem?_eq_some_iff.mp hc).1
    have ih := compL_map (c := c) (i := i) (own := own) (elt := elt) (g := g) (ρ := ρ) items (acc ++ [g x]) (S.set c (.lst (acc ++ [g x]))) (fun y hy => he y (List.mem_cons_of_mem _ hy)) (by rw [List.getElem?_set_self hlt]) (by rw [List.length_append, List.length_singleton]; omega)
    unfold compL
    rw [if_pos (by simp)]
    have h1 := he x List.mem_cons_self S
    simp only [nmOne, dYes, setsE, h1, hc]
    rw [if_pos (by omega), ih, List.set_set]
    simp
theorem ev_comp {i : Nat} {own : List Nat} {elt : DE} {g : PV → PV} {ρ : En} {S S1 : Sto} {it : DI} {items : List PV} (hi : it ρ S = some (.ok ⟨items, []⟩ S1)) (he : ∀ x ∈ items, ∀ S', elt ((killE own ρ).set i (some x)) S' = some (.ok (g x) S')) (hl : items.length ≤ 16777216) :
    dComp it (nmOne i) own dYes elt ρ S = some (.ok (.loc S1.length) (S1 ++ [.lst (items.map g)])) := by
  unfold dComp
  rw [hi]
  simp only [ev_bR_ok]
  rw [compL_map items [] _ he (at_0 (T := [])) (by simpa using hl)]
  simp
@[simp] theorem rangeP_len (lo : Int) (n : Nat) : (rangeP lo n).length = n := by simp [rangeP]
theorem rangeP_mem {lo : Int} {n : Nat} {x : PV} (h : x ∈ rangeP lo n) : ∃ i : Int, x = .int i ∧ lo ≤ i ∧ i < lo + n := by
  unfold rangeP at h
  obtain ⟨j, hj, rfl⟩ := List.mem_map.mp h
  rw [List.mem_range] at hj
  exact ⟨_, rfl, by omega, by omega⟩

theorem gcE_bl {S S' : Sto} {b : Bool} : ∃ T, some (gcE S (.ok (.bl b) S')) = some (.ok (.bl b) T) := by
  by_cases h : S'.take S.length = S
  · refine ⟨S, ?_⟩
    unfold gcE
    simp only [h, if_true]
    rfl
  · refine ⟨gc2 S S', ?_⟩
    unfold gcE
    simp only [h, if_false]
    rfl
theorem law_ret {n : Nat} {body : DS} {S S' : Sto} {a : PV} (hb : body (some a :: List.replicate (n - 1) none) S = some (.ret (.bl true) S')) : ∃ T, dDef 1 n body [a] S = some (.ok (.bl true) T) := by
  rw [dDef_ret (k := 1) (args := [a]) rfl hb]
  exact gcE_bl

/-! comprehensions, in general -/
theorem compL_fm {α : Type} {c : Nat} {f : PV → Option (List Nat × List PV)} {own : List Nat} {tt : DB} {elt : DE} {keep : List (Nat × PO)} {ρ : En} (P : Sto → Prop) (e : α → PV) (t : α → Bool) (g : α → PV) (hk : ∀ S, P S → Kept keep S) (hP : ∀ S acc, P S → P (S.set c (.lst acc))) :
    ∀ (items : List α) (acc : List PV) (S : Sto), (∀ x ∈ items, ∀ S', P S' → ∃ is l, f (e x) = some (is, l) ∧ tt (setsE is l (killE own ρ)) S' = some (.ok (t x) S') ∧ (t x = true → elt (setsE is l (killE own ρ)) S' = some (.ok (g x) S'))) →
    P S → S[c]? = some (.lst acc) → acc.length + items.length ≤ 16777216 → compL c f own tt elt keep (items.map e) ρ S = some (.ok (.loc c) (S.set c (.lst (acc ++ (items.filter t).map g))))
  | [], acc, S, _, p, hc, _ => by
    rw [List.map_nil]
    unfold compL
    rw [if_pos (hk S p), List.filter_nil, List.map_nil, List.append_nil]
    congr 2
    have hl := (List.getElem?_eq_some_iff.mp hc).1
    refine List.ext_getElem? fun j => ?_
    by_cases hj : j = c
    · subst hj
      rw [List.getElem?_set_self hl]; exact hc
    · rw [List.getElem?_set_ne (fun e => hj e.symm)]
  | x :: items, acc, S, h, p, hc, hl => by
    rw [List.length_cons] at hl
    have hlt := (List.getElem?_eq_some_iff.mp hc).1
    obtain ⟨is, l, h1, h2, h3⟩ := h x List.mem_cons_self S p
    rw [List.map_cons]
    unfold compL
    rw [if_pos (hk S p), h1]
    dsimp only
    rw [h2]
    cases ht : t x with
    | true =>
      dsimp only
      rw [h3 ht]
      dsimp only
      rw [hc]
      dsimp only
      rw [if_pos (by omega), compL_fm P e t g hk hP items (acc ++ [g x]) (S.set c (.lst (acc ++ [g x]))) (fun y hy => h y (List.mem_cons_of_mem _ hy)) (hP _ _ p) (by rw [List.getElem?_set_self hlt]) (by rw [List.length_append, List.length_singleton]; omega), List.set_set]
      simp [ht]
    | false =>
      dsimp only
      rw [compL_fm P e t g hk hP items acc S (fun y hy => h y (List.mem_cons_of_mem _ hy)) p hc (by omega)]
      simp [ht]
/-- over a tuple's items, nothing of the store asked but P -/
theorem ev_compF {α : Type} {f : PV → Option (List Nat × List PV)} {own : List Nat} {tt : DB} {elt : DE} {ρ : En} {S S1 : Sto} {it : DI} {keep : List (Nat × PO)} {items : List α} (e : α → PV) (t : α → Bool) (g : α → PV)
    (hi : it ρ S = some (.ok ⟨items.map e, keep⟩ S1)) (hk : Kept keep S1) (h : ∀ x ∈ items, ∀ acc, ∃ is l, f (e x) = some (is, l) ∧ tt (setsE is l (killE own ρ)) (S1 ++ [.lst acc]) = some (.ok (t x) (S1 ++ [.lst acc])) ∧ (t x = true → elt (setsE is l (killE own ρ)) (S1 ++ [.lst acc]) = some (.ok (g x) (S1 ++ [.lst acc])))) (hl : items.length ≤ 16777216) :
    dComp it f own tt elt ρ S = some (.ok (.loc S1.length) (S1 ++ [.lst ((items.filter t).map g)])) := by
  unfold dComp
  rw [hi]
  simp only [ev_bR_ok]
  rw [compL_fm (fun S' => ∃ acc, S' = S1 ++ [.lst acc]) e t g (fun S' ⟨acc, q⟩ p hp => by
    rw [q, List.getElem?_append_left (lt_of_get (hk p hp))]
    exact hk p hp) (fun S' acc ⟨b, q⟩ => ⟨acc, by rw [q, put_0]⟩) items [] _ (fun x hx S' ⟨acc, q⟩ => by
    rw [q]
    exact h x hx acc) ⟨[], rfl⟩ (at_0 (T := [])) (by simpa using hl)]
  simp
end D

namespace G
open PySem PySem.Spec PyProof.Rows L2 D
noncomputable def b__law_pick : DS := (dRet (dOp2 gMod (dOpA gInt (dCons (dOp2 gIx (dVar 0) (dOp2 gMod (dVar 1) (dOpA gLen (dCons (dVar 0) dNil)))) dNil)) (dVar 2)))
noncomputable def F__law_pick : DF := dDef 3 3 b__law_pick
noncomputable def l_is_closed_days_1 : DS := (dSeq (dIfS (dCmp gGt (dVar 2) (dVar 3)) (dRet (dC (.bl false))) dPass) (dSeq (dIfS (dAndT (dCmp gIsNot (dVar 1) (dC .non)) (dCmp gLt (dVar 2) (dOp2 gAdd (dVar 1) (dC (.int 2))))) (dRet (dC (.bl false))) dPass) (dSet 1 (dVar 3))))
noncomputable def b_is_closed_days : DS := (dSeq (dSet 1 (dC .non)) (dSeq (dFor (dSeqI (dVar 0)) (gT 2 (gsCons (gN 2) (gsCons (gN 3) gsNil))) [2, 3] l_is_closed_days_1) (dRet (dC (.bl true)))))
noncomputable def F_is_closed_days : DF := dDef 1 4 b_is_closed_days

/-- the number that is picked -/
def pick (ns : List Int) (a m : Int) : Int := (ns.getD (a % (ns.length : Int)).toNat 0) % m
theorem pick_lt (ns : List Int) (a : Int) {m : Int} (h : 0 < m) : 0 ≤ pick ns a m ∧ pick ns a m < m := ⟨Int.emod_nonneg _ (by omega), Int.emod_lt_of_pos _ h⟩
theorem pick_spec {S : Sto} {k : Nat} {ns : List Int} {a m : Int} (h : S[k]? = some (.lst (intsP ns))) (hn : ns ≠ []) (hm : 0 < m) : F__law_pick [.loc k, .int a, .int m] S = some (.ok (.int (pick ns a m)) S) := by
  have hl : 0 < (ns.length : Int) := by
    cases ns with
    | nil => exact absurd rfl hn
    | cons _ _ => simp
  have h1 := Int.emod_nonneg a (show (ns.length : Int) ≠ 0 by omega)
  have h2 := Int.emod_lt_of_pos a hl
  have hx := ints_at h1 h2
  refine call_val0 ?_ rfl
  simp [b__law_pick, ev_lenL h, ev_mod hl, ev_ixL h hx, ev_mod hm, pick]
/-- the one form -/
def formB : Option Int → List (Int × Int) → Bool
  | _, [] => true
  | b, p :: r => if p.1 > p.2 then false else if (match b with | some b => decide (p.1 < b + 2) | none => false) = true then false else formB (some p.2) r
def optP : Option Int → PV
  | none => .non
  | some i => .int i
theorem icd_loop {S : Sto} {q : PV} : ∀ (l : List (Int × Int)) (b : Option Int), (∃ b', forL (gT 2 (gsCons (gN 2) (gsCons (gN 3) gsNil))) [2, 3] l_is_closed_days_1 [] (pairsP l) [some q, some (optP b), none, none] S = (if formB b l = true then some (.next [some q, some (optP b'), none, none] S) else some (.ret (.bl false) S)))
  | [], b => ⟨b, by rw [pairsP_nil, forL_nil (by simp)]; rfl⟩
  | p :: r, b => by
    obtain ⟨b', ih⟩ := icd_loop (S := S) (q := q) r (some p.2)
    refine ⟨b', ?_⟩
    rw [pairsP_cons, forL_cons (by simp)]
    unfold formB
    by_cases h1 : p.2 < p.1
    · simp [pairP, l_is_closed_days_1, h1]
    · cases b with
      | none =>
        simp [pairP, l_is_closed_days_1, h1, optP] at ih ⊢
        exact ih
      | some b =>
        by_cases h2 : p.1 < b + 2
        · simp [pairP, l_is_closed_days_1, h1, optP, h2]
        · simp [pairP, l_is_closed_days_1, h1, optP, h2] at ih ⊢
          exact ih
theorem icd_spec {S : Sto} {l : List (Int × Int)} : F_is_closed_days [.tup (pairsP l)] S = some (.ok (.bl (formB none l)) S) := by
  obtain ⟨b', h⟩ := icd_loop (S := S) (q := .tup (pairsP l)) l none
  refine call_val0 ?_ rfl
  simp [b_is_closed_days, optP] at h ⊢
  rw [h]
  cases formB none l <;> simp
end G

/-! E2: how the denotations of D12..D15 are reckoned out. -/
namespace D
open PySem PySem.Spec PyProof.Rows L2
section
variable {ρ : En} {S S' : Sto}
/-! instances -/
@[simp] theorem ev_fld (c f : Str) (a : DE) : dFld c f a ρ S = bR (a ρ S) fun x S1 => gFld c f x S1 := (rfl)
theorem ev_gFld {c f : Str} {k : Nat} {fs : List (Str × PV)} {v : PV} (h : S[k]? = some (.ins c fs)) (hl : fs.lookup f = some v) : gFld c f (.loc k) S = some (.ok v S) := by
  unfold gFld
  simp only [h, if_true, hl]
@[simp] theorem ev_setF (c f : Str) (fo fe : DE) : dSetF c f fo fe ρ S = bS ρ (fe ρ S) fun v S1 => bS ρ (fo ρ S1) fun x S2 => gSetF c f v x ρ S2 := (rfl)
theorem ev_gSetF {c f : Str} {k : Nat} {fs : List (Str × PV)} {v : PV} (h : S[k]? = some (.ins c fs)) (hl : fs.length < 1000) : gSetF c f v (.loc k) ρ S = some (.next ρ (S.set k (.ins c (putFP f v fs)))) := by
  unfold gSetF
  simp only [h]
  exact if_pos ⟨trivial, hl⟩
@[simp] theorem ev_imeth (c m : Str) (F : DF) (fo : DE) (fa : DA) : dIMeth c m F fo fa ρ S = bR (fo ρ S) fun x S1 => if isInsP c m x S1 = true then bR (fa ρ S1) fun xs S2 => F (x :: xs) S2 else none := (rfl)
theorem ev_isIns {c m : Str} {k : Nat} {fs : List (Str × PV)} (h : S[k]? = some (.ins c fs)) (hl : fs.lookup m = none) : isInsP c m (.loc k) S = true := by
  unfold isInsP
  simp only [h, hl]
  simp
@[simp] theorem ev_make (c : Str) (F : DF) (fa : DA) : dMake c F fa ρ S = bR (fa ρ S) fun xs S1 => gMake c F xs S1 := (rfl)
theorem ev_gMake {c : Str} {F : DF} {xs : List PV} (h : F (.loc S.length :: xs) (S ++ [.ins c []]) = some (.ok .non S')) : gMake c F xs S = some (.ok (.loc S.length) S') := by
  unfold gMake
  rw [h]
theorem ev_gMakeX {c : Str} {F : DF} {xs : List PV} {e : Xn} (h : F (.loc S.length :: xs) (S ++ [.ins c []]) = some (.exc e S')) : gMake c F xs S = some (.exc e S') := by
  unfold gMake
  rw [h]
/-! dicts -/
@[simp] theorem ev_newD : dNewD ρ S = some (.ok (.loc S.length) (S ++ [.dct false []])) := (rfl)
/-! list(range(..)) -/
@[simp] theorem ev_listR (f : DE) : dListR f ρ S = bR (f ρ S) fun x S1 => gListR x S1 := (rfl)
theorem ev_gListR {j : Int} (h : 0 ≤ j) (h2 : j ≤ 16777216) : gListR (.int j) S = some (.ok (.loc S.length) (S ++ [.lst (rangeP 0 j.toNat)])) := if_pos ⟨by omega, h2⟩
/-! errors -/
@[simp] theorem ev_raiseF (c f : Str) (fe : DE) : dRaiseF c f fe ρ S = bS ρ (fe ρ S) fun v S1 => some (.exc ⟨c, [(f, v)]⟩ ρ S1) := (rfl)
@[simp] theorem ev_isEd (i : Nat) (a dd : Addr) (b : Bool) : dIsEd i a dd b ρ S = match ρ[i]? with
  | some (some (.xc a' (some d') _)) => if a' = a ∧ d' = dd then some (.ok (.bl b) S) else none
  | _ => none := (rfl)
@[simp] theorem ev_suF (d : Addr) (f : Addr → DS) : suF (some d) f = f d := (rfl)
/-! what is let go -/
theorem Cl.refl : Cl S S := fun _ _ _ h => .inl h
theorem Cl.app (T : Sto) : Cl S (S ++ T) := fun k o hk h => .inl (by rwa [List.getElem?_append_left hk] at h)
theorem Cl.set (h : Cl S S') {j : Nat} {o : PO} (hb : bdO S.length o) : Cl S (S'.set j o) := fun k u hk e => by
  by_cases hj : j = k
  · subst hj
    rw [List.getElem?_set] at e
    split at e
    · split at e
      · cases e; exact .inr hb
      · cases e
    · exact h _ _ hk e
  · rw [List.getElem?_set_ne hj] at e
    exact h _ _ hk e
theorem Cl.snoc (h : Cl S S') (le : S.length ≤ S'.length) (T : Sto) : Cl S (S' ++ T) := fun k o hk e => by
  rw [List.getElem?_append_left (Nat.lt_of_lt_of_le hk le)] at e
  exact h k o hk e
/-- kept places, or bounded -/
theorem Cl.of (h : ∀ k o, k < S.length → S'[k]? = some o → S[k]? ≠ some o → bdO S.length o) : Cl S S' := fun k o hk e => by
  by_cases q : S[k]? = some o
  · exact .inl q
  · exact .inr (h k o hk e q)
theorem gc_cl {v : PV} (hn : noLoc v = true) (h : Cl S S') : gcE S (.ok v S') = .ok v (S'.take S.length) := by
  unfold gcE
  simp only [hn, if_true]
  split
  · rename_i e
    rw [e]
  · unfold gc2
    rw [if_pos h]
theorem gc_len {v : PV} (hn : noLoc v = true) (h : Cl S S') (hl : S'.length = S.length) : gcE S (.ok v S') = .ok v S' := by
  rw [gc_cl hn h, ← hl, List.take_length]
@[simp] theorem ev_gc (f : DE) : dGc f ρ S = (f ρ S).map (gcE S) := (rfl)
theorem body_next {kill : List Nat} {f : DS} {ρ' : En} (h : f ρ S = some (.next ρ' S')) (c : Cl S S') (b : bdE S.length (killE kill ρ')) : dBody kill f ρ S = some (.next (killE kill ρ') (S'.take S.length)) := by
  unfold dBody
  rw [h]
  exact congrArg some (if_pos ⟨c, b⟩)
theorem body_ctn {kill : List Nat} {f : DS} {ρ' : En} (h : f ρ S = some (.ctn ρ' S')) (c : Cl S S') (b : bdE S.length (killE kill ρ')) : dBody kill f ρ S = some (.ctn (killE kill ρ') (S'.take S.length)) := by
  unfold dBody
  rw [h]
  exact congrArg some (if_pos ⟨c, b⟩)
theorem body_ret {kill : List Nat} {f : DS} {v : PV} (h : f ρ S = some (.ret v S')) : dBody kill f ρ S = some (.ret v S') := by
  unfold dBody
  rw [h]
  rfl
theorem body_exc {kill : List Nat} {f : DS} {e : Xn} {ρ' : En} (h : f ρ S = some (.exc e ρ' S')) : dBody kill f ρ S = some (.exc e ρ' S') := by
  unfold dBody
  rw [h]
  rfl
theorem body_brk {kill : List Nat} {f : DS} {ρ' : En} (h : f ρ S = some (.brk ρ' S')) : dBody kill f ρ S = some (.brk ρ' S') := by
  unfold dBody
  rw [h]
  rfl
end
/-! stores S ++ [..] -/
section
variable {S T U : Sto} {o : PO}
@[simp] theorem get_off (c : Nat) : (S ++ T)[S.length + c]? = T[c]? := by
  rw [List.getElem?_append_right (by omega)]
  congr 1
  omega
@[simp] theorem get_off0 : (S ++ T)[S.length]? = T[0]? := get_off 0
@[simp] theorem set_off (c : Nat) : (S ++ T).set (S.length + c) o = S ++ T.set c o := by
  rw [List.set_append_right _ _ (by omega)]
  congr 2
  omega
@[simp] theorem set_off0 : (S ++ T).set S.length o = S ++ T.set 0 o := set_off 0
@[simp] theorem take_off (c : Nat) : (S ++ T).take (S.length + c) = S ++ T.take c := by
  rw [List.take_append]
  congr 1
  · exact List.take_of_length_le (by omega)
  · congr 1; omega
theorem get_lt {k : Nat} (h : k < S.length) : (S ++ T)[k]? = S[k]? := List.getElem?_append_left h
theorem set_lt {k : Nat} (h : k < S.length) : (S ++ T).set k o = S.set k o ++ T := List.set_append_left _ _ h
end
/-! a walk through a list by an invariant -/
section
variable {α : Type} {g : DG} {kill : List Nat} {body : DS} {keep : List (Nat × PO)}
/-- the turn of x leads on, or out -/
def Turn (g : DG) (kill : List Nat) (body : DS) (x : PV) (ρ : En) (S : Sto) (I : En → Sto → Prop) (out : RS → Prop) : Prop :=
  ∃ ρ1 S1, g x ρ S = some (ρ1, S1) ∧ ∃ r, body ρ1 S1 = some r ∧ match r with
    | .next ρ2 S2 => I (killE kill ρ2) S2
    | .ctn ρ2 S2 => I (killE kill ρ2) S2
    | .brk ρ2 S2 => out (.next (killE kill ρ2) S2)
    | r => out r
theorem forL_inv (e : α → PV) (I : List α → List α → En → Sto → Prop) (out : RS → Prop) (hk : ∀ d r ρ S, I d r ρ S → Kept keep S)
    (turn : ∀ d x r ρ S, I d (x :: r) ρ S → Turn g kill body (e x) ρ S (I (d ++ [x]) r) out) :
    ∀ (l d : List α) (ρ : En) (S : Sto), I d l ρ S → (∃ ρ' S', forL g kill body keep (l.map e) ρ S = some (.next ρ' S') ∧ I (d ++ l) [] ρ' S') ∨ ∃ r, forL g kill body keep (l.map e) ρ S = some r ∧ out r
  | [], d, ρ, S, h => .inl ⟨ρ, S, by rw [List.map_nil, forL_nil (hk _ _ _ _ h)], by rwa [List.append_nil]⟩
  | x :: l, d, ρ, S, h => by
    obtain ⟨ρ1, S1, h1, r, h2, h3⟩ := turn _ _ _ _ _ h
    rw [List.map_cons, forL_cons (hk _ _ _ _ h), h1]
    dsimp only
    rw [h2]
    cases r with
    | next ρ2 S2 =>
      have := forL_inv e I out hk turn l (d ++ [x]) _ _ h3
      rwa [List.append_assoc] at this
    | ctn ρ2 S2 =>
      have := forL_inv e I out hk turn l (d ++ [x]) _ _ h3
      rwa [List.append_assoc] at this
    | brk ρ2 S2 => exact .inr ⟨_, rfl, h3⟩
    | ret v S2 => exact .inr ⟨_, rfl, h3⟩
    | exc ex ρ2 S2 => exact .inr ⟨_, rfl, h3⟩
end
end D

/-! E3: kinds of data: how they stand as values, as data; that == tells them apart. -/
namespace D
open PySem PySem.Spec PyProof.Rows L2
class Dat (α : Type) where
  enc : α → PV
  dat : α → PyData
  dep : Nat
  td : ∀ (n : Nat) (S : Sto) (a : α), toD (n + dep) S (enc a) = some (dat a)
  eqv : ∀ a b : α, PyData.eqv (dat a) (dat b) = true ↔ a = b
  nl : ∀ a : α, noLoc (enc a) = true
open Dat (enc)
section
variable {α β γ : Type}
instance : Dat Int := ⟨PV.int, PyData.int, 0, fun _ _ _ => toD_int _, fun _ _ => by simp, fun _ => rfl⟩
instance : Dat Bool := ⟨PV.bl, PyData.bool, 0, fun _ _ _ => toD_bl _, fun _ _ => by simp, fun _ => rfl⟩
instance : Dat Str := ⟨PV.str, PyData.str, 0, fun _ _ _ => toD_str _, fun _ _ => by simp, fun _ => rfl⟩
theorem Dat.td' [Dat α] (k : Nat) (h : Dat.dep α ≤ k) (S : Sto) (a : α) : toD k S (enc a) = some (Dat.dat a) := by
  have := Dat.td (k - Dat.dep α) S a
  rwa [Nat.sub_add_cancel h] at this
theorem noLocs_map [Dat α] : ∀ l : List α, noLocs (l.map enc) = true
  | [] => rfl
  | x :: l => by
    rw [List.map_cons]
    show (noLoc _ && noLocs _) = true
    rw [Dat.nl x, noLocs_map l]
    rfl
theorem eqvAll_dat [Dat α] : ∀ (l r : List α), PyData.eqvAll (l.map Dat.dat) (r.map Dat.dat) = true ↔ l = r
  | [], [] => by simp
  | [], y :: r => by simp
  | x :: l, [] => by simp
  | x :: l, y :: r => by
    rw [List.map_cons, List.map_cons, eqvAll_cc, Bool.and_eq_true, Dat.eqv, eqvAll_dat l r, List.cons.injEq]
/-- a tuple of things of one kind -/
structure Tp (α : Type) where
  l : List α
  deriving DecidableEq
instance [Dat α] : Dat (Tp α) where
  enc t := .tup (t.l.map enc)
  dat t := .tuple (t.l.map Dat.dat)
  dep := Dat.dep α + 1
  td n S t := by
    rw [← Nat.add_assoc]
    exact toD_tup (mapO_map fun x _ => Dat.td n S x)
  eqv a b := by
    rw [eqv_tuple, eqvAll_dat]
    cases a; cases b; simp
  nl t := noLocs_map t.l
instance [Dat α] [Dat β] : Dat (α × β) where
  enc p := .tup [enc p.1, enc p.2]
  dat p := .tuple [Dat.dat p.1, Dat.dat p.2]
  dep := Dat.dep α + Dat.dep β + 1
  td n S p := by
    rw [← Nat.add_assoc]
    refine toD_tup ?_
    simp only [mapO, Dat.td' (n + (Dat.dep α + Dat.dep β)) (by omega) S p.1, Dat.td' (n + (Dat.dep α + Dat.dep β)) (by omega) S p.2]
  eqv a b := by
    rw [eqv_tuple, eqvAll_cc, eqvAll_cc, Bool.and_eq_true, Bool.and_eq_true, Dat.eqv, Dat.eqv, eqvAll_nil]
    obtain ⟨a1, a2⟩ := a; obtain ⟨b1, b2⟩ := b; simp
  nl p := by
    show (noLoc _ && (noLoc _ && true)) = true
    rw [Dat.nl, Dat.nl]
    rfl
/-- three ints -/
instance (priority := high) dat3 : Dat (Int × Int × Int) where
  enc p := .tup [.int p.1, .int p.2.1, .int p.2.2]
  dat p := .tuple [.int p.1, .int p.2.1, .int p.2.2]
  dep := 1
  td n S p := toD_tup (by simp [mapO])
  eqv a b := by
    obtain ⟨a1, a2, a3⟩ := a; obtain ⟨b1, b2, b3⟩ := b; simp
  nl p := rfl
/-! == of such things -/
variable {S : Sto} {neg : Bool}
theorem eqv_dec [Dat α] [DecidableEq α] (a b : α) : PyData.eqv (Dat.dat a) (Dat.dat b) = decide (a = b) := by
  by_cases h : a = b
  · rw [(Dat.eqv a b).mpr h, decide_eq_true h]
  · rw [decide_eq_false h, Bool.eq_false_iff]
    exact fun z => h ((Dat.eqv a b).mp z)
theorem eqvAll_dec [Dat α] [DecidableEq α] (a b : List α) : PyData.eqvAll (a.map Dat.dat) (b.map Dat.dat) = decide (a = b) := by
  by_cases h : a = b
  · rw [(eqvAll_dat a b).mpr h, decide_eq_true h]
  · rw [decide_eq_false h, Bool.eq_false_iff]
    exact fun z => h ((eqvAll_dat a b).mp z)
theorem eq_dat [Dat α] [DecidableEq α] (a b : α) (h : Dat.dep α ≤ 60 := by decide) : gEqN neg (enc a) (enc b) S = some (.ok (.bl (if neg then !decide (a = b) else decide (a = b))) S) := by
  rw [ev_eq (Dat.td' 60 h S a) (Dat.td' 60 h S b), eqv_dec]
/-- two lists of one kind -/
theorem eq_lists [Dat α] [DecidableEq α] {j k : Nat} {l r : List α} (h1 : S[j]? = some (.lst (l.map enc))) (h2 : S[k]? = some (.lst (r.map enc))) (h : Dat.dep α ≤ 59 := by decide) :
    gEqN neg (.loc j) (.loc k) S = some (.ok (.bl (if neg then !decide (l = r) else decide (l = r))) S) := by
  rw [ev_eq (toD_lst (n := 59) h1 (mapO_map fun x _ => Dat.td' 59 h S x)) (toD_lst (n := 59) h2 (mapO_map fun x _ => Dat.td' 59 h S x)), eqv_list, eqvAll_dec]
end
end D

/-! E4: evaluation lemmas for D16. -/
namespace D
open PySem PySem.Spec PyProof.Rows L2
section
variable {ρ : En} {S : Sto}
@[simp] theorem ev_rev (a : DE) (st : DO) : dRev a st ρ S = bR (a ρ S) fun x S1 => bR (st ρ S1) fun l S2 => gRev x l S2 := (rfl)
theorem ev_revL {k : Nat} {l : List PV} (h : S[k]? = some (.lst l)) : gRev (.loc k) (some (-1)) S = some (.ok (.loc S.length) (S ++ [.lst l.reverse])) := by unfold gRev; simp [h]
end
end D

/-! E5: evaluation lemmas for D17, D18: dicts walked, sorted, displayed; texts. -/
namespace D
open PySem PySem.Spec PyProof.Rows L2
section
variable {ρ : En} {S : Sto}
@[simp] theorem ev_keysI (f : DE) : dKeysI f ρ S = bR (f ρ S) fun x S1 => match x with
  | .loc k => match S1[k]? with
    | some (.fd kvs) => some (.ok ⟨kvs.map Prod.fst, [(k, .fd kvs)]⟩ S1)
    | _ => none
  | _ => none := (rfl)
theorem ev_lock {i k : Nat} {f : DS} {kvs : List (PV × PV)} (h : ρ[i]? = some (some (.loc k))) (hk : S[k]? = some (.dct false kvs)) : dLock i f ρ S = (f ρ (S.set k (.fd kvs))).bind (unR k) := by
  unfold dLock
  rw [h]
  simp only [hk]
theorem ev_lockF {i k : Nat} {f : DS} {kvs : List (PV × PV)} (h : ρ[i]? = some (some (.loc k))) (hk : S[k]? = some (.fd kvs)) : dLock i f ρ S = f ρ S := by
  unfold dLock
  rw [h]
  simp only [hk]
theorem ev_unS {k : Nat} {kvs : List (PV × PV)} (hk : S[k]? = some (.fd kvs)) : unS k S = some (S.set k (.dct false kvs)) := by
  unfold unS
  rw [hk]
/-- locked and open again -/
theorem un_lock {k : Nat} {kvs : List (PV × PV)} (hk : S[k]? = some (.dct false kvs)) : unS k (S.set k (.fd kvs)) = some S := by
  rw [ev_unS (List.getElem?_set_self (lt_of_get hk)), List.set_set]
  congr 1
  refine List.ext_getElem? fun j => ?_
  by_cases hj : k = j
  · subst hj
    rw [List.getElem?_set_self (lt_of_get hk), hk]
  · rw [List.getElem?_set_ne hj]
@[simp] theorem ev_disp (ps : List (DE × DE)) : dDisp ps ρ S = bR (dPairs ps ρ (S ++ [.dct false []])) fun l S1 => if l.length ≤ 15 then match S1[S.length]?, mergeD [] l with
  | some (.dct false []), some kvs => some (.ok (.loc S.length) (S1.set S.length (.dct false kvs)))
  | _, _ => none else none := (rfl)
@[simp] theorem ev_pairs0 : dPairs [] ρ S = some (.ok [] S) := (rfl)
@[simp] theorem ev_pairs1 (p : DE × DE) (r : List (DE × DE)) : dPairs (p :: r) ρ S = bR (p.1 ρ S) fun x S1 => bR (p.2 ρ S1) fun y S2 => bR (dPairs r ρ S2) fun l S3 => some (.ok ((x, y) :: l) S3) := (rfl)
@[simp] theorem ev_gInS (neg : Bool) (i j : Str) : gInS neg (.str i) (.str j) S = some (.ok (.bl (if neg then !inStr i j else inStr i j)) S) := (rfl)
@[simp] theorem ev_gRelS (f : Str → Str → Bool) (i j : Str) : gRelS f (.str i) (.str j) S = some (.ok (.bl (f i j)) S) := (rfl)
@[simp] theorem ev_strI (f : DE) : dStrI f ρ S = bR (f ρ S) fun x S1 => match x with
  | .str z => some (.ok ⟨z.cps.toList.map fun c => .str ⟨#[c]⟩, []⟩ S1)
  | _ => none := (rfl)
theorem ev_lenS {z : Str} (h : z.length ≤ 16777216) : gLen [.str z] S = some (.ok (.int z.length) S) := by
  unfold gLen
  dsimp only
  rw [if_pos h]
theorem ev_ixS {z : Str} {i : Int} {c : Nat} (h : z.length ≤ 16777216) (hc : atI z.cps.toList i = some c) : gIx (.str z) (.int i) S = some (.ok (.str ⟨#[c]⟩) S) := by
  unfold gIx
  dsimp only
  rw [if_pos h, hc]
theorem ev_sortDk {k : Nat} {kvs : List (PV × PV)} {ks : List Str} (hk : S[k]? = some (.dct false kvs)) (h : mapO keyS kvs = some ks) (h64 : ks.length < 64) : gSortD [.loc k] S = some (.ok (.loc S.length) (S ++ [.lst ((sortSt ks).map PV.str)])) := by
  unfold gSortD dctOf
  simp only [hk, h, if_pos h64]
/-- a text in a tuple of texts -/
theorem ev_inT {neg : Bool} {W : List Str} {i : Str} : gInN neg (.str i) (.tup (W.map PV.str)) S = some (.ok (.bl (if neg then !decide (i ∈ W) else decide (i ∈ W))) S) := by
  unfold gInN inP
  rw [toD_str, toD_tup (n := 59) (mapO_map (d := PyData.str) fun x _ => toD_str x)]
  dsimp only
  have : ((W.map PyData.str).any fun z => PyData.eqv z (.str i)) = decide (i ∈ W) := by
    induction W with
    | nil => rfl
    | cons x l ih =>
      rw [List.map_cons, List.any_cons, ih, eqv_str]
      by_cases h : x = i
      · simp [h]
      · have : ¬ i = x := fun e => h e.symm
        simp [h, this]
  rw [this]
end
end D

namespace G
open PySem PySem.Spec PyProof.Rows L2 D
noncomputable def l__law_stream_1 : DS := (dSeq (dExpr (dMeth "list" gAppend (dVar 1) (dCons (dOp2 gMod (dOpA gInt (dCons (dVar 3) dNil)) (dC (.int 1009))) dNil))) (dSeq (dSet 3 (dOp2 gDiv (dVar 3) (dC (.int 1009)))) (dIfS (dCmp gEq (dVar 3) (dC (.int 0))) dBrk dPass)))
noncomputable def l__law_stream_2 : DS := (dSeq (dSet 5 (dOp2 gMod (dOpA gInt (dCons (dOp2 gAdd (dOp2 gAdd (dOp2 gMul (dVar 5) (dC (.int 48271))) (dOp2 gMul (dC (.int 7)) (dVar 4))) (dC (.int 11))) dNil)) (dC (.int 2147483647)))) (dExpr (dMeth "list" gAppend (dVar 1) (dCons (dOp2 gMod (dOp2 gMod (dOpA gInt (dCons (dOp2 gAdd (dOp2 gMul (dVar 5) (dC (.int 69621))) (dVar 4)) dNil)) (dC (.int 2147483629))) (dC (.int 1009))) dNil))))
noncomputable def l__law_stream_3 : DS := (dSeq (dSet 3 (dOpA gInt (dCons (dVar 2) dNil))) (dIfS (dCmp gGe (dVar 3) (dOp2 gPow (dC (.int 10)) (dC (.int 18)))) (dFor (dRng1 (dCons (dC (.int 60)) dNil)) (gN 4) [4] l__law_stream_1) (dSeq (dSet 5 (dOp2 gMod (dOpA gInt (dCons (dVar 3) dNil)) (dC (.int 2147483647)))) (dFor (dRng1 (dCons (dC (.int 10)) dNil)) (gN 4) [4] l__law_stream_2))))
noncomputable def b__law_stream : DS := (dSeq (dSet 1 (dLst dNil)) (dSeq (dFor (dSeqI (dSl (dVar 0) dNoPart (dPart (dC (.int 63))))) (gN 2) [2, 3, 4, 5] l__law_stream_3) (dSeq (dIfS (dCmp gEq (dOpA gLen (dCons (dVar 1) dNil)) (dC (.int 0))) (dExpr (dMeth "list" gAppend (dVar 1) (dCons (dC (.int 0)) dNil))) dPass) (dRet (dVar 1)))))
noncomputable def F__law_stream : DF := dDef 1 6 b__law_stream

/-- numbers of a stream -/
def Good (ns : List Int) : Prop := ∀ n ∈ ns, 0 ≤ n ∧ n < 1009
theorem Good.snoc {ns : List Int} {i : Int} (h : Good ns) (h0 : 0 ≤ i) (h1 : i < 1009) : Good (ns ++ [i]) := fun n hn => by
  rcases List.mem_append.mp hn with q | q
  · exact h n q
  · rw [List.mem_singleton] at q
    subst q
    exact ⟨h0, h1⟩
theorem stream1 {S T : Sto} {q c z : Option PV} : ∀ (l : List Int) (ns : List Int) (r : Int), Good ns → ns.length + l.length ≤ 4000 → ∃ ns' r', Good ns' ∧ ns'.length ≤ ns.length + l.length ∧
    forL (gN 4) [4] l__law_stream_1 [] (intsP l) [q, some (.loc S.length), c, some (.int r), none, z] (S ++ .lst (intsP ns) :: T) = some (.next [q, some (.loc S.length), c, some (.int r'), none, z] (S ++ .lst (intsP ns') :: T))
  | [], ns, r, g, hl => ⟨ns, r, g, by simp, by rw [intsP_nil, forL_nil (by simp)]⟩
  | i :: l, ns, r, g, hl => by
    rw [List.length_cons] at hl
    have h0 := Int.emod_nonneg r (show (1009 : Int) ≠ 0 by omega)
    have h1 := Int.emod_lt_of_pos r (show (0 : Int) < 1009 by omega)
    have hap : gAppend (.loc S.length) [.int (r % 1009)] (S ++ .lst (intsP ns) :: T) = some (.ok .non (S ++ .lst (intsP (ns ++ [r % 1009])) :: T)) := by
      rw [ev_append at_0 (by rw [intsP_len]; omega), put_0, intsP_snoc]
    have hty := ev_tyL (at_0 (S := S) (T := T) (o := .lst (intsP ns)))  
    rw [intsP_cons, forL_cons (by simp)]
    by_cases hz : r / 1009 = 0
    · refine ⟨ns ++ [r % 1009], r / 1009, g.snoc h0 h1, by simp, ?_⟩
      simp [l__law_stream_1, hty, hap, ev_mod (show (0 : Int) < 1009 by omega), ev_div (show (0 : Int) < 1009 ∧ (1009 : Int) < 1073741824 by omega), hz]
    · obtain ⟨ns', r', g', hl', ih⟩ := stream1 (S := S) (T := T) (q := q) (c := c) (z := z) l (ns ++ [r % 1009]) (r / 1009) (g.snoc h0 h1) (by simp; omega)
      refine ⟨ns', r', g', by simp at hl' ⊢; omega, ?_⟩
      simp [l__law_stream_1, hty, hap, ev_mod (show (0 : Int) < 1009 by omega), ev_div (show (0 : Int) < 1009 ∧ (1009 : Int) < 1073741824 by omega), hz]
      exact ih
theorem stream2 {S T : Sto} {q c z : Option PV} : ∀ (l : List Int) (ns : List Int) (r : Int), Good ns → ns.length + l.length ≤ 4000 → ∃ ns' r', Good ns' ∧ ns'.length ≤ ns.length + l.length ∧
    forL (gN 4) [4] l__law_stream_2 [] (intsP l) [q, some (.loc S.length), c, z, none, some (.int r)] (S ++ .lst (intsP ns) :: T) = some (.next [q, some (.loc S.length), c, z, none, some (.int r')] (S ++ .lst (intsP ns') :: T))
  | [], ns, r, g, hl => ⟨ns, r, g, by simp, by rw [intsP_nil, forL_nil (by simp)]⟩
  | i :: l, ns, r, g, hl => by
    rw [List.length_cons] at hl
    generalize hm : (r * 48271 + 7 * i + 11) % 2147483647 = m
    generalize hv : (m * 69621 + i) % 2147483629 % 1009 = v
    have h0 : 0 ≤ v := by rw [← hv]; exact Int.emod_nonneg _ (by omega)
    have h1 : v < 1009 := by rw [← hv]; exact Int.emod_lt_of_pos _ (by omega)
    have hap : gAppend (.loc S.length) [.int v] (S ++ .lst (intsP ns) :: T) = some (.ok .non (S ++ .lst (intsP (ns ++ [v])) :: T)) := by
      rw [ev_append at_0 (by rw [intsP_len]; omega), put_0, intsP_snoc]
    have hty := ev_tyL (at_0 (S := S) (T := T) (o := .lst (intsP ns)))
    obtain ⟨ns', r', g', hl', ih⟩ := stream2 (S := S) (T := T) (q := q) (c := c) (z := z) l (ns ++ [v]) m (g.snoc h0 h1) (by simp; omega)
    refine ⟨ns', r', g', by simp at hl' ⊢; omega, ?_⟩
    rw [intsP_cons, forL_cons (by simp)]
    simp [l__law_stream_2, hty, ev_mulR (show -(2 ^ 64) < (48271 : Int) ∧ (48271 : Int) < 2 ^ 64 by omega), ev_mulR (show -(2 ^ 64) < (69621 : Int) ∧ (69621 : Int) < 2 ^ 64 by omega), ev_mulL (show -(2 ^ 64) < (7 : Int) ∧ (7 : Int) < 2 ^ 64 by omega),
      ev_mod (show (0 : Int) < 2147483647 by omega), ev_mod (show (0 : Int) < 2147483629 by omega), ev_mod (show (0 : Int) < 1009 by omega), hm, hv, hap]
    exact ih
theorem range_ints (lo : Int) (n : Nat) : rangeP lo n = intsP ((List.range n).map fun i : Nat => lo + (i : Int)) := by
  unfold rangeP intsP
  rw [List.map_map]
  rfl
theorem stream3 {S : Sto} {q : Option PV} {sl : List PV} : ∀ (l : List Int) (ns : List Int), Good ns → ns.length + 60 * l.length ≤ 4000 → ∃ ns', Good ns' ∧ ns'.length ≤ ns.length + 60 * l.length ∧
    forL (gN 2) [2, 3, 4, 5] l__law_stream_3 [(S.length + 1, .lst sl)] (intsP l) [q, some (.loc S.length), none, none, none, none] (S ++ [.lst (intsP ns), .lst sl]) = some (.next [q, some (.loc S.length), none, none, none, none] (S ++ [.lst (intsP ns'), .lst sl]))
  | [], ns, g, hl => ⟨ns, g, by simp, by rw [intsP_nil, forL_nil (by simp)]⟩
  | i :: l, ns, g, hl => by
    rw [List.length_cons] at hl
    rw [intsP_cons, forL_cons (by simp)]
    have hp : (10 : Int) ^ 18 = 1000000000000000000 := by decide
    by_cases hc : 1000000000000000000 ≤ i
    · obtain ⟨n1, r1, g1, l1, e1⟩ := stream1 (S := S) (T := [.lst sl]) (q := q) (c := some (.int i)) (z := none) ((List.range 60).map fun i : Nat => (0 : Int) + (i : Int)) ns i g (by simp; omega)
      obtain ⟨n2, g2, l2, e2⟩ := stream3 (S := S) (q := q) (sl := sl) l n1 g1 (by simp at l1; omega)
      refine ⟨n2, g2, by simp at l1; rw [List.length_cons]; omega, ?_⟩
      rw [← range_ints] at e1
      simp [l__law_stream_3, ev_pow (show CPowD 10 18 by unfold CPowD; decide), hp, hc, e1]
      exact e2
    · obtain ⟨n1, r1, g1, l1, e1⟩ := stream2 (S := S) (T := [.lst sl]) (q := q) (c := some (.int i)) (z := some (.int i)) ((List.range 10).map fun i : Nat => (0 : Int) + (i : Int)) ns (i % 2147483647) g (by simp; omega)
      obtain ⟨n2, g2, l2, e2⟩ := stream3 (S := S) (q := q) (sl := sl) l n1 g1 (by simp at l1; omega)
      refine ⟨n2, g2, by simp at l1; rw [List.length_cons]; omega, ?_⟩
      rw [← range_ints] at e1
      simp [l__law_stream_3, ev_pow (show CPowD 10 18 by unfold CPowD; decide), hp, hc, ev_mod (show (0 : Int) < 2147483647 by omega), e1]
      exact e2
theorem stream_spec {S : Sto} {k : Nat} {ns : List Int} (h : S[k]? = some (.fz (intsP ns))) : ∃ l, l ≠ [] ∧ Good l ∧ l.length ≤ 4000 ∧ F__law_stream [.loc k] S = some (.ok (.loc S.length) (S ++ [.lst (intsP l)])) := by
  have hc : cutP (intsP ns) none (some 63) = intsP (ns.take 63) := by
    rw [cut_to (by omega)]
    unfold intsP
    rw [List.map_take]
    rfl
  obtain ⟨n2, g2, l2, e2⟩ := stream3 (S := S) (q := some (.loc k)) (sl := intsP (ns.take 63)) (ns.take 63) [] (fun n hn => by cases hn) (by rw [List.length_take]; simp; omega)
  have hsl : gSl (.loc k) none (some 63) (S ++ [.lst []]) = some (.ok (.loc (S.length + 1)) (S ++ [.lst [], .lst (intsP (ns.take 63))])) := by
    rw [ev_gSlF (at_old h), hc]
    simp
  by_cases he : n2 = []
  · subst he
    refine ⟨[0], by simp, fun n hn => by simp at hn; subst hn; omega, by simp, ?_⟩
    refine call_new (T := [.lst (intsP [0]), .lst (intsP (ns.take 63))]) (l := intsP [0]) (j := S.length) ?_ at_0 (Nat.le_refl _) (noLocs_ints _)
    simp at e2
    simp [b__law_stream, hsl, e2]
    simp [ev_lenL (at_0 (S := S) (T := [.lst (intsP (ns.take 63))]) (o := .lst [])), ev_tyL (at_0 (S := S) (T := [.lst (intsP (ns.take 63))]) (o := .lst [])), ev_append (at_0 (S := S) (T := [.lst (intsP (ns.take 63))]) (o := .lst []))]
  · refine ⟨n2, he, g2, by rw [List.length_take] at l2; simp at l2; omega, ?_⟩
    refine call_new (T := [.lst (intsP n2), .lst (intsP (ns.take 63))]) (l := intsP n2) (j := S.length) ?_ at_0 (Nat.le_refl _) (noLocs_ints _)
    have hn : ¬ ((n2.length : Int) = 0) := by
      cases n2 with
      | nil => exact absurd rfl he
      | cons a b => simp; omega
    simp at e2
    simp [b__law_stream, hsl, e2]
    simp [ev_lenL (at_0 (S := S) (T := [.lst (intsP (ns.take 63))]) (o := .lst (intsP n2))), he]
end G

namespace G
open PySem PySem.Spec PyProof.Rows L2 D
noncomputable def l_closed_days_1 : DS := (dIfS (dCmp gGt (dVar 1) (dVar 2)) (dRaise "NotAllowed") dPass)
noncomputable def l_closed_days_2 : DS := (dIfS (dAndT (dCmp gGt (dOpA gLen (dCons (dVar 3) dNil)) (dC (.int 0))) (dCmp gLe (dVar 1) (dOp2 gAdd (dOp2 gIx (dOp2 gIx (dVar 3) (dOp1 gNeg (dC (.int 1)))) (dC (.int 1))) (dC (.int 1))))) (dIfS (dCmp gGt (dVar 2) (dOp2 gIx (dOp2 gIx (dVar 3) (dOp1 gNeg (dC (.int 1)))) (dC (.int 1)))) (dAsg (gSubT gSetL (dVar 3) (dOp1 gNeg (dC (.int 1)))) (dTup (dCons (dOp2 gIx (dOp2 gIx (dVar 3) (dOp1 gNeg (dC (.int 1)))) (dC (.int 0))) (dCons (dVar 2) dNil)))) dPass) (dExpr (dMeth "list" gAppend (dVar 3) (dCons (dTup (dCons (dVar 1) (dCons (dVar 2) dNil))) dNil))))
noncomputable def b_closed_days : DS := (dSeq (dFor (dSeqI (dVar 0)) (gT 2 (gsCons (gN 1) (gsCons (gN 2) gsNil))) [1, 2] l_closed_days_1) (dSeq (dSet 3 (dLst dNil)) (dSeq (dFor (dSeqI (dOpA gSorted (dCons (dVar 0) dNil))) (gT 2 (gsCons (gN 1) (gsCons (gN 2) gsNil))) [1, 2] l_closed_days_2) (dRet (dOpA gTuple (dCons (dVar 3) dNil))))))
noncomputable def F_closed_days : DF := dDef 1 4 b_closed_days

abbrev P2 := Int × Int
def allOk (l : List P2) : Bool := l.all fun p => decide (p.1 ≤ p.2)
/-- stretches joined, c the one at hand -/
def mrg : P2 → List P2 → List P2
  | c, [] => [c]
  | c, p :: r => if p.1 ≤ c.2 + 1 then (if p.2 > c.2 then mrg (c.1, p.2) r else mrg c r) else c :: mrg p r
def mergeL : List P2 → List P2
  | [] => []
  | p :: r => mrg p r
def closedL (l : List P2) : List P2 := mergeL (sortPr l)
theorem cd_loop1 {S : Sto} {k : Nat} {l0 : List PV} {z : Option PV} (hk : S[k]? = some (.lst l0)) : ∀ l : List P2, forL (gT 2 (gsCons (gN 1) (gsCons (gN 2) gsNil))) [1, 2] l_closed_days_1 [(k, .lst l0)] (pairsP l) [some (.loc k), none, none, z] S =
    if allOk l = true then some (.next [some (.loc k), none, none, z] S) else (match l.find? fun p => decide (p.2 < p.1) with
      | some p => some (.exc ⟨"NotAllowed", []⟩ [some (.loc k), some (.int p.1), some (.int p.2), z] S)
      | none => none)
  | [] => by rw [pairsP_nil, forL_nil (by simp [hk])]; rfl
  | p :: r => by
    have ih := cd_loop1 (z := z) hk r
    rw [pairsP_cons, forL_cons (by simp [hk])]
    by_cases h : p.2 < p.1
    · have h2 : ¬ p.1 ≤ p.2 := by omega
      simp [pairP, l_closed_days_1, h, allOk, h2]
    · have h2 : p.1 ≤ p.2 := by omega
      have ha : allOk (p :: r) = allOk r := by simp [allOk, h2]
      rw [ha]
      simp [pairP, l_closed_days_1, h]
      exact ih
section
variable {S : Sto} {q : Option PV} {sl : List PV}
theorem cd_loop2 : ∀ (l : List P2) (init : List P2) (c : P2), init.length + l.length ≤ 1000000 → forL (gT 2 (gsCons (gN 1) (gsCons (gN 2) gsNil))) [1, 2] l_closed_days_2 [(S.length + 1, .lst sl)] (pairsP l) [q, none, none, some (.loc S.length)] (S ++ [.lst (pairsP (init ++ [c])), .lst sl]) =
    some (.next [q, none, none, some (.loc S.length)] (S ++ [.lst (pairsP (init ++ mrg c l)), .lst sl]))
  | [], init, c, hl => by rw [pairsP_nil, forL_nil (by simp)]; rfl
  | p :: r, init, c, hl => by
    rw [List.length_cons] at hl
    have h0 := at_0 (S := S) (T := [.lst sl]) (o := .lst (pairsP (init ++ [c])))
    have hlast : atI (pairsP (init ++ [c])) (-1) = some (pairP c) := by
      rw [← pairsP_snoc]; exact atI_last
    have hlen : (0 : Int) < ((init ++ [c]).length : Int) := by simp <;> omega
    rw [pairsP_cons, forL_cons (by simp)]
    unfold mrg
    by_cases h1 : p.1 ≤ c.2 + 1
    · by_cases h2 : c.2 < p.2
      · have ih := cd_loop2 r init (c.1, p.2) (by omega)
        have hst : gSetL (.loc S.length) (.int (-1)) (.tup [.int c.1, .int p.2]) (S ++ [.lst (pairsP (init ++ [c])), .lst sl]) = some (S ++ [.lst (pairsP (init ++ [(c.1, p.2)])), .lst sl]) := by
          unfold gSetL
          dsimp only
          rw [h0]
          have hix : ixN (pairsP (init ++ [c])).length (-1) = some init.length := by
            unfold ixN
            rw [if_neg (by omega), if_pos (by rw [pairsP_len, List.length_append, List.length_singleton]; omega)]
            congr 1
            rw [pairsP_len, List.length_append, List.length_singleton]
            omega
          dsimp only
          rw [hix]
          dsimp only
          rw [put_0, pairsP_append, pairsP_append]
          congr 4
          rw [List.set_append_right _ _ (by rw [pairsP_len]; exact Nat.le_refl _), pairsP_len, Nat.sub_self]
          rfl
        simp [pairP, l_closed_days_2, h1, h2, ev_lenL h0, hlen, ev_ixL h0 hlast, hst]
        exact ih
      · have ih := cd_loop2 r init c (by omega)
        simp [pairP, l_closed_days_2, h1, h2, ev_lenL h0, hlen, ev_ixL h0 hlast]
        exact ih
    · have ih := cd_loop2 r (init ++ [c]) p (by rw [List.length_append, List.length_singleton]; omega)
      have hap : gAppend (.loc S.length) [.tup [.int p.1, .int p.2]] (S ++ [.lst (pairsP (init ++ [c])), .lst sl]) = some (.ok .non (S ++ [.lst (pairsP (init ++ [c] ++ [p])), .lst sl])) := by
        rw [ev_append h0 (by rw [pairsP_len, List.length_append, List.length_singleton]; omega), put_0]
        rw [← pairsP_snoc (init ++ [c]) p]
        rfl
      simp [pairP, l_closed_days_2, h1, ev_lenL h0, hlen, ev_ixL h0 hlast, ev_tyL h0, hap]
      simp only [List.append_assoc, List.cons_append, List.nil_append] at ih
      exact ih
theorem cd_loop2' : ∀ (l : List P2), l.length ≤ 1000000 → forL (gT 2 (gsCons (gN 1) (gsCons (gN 2) gsNil))) [1, 2] l_closed_days_2 [(S.length + 1, .lst sl)] (pairsP l) [q, none, none, some (.loc S.length)] (S ++ [.lst [], .lst sl]) =
    some (.next [q, none, none, some (.loc S.length)] (S ++ [.lst (pairsP (mergeL l)), .lst sl]))
  | [], hl => by rw [pairsP_nil, forL_nil (by simp)]; rfl
  | p :: r, hl => by
    rw [List.length_cons] at hl
    have h0 := at_0 (S := S) (T := [.lst sl]) (o := .lst [])
    have ih := cd_loop2 (S := S) (q := q) (sl := sl) r [] p (by simp; omega)
    rw [pairsP_cons, forL_cons (by simp)]
    have hap : gAppend (.loc S.length) [.tup [.int p.1, .int p.2]] (S ++ [.lst [], .lst sl]) = some (.ok .non (S ++ [.lst (pairsP [p]), .lst sl])) := by
      rw [ev_append h0 (by simp), put_0]
      rfl
    simp [pairP, l_closed_days_2, ev_lenL h0, ev_tyL h0, hap]
    exact ih
end
theorem allOk_find {l : List P2} (h : allOk l = false) : ∃ p, l.find? (fun p => decide (p.2 < p.1)) = some p := by
  induction l with
  | nil => cases h
  | cons p r ih =>
    by_cases h1 : p.2 < p.1
    · exact ⟨p, by simp [h1]⟩
    · have h2 : p.1 ≤ p.2 := by omega
      simp [allOk, h2] at h
      obtain ⟨p2, e⟩ := ih (by simp [allOk]; exact h)
      exact ⟨p2, by simp [h1, e]⟩
theorem closed_spec {S : Sto} {k : Nat} {l : List P2} (h : S[k]? = some (.lst (pairsP l))) (ok : allOk l = true) (hl : l.length ≤ 1000000) : F_closed_days [.loc k] S = some (.ok (.tup (pairsP (closedL l))) S) := by
  refine call_val (T := [.lst (pairsP (closedL l)), .lst (pairsP (sortPr l))]) ?_ (noLocs_pairs _)
  have e1 := cd_loop1 (S := S) (k := k) (z := none) h l
  rw [if_pos ok] at e1
  have e2 := cd_loop2' (S := S) (q := some (.loc k)) (sl := pairsP (sortPr l)) (sortPr l) (by rw [(sortPr_perm l).length_eq]; exact hl)
  have hs : gSorted [.loc k] (S ++ [.lst []]) = some (.ok (.loc (S.length + 1)) (S ++ [.lst [], .lst (pairsP (sortPr l))])) := by
    rw [ev_sortedP (at_old h)]
    simp
  simp [b_closed_days, h, e1, hs, e2, ev_tupleL (at_0 (S := S) (T := [.lst (pairsP (sortPr l))]) (o := .lst (pairsP (mergeL (sortPr l))))), closedL]
theorem closed_exc {S : Sto} {k : Nat} {l : List P2} (h : S[k]? = some (.lst (pairsP l))) (ok : allOk l = false) : F_closed_days [.loc k] S = some (.exc ⟨"NotAllowed", []⟩ S) := by
  have e1 := cd_loop1 (S := S) (k := k) (z := none) h l
  rw [if_neg (by rw [ok]; simp)] at e1
  obtain ⟨p, hp⟩ := allOk_find ok
  rw [hp] at e1
  refine call_exc0 (ρ := [some (.loc k), some (.int p.1), some (.int p.2), none]) ?_
  simp [b_closed_days, h, e1]

/-! ### what is made -/
theorem formB_some {b : Option Int} {c : Int} {l : List P2} (h : formB (some c) l = true) (hb : ∀ x, b = some x → x ≤ c) : formB b l = true := by
  cases l with
  | nil => rfl
  | cons p r =>
    unfold formB at h ⊢
    by_cases h1 : p.1 > p.2
    · simp [h1] at h
    · by_cases h2 : p.1 < c + 2
      · simp [h1, h2] at h
      · simp [h1, h2] at h
        cases b with
        | none => simp [h1, h]
        | some x =>
          have h3 : ¬ p.1 < x + 2 := by
            have := hb x rfl
            omega
          simp [h1, h3, h]
theorem form_mrg : ∀ (r : List P2) (c : P2) (b : Option Int), c.1 ≤ c.2 → allOk r = true → (∀ x, b = some x → x + 2 ≤ c.1) → formB b (mrg c r) = true
  | [], c, b, h, _, hb => by
    unfold mrg formB
    rw [if_neg (by omega)]
    cases b with
    | none => rfl
    | some x =>
      have := hb x rfl
      rw [if_neg (by simp; omega)]
      rfl
  | p :: r, c, b, h, ok, hb => by
    simp only [allOk, List.all_cons, Bool.and_eq_true, decide_eq_true_eq] at ok
    have ok2 : allOk r = true := ok.2
    unfold mrg
    by_cases h1 : p.1 ≤ c.2 + 1
    · rw [if_pos h1]
      by_cases h2 : p.2 > c.2
      · rw [if_pos h2]
        exact form_mrg r (c.1, p.2) b (by show c.1 ≤ p.2; omega) ok2 hb
      · rw [if_neg h2]
        exact form_mrg r c b h ok2 hb
    · rw [if_neg h1]
      have ih := form_mrg r p (some c.2) ok.1 ok2 (fun x e => by cases e; omega)
      unfold formB
      rw [if_neg (by omega)]
      cases b with
      | none => simpa using ih
      | some x =>
        have := hb x rfl
        rw [if_neg (by simp; omega)]
        exact ih
theorem form_closed {l : List P2} (ok : allOk l = true) : formB none (closedL l) = true := by
  have ok2 : allOk (sortPr l) = true := by
    unfold allOk at ok ⊢
    rw [List.all_eq_true] at ok ⊢
    exact fun p hp => ok p ((sortPr_perm l).mem_iff.mp hp)
  unfold closedL
  cases e : sortPr l with
  | nil => rfl
  | cons p r =>
    rw [e] at ok2
    simp only [allOk, List.all_cons, Bool.and_eq_true, decide_eq_true_eq] at ok2
    exact form_mrg r p none ok2.1 ok2.2 (fun x z => by cases z)
/-- a day is in one of them -/
def Cov (l : List P2) (d : Int) : Prop := ∃ p ∈ l, p.1 ≤ d ∧ d ≤ p.2
theorem cov_mrg {d : Int} : ∀ (r : List P2) (c : P2), c.1 ≤ c.2 → allOk r = true → (c :: r).Pairwise (fun p q => p.1 ≤ q.1) → (Cov (mrg c r) d ↔ Cov (c :: r) d)
  | [], c, h, ok, hs => Iff.rfl
  | p :: r, c, h, ok, hs => by
    simp only [allOk, List.all_cons, Bool.and_eq_true, decide_eq_true_eq] at ok
    have ok2 : allOk r = true := ok.2
    have hcp : c.1 ≤ p.1 := (List.pairwise_cons.mp hs).1 p (by simp)
    have hs2 := (List.pairwise_cons.mp hs).2
    have hc := (List.pairwise_cons.mp hs).1
    have hp := (List.pairwise_cons.mp hs2).1
    unfold mrg
    by_cases h1 : p.1 ≤ c.2 + 1
    · rw [if_pos h1]
      by_cases h2 : p.2 > c.2
      · rw [if_pos h2, cov_mrg r (c.1, p.2) (by show c.1 ≤ p.2; omega) ok2 (List.pairwise_cons.mpr ⟨fun q hq => Int.le_trans hcp (hp q hq), (List.pairwise_cons.mp hs2).2⟩)]
        unfold Cov
        simp only [List.mem_cons]
        constructor
        · rintro ⟨q, rfl | hq, h3⟩
          · by_cases h4 : d ≤ c.2
            · exact ⟨c, .inl rfl, h3.1, h4⟩
            · exact ⟨p, .inr (.inl rfl), by omega, h3.2⟩
          · exact ⟨q, .inr (.inr hq), h3⟩
        · rintro ⟨q, rfl | rfl | hq, h3⟩
          · exact ⟨_, .inl rfl, h3.1, by show d ≤ p.2; omega⟩
          · exact ⟨_, .inl rfl, by show c.1 ≤ d; omega, h3.2⟩
          · exact ⟨q, .inr hq, h3⟩
      · rw [if_neg h2, cov_mrg r c h ok2 (List.pairwise_cons.mpr ⟨fun q hq => Int.le_trans hcp (hp q hq), (List.pairwise_cons.mp hs2).2⟩)]
        unfold Cov
        simp only [List.mem_cons]
        constructor
        · rintro ⟨q, rfl | hq, h3⟩
          · exact ⟨_, .inl rfl, h3⟩
          · exact ⟨q, .inr (.inr hq), h3⟩
        · rintro ⟨q, rfl | rfl | hq, h3⟩
          · exact ⟨_, .inl rfl, h3⟩
          · exact ⟨_, .inl rfl, by omega, by omega⟩
          · exact ⟨q, .inr hq, h3⟩
    · rw [if_neg h1]
      have ih := cov_mrg (d := d) r p ok.1 ok2 hs2
      unfold Cov at ih ⊢
      simp only [List.mem_cons] at ih ⊢
      constructor
      · rintro ⟨q, rfl | hq, h3⟩
        · exact ⟨_, .inl rfl, h3⟩
        · obtain ⟨q2, hq2, h4⟩ := ih.mp ⟨q, hq, h3⟩
          exact ⟨q2, .inr hq2, h4⟩
      · rintro ⟨q, rfl | hq, h3⟩
        · exact ⟨_, .inl rfl, h3⟩
        · obtain ⟨q2, hq2, h4⟩ := ih.mpr ⟨q, hq, h3⟩
          exact ⟨q2, .inr hq2, h4⟩
theorem sortPr_fst (l : List P2) : (sortPr l).Pairwise fun p q => p.1 ≤ q.1 := (sortPr_sorted l).imp fun h => by omega
theorem cov_closed {l : List P2} (ok : allOk l = true) (d : Int) : Cov (closedL l) d ↔ Cov l d := by
  have ok2 : allOk (sortPr l) = true := by
    unfold allOk at ok ⊢
    rw [List.all_eq_true] at ok ⊢
    exact fun p hp => ok p ((sortPr_perm l).mem_iff.mp hp)
  have hs := sortPr_fst l
  have hp : Cov (sortPr l) d ↔ Cov l d := by
    unfold Cov
    constructor
    · rintro ⟨p, h, q⟩; exact ⟨p, (sortPr_perm l).mem_iff.mp h, q⟩
    · rintro ⟨p, h, q⟩; exact ⟨p, (sortPr_perm l).mem_iff.mpr h, q⟩
  unfold closedL
  cases e : sortPr l with
  | nil => rw [e] at hp; exact hp
  | cons p r =>
    rw [e] at ok2 hs hp
    simp only [allOk, List.all_cons, Bool.and_eq_true, decide_eq_true_eq] at ok2
    exact (cov_mrg r p ok2.1 ok2.2 hs).trans hp
theorem mrg_bounds {lo hi : Int} : ∀ (r : List P2) (c : P2), (∀ p ∈ c :: r, lo ≤ p.1 ∧ p.2 ≤ hi) → ∀ p ∈ mrg c r, lo ≤ p.1 ∧ p.2 ≤ hi
  | [], c, h => h
  | p :: r, c, h => by
    have hc := h c (by simp)
    have hp := h p (by simp)
    have hr : ∀ q ∈ r, lo ≤ q.1 ∧ q.2 ≤ hi := fun q hq => h q (by simp [hq])
    unfold mrg
    split
    · split
      · exact mrg_bounds r (c.1, p.2) fun q hq => by
          rcases List.mem_cons.mp hq with rfl | hq
          · exact ⟨hc.1, hp.2⟩
          · exact hr q hq
      · exact mrg_bounds r c fun q hq => by
          rcases List.mem_cons.mp hq with rfl | hq
          · exact hc
          · exact hr q hq
    · intro q hq
      rcases List.mem_cons.mp hq with rfl | hq
      · exact hc
      · exact mrg_bounds r p (fun q hq => by
          rcases List.mem_cons.mp hq with rfl | hq
          · exact hp
          · exact hr q hq) q hq
theorem closed_bounds {lo hi : Int} {l : List P2} (h : ∀ p ∈ l, lo ≤ p.1 ∧ p.2 ≤ hi) : ∀ p ∈ closedL l, lo ≤ p.1 ∧ p.2 ≤ hi := by
  unfold closedL
  cases e : sortPr l with
  | nil => intro p hp; cases hp
  | cons c r => exact mrg_bounds r c fun p hp => h p ((sortPr_perm l).mem_iff.mp (by rw [e]; exact hp))
/-- what is of the one form stays -/
theorem mrg_form : ∀ (r : List P2) (c : P2), formB (some c.2) r = true → mrg c r = c :: r
  | [], c, _ => rfl
  | p :: r, c, h => by
    unfold formB at h
    by_cases h1 : p.1 > p.2
    · simp [h1] at h
    · by_cases h2 : p.1 < c.2 + 2
      · simp [h1, h2] at h
      · simp [h1, h2] at h
        unfold mrg
        rw [if_neg (by omega), mrg_form r p h]
theorem form_all {l : List P2} : ∀ {b : Option Int}, formB b l = true → (∀ p ∈ l, p.1 ≤ p.2) ∧ (∀ x, b = some x → ∀ p ∈ l, x + 2 ≤ p.1) ∧ l.Pairwise (fun p q => p.2 + 2 ≤ q.1) := by
  induction l with
  | nil => intro b _; exact ⟨by simp, by simp, .nil⟩
  | cons p r ih =>
    intro b h
    unfold formB at h
    by_cases h1 : p.1 > p.2
    · simp [h1] at h
    · have hr : formB (some p.2) r = true := by
        cases b with
        | none => simpa [h1] using h
        | some x =>
          by_cases h2 : p.1 < x + 2
          · simp [h1, h2] at h
          · simpa [h1, h2] using h
      have hb : ∀ x, b = some x → x + 2 ≤ p.1 := by
        intro x e
        subst e
        by_cases h2 : p.1 < x + 2
        · simp [h1, h2] at h
        · omega
      obtain ⟨i1, i2, i3⟩ := ih hr
      refine ⟨fun q hq => ?_, fun x e q hq => ?_, List.pairwise_cons.mpr ⟨fun q hq => i2 _ rfl q hq, i3⟩⟩
      · rcases List.mem_cons.mp hq with rfl | hq
        · omega
        · exact i1 q hq
      · have := hb x e
        rcases List.mem_cons.mp hq with rfl | hq
        · exact this
        · have := i2 _ rfl q hq
          omega
theorem form_ok {l : List P2} {b : Option Int} (h : formB b l = true) : allOk l = true := by
  unfold allOk
  rw [List.all_eq_true]
  exact fun p hp => decide_eq_true ((form_all h).1 p hp)
theorem closed_same {l : List P2} (h : formB none l = true) : closedL l = l := by
  obtain ⟨h1, _, h3⟩ := form_all h
  have hs : sortPr l = l := sortPr_same (h3.imp_of_mem fun {p q} hp hq hpq => by
    have := h1 p hp
    omega)
  unfold closedL
  rw [hs]
  cases l with
  | nil => rfl
  | cons p r =>
    refine mrg_form r p ?_
    unfold formB at h
    by_cases h1 : p.1 > p.2
    · simp [h1] at h
    · simpa [h1] using h
end G

namespace G
open PySem PySem.Spec PyProof.Rows L2 D
noncomputable def b__law_same : DS := (dRet (dAnd2 (dOpA gIsa (dCons (dVar 0) (dCons (dC (.ty "bool")) dNil))) (dOp2 gEq (dVar 0) (dVar 1))))
noncomputable def F__law_same : DF := dDef 2 2 b__law_same
noncomputable def l_stretch_at_1 : DS := (dIfS (dChainT gLe gLe (dVar 2) (dVar 1) (dVar 3)) (dRet (dTup (dCons (dVar 2) (dCons (dVar 3) dNil)))) dPass)
noncomputable def b_stretch_at : DS := (dSeq (dFor (dSeqI (dVar 0)) (gT 2 (gsCons (gN 2) (gsCons (gN 3) gsNil))) [2, 3] l_stretch_at_1) (dRet (dC .non)))
noncomputable def F_stretch_at : DF := dDef 2 4 b_stretch_at
noncomputable def b_is_open : DS := (dRet (dOp2 gIs (dOpA F_stretch_at (dCons (dVar 0) (dCons (dVar 1) dNil))) (dC .non)))
noncomputable def F_is_open : DF := dDef 2 2 b_is_open
noncomputable def b_next_open : DS := (dSeq (dSet 2 (dOpA F_stretch_at (dCons (dVar 0) (dCons (dVar 1) dNil)))) (dSeq (dIfS (dCmp gIs (dVar 2) (dC .non)) (dRet (dVar 1)) dPass) (dRet (dOp2 gAdd (dOp2 gIx (dVar 2) (dC (.int 1))) (dC (.int 1))))))
noncomputable def F_next_open : DF := dDef 2 3 b_next_open
noncomputable def b_prev_open : DS := (dSeq (dSet 2 (dOpA F_stretch_at (dCons (dVar 0) (dCons (dVar 1) dNil)))) (dSeq (dIfS (dCmp gIs (dVar 2) (dC .non)) (dRet (dVar 1)) dPass) (dRet (dOp2 gSub (dOp2 gIx (dVar 2) (dC (.int 0))) (dC (.int 1))))))
noncomputable def F_prev_open : DF := dDef 2 3 b_prev_open
theorem same_spec {S : Sto} {a b : Bool} : F__law_same [.bl a, .bl b] S = some (.ok (.bl (decide (a = b))) S) := by
  refine call_val0 ?_ rfl
  simp [b__law_same]
/-- the stretch in which a day lies -/
def atS (l : List P2) (d : Int) : Option P2 := l.find? fun p => decide (p.1 ≤ d) && decide (d ≤ p.2)
def optPr : Option P2 → PV
  | none => .non
  | some p => pairP p
theorem atS_some {l : List P2} {d : Int} {p : P2} (h : atS l d = some p) : p ∈ l ∧ p.1 ≤ d ∧ d ≤ p.2 := by
  unfold atS at h
  have h1 := List.mem_of_find?_eq_some h
  have h2 := List.find?_some h
  simp at h2
  exact ⟨h1, h2⟩
theorem atS_none {l : List P2} {d : Int} (h : atS l d = none) : ∀ p ∈ l, ¬ (p.1 ≤ d ∧ d ≤ p.2) := by
  unfold atS at h
  intro p hp
  have := List.find?_eq_none.mp h p hp
  simpa using this
theorem atS_no {l : List P2} {d : Int} (h : ∀ p ∈ l, ¬ (p.1 ≤ d ∧ d ≤ p.2)) : atS l d = none := by
  unfold atS
  rw [List.find?_eq_none]
  intro p hp
  simpa using h p hp
theorem at_loop {S : Sto} {q : PV} {d : Int} : ∀ l : List P2, forL (gT 2 (gsCons (gN 2) (gsCons (gN 3) gsNil))) [2, 3] l_stretch_at_1 [] (pairsP l) [some q, some (.int d), none, none] S =
    match atS l d with
    | some p => some (.ret (pairP p) S)
    | none => some (.next [some q, some (.int d), none, none] S)
  | [] => by rw [pairsP_nil, forL_nil (by simp)]; rfl
  | p :: r => by
    have ih := at_loop (S := S) (q := q) (d := d) r
    have hc : atS (p :: r) d = if (decide (p.1 ≤ d) && decide (d ≤ p.2)) = true then some p else atS r d := by
      unfold atS
      rw [List.find?_cons]
      cases (decide (p.1 ≤ d) && decide (d ≤ p.2)) <;> rfl
    rw [pairsP_cons, forL_cons (by simp), hc]
    by_cases h1 : p.1 ≤ d <;> by_cases h2 : d ≤ p.2 <;> simp [pairP, l_stretch_at_1, h1, h2] <;> exact ih
theorem stretch_spec {S : Sto} {l : List P2} {d : Int} : F_stretch_at [.tup (pairsP l), .int d] S = some (.ok (optPr (atS l d)) S) := by
  have h := at_loop (S := S) (q := .tup (pairsP l)) (d := d) l
  refine call_val0 ?_ ?_
  · simp [b_stretch_at]
    rw [h]
    cases atS l d <;> simp [optPr]
  · cases atS l d <;> rfl
theorem open_spec {S : Sto} {l : List P2} {d : Int} : F_is_open [.tup (pairsP l), .int d] S = some (.ok (.bl (atS l d).isNone) S) := by
  refine call_val0 ?_ rfl
  simp [b_is_open, stretch_spec]
  cases atS l d <;> simp [optPr, pairP]
def nextO (l : List P2) (d : Int) : Int := match atS l d with
  | none => d
  | some p => p.2 + 1
def prevO (l : List P2) (d : Int) : Int := match atS l d with
  | none => d
  | some p => p.1 - 1
theorem next_spec {S : Sto} {l : List P2} {d : Int} : F_next_open [.tup (pairsP l), .int d] S = some (.ok (.int (nextO l d)) S) := by
  refine call_val0 ?_ rfl
  simp [b_next_open, stretch_spec, nextO]
  cases atS l d <;> simp [optPr, pairP]
theorem prev_spec {S : Sto} {l : List P2} {d : Int} : F_prev_open [.tup (pairsP l), .int d] S = some (.ok (.int (prevO l d)) S) := by
  refine call_val0 ?_ rfl
  simp [b_prev_open, stretch_spec, prevO]
  cases atS l d <;> simp [optPr, pairP]
end G

namespace G
open PySem PySem.Spec PyProof.Rows L2 D
noncomputable def l__law_closed_1 : DS := (dSeq (dSet 6 (dOp2 gAdd (dVar 4) (dOpA F__law_pick (dCons (dVar 0) (dCons (dOp2 gAdd (dOp2 gAdd (dVar 1) (dC (.int 2))) (dOp2 gMul (dC (.int 2)) (dVar 5))) (dCons (dC (.int 9)) dNil)))))) (dSeq (dExpr (dMeth "list" gAppend (dVar 3) (dCons (dTup (dCons (dVar 4) (dCons (dVar 6) dNil))) dNil))) (dSet 4 (dOp2 gAdd (dOp2 gAdd (dVar 6) (dC (.int 2))) (dOpA F__law_pick (dCons (dVar 0) (dCons (dOp2 gAdd (dOp2 gAdd (dVar 1) (dC (.int 3))) (dOp2 gMul (dC (.int 2)) (dVar 5))) (dCons (dC (.int 7)) dNil))))))))
noncomputable def b__law_closed : DS := (dSeq (dSet 3 (dLst dNil)) (dSeq (dSet 4 (dOp2 gAdd (dOp2 gSub (dOpA F__law_pick (dCons (dVar 0) (dCons (dVar 1) (dCons (dC (.int 31)) dNil)))) (dC (.int 15))) (dVar 2))) (dSeq (dFor (dRng1 (dCons (dOpA F__law_pick (dCons (dVar 0) (dCons (dOp2 gAdd (dVar 1) (dC (.int 1))) (dCons (dC (.int 8)) dNil)))) dNil)) (gN 5) [5, 6] l__law_closed_1) (dRet (dOpA gTuple (dCons (dVar 3) dNil))))))
noncomputable def F__law_closed : DF := dDef 3 7 b__law_closed
/-- closed days as a law makes them -/
structure Blk (sh : Int) (l : List P2) : Prop where
  form : formB none l = true
  len : l.length ≤ 7
  wide : ∀ p ∈ l, p.2 - p.1 ≤ 8
  low : ∀ p ∈ l, sh - 15 ≤ p.1
  high : ∀ p ∈ l, p.2 ≤ sh + 200
theorem form_of {l : List P2} : ∀ {b : Option Int}, (∀ p ∈ l, p.1 ≤ p.2) → (∀ x, b = some x → ∀ p ∈ l, x + 2 ≤ p.1) → l.Pairwise (fun p q => p.2 + 2 ≤ q.1) → formB b l = true := by
  induction l with
  | nil => intro b _ _ _; rfl
  | cons p r ih =>
    intro b h1 h2 h3
    have i := ih (b := some p.2) (fun q hq => h1 q (by simp [hq])) (fun x e q hq => by cases e; exact (List.pairwise_cons.mp h3).1 q hq) (List.pairwise_cons.mp h3).2
    have hp := h1 p (by simp)
    unfold formB
    rw [if_neg (by omega)]
    cases b with
    | none => simpa using i
    | some x =>
      have := h2 x rfl p (by simp)
      rw [if_neg (by simp; omega)]
      exact i
theorem formB_snoc {l : List P2} {d e : Int} (h : formB none l = true) (hl : ∀ p ∈ l, p.2 + 2 ≤ d) (hd : d ≤ e) : formB none (l ++ [(d, e)]) = true := by
  obtain ⟨h1, _, h3⟩ := form_all h
  refine form_of (fun p hp => ?_) (fun x e => by cases e) (List.pairwise_append.mpr ⟨h3, .cons (fun _ h => by cases h) .nil, fun p hp q hq => ?_⟩)
  · rcases List.mem_append.mp hp with q | q
    · exact h1 p q
    · rw [List.mem_singleton] at q
      subst q
      exact hd
  · rw [List.mem_singleton] at hq
    subst hq
    exact hl p hp
theorem closed_loop {S0 T : Sto} {S : Sto} {ns : List Int} {k : Nat} {at_ sh : Int} (hn : ns ≠ []) (hk : S[k]? = some (.lst (intsP ns))) : ∀ (l : List Int) (acc : List P2) (d : Int), formB none acc = true → (∀ p ∈ acc, p.2 - p.1 ≤ 8 ∧ sh - 15 ≤ p.1 ∧ p.2 ≤ d ∧ p.2 + 2 ≤ d) → sh - 15 ≤ d → d ≤ sh + 15 + 16 * acc.length → acc.length + l.length ≤ 7 →
    ∃ acc' d', formB none acc' = true ∧ acc'.length ≤ 7 ∧ (∀ p ∈ acc', p.2 - p.1 ≤ 8 ∧ sh - 15 ≤ p.1 ∧ p.2 ≤ sh + 200) ∧
    forL (gN 5) [5, 6] l__law_closed_1 [] (intsP l) [some (.loc k), some (.int at_), some (.int sh), some (.loc S.length), some (.int d), none, none] (S ++ [.lst (pairsP acc)]) = some (.next [some (.loc k), some (.int at_), some (.int sh), some (.loc S.length), some (.int d'), none, none] (S ++ [.lst (pairsP acc')]))
  | [], acc, d, hf, hp, h1, h2, hl => ⟨acc, d, hf, by simpa using hl, fun p hm => ⟨(hp p hm).1, (hp p hm).2.1, by have := (hp p hm).2.2.1; simp at hl; omega⟩, by rw [intsP_nil, forL_nil (by simp)]⟩
  | i :: l, acc, d, hf, hp, h1, h2, hl => by
    rw [List.length_cons] at hl
    have pk : ∀ (a m : Int), 0 < m → F__law_pick [.loc k, .int a, .int m] (S ++ [.lst (pairsP acc)]) = some (.ok (.int (pick ns a m)) (S ++ [.lst (pairsP acc)])) := fun a m hm => pick_spec (at_old hk) hn hm
    have pk2 : ∀ (x : List P2) (a m : Int), 0 < m → F__law_pick [.loc k, .int a, .int m] (S ++ [.lst (pairsP x)]) = some (.ok (.int (pick ns a m)) (S ++ [.lst (pairsP x)])) := fun x a m hm => pick_spec (at_old hk) hn hm
    have b1 := pick_lt ns (at_ + 2 + 2 * i) (show (0 : Int) < 9 by omega)
    have b2 := pick_lt ns (at_ + 3 + 2 * i) (show (0 : Int) < 7 by omega)
    generalize hx : pick ns (at_ + 2 + 2 * i) 9 = x at b1
    generalize hy : pick ns (at_ + 3 + 2 * i) 7 = y at b2
    have hap : gAppend (.loc S.length) [.tup [.int d, .int (d + x)]] (S ++ [.lst (pairsP acc)]) = some (.ok .non (S ++ [.lst (pairsP (acc ++ [(d, d + x)]))])) := by
      rw [ev_append at_0 (by rw [pairsP_len]; omega), put_0, ← pairsP_snoc]
      rfl
    obtain ⟨acc', d', r1, r2, r3, r4⟩ := closed_loop (S0 := S0) (T := T) (at_ := at_) (sh := sh) hn hk l (acc ++ [(d, d + x)]) (d + x + 2 + y) (formB_snoc hf (fun p hm => (hp p hm).2.2.2) (by omega)) (fun p hm => by
      rcases List.mem_append.mp hm with q | q
      · have := hp p q
        omega
      · rw [List.mem_singleton] at q
        subst q
        dsimp only
        omega) (by omega) (by rw [List.length_append, List.length_singleton]; omega) (by rw [List.length_append, List.length_singleton]; omega)
    refine ⟨acc', d', r1, r2, r3, ?_⟩
    rw [intsP_cons, forL_cons (by simp)]
    simp [l__law_closed_1, ev_mulL (show -(2 ^ 64) < (2 : Int) ∧ (2 : Int) < 2 ^ 64 by omega), pk, pk2, hx, hy, ev_tyL (at_0 (S := S) (T := []) (o := .lst (pairsP acc))), hap]
    exact r4
theorem closed_made {S : Sto} {ns : List Int} {k : Nat} {at_ sh : Int} (hn : ns ≠ []) (hk : S[k]? = some (.lst (intsP ns))) : ∃ l, Blk sh l ∧ F__law_closed [.loc k, .int at_, .int sh] S = some (.ok (.tup (pairsP l)) S) := by
  have pk : ∀ (T : Sto) (a m : Int), 0 < m → F__law_pick [.loc k, .int a, .int m] (S ++ T) = some (.ok (.int (pick ns a m)) (S ++ T)) := fun T a m hm => pick_spec (at_old hk) hn hm
  have b1 := pick_lt ns at_ (show (0 : Int) < 31 by omega)
  have b2 := pick_lt ns (at_ + 1) (show (0 : Int) < 8 by omega)
  generalize hx : pick ns at_ 31 = x at b1
  generalize hy : pick ns (at_ + 1) 8 = y at b2
  obtain ⟨acc, d, r1, r2, r3, r4⟩ := closed_loop (S0 := []) (T := []) (at_ := at_) (sh := sh) hn hk ((List.range y.toNat).map fun i : Nat => (0 : Int) + (i : Int)) [] (x - 15 + sh) rfl (fun p hm => by cases hm) (by omega) (by simp; omega) (by simp; omega)
  rw [← range_ints] at r4
  simp only [pairsP_nil] at r4
  refine ⟨acc, ⟨r1, r2, fun p hm => (r3 p hm).1, fun p hm => (r3 p hm).2.1, fun p hm => (r3 p hm).2.2⟩, ?_⟩
  refine call_val (T := [.lst (pairsP acc)]) ?_ (noLocs_pairs _)
  simp [b__law_closed, pk, hx, hy, r4, ev_tupleL (at_0 (S := S) (T := []) (o := .lst (pairsP acc)))]
end G

namespace G
open PySem PySem.Spec PyProof.Rows L2 D
noncomputable def l_nth_open_1 : DS := (dSeq (dSet 6 (dOpA gMax2 (dCons (dVar 4) (dCons (dOp2 gAdd (dVar 1) (dC (.int 1))) dNil)))) (dIfS (dAndT (dCmp gLe (dVar 6) (dVar 5)) (dCmp gLe (dVar 6) (dVar 3))) (dSet 3 (dOp2 gAdd (dOp2 gSub (dOp2 gAdd (dVar 3) (dVar 5)) (dVar 6)) (dC (.int 1)))) dPass))
noncomputable def l_nth_open_2 : DS := (dSeq (dSet 7 (dOpA gMin2 (dCons (dVar 5) (dCons (dOp2 gSub (dVar 1) (dC (.int 1))) dNil)))) (dIfS (dAndT (dCmp gLe (dVar 4) (dVar 7)) (dCmp gLe (dVar 3) (dVar 7))) (dSet 3 (dOp2 gSub (dVar 3) (dOp2 gAdd (dOp2 gSub (dVar 7) (dVar 4)) (dC (.int 1))))) dPass))
noncomputable def b_nth_open : DS := (dSeq (dIfS (dCmp gEq (dVar 2) (dC (.int 0))) (dRaise "NotAllowed") dPass) (dSeq (dSet 3 (dOp2 gAdd (dVar 1) (dVar 2))) (dSeq (dIfS (dCmp gGt (dVar 2) (dC (.int 0))) (dSeq (dFor (dSeqI (dVar 0)) (gT 2 (gsCons (gN 4) (gsCons (gN 5) gsNil))) [4, 5, 6] l_nth_open_1) (dRet (dVar 3))) dPass) (dSeq (dFor (dRevI (dVar 0)) (gT 2 (gsCons (gN 4) (gsCons (gN 5) gsNil))) [4, 5, 7] l_nth_open_2) (dRet (dVar 3))))))
noncomputable def F_nth_open : DF := dDef 3 8 b_nth_open
noncomputable def l_count_open_1 : DS := (dSeq (dSet 6 (dOpA gMax2 (dCons (dVar 4) (dCons (dVar 1) dNil)))) (dSeq (dSet 7 (dOpA gMin2 (dCons (dVar 5) (dCons (dOp2 gSub (dVar 2) (dC (.int 1))) dNil)))) (dIfS (dCmp gLe (dVar 6) (dVar 7)) (dSet 3 (dOp2 gSub (dVar 3) (dOp2 gAdd (dOp2 gSub (dVar 7) (dVar 6)) (dC (.int 1))))) dPass)))
noncomputable def b_count_open : DS := (dSeq (dIfS (dCmp gLe (dVar 2) (dVar 1)) (dRet (dC (.int 0))) dPass) (dSeq (dSet 3 (dOp2 gSub (dVar 2) (dVar 1))) (dSeq (dFor (dSeqI (dVar 0)) (gT 2 (gsCons (gN 4) (gsCons (gN 5) gsNil))) [4, 5, 6, 7] l_count_open_1) (dRet (dVar 3)))))
noncomputable def F_count_open : DF := dDef 3 8 b_count_open
@[simp] theorem ev_revI {f : DE} {ρ : En} {S : Sto} : dRevI f ρ S = bR (f ρ S) fun x S1 => match x with
  | .tup l => some (.ok ⟨l.reverse, []⟩ S1)
  | .loc k => match S1[k]? with
    | some (.lst l) => some (.ok ⟨l.reverse, [(k, .lst l)]⟩ S1)
    | some (.fz l) => some (.ok ⟨l.reverse, [(k, .fz l)]⟩ S1)
    | _ => none
  | _ => none := rfl
/-! ### how many days of stretches lie in a stretch -/
def tm (p : P2) (a b : Int) : Int := max 0 (min p.2 b - max p.1 a + 1)
def clc : List P2 → Int → Int → Int
  | [], _, _ => 0
  | p :: r, a, b => tm p a b + clc r a b
theorem clc_append (l r : List P2) (a b : Int) : clc (l ++ r) a b = clc l a b + clc r a b := by
  induction l with
  | nil => simp [clc]
  | cons p l ih => simp only [List.cons_append, clc, ih]; omega
theorem clc_rev (l : List P2) (a b : Int) : clc l.reverse a b = clc l a b := by
  induction l with
  | nil => rfl
  | cons p l ih => rw [List.reverse_cons, clc_append, ih]; simp only [clc]; omega
theorem clc_nonneg (l : List P2) (a b : Int) : 0 ≤ clc l a b := by
  induction l with
  | nil => simp [clc]
  | cons p l ih => simp only [clc]; have : 0 ≤ tm p a b := by unfold tm; omega
                   omega
theorem clc_empty (l : List P2) {a b : Int} (h : b < a) : clc l a b = 0 := by
  induction l with
  | nil => rfl
  | cons p l ih =>
    simp only [clc, ih]
    unfold tm
    omega
theorem clc_split (l : List P2) {a m b : Int} (h1 : a ≤ m + 1) (h2 : m ≤ b) : clc l a b = clc l a m + clc l (m + 1) b := by
  induction l with
  | nil => rfl
  | cons p l ih =>
    simp only [clc, ih]
    have : tm p a b = tm p a m + tm p (m + 1) b := by unfold tm; omega
    omega
def covB (l : List P2) (d : Int) : Bool := l.any fun p => decide (p.1 ≤ d) && decide (d ≤ p.2)
theorem covB_false {l : List P2} {d : Int} : covB l d = false ↔ ∀ p ∈ l, ¬ (p.1 ≤ d ∧ d ≤ p.2) := by
  unfold covB
  rw [List.any_eq_false]
  simp
theorem covB_true {l : List P2} {d : Int} : covB l d = true ↔ ∃ p ∈ l, p.1 ≤ d ∧ d ≤ p.2 := by
  unfold covB
  rw [List.any_eq_true]
  simp
/-- stretches apart, one behind the other -/
def Apart (l : List P2) : Prop := (∀ p ∈ l, p.1 ≤ p.2) ∧ l.Pairwise fun p q => p.2 + 2 ≤ q.1
theorem Apart.of {l : List P2} (h : formB none l = true) : Apart l := ⟨(form_all h).1, (form_all h).2.2⟩
theorem Apart.tail {p : P2} {l : List P2} (h : Apart (p :: l)) : Apart l := ⟨fun q hq => h.1 q (List.mem_cons_of_mem _ hq), (List.pairwise_cons.mp h.2).2⟩
theorem clc_one {l : List P2} (h : Apart l) (x : Int) : clc l x x = if covB l x = true then 1 else 0 := by
  induction l with
  | nil => rfl
  | cons p l ih =>
    have ih := ih h.tail
    have hp := h.1 p List.mem_cons_self
    have hc : covB (p :: l) x = ((decide (p.1 ≤ x) && decide (x ≤ p.2)) || covB l x) := rfl
    simp only [clc]
    by_cases h1 : p.1 ≤ x ∧ x ≤ p.2
    · have h2 : covB l x = false := covB_false.mpr fun q hq => by
        have := (List.pairwise_cons.mp h.2).1 q hq
        omega
      rw [h2] at ih
      rw [hc]
      simp only [Bool.false_eq_true, if_false] at ih
      have : tm p x x = 1 := by unfold tm; omega
      simp [h1, ih, this]
    · have : tm p x x = 0 := by unfold tm; omega
      have h3 : (decide (p.1 ≤ x) && decide (x ≤ p.2)) = false := by
        rw [← Bool.not_eq_true, Bool.and_eq_true, decide_eq_true_eq, decide_eq_true_eq]
        exact h1
      rw [hc, h3, Bool.false_or, this, ih]
      omega
theorem clc_up {l : List P2} (h : Apart l) {a x : Int} (ha : a ≤ x + 1) : clc l a (x + 1) = clc l a x + if covB l (x + 1) = true then 1 else 0 := by
  rw [clc_split l ha (show x ≤ x + 1 by omega), clc_one h]
theorem clc_down {l : List P2} (h : Apart l) {x b : Int} (hb : x - 1 ≤ b) : clc l (x - 1) b = clc l x b + if covB l (x - 1) = true then 1 else 0 := by
  have := clc_split l (a := x - 1) (m := x - 1) (b := b) (by omega) hb
  rw [this, clc_one h, show x - 1 + 1 = x by omega]
  omega
theorem clc_le {l : List P2} (h : Apart l) (a : Int) : ∀ n : Nat, clc l a (a + n - 1) ≤ n
  | 0 => by rw [clc_empty l (by omega)]; omega
  | n + 1 => by
    have ih := clc_le h a n
    have := clc_up h (a := a) (x := a + n - 1) (by omega)
    rw [show a + (n : Int) - 1 + 1 = a + ((n + 1 : Nat) : Int) - 1 by omega] at this
    rw [this]
    split <;> omega
theorem clc_len {l : List P2} (h : Apart l) {a b : Int} (hab : a ≤ b + 1) : clc l a b ≤ b - a + 1 := by
  have := clc_le h a (b - a + 1).toNat
  rw [show a + ((b - a + 1).toNat : Int) - 1 = b by omega] at this
  omega
/-- the n-th open day behind d -/
structure NthUp (l : List P2) (d n P : Int) : Prop where
  gt : d + 1 ≤ P
  opn : covB l P = false
  cnt : P - d - clc l (d + 1) P = n
structure NthDn (l : List P2) (d n P : Int) : Prop where
  lt : P ≤ d - 1
  opn : covB l P = false
  cnt : d - P - clc l P (d - 1) = n
theorem NthUp.uniq {l : List P2} (h : Apart l) {d n P Q : Int} (a : NthUp l d n P) (b : NthUp l d n Q) : P = Q := by
  have key : ∀ {P Q : Int}, NthUp l d n P → NthUp l d n Q → ¬ P < Q := fun {P Q} a b hl => by
    have a1 := a.gt
    have s := clc_split l (a := d + 1) (m := P) (b := Q) (by omega) (by omega)
    have t := clc_split l (a := P + 1) (m := Q - 1) (b := Q) (by omega) (by omega)
    have o := clc_one h Q
    rw [b.opn] at o
    rw [show Q - 1 + 1 = Q by omega] at t
    have := clc_len h (a := P + 1) (b := Q - 1) (by omega)
    have c1 := a.cnt
    have c2 := b.cnt
    simp at o
    omega
  have := key a b
  have := key b a
  omega
theorem NthDn.uniq {l : List P2} (h : Apart l) {d n P Q : Int} (a : NthDn l d n P) (b : NthDn l d n Q) : P = Q := by
  have key : ∀ {P Q : Int}, NthDn l d n P → NthDn l d n Q → ¬ P < Q := fun {P Q} a b hl => by
    have b1 := b.lt
    have s := clc_split l (a := P) (m := Q - 1) (b := d - 1) (by omega) (by omega)
    have t := clc_split l (a := P) (m := P) (b := Q - 1) (by omega) (by omega)
    have o := clc_one h P
    rw [a.opn] at o
    rw [show Q - 1 + 1 = Q by omega] at s
    have := clc_len h (a := P + 1) (b := Q - 1) (by omega)
    have c1 := a.cnt
    have c2 := b.cnt
    simp at o
    omega
  have := key a b
  have := key b a
  omega
/-! ### nth_open -/
def upF (d : Int) : List P2 → Int → Int
  | [], P => P
  | p :: r, P => upF d r (if max p.1 (d + 1) ≤ p.2 ∧ max p.1 (d + 1) ≤ P then P + p.2 - max p.1 (d + 1) + 1 else P)
def dnF (d : Int) : List P2 → Int → Int
  | [], P => P
  | p :: r, P => dnF d r (if p.1 ≤ min p.2 (d - 1) ∧ P ≤ min p.2 (d - 1) then P - (min p.2 (d - 1) - p.1 + 1) else P)
theorem up_loop {S : Sto} {q : Option PV} {d : Int} {n z : Option PV} : ∀ (l : List P2) (P : Int), forL (gT 2 (gsCons (gN 4) (gsCons (gN 5) gsNil))) [4, 5, 6] l_nth_open_1 [] (pairsP l) [q, some (.int d), n, some (.int P), none, none, none, z] S = some (.next [q, some (.int d), n, some (.int (upF d l P)), none, none, none, z] S)
  | [], P => by rw [pairsP_nil, forL_nil (by simp)]; rfl
  | p :: r, P => by
    have ih := up_loop (S := S) (q := q) (d := d) (n := n) (z := z) r (if max p.1 (d + 1) ≤ p.2 ∧ max p.1 (d + 1) ≤ P then P + p.2 - max p.1 (d + 1) + 1 else P)
    have hm : (if p.1 < d + 1 then d + 1 else p.1) = max p.1 (d + 1) := by omega
    rw [pairsP_cons, forL_cons (by simp)]
    unfold upF
    by_cases h1 : max p.1 (d + 1) ≤ p.2 <;> by_cases h2 : max p.1 (d + 1) ≤ P <;> simp [pairP, l_nth_open_1, hm, h1, h2] at ih ⊢ <;> exact ih
theorem dn_loop {S : Sto} {q : Option PV} {d : Int} {n z : Option PV} : ∀ (l : List P2) (P : Int), forL (gT 2 (gsCons (gN 4) (gsCons (gN 5) gsNil))) [4, 5, 7] l_nth_open_2 [] (pairsP l) [q, some (.int d), n, some (.int P), none, none, z, none] S = some (.next [q, some (.int d), n, some (.int (dnF d l P)), none, none, z, none] S)
  | [], P => by rw [pairsP_nil, forL_nil (by simp)]; rfl
  | p :: r, P => by
    have ih := dn_loop (S := S) (q := q) (d := d) (n := n) (z := z) r (if p.1 ≤ min p.2 (d - 1) ∧ P ≤ min p.2 (d - 1) then P - (min p.2 (d - 1) - p.1 + 1) else P)
    have hm : (if d - 1 < p.2 then d - 1 else p.2) = min p.2 (d - 1) := by omega
    rw [pairsP_cons, forL_cons (by simp)]
    unfold dnF
    by_cases h1 : p.1 ≤ min p.2 (d - 1) <;> by_cases h2 : P ≤ min p.2 (d - 1) <;> simp [pairP, l_nth_open_2, hm, h1, h2] at ih ⊢ <;> exact ih
theorem upF_ok {d n : Int} : ∀ (r done : List P2) (P : Int), Apart (done ++ r) → NthUp done d n P → NthUp (done ++ r) d n (upF d r P)
  | [], done, P, _, h => by rw [List.append_nil]; exact h
  | p :: r, done, P, ap, h => by
    have e : done ++ p :: r = done ++ [p] ++ r := by simp
    rw [e] at ap ⊢
    unfold upF
    have hp : p.1 ≤ p.2 := ap.1 p (by simp)
    have hd : ∀ q ∈ done, q.2 + 2 ≤ p.1 := fun q hq => (List.pairwise_append.mp (List.pairwise_append.mp ap.2).1).2.2 q hq p (by simp)
    have hgt := h.gt
    have hop := covB_false.mp h.opn
    refine upF_ok r (done ++ [p]) _ ap ?_
    by_cases hc : max p.1 (d + 1) ≤ p.2 ∧ max p.1 (d + 1) ≤ P
    · rw [if_pos hc]
      refine ⟨by omega, covB_false.mpr fun q hq z => ?_, ?_⟩
      · rcases List.mem_append.mp hq with hq | hq
        · have := hd q hq
          omega
        · rw [List.mem_singleton] at hq
          subst hq
          omega
      · rw [clc_append]
        have h1 : clc done (d + 1) (P + p.2 - max p.1 (d + 1) + 1) = clc done (d + 1) P := by
          have s := clc_split done (a := d + 1) (m := P) (b := P + p.2 - max p.1 (d + 1) + 1) (by omega) (by omega)
          have z : ∀ (l : List P2), (∀ q ∈ l, q.2 + 2 ≤ p.1) → clc l (P + 1) (P + p.2 - max p.1 (d + 1) + 1) = 0 := by
            intro l hl
            induction l with
            | nil => rfl
            | cons q l ih =>
              simp only [clc]
              have h1 := hl q (by simp)
              have h2 := ih fun x hx => hl x (by simp [hx])
              have : tm q (P + 1) (P + p.2 - max p.1 (d + 1) + 1) = 0 := by unfold tm; omega
              omega
          rw [z done hd] at s
          omega
        have h2 : clc [p] (d + 1) (P + p.2 - max p.1 (d + 1) + 1) = p.2 - max p.1 (d + 1) + 1 := by
          simp only [clc]; unfold tm; omega
        have := h.cnt
        omega
    · rw [if_neg hc]
      refine ⟨hgt, covB_false.mpr fun q hq z => ?_, ?_⟩
      · rcases List.mem_append.mp hq with hq | hq
        · exact hop q hq z
        · rw [List.mem_singleton] at hq
          subst hq
          omega
      · rw [clc_append]
        have h2 : clc [p] (d + 1) P = 0 := by
          simp only [clc]; unfold tm; omega
        have := h.cnt
        omega
theorem dnF_ok {d n : Int} : ∀ (r done : List P2) (P : Int), Apart (r.reverse ++ done) → NthDn done d n P → NthDn (r.reverse ++ done) d n (dnF d r P)
  | [], done, P, _, h => h
  | p :: r, done, P, ap, h => by
    have e : (p :: r).reverse ++ done = r.reverse ++ (p :: done) := by simp
    rw [e] at ap ⊢
    unfold dnF
    have hp : p.1 ≤ p.2 := ap.1 p (by simp)
    have hd : ∀ q ∈ done, p.2 + 2 ≤ q.1 := fun q hq => (List.pairwise_cons.mp (List.pairwise_append.mp ap.2).2.1).1 q hq
    have hlt := h.lt
    have hop := covB_false.mp h.opn
    refine dnF_ok r (p :: done) _ ap ?_
    by_cases hc : p.1 ≤ min p.2 (d - 1) ∧ P ≤ min p.2 (d - 1)
    · rw [if_pos hc]
      refine ⟨by omega, covB_false.mpr fun q hq z => ?_, ?_⟩
      · rcases List.mem_cons.mp hq with rfl | hq
        · omega
        · have := hd q hq
          omega
      · simp only [clc]
        have h1 : clc done (P - (min p.2 (d - 1) - p.1 + 1)) (d - 1) = clc done P (d - 1) := by
          have s := clc_split done (a := P - (min p.2 (d - 1) - p.1 + 1)) (m := P - 1) (b := d - 1) (by omega) (by omega)
          have z : ∀ (l : List P2), (∀ q ∈ l, p.2 + 2 ≤ q.1) → clc l (P - (min p.2 (d - 1) - p.1 + 1)) (P - 1) = 0 := by
            intro l hl
            induction l with
            | nil => rfl
            | cons q l ih =>
              simp only [clc]
              have h1 := hl q (by simp)
              have h2 := ih fun x hx => hl x (by simp [hx])
              have : tm q (P - (min p.2 (d - 1) - p.1 + 1)) (P - 1) = 0 := by unfold tm; omega
              omega
          rw [z done hd] at s
          rw [show P - 1 + 1 = P by omega] at s
          omega
        have h2 : tm p (P - (min p.2 (d - 1) - p.1 + 1)) (d - 1) = min p.2 (d - 1) - p.1 + 1 := by unfold tm; omega
        have := h.cnt
        omega
    · rw [if_neg hc]
      refine ⟨hlt, covB_false.mpr fun q hq z => ?_, ?_⟩
      · rcases List.mem_cons.mp hq with rfl | hq
        · omega
        · exact hop q hq z
      · simp only [clc]
        have h2 : tm p P (d - 1) = 0 := by unfold tm; omega
        have := h.cnt
        omega
theorem upF_nth {l : List P2} (h : Apart l) {d n : Int} (hn : 0 < n) : NthUp l d n (upF d l (d + n)) := by
  have := upF_ok (d := d) (n := n) l [] (d + n) (by simpa using h) ⟨by omega, rfl, by simp [clc]; omega⟩
  simpa using this
theorem dnF_nth {l : List P2} (h : Apart l) {d n : Int} (hn : 0 < n) : NthDn l d n (dnF d l.reverse (d - n)) := by
  have := dnF_ok (d := d) (n := n) l.reverse [] (d - n) (by simpa using h) ⟨by omega, rfl, by simp [clc]; omega⟩
  simpa using this
theorem nth_up {S : Sto} {l : List P2} {d n : Int} (hn : 0 < n) : F_nth_open [.tup (pairsP l), .int d, .int n] S = some (.ok (.int (upF d l (d + n))) S) := by
  refine call_val0 ?_ rfl
  have h0 : ¬ n = 0 := by omega
  have h := up_loop (S := S) (q := some (.tup (pairsP l))) (d := d) (n := some (.int n)) (z := none) l (d + n)
  simp [b_nth_open, h0, hn, h]
theorem pairsP_rev (l : List P2) : (pairsP l).reverse = pairsP l.reverse := (List.map_reverse).symm
theorem nth_dn {S : Sto} {l : List P2} {d n : Int} (hn : n < 0) : F_nth_open [.tup (pairsP l), .int d, .int n] S = some (.ok (.int (dnF d l.reverse (d + n))) S) := by
  refine call_val0 ?_ rfl
  have h0 : ¬ n = 0 := by omega
  have h1 : ¬ 0 < n := by omega
  have h := dn_loop (S := S) (q := some (.tup (pairsP l))) (d := d) (n := some (.int n)) (z := none) l.reverse (d + n)
  simp [b_nth_open, h0, h1, pairsP_rev, h]
theorem nth_zero {S : Sto} {l : List P2} {d : Int} : F_nth_open [.tup (pairsP l), .int d, .int 0] S = some (.exc ⟨"NotAllowed", []⟩ S) := by
  refine call_exc0 (ρ := [some (.tup (pairsP l)), some (.int d), some (.int 0), none, none, none, none, none]) ?_
  simp [b_nth_open]
/-- .. by what it is -/
theorem nth_is_up {S : Sto} {l : List P2} (h : Apart l) {d n P : Int} (hn : 0 < n) (w : NthUp l d n P) : F_nth_open [.tup (pairsP l), .int d, .int n] S = some (.ok (.int P) S) := by
  rw [nth_up hn, (upF_nth h hn).uniq h w]
theorem nth_is_dn {S : Sto} {l : List P2} (h : Apart l) {d n P : Int} (hn : 0 < n) (w : NthDn l d n P) : F_nth_open [.tup (pairsP l), .int d, .int (-n)] S = some (.ok (.int P) S) := by
  rw [nth_dn (by omega), show d + -n = d - n by omega, (dnF_nth h hn).uniq h w]
/-! ### count_open -/
def cntO (l : List P2) (a b : Int) : Int := if b ≤ a then 0 else b - a - clc l a (b - 1)
theorem cnt_loop {S : Sto} {q : Option PV} {a b : Int} : ∀ (l : List P2) (m : Int), forL (gT 2 (gsCons (gN 4) (gsCons (gN 5) gsNil))) [4, 5, 6, 7] l_count_open_1 [] (pairsP l) [q, some (.int a), some (.int b), some (.int m), none, none, none, none] S = some (.next [q, some (.int a), some (.int b), some (.int (m - clc l a (b - 1))), none, none, none, none] S)
  | [], m => by rw [pairsP_nil, forL_nil (by simp)]; simp [clc]
  | p :: r, m => by
    have ih := cnt_loop (S := S) (q := q) (a := a) (b := b) r (m - tm p a (b - 1))
    have hm : (if p.1 < a then a else p.1) = max p.1 a := by omega
    have hm2 : (if b - 1 < p.2 then b - 1 else p.2) = min p.2 (b - 1) := by omega
    rw [pairsP_cons, forL_cons (by simp)]
    have hc : clc (p :: r) a (b - 1) = tm p a (b - 1) + clc r a (b - 1) := rfl
    rw [hc, show m - (tm p a (b - 1) + clc r a (b - 1)) = m - tm p a (b - 1) - clc r a (b - 1) by omega, ← ih]
    by_cases h1 : max p.1 a ≤ min p.2 (b - 1)
    · have ht : tm p a (b - 1) = min p.2 (b - 1) - max p.1 a + 1 := by unfold tm; omega
      rw [ht]
      simp [pairP, l_count_open_1, hm, hm2, h1]
    · have ht : tm p a (b - 1) = 0 := by unfold tm; omega
      rw [ht]
      simp [pairP, l_count_open_1, hm, hm2, h1]
theorem count_spec {S : Sto} {l : List P2} {a b : Int} : F_count_open [.tup (pairsP l), .int a, .int b] S = some (.ok (.int (cntO l a b)) S) := by
  refine call_val0 ?_ rfl
  have h := cnt_loop (S := S) (q := some (.tup (pairsP l))) (a := a) (b := b) l (b - a)
  unfold cntO
  by_cases hb : b ≤ a
  · simp [b_count_open, hb]
  · simp [b_count_open, hb, h]
end G

namespace G
open PySem PySem.Spec PyProof.Rows L2 D
/-! ### the next and the previous open day -/
theorem covB_at {l : List P2} {d : Int} : covB l d = (atS l d).isSome := by
  cases h : atS l d with
  | none => exact covB_false.mpr (atS_none h)
  | some p =>
    obtain ⟨h1, h2, h3⟩ := atS_some h
    exact covB_true.mpr ⟨p, h1, h2, h3⟩
theorem at_of_open {l : List P2} {d : Int} (h : covB l d = false) : atS l d = none := by
  rw [covB_at] at h
  cases q : atS l d with
  | none => rfl
  | some p => rw [q] at h; cases h
theorem apart_sep {l : List P2} (h : l.Pairwise fun p q => p.2 + 2 ≤ q.1) : ∀ p ∈ l, ∀ q ∈ l, p = q ∨ p.2 + 2 ≤ q.1 ∨ q.2 + 2 ≤ p.1 := by
  induction l with
  | nil => intro p hp; cases hp
  | cons c r ih =>
    obtain ⟨h1, h2⟩ := List.pairwise_cons.mp h
    intro p hp q hq
    rcases List.mem_cons.mp hp with hp | hp <;> rcases List.mem_cons.mp hq with hq | hq
    · exact .inl (hp.trans hq.symm)
    · exact .inr (.inl (by rw [hp]; exact h1 q hq))
    · exact .inr (.inr (by rw [hq]; exact h1 p hp))
    · exact ih h2 p hp q hq
structure NextIs (l : List P2) (d N : Int) : Prop where
  ge : d ≤ N
  opn : covB l N = false
  least : ∀ x, d ≤ x → covB l x = false → N ≤ x
structure PrevIs (l : List P2) (d N : Int) : Prop where
  le : N ≤ d
  opn : covB l N = false
  most : ∀ x, x ≤ d → covB l x = false → x ≤ N
theorem next_is {l : List P2} (h : Apart l) (d : Int) : NextIs l d (nextO l d) := by
  unfold nextO
  cases e : atS l d with
  | none => exact ⟨Int.le_refl _, by rw [covB_at, e]; rfl, fun x hx _ => hx⟩
  | some p =>
    obtain ⟨h1, h2, h3⟩ := atS_some e
    refine ⟨by dsimp only; omega, covB_false.mpr fun q hq z => ?_, fun x hx ho => ?_⟩
    · have := h.1 q hq
      have := h.1 p h1
      dsimp only at z
      rcases apart_sep h.2 p h1 q hq with rfl | z2 | z2 <;> omega
    · have := covB_false.mp ho p h1
      dsimp only
      omega
theorem prev_is {l : List P2} (h : Apart l) (d : Int) : PrevIs l d (prevO l d) := by
  unfold prevO
  cases e : atS l d with
  | none => exact ⟨Int.le_refl _, by rw [covB_at, e]; rfl, fun x hx _ => hx⟩
  | some p =>
    obtain ⟨h1, h2, h3⟩ := atS_some e
    refine ⟨by dsimp only; omega, covB_false.mpr fun q hq z => ?_, fun x hx ho => ?_⟩
    · have := h.1 q hq
      have := h.1 p h1
      dsimp only at z
      rcases apart_sep h.2 p h1 q hq with rfl | z2 | z2 <;> omega
    · have := covB_false.mp ho p h1
      dsimp only
      omega
theorem clc_all {l : List P2} (h : Apart l) {a : Int} : ∀ n : Nat, (∀ x, a ≤ x → x < a + n → covB l x = true) → clc l a (a + n - 1) = n
  | 0, _ => by rw [clc_empty l (by omega)]; rfl
  | n + 1, hx => by
    have ih := clc_all h n fun x h1 h2 => hx x h1 (by omega)
    have := clc_up h (a := a) (x := a + n - 1) (by omega)
    rw [show a + (n : Int) - 1 + 1 = a + ((n + 1 : Nat) : Int) - 1 by omega, ih] at this
    rw [this, hx _ (by omega) (by omega)]
    simp
theorem next_clc {l : List P2} (h : Apart l) {d N : Int} (w : NextIs l d N) : clc l d (N - 1) = N - d := by
  have h1 := w.ge
  have := clc_all h (a := d) (N - d).toNat fun x h1 h2 => by
    cases hc : covB l x with
    | true => rfl
    | false =>
      have := w.least x h1 hc
      omega
  rw [show d + ((N - d).toNat : Int) - 1 = N - 1 by omega] at this
  omega
theorem prev_clc {l : List P2} (h : Apart l) {d N : Int} (w : PrevIs l d N) : clc l (N + 1) d = d - N := by
  have h1 := w.le
  have := clc_all h (a := N + 1) (d - N).toNat fun x h1 h2 => by
    cases hc : covB l x with
    | true => rfl
    | false =>
      have := w.most x (by omega) hc
      omega
  rw [show N + 1 + ((d - N).toNat : Int) - 1 = d by omega] at this
  omega
theorem clc_last {l : List P2} (h : Apart l) {a x : Int} (ha : a ≤ x) (ho : covB l x = false) : clc l a x = clc l a (x - 1) := by
  have := clc_up h (a := a) (x := x - 1) (by omega)
  rw [show x - 1 + 1 = x by omega, ho] at this
  simpa using this
theorem clc_first {l : List P2} (h : Apart l) {x b : Int} (hb : x ≤ b) (ho : covB l x = false) : clc l x b = clc l (x + 1) b := by
  have := clc_down h (x := x + 1) (b := b) (by omega)
  rw [show x + 1 - 1 = x by omega, ho] at this
  simpa using this
theorem NthUp.add {l : List P2} {d m n P Q : Int} (a : NthUp l d m P) (b : NthUp l P n Q) : NthUp l d (m + n) Q := by
  have h1 := a.gt
  have h2 := b.gt
  have s := clc_split l (a := d + 1) (m := P) (b := Q) (by omega) (by omega)
  have h3 := a.cnt
  have h4 := b.cnt
  exact ⟨by omega, b.opn, by omega⟩
theorem NthDn.add {l : List P2} {d m n P Q : Int} (a : NthDn l d m P) (b : NthDn l P n Q) : NthDn l d (m + n) Q := by
  have h1 := a.lt
  have h2 := b.lt
  have s := clc_split l (a := Q) (m := P - 1) (b := d - 1) (by omega) (by omega)
  rw [show P - 1 + 1 = P by omega] at s
  have h3 := a.cnt
  have h4 := b.cnt
  exact ⟨by omega, b.opn, by omega⟩
theorem NthUp.back {l : List P2} (h : Apart l) {d n P V : Int} (a : NthUp l d n P) (v : PrevIs l d V) : NthDn l P n V := by
  have h1 := a.gt
  have h2 := v.le
  have h3 := a.cnt
  have s := clc_split l (a := V) (m := d) (b := P - 1) (by omega) (by omega)
  have t := clc_first h h2 v.opn
  have u := prev_clc h v
  have w := clc_last h h1 a.opn
  exact ⟨by omega, v.opn, by omega⟩
theorem NthDn.back {l : List P2} (h : Apart l) {d n P V : Int} (a : NthDn l d n P) (v : NextIs l d V) : NthUp l P n V := by
  have h1 := a.lt
  have h2 := v.ge
  have h3 := a.cnt
  have s := clc_split l (a := P + 1) (m := d - 1) (b := V) (by omega) (by omega)
  rw [show d - 1 + 1 = d by omega] at s
  have t := clc_last h h2 v.opn
  have u := next_clc h v
  have w := clc_first h h1 a.opn
  exact ⟨by omega, v.opn, by omega⟩
theorem NextIs.one {l : List P2} (h : Apart l) {d N : Int} (w : NextIs l (d + 1) N) : NthUp l d 1 N := by
  have h1 := w.ge
  have t := clc_last h h1 w.opn
  have u := next_clc h w
  exact ⟨h1, w.opn, by omega⟩
theorem PrevIs.one {l : List P2} (h : Apart l) {d N : Int} (w : PrevIs l (d - 1) N) : NthDn l d 1 N := by
  have h1 := w.le
  have t := clc_first h h1 w.opn
  have u := prev_clc h w
  exact ⟨h1, w.opn, by omega⟩
/-! sorted ints -/
end G
namespace D
open PySem PySem.Spec PyProof.Rows L2
def sortI (l : List Int) : List Int := l.mergeSort (PySem.W.dataLe false PyData.int)
theorem intLe_iff (i j : Int) : PySem.W.dataLe false PyData.int i j = true ↔ i ≤ j := by
  show (!PyProof.Rows.lexLt PyProof.Rows.itemOrd [.inl j] [.inl i]) = true ↔ _
  have lt2 : ∀ i j : Int, PyProof.Rows.itemLt (.inl i) (.inl j) = decide (i < j) := fun _ _ => rfl
  have e : PyProof.Rows.lexLt PyProof.Rows.itemOrd [] [] = false := rfl
  rw [PyProof.Rows.lex_cons, e]
  by_cases h : j < i
  · simp [lt2, h]
  · simp [lt2, h]
    omega
theorem sortI_perm (l : List Int) : (sortI l).Perm l := List.mergeSort_perm ..
theorem sortI_sorted (l : List Int) : (sortI l).Pairwise fun i j => i ≤ j := by
  have h := List.pairwise_mergeSort (le := PySem.W.dataLe false PyData.int) (fun a b c h1 h2 => by
    rw [intLe_iff] at *
    omega) (fun a b => by
    rw [Bool.or_eq_true, intLe_iff, intLe_iff]
    omega) l
  exact h.imp fun h => (intLe_iff _ _).mp h
theorem sortI_len (l : List Int) : (sortI l).length = l.length := (sortI_perm l).length_eq
theorem alike_ints (l : List Int) : alikeB (l.map PyData.int) = true := by
  unfold alikeB
  rw [List.all_eq_true]
  intro x hx
  rw [List.all_eq_true]
  intro y hy
  obtain ⟨p, _, rfl⟩ := List.mem_map.mp hx
  obtain ⟨q, _, rfl⟩ := List.mem_map.mp hy
  rfl
theorem sortable_ints (l : List Int) : sortableB (l.map PyData.int) = true := by
  unfold sortableB
  rw [Bool.or_eq_true]
  refine .inr ?_
  rw [List.all_eq_true]
  intro x hx
  obtain ⟨p, _, rfl⟩ := List.mem_map.mp hx
  rfl
theorem ev_sortedI {S : Sto} {k : Nat} {l : List Int} (h : S[k]? = some (.lst (intsP l))) : gSorted [.loc k] S = some (.ok (.loc S.length) (S ++ [.lst (intsP (sortI l))])) :=
  ev_sorted h (fun x _ => toD_int x) (alike_ints l) (sortable_ints l)
end D

namespace G
open PySem PySem.Spec PyProof.Rows L2 D
noncomputable def b__check_order : DS := (dIfS (dCmp gGt (dVar 0) (dVar 1)) (dRaise "NotAllowed") dPass)
noncomputable def F__check_order : DF := dDef 2 2 b__check_order
noncomputable def l_cut_1 : DS := (dSeq (dSet 6 (dOpA gMax2 (dCons (dVar 4) (dCons (dVar 1) dNil)))) (dSeq (dSet 7 (dOpA gMin2 (dCons (dVar 5) (dCons (dVar 2) dNil)))) (dIfS (dCmp gLe (dVar 6) (dVar 7)) (dExpr (dMeth "list" gAppend (dVar 3) (dCons (dTup (dCons (dVar 6) (dCons (dVar 7) dNil))) dNil))) dPass)))
noncomputable def b_cut : DS := (dSeq (dExpr (dOpA F__check_order (dCons (dVar 1) (dCons (dVar 2) dNil)))) (dSeq (dSet 3 (dLst dNil)) (dSeq (dFor (dSeqI (dVar 0)) (gT 2 (gsCons (gN 4) (gsCons (gN 5) gsNil))) [4, 5, 6, 7] l_cut_1) (dRet (dOpA gTuple (dCons (dVar 3) dNil))))))
noncomputable def F_cut : DF := dDef 3 8 b_cut
noncomputable def l_free_1 : DS := (dSeq (dIfS (dCmp gLt (dVar 4) (dVar 1)) (dExpr (dMeth "list" gAppend (dVar 3) (dCons (dTup (dCons (dVar 4) (dCons (dOpA gMin2 (dCons (dVar 5) (dCons (dOp2 gSub (dVar 1) (dC (.int 1))) dNil))) dNil))) dNil))) dPass) (dIfS (dCmp gGt (dVar 5) (dVar 2)) (dExpr (dMeth "list" gAppend (dVar 3) (dCons (dTup (dCons (dOpA gMax2 (dCons (dVar 4) (dCons (dOp2 gAdd (dVar 2) (dC (.int 1))) dNil))) (dCons (dVar 5) dNil))) dNil))) dPass))
noncomputable def b_free : DS := (dSeq (dExpr (dOpA F__check_order (dCons (dVar 1) (dCons (dVar 2) dNil)))) (dSeq (dSet 3 (dLst dNil)) (dSeq (dFor (dSeqI (dVar 0)) (gT 2 (gsCons (gN 4) (gsCons (gN 5) gsNil))) [4, 5] l_free_1) (dRet (dOpA gTuple (dCons (dVar 3) dNil))))))
noncomputable def F_free : DF := dDef 3 6 b_free
noncomputable def b_shut : DS := (dSeq (dExpr (dOpA F__check_order (dCons (dVar 1) (dCons (dVar 2) dNil)))) (dRet (dOpA F_closed_days (dCons (dOp2 gAdd (dOpA gList (dCons (dVar 0) dNil)) (dLst (dCons (dTup (dCons (dVar 1) (dCons (dVar 2) dNil))) dNil))) dNil))))
noncomputable def F_shut : DF := dDef 3 3 b_shut
noncomputable def b_both : DS := (dRet (dOpA F_closed_days (dCons (dOp2 gAdd (dOpA gList (dCons (dVar 0) dNil)) (dOpA gList (dCons (dVar 1) dNil))) dNil)))
noncomputable def F_both : DF := dDef 2 2 b_both
noncomputable def l_either_1 : DS := (dSeq (dSet 7 (dOpA gMax2 (dCons (dVar 5) (dCons (dVar 3) dNil)))) (dSeq (dSet 8 (dOpA gMin2 (dCons (dVar 6) (dCons (dVar 4) dNil)))) (dIfS (dCmp gLe (dVar 7) (dVar 8)) (dExpr (dMeth "list" gAppend (dVar 2) (dCons (dTup (dCons (dVar 7) (dCons (dVar 8) dNil))) dNil))) dPass)))
noncomputable def l_either_2 : DS := (dFor (dSeqI (dVar 1)) (gT 2 (gsCons (gN 5) (gsCons (gN 6) gsNil))) [5, 6, 7, 8] l_either_1)
noncomputable def b_either : DS := (dSeq (dSet 2 (dLst dNil)) (dSeq (dFor (dSeqI (dVar 0)) (gT 2 (gsCons (gN 3) (gsCons (gN 4) gsNil))) [3, 4, 5, 6, 7, 8] l_either_2) (dRet (dOpA gTuple (dCons (dVar 2) dNil)))))
noncomputable def F_either : DF := dDef 2 9 b_either
noncomputable def l_inside_1 : DS := (dSeq (dSet 4 (dOpA F_stretch_at (dCons (dVar 0) (dCons (dVar 2) dNil)))) (dIfS (dOrT (dCmp gIs (dVar 4) (dC .non)) (dCmp gLt (dOp2 gIx (dVar 4) (dC (.int 1))) (dVar 3))) (dRet (dC (.bl false))) dPass))
noncomputable def b_inside : DS := (dSeq (dFor (dSeqI (dVar 1)) (gT 2 (gsCons (gN 2) (gsCons (gN 3) gsNil))) [2, 3, 4] l_inside_1) (dRet (dC (.bl true))))
noncomputable def F_inside : DF := dDef 2 5 b_inside
noncomputable def b_longest : DS := (dRet (dMaxDf (dCons (dComp (dSeqI (dVar 0)) (nmTup [1, 2]) [1, 2] dYes (dOp2 gAdd (dOp2 gSub (dVar 2) (dVar 1)) (dC (.int 1)))) dNil) (dC (.int 0))))
noncomputable def F_longest : DF := dDef 1 3 b_longest
theorem check_ok {S : Sto} {a b : Int} (h : a ≤ b) : F__check_order [.int a, .int b] S = some (.ok .non S) := by
  have h1 : ¬ b < a := by omega
  have hb : b__check_order ([PV.int a, PV.int b].map some ++ List.replicate (2 - 2) none) S = some (.next [some (.int a), some (.int b)] S) := by simp [b__check_order, h1]
  exact (dDef_next (k := 2) (n := 2) rfl hb).trans (by rw [gc_ok_same rfl])
theorem check_bad {S : Sto} {a b : Int} (h : b < a) : F__check_order [.int a, .int b] S = some (.exc ⟨"NotAllowed", []⟩ S) :=
  call_exc0 (ρ := [some (.int a), some (.int b)]) (by simp [b__check_order, h])
def shutL (l : List P2) (f t : Int) : List P2 := closedL (l ++ [(f, t)])
theorem shut_bad {S : Sto} {l : List P2} {f t : Int} (h : t < f) : F_shut [.tup (pairsP l), .int f, .int t] S = some (.exc ⟨"NotAllowed", []⟩ S) :=
  call_exc0 (ρ := [some (.tup (pairsP l)), some (.int f), some (.int t)]) (by simp [b_shut, check_bad h])
theorem shut_ok {S : Sto} {l : List P2} {f t : Int} (h : f ≤ t) (ok : allOk l = true) (hl : l.length ≤ 1000) : F_shut [.tup (pairsP l), .int f, .int t] S = some (.ok (.tup (pairsP (shutL l f t))) S) := by
  have ok2 : allOk (l ++ [(f, t)]) = true := by
    unfold allOk at ok ⊢
    rw [List.all_append, ok]
    simpa using h
  refine call_val (T := [.lst (pairsP l), .lst (pairsP [(f, t)]), .lst (pairsP (l ++ [(f, t)]))]) ?_ (noLocs_pairs _)
  have a1 : gAdd (.loc S.length) (.loc (S.length + 1)) (S ++ [.lst (pairsP l), .lst (pairsP [(f, t)])]) = some (.ok (.loc (S.length + 2)) (S ++ [.lst (pairsP l), .lst (pairsP [(f, t)]), .lst (pairsP (l ++ [(f, t)]))])) := by
    rw [ev_addL (l := pairsP l) (r := pairsP [(f, t)]) at_0 at_1 (by rw [pairsP_len, pairsP_len]; simp; omega), ← pairsP_append]
    simp
  have c1 := closed_spec (S := S ++ [.lst (pairsP l), .lst (pairsP [(f, t)]), .lst (pairsP (l ++ [(f, t)]))]) (k := S.length + 2) at_2 ok2 (by simp; omega)
  generalize PO.lst (pairsP (l ++ [(f, t)])) = w at a1 c1 ⊢
  generalize hw : PO.lst (pairsP [(f, t)]) = w2 at a1 c1 ⊢
  have hw2 : PO.lst [.tup [.int f, .int t]] = w2 := hw
  simp [b_shut, check_ok h, hw2, a1, c1, shutL]
/-! free -/
def freeP (f t : Int) (p : P2) : List P2 := (if p.1 < f then [(p.1, min p.2 (f - 1))] else []) ++ (if t < p.2 then [(max p.1 (t + 1), p.2)] else [])
def freeL (l : List P2) (f t : Int) : List P2 := l.flatMap (freeP f t)
def cutP2 (f t : Int) (p : P2) : List P2 := if max p.1 f ≤ min p.2 t then [(max p.1 f, min p.2 t)] else []
def cutL (l : List P2) (f t : Int) : List P2 := l.flatMap (cutP2 f t)
def eitherL (a b : List P2) : List P2 := a.flatMap fun p => cutL b p.1 p.2
theorem free_loop {S : Sto} {q : Option PV} {f t : Int} : ∀ (l acc : List P2), acc.length + 2 * l.length ≤ 1000000 → forL (gT 2 (gsCons (gN 4) (gsCons (gN 5) gsNil))) [4, 5] l_free_1 [] (pairsP l) [q, some (.int f), some (.int t), some (.loc S.length), none, none] (S ++ [.lst (pairsP acc)]) =
    some (.next [q, some (.int f), some (.int t), some (.loc S.length), none, none] (S ++ [.lst (pairsP (acc ++ freeL l f t))]))
  | [], acc, _ => by rw [pairsP_nil, forL_nil (by simp)]; simp [freeL]
  | p :: r, acc, hl => by
    rw [List.length_cons] at hl
    have hm : (if f - 1 < p.2 then f - 1 else p.2) = min p.2 (f - 1) := by omega
    have hm2 : (if p.1 < t + 1 then t + 1 else p.1) = max p.1 (t + 1) := by omega
    have ap : ∀ (x : List P2) (a b : Int), x.length ≤ 1000000 → gAppend (.loc S.length) [.tup [.int a, .int b]] (S ++ [.lst (pairsP x)]) = some (.ok .non (S ++ [.lst (pairsP (x ++ [(a, b)]))])) := fun x a b h => by
      rw [ev_append at_0 (by rw [pairsP_len]; omega), put_0, ← pairsP_snoc]
      rfl
    have ty : ∀ (x : List P2), tyP "list" (.loc S.length) (S ++ [.lst (pairsP x)]) = true := fun x => ev_tyL at_0
    have hfl : freeL (p :: r) f t = freeP f t p ++ freeL r f t := rfl
    have fp : (freeP f t p).length ≤ 2 := by unfold freeP; split <;> split <;> simp
    have ih := free_loop (S := S) (q := q) (f := f) (t := t) r (acc ++ freeP f t p) (by rw [List.length_append]; omega)
    rw [pairsP_cons, forL_cons (by simp), hfl, ← List.append_assoc]
    by_cases h1 : p.1 < f <;> by_cases h2 : t < p.2 <;> simp only [freeP, h1, h2, if_true, if_false, List.append_nil, List.nil_append] at ih ⊢
    · have l1 : (acc ++ [(p.1, min p.2 (f - 1))]).length ≤ 1000000 := by simp; omega
      simp [pairP, l_free_1, h1, h2, hm, hm2, ty, ap _ _ _ (show acc.length ≤ 1000000 by omega), ap _ _ _ l1]
      simp at ih
      exact ih
    · simp [pairP, l_free_1, h1, h2, hm, hm2, ty, ap _ _ _ (show acc.length ≤ 1000000 by omega)]
      simp at ih
      exact ih
    · simp [pairP, l_free_1, h1, h2, hm, hm2, ty, ap _ _ _ (show acc.length ≤ 1000000 by omega)]
      simp at ih
      exact ih
    · simp [pairP, l_free_1, h1, h2]
      exact ih
theorem free_ok {S : Sto} {l : List P2} {f t : Int} (h : f ≤ t) (hl : l.length ≤ 1000) : F_free [.tup (pairsP l), .int f, .int t] S = some (.ok (.tup (pairsP (freeL l f t))) S) := by
  refine call_val (T := [.lst (pairsP (freeL l f t))]) ?_ (noLocs_pairs _)
  have e := free_loop (S := S) (q := some (.tup (pairsP l))) (f := f) (t := t) l [] (by simp; omega)
  simp only [pairsP_nil, List.nil_append] at e
  simp [b_free, check_ok h, e, ev_tupleL (at_0 (S := S) (T := []) (o := .lst (pairsP (freeL l f t))))]
theorem free_bad {S : Sto} {l : List P2} {f t : Int} (h : t < f) : F_free [.tup (pairsP l), .int f, .int t] S = some (.exc ⟨"NotAllowed", []⟩ S) :=
  call_exc0 (ρ := [some (.tup (pairsP l)), some (.int f), some (.int t), none, none, none]) (by simp [b_free, check_bad h])
/-! cut -/
theorem cut_loop {S : Sto} {q : Option PV} {f t : Int} : ∀ (l acc : List P2), acc.length + l.length ≤ 1000000 → forL (gT 2 (gsCons (gN 4) (gsCons (gN 5) gsNil))) [4, 5, 6, 7] l_cut_1 [] (pairsP l) [q, some (.int f), some (.int t), some (.loc S.length), none, none, none, none] (S ++ [.lst (pairsP acc)]) =
    some (.next [q, some (.int f), some (.int t), some (.loc S.length), none, none, none, none] (S ++ [.lst (pairsP (acc ++ cutL l f t))]))
  | [], acc, _ => by rw [pairsP_nil, forL_nil (by simp)]; simp [cutL]
  | p :: r, acc, hl => by
    rw [List.length_cons] at hl
    have hm : (if t < p.2 then t else p.2) = min p.2 t := by omega
    have hm2 : (if p.1 < f then f else p.1) = max p.1 f := by omega
    have ap : ∀ (x : List P2) (a b : Int), x.length ≤ 1000000 → gAppend (.loc S.length) [.tup [.int a, .int b]] (S ++ [.lst (pairsP x)]) = some (.ok .non (S ++ [.lst (pairsP (x ++ [(a, b)]))])) := fun x a b h => by
      rw [ev_append at_0 (by rw [pairsP_len]; omega), put_0, ← pairsP_snoc]
      rfl
    have ty : ∀ (x : List P2), tyP "list" (.loc S.length) (S ++ [.lst (pairsP x)]) = true := fun x => ev_tyL at_0
    have hfl : cutL (p :: r) f t = cutP2 f t p ++ cutL r f t := rfl
    have fp : (cutP2 f t p).length ≤ 1 := by unfold cutP2; split <;> simp
    have ih := cut_loop (S := S) (q := q) (f := f) (t := t) r (acc ++ cutP2 f t p) (by rw [List.length_append]; omega)
    rw [pairsP_cons, forL_cons (by simp), hfl, ← List.append_assoc]
    by_cases h1 : max p.1 f ≤ min p.2 t <;> simp only [cutP2, h1, if_true, if_false, List.append_nil, List.nil_append] at ih ⊢
    · simp only [pairP, ev_gT, List.length_cons, List.length_nil, Nat.reduceAdd, if_true, ev_gsCons, ev_gN, ev_gsNil, List.set_cons_succ, List.set_cons_zero]
      simp [l_cut_1, hm, hm2, h1, ty, ap _ _ _ (show acc.length ≤ 1000000 by omega)]
      simp at ih
      exact ih
    · simp only [pairP, ev_gT, List.length_cons, List.length_nil, Nat.reduceAdd, if_true, ev_gsCons, ev_gN, ev_gsNil, List.set_cons_succ, List.set_cons_zero]
      simp [l_cut_1, hm, hm2, h1]
      exact ih
theorem cut_ok {S : Sto} {l : List P2} {f t : Int} (h : f ≤ t) (hl : l.length ≤ 1000) : F_cut [.tup (pairsP l), .int f, .int t] S = some (.ok (.tup (pairsP (cutL l f t))) S) := by
  refine call_val (T := [.lst (pairsP (cutL l f t))]) ?_ (noLocs_pairs _)
  have e := cut_loop (S := S) (q := some (.tup (pairsP l))) (f := f) (t := t) l [] (by simp; omega)
  simp only [pairsP_nil, List.nil_append] at e
  simp [b_cut, check_ok h, e, ev_tupleL (at_0 (S := S) (T := []) (o := .lst (pairsP (cutL l f t))))]
theorem cut_bad {S : Sto} {l : List P2} {f t : Int} (h : t < f) : F_cut [.tup (pairsP l), .int f, .int t] S = some (.exc ⟨"NotAllowed", []⟩ S) :=
  call_exc0 (ρ := [some (.tup (pairsP l)), some (.int f), some (.int t), none, none, none, none, none]) (by simp [b_cut, check_bad h])
/-! both -/
theorem both_ok {S : Sto} {a b : List P2} (oa : allOk a = true) (ob : allOk b = true) (ha : a.length ≤ 1000) (hb : b.length ≤ 1000) : F_both [.tup (pairsP a), .tup (pairsP b)] S = some (.ok (.tup (pairsP (closedL (a ++ b)))) S) := by
  have ok2 : allOk (a ++ b) = true := by
    unfold allOk at oa ob ⊢
    rw [List.all_append, oa, ob]
    rfl
  refine call_val (T := [.lst (pairsP a), .lst (pairsP b), .lst (pairsP (a ++ b))]) ?_ (noLocs_pairs _)
  have a1 : gAdd (.loc S.length) (.loc (S.length + 1)) (S ++ [.lst (pairsP a), .lst (pairsP b)]) = some (.ok (.loc (S.length + 2)) (S ++ [.lst (pairsP a), .lst (pairsP b), .lst (pairsP (a ++ b))])) := by
    rw [ev_addL at_0 at_1 (by rw [pairsP_len, pairsP_len]; omega), ← pairsP_append]
    simp
  have c1 := closed_spec (S := S ++ [.lst (pairsP a), .lst (pairsP b), .lst (pairsP (a ++ b))]) (k := S.length + 2) at_2 ok2 (by simp; omega)
  simp [b_both, a1, c1]
/-! either -/
theorem either_in {S : Sto} {q q2 : Option PV} {f t : Int} : ∀ (l acc : List P2), acc.length + l.length ≤ 1000000 → forL (gT 2 (gsCons (gN 5) (gsCons (gN 6) gsNil))) [5, 6, 7, 8] l_either_1 [] (pairsP l) [q, q2, some (.loc S.length), some (.int f), some (.int t), none, none, none, none] (S ++ [.lst (pairsP acc)]) =
    some (.next [q, q2, some (.loc S.length), some (.int f), some (.int t), none, none, none, none] (S ++ [.lst (pairsP (acc ++ cutL l f t))]))
  | [], acc, _ => by rw [pairsP_nil, forL_nil (by simp)]; simp [cutL]
  | p :: r, acc, hl => by
    rw [List.length_cons] at hl
    have hm : (if t < p.2 then t else p.2) = min p.2 t := by omega
    have hm2 : (if p.1 < f then f else p.1) = max p.1 f := by omega
    have ap : ∀ (x : List P2) (a b : Int), x.length ≤ 1000000 → gAppend (.loc S.length) [.tup [.int a, .int b]] (S ++ [.lst (pairsP x)]) = some (.ok .non (S ++ [.lst (pairsP (x ++ [(a, b)]))])) := fun x a b h => by
      rw [ev_append at_0 (by rw [pairsP_len]; omega), put_0, ← pairsP_snoc]
      rfl
    have ty : ∀ (x : List P2), tyP "list" (.loc S.length) (S ++ [.lst (pairsP x)]) = true := fun x => ev_tyL at_0
    have hfl : cutL (p :: r) f t = cutP2 f t p ++ cutL r f t := rfl
    have fp : (cutP2 f t p).length ≤ 1 := by unfold cutP2; split <;> simp
    have ih := either_in (S := S) (q := q) (q2 := q2) (f := f) (t := t) r (acc ++ cutP2 f t p) (by rw [List.length_append]; omega)
    rw [pairsP_cons, forL_cons (by simp), hfl, ← List.append_assoc]
    by_cases h1 : max p.1 f ≤ min p.2 t <;> simp only [cutP2, h1, if_true, if_false, List.append_nil, List.nil_append] at ih ⊢
    · simp only [pairP, ev_gT, List.length_cons, List.length_nil, Nat.reduceAdd, if_true, ev_gsCons, ev_gN, ev_gsNil, List.set_cons_succ, List.set_cons_zero]
      simp [l_either_1, hm, hm2, h1, ty, ap _ _ _ (show acc.length ≤ 1000000 by omega)]
      simp at ih
      exact ih
    · simp only [pairP, ev_gT, List.length_cons, List.length_nil, Nat.reduceAdd, if_true, ev_gsCons, ev_gN, ev_gsNil, List.set_cons_succ, List.set_cons_zero]
      simp [l_either_1, hm, hm2, h1]
      exact ih
theorem cutL_len (l : List P2) (f t : Int) : (cutL l f t).length ≤ l.length := by
  induction l with
  | nil => simp [cutL]
  | cons p r ih =>
    have hfl : cutL (p :: r) f t = cutP2 f t p ++ cutL r f t := rfl
    have fp : (cutP2 f t p).length ≤ 1 := by unfold cutP2; split <;> simp
    rw [hfl, List.length_append, List.length_cons]
    omega
theorem either_loop {S : Sto} {q : Option PV} {b : List P2} (hb : b.length ≤ 1000) : ∀ (l acc : List P2), acc.length + 1000 * l.length ≤ 900000 → forL (gT 2 (gsCons (gN 3) (gsCons (gN 4) gsNil))) [3, 4, 5, 6, 7, 8] l_either_2 [] (pairsP l) [q, some (.tup (pairsP b)), some (.loc S.length), none, none, none, none, none, none] (S ++ [.lst (pairsP acc)]) =
    some (.next [q, some (.tup (pairsP b)), some (.loc S.length), none, none, none, none, none, none] (S ++ [.lst (pairsP (acc ++ eitherL l b))]))
  | [], acc, _ => by rw [pairsP_nil, forL_nil (by simp)]; simp [eitherL]
  | p :: r, acc, hl => by
    rw [List.length_cons] at hl
    have e := either_in (S := S) (q := q) (q2 := some (.tup (pairsP b))) (f := p.1) (t := p.2) b acc (by omega)
    have hc := cutL_len b p.1 p.2
    have ih := either_loop (S := S) (q := q) hb r (acc ++ cutL b p.1 p.2) (by rw [List.length_append]; omega)
    have hfl : eitherL (p :: r) b = cutL b p.1 p.2 ++ eitherL r b := rfl
    rw [pairsP_cons, forL_cons (by simp), hfl, ← List.append_assoc]
    simp only [pairP, ev_gT, List.length_cons, List.length_nil, Nat.reduceAdd, if_true, ev_gsCons, ev_gN, ev_gsNil, List.set_cons_succ, List.set_cons_zero]
    simp [l_either_2, e]
    simp at ih
    exact ih
theorem either_ok {S : Sto} {a b : List P2} (ha : a.length ≤ 100) (hb : b.length ≤ 1000) : F_either [.tup (pairsP a), .tup (pairsP b)] S = some (.ok (.tup (pairsP (eitherL a b))) S) := by
  refine call_val (T := [.lst (pairsP (eitherL a b))]) ?_ (noLocs_pairs _)
  have e := either_loop (S := S) (q := some (.tup (pairsP a))) hb a [] (by simp; omega)
  simp only [pairsP_nil, List.nil_append] at e
  simp [b_either, e, ev_tupleL (at_0 (S := S) (T := []) (o := .lst (pairsP (eitherL a b))))]
/-! inside -/
def insB (a : List P2) : List P2 → Bool
  | [] => true
  | p :: r => match atS a p.1 with
    | none => false
    | some s => if s.2 < p.2 then false else insB a r
theorem inside_loop {S : Sto} {a : List P2} {q2 : Option PV} : ∀ l : List P2, ∃ ρ', forL (gT 2 (gsCons (gN 2) (gsCons (gN 3) gsNil))) [2, 3, 4] l_inside_1 [] (pairsP l) [some (.tup (pairsP a)), q2, none, none, none] S = if insB a l = true then some (.next ρ' S) else some (.ret (.bl false) S)
  | [] => ⟨[some (.tup (pairsP a)), q2, none, none, none], by rw [pairsP_nil, forL_nil (by simp)]; rfl⟩
  | p :: r => by
    obtain ⟨ρ', ih⟩ := inside_loop (S := S) (a := a) (q2 := q2) r
    refine ⟨ρ', ?_⟩
    rw [pairsP_cons, forL_cons (by simp)]
    unfold insB
    cases e : atS a p.1 with
    | none => simp [pairP, l_inside_1, stretch_spec, e, optPr]
    | some s =>
      have is1 : gIsN false (pairP s) .non S = some (.ok (.bl false) S) := rfl
      have ix1 : gIx (pairP s) (.int 1) S = some (.ok (.int s.2) S) := rfl
      by_cases h : s.2 < p.2
      · simp only [pairP, ev_gT, List.length_cons, List.length_nil, Nat.reduceAdd, if_true, ev_gsCons, ev_gN, ev_gsNil, List.set_cons_succ, List.set_cons_zero]
        simp [l_inside_1, stretch_spec, e, optPr, is1, ix1, h]
      · simp only [pairP, ev_gT, List.length_cons, List.length_nil, Nat.reduceAdd, if_true, ev_gsCons, ev_gN, ev_gsNil, List.set_cons_succ, List.set_cons_zero]
        simp [l_inside_1, stretch_spec, e, optPr, is1, ix1, h]
        exact ih
theorem inside_ok {S : Sto} {a b : List P2} : F_inside [.tup (pairsP a), .tup (pairsP b)] S = some (.ok (.bl (insB a b)) S) := by
  obtain ⟨ρ', h⟩ := inside_loop (S := S) (a := a) (q2 := some (.tup (pairsP b))) b
  refine call_val0 ?_ rfl
  simp [b_inside]
  rw [h]
  cases insB a b <;> simp
/-! longest -/
def lensL (l : List P2) : List Int := l.map fun p => p.2 - p.1 + 1
def longL (l : List P2) : Int := match lensL l with
  | [] => 0
  | n :: r => r.foldl max n
theorem intsAt_of {k : Nat} {S : Sto} {ns : List Int} (h : S[k]? = some (.lst (intsP ns))) : intsAt k S = some ns := by
  unfold intsAt lstOf
  rw [h]
  dsimp only
  unfold intsP
  exact (mapO_map (f := intP) (e := PV.int) (d := fun x => x) (l := ns) fun x _ => rfl).trans (by simp)
theorem lens_comp {S : Sto} {l : List P2} {it : DI} {ρ : En} {i j : Nat} {own : List Nat} {elt : DE} (hit : it ρ S = some (.ok ⟨pairsP l, []⟩ S)) (he : ∀ p : P2, ∀ S', elt (setsE [i, j] [.int p.1, .int p.2] (killE own ρ)) S' = some (.ok (.int (p.2 - p.1 + 1)) S')) (hl : l.length ≤ 1000) :
    dComp it (nmTup [i, j]) own dYes elt ρ S = some (.ok (.loc S.length) (S ++ [.lst (intsP (lensL l))])) := by
  have := ev_compF (f := nmTup [i, j]) (own := own) (tt := dYes) (elt := elt) (ρ := ρ) (S := S) (S1 := S) (it := it) (items := l) pairP (fun _ => true) (fun p => .int (p.2 - p.1 + 1)) hit (by simp) (fun p _ acc => ⟨[i, j], [.int p.1, .int p.2], rfl, rfl, fun _ => he p _⟩) (by omega)
  rw [this]
  congr 5
  rw [List.filter_eq_self.mpr fun _ _ => rfl]
  unfold intsP lensL
  rw [List.map_map]
  rfl
theorem longest_ok {S : Sto} {l : List P2} (hl : l.length ≤ 1000) : F_longest [.tup (pairsP l)] S = some (.ok (.int (longL l)) S) := by
  refine call_val (T := [.lst (intsP (lensL l))]) ?_ rfl
  have hc : dComp (dSeqI (dVar 0)) (nmTup [1, 2]) [1, 2] dYes (dOp2 gAdd (dOp2 gSub (dVar 2) (dVar 1)) (dC (.int 1))) [some (.tup (pairsP l)), none, none] S = some (.ok (.loc S.length) (S ++ [.lst (intsP (lensL l))])) :=
    lens_comp (by simp) (fun p S' => by simp [setsE]) hl
  have hi := intsAt_of (at_0 (S := S) (T := []) (o := .lst (intsP (lensL l))))
  have hg : gMaxDf [.loc S.length] (.int 0) (S ++ [.lst (intsP (lensL l))]) = some (.ok (.int (longL l)) (S ++ [.lst (intsP (lensL l))])) := by
    unfold gMaxDf longL
    dsimp only
    rw [hi]
    cases lensL l <;> rfl
  simp only [b_longest, ev_ret, List.map_cons, List.map_nil]
  show bS _ (dMaxDf _ _ [some (.tup (pairsP l)), none, none] S) _ = _
  unfold dMaxDf
  simp only [ev_cons, hc, ev_nil, ev_bR_ok, ev_c, hg, ev_bS_ok]
end G

/-! S9: what the changed closed days mean, day by day. -/
namespace G
open PySem PySem.Spec PyProof.Rows L2 D
theorem Apart.form {l : List P2} (h : Apart l) : formB none l = true := form_of h.1 (fun x e => by cases e) h.2
theorem Apart.nil : Apart [] := ⟨by simp, .nil⟩
theorem Apart.one {p : P2} (h : p.1 ≤ p.2) : Apart [p] := ⟨fun q hq => by rw [List.mem_singleton] at hq; rw [hq]; exact h, .cons (fun _ h => by cases h) .nil⟩
theorem Apart.sub {l r : List P2} (h : Apart l) (s : r.Sublist l) : Apart r := ⟨fun q hq => h.1 q (s.subset hq), h.2.sublist s⟩
theorem Apart.flat {l : List P2} {g : P2 → List P2} (h : Apart l) (hg : ∀ p ∈ l, Apart (g p) ∧ ∀ q ∈ g p, p.1 ≤ q.1 ∧ q.2 ≤ p.2) : Apart (l.flatMap g) := by
  induction l with
  | nil => exact .nil
  | cons p r ih =>
    have ih := ih h.tail fun q hq => hg q (List.mem_cons_of_mem _ hq)
    obtain ⟨h1, h2⟩ := hg p List.mem_cons_self
    rw [List.flatMap_cons]
    refine ⟨fun q hq => ?_, List.pairwise_append.mpr ⟨h1.2, ih.2, fun x hx y hy => ?_⟩⟩
    · rcases List.mem_append.mp hq with q1 | q1
      · exact h1.1 q q1
      · exact ih.1 q q1
    · obtain ⟨c, hc, hyc⟩ := List.mem_flatMap.mp hy
      have := h2 x hx
      have := (hg c (List.mem_cons_of_mem _ hc)).2 y hyc
      have := (List.pairwise_cons.mp h.2).1 c hc
      omega
theorem covB_flat {l : List P2} {g : P2 → List P2} {d : Int} : covB (l.flatMap g) d = l.any fun p => covB (g p) d := by
  unfold covB
  rw [List.any_flatMap]
theorem covB_append {l r : List P2} {d : Int} : covB (l ++ r) d = (covB l d || covB r d) := by
  unfold covB
  rw [List.any_append]
theorem covB_eq {l : List P2} {b : Bool} {d : Int} (h : (∃ p ∈ l, p.1 ≤ d ∧ d ≤ p.2) ↔ b = true) : covB l d = b := by
  rw [Bool.eq_iff_iff, covB_true]
  exact h
/-- in a stretch -/
def inr (f t d : Int) : Bool := decide (f ≤ d) && decide (d ≤ t)
theorem inr_iff {f t d : Int} : inr f t d = true ↔ f ≤ d ∧ d ≤ t := by unfold inr; simp
theorem covB_one {f t d : Int} : covB [(f, t)] d = inr f t d := by unfold covB inr; simp
theorem covB_closed {l : List P2} (ok : allOk l = true) (d : Int) : covB (closedL l) d = covB l d := by
  rw [Bool.eq_iff_iff, covB_true, covB_true]
  exact cov_closed ok d
theorem allOk_of {l : List P2} (h : ∀ p ∈ l, p.1 ≤ p.2) : allOk l = true := by
  unfold allOk
  rw [List.all_eq_true]
  exact fun p hp => decide_eq_true (h p hp)
theorem allOk_app {a b : List P2} (oa : allOk a = true) (ob : allOk b = true) : allOk (a ++ b) = true := by
  unfold allOk at oa ob ⊢
  rw [List.all_append, oa, ob]
  rfl
/-! shut -/
theorem shut_apart {l : List P2} {f t : Int} (h : Apart l) (hf : f ≤ t) : Apart (shutL l f t) := Apart.of (form_closed (allOk_app (allOk_of h.1) (allOk_of (by simpa using hf))))
theorem shut_cov {l : List P2} {f t d : Int} (h : Apart l) (hf : f ≤ t) : covB (shutL l f t) d = (covB l d || inr f t d) := by
  unfold shutL
  rw [covB_closed (allOk_app (allOk_of h.1) (allOk_of (by simpa using hf))), covB_append, covB_one]
theorem both_apart {a b : List P2} (ha : Apart a) (hb : Apart b) : Apart (closedL (a ++ b)) := Apart.of (form_closed (allOk_app (allOk_of ha.1) (allOk_of hb.1)))
theorem both_cov {a b : List P2} {d : Int} (ha : Apart a) (hb : Apart b) : covB (closedL (a ++ b)) d = (covB a d || covB b d) := by
  rw [covB_closed (allOk_app (allOk_of ha.1) (allOk_of hb.1)), covB_append]
/-! free -/
theorem free_apart {l : List P2} {f t : Int} (h : Apart l) (hf : f ≤ t) : Apart (freeL l f t) := by
  refine h.flat fun p hp => ?_
  have h1 := h.1 p hp
  unfold freeP
  by_cases c1 : p.1 < f <;> by_cases c2 : t < p.2 <;> simp only [c1, c2, if_true, if_false, List.append_nil, List.nil_append]
  · refine ⟨⟨?_, ?_⟩, ?_⟩
    · simp; omega
    · simp; omega
    · simp; omega
  · exact ⟨.one (by dsimp only; omega), by simp; omega⟩
  · exact ⟨.one (by dsimp only; omega), by simp; omega⟩
  · exact ⟨.nil, by simp⟩
theorem free_cov {l : List P2} {f t d : Int} (h : Apart l) (hf : f ≤ t) : covB (freeL l f t) d = (covB l d && !inr f t d) := by
  refine covB_eq ?_
  rw [Bool.and_eq_true, covB_true, Bool.not_eq_true', ← Bool.not_eq_true, inr_iff]
  unfold freeL
  constructor
  · rintro ⟨q, hq, h1, h2⟩
    obtain ⟨p, hp, hqp⟩ := List.mem_flatMap.mp hq
    have := h.1 p hp
    unfold freeP at hqp
    rcases List.mem_append.mp hqp with z | z
    · split at z
      · rw [List.mem_singleton] at z
        subst z
        dsimp only at h1 h2
        exact ⟨⟨p, hp, by omega, by omega⟩, by omega⟩
      · cases z
    · split at z
      · rw [List.mem_singleton] at z
        subst z
        dsimp only at h1 h2
        exact ⟨⟨p, hp, by omega, by omega⟩, by omega⟩
      · cases z
  · rintro ⟨⟨p, hp, h1, h2⟩, h3⟩
    by_cases c : d < f
    · refine ⟨(p.1, min p.2 (f - 1)), List.mem_flatMap.mpr ⟨p, hp, ?_⟩, h1, by dsimp only; omega⟩
      unfold freeP
      rw [if_pos (show p.1 < f by omega)]
      simp
    · refine ⟨(max p.1 (t + 1), p.2), List.mem_flatMap.mpr ⟨p, hp, ?_⟩, by dsimp only; omega, h2⟩
      unfold freeP
      rw [if_pos (show t < p.2 by omega)]
      simp
/-! cut -/
theorem cut_apart {l : List P2} {f t : Int} (h : Apart l) : Apart (cutL l f t) := by
  refine h.flat fun p hp => ?_
  unfold cutP2
  split
  · exact ⟨.one (by assumption), by simp; omega⟩
  · exact ⟨.nil, by simp⟩
theorem cut_mem {l : List P2} {f t : Int} {q : P2} (h : q ∈ cutL l f t) : ∃ p ∈ l, q = (max p.1 f, min p.2 t) ∧ max p.1 f ≤ min p.2 t := by
  obtain ⟨p, hp, hq⟩ := List.mem_flatMap.mp h
  unfold cutP2 at hq
  split at hq
  · rw [List.mem_singleton] at hq
    exact ⟨p, hp, hq, by assumption⟩
  · cases hq
theorem cut_cov {l : List P2} {f t d : Int} : covB (cutL l f t) d = (covB l d && inr f t d) := by
  refine covB_eq ?_
  rw [Bool.and_eq_true, covB_true, inr_iff]
  constructor
  · rintro ⟨q, hq, h1, h2⟩
    obtain ⟨p, hp, rfl, h3⟩ := cut_mem hq
    dsimp only at h1 h2
    exact ⟨⟨p, hp, by omega, by omega⟩, by omega, by omega⟩
  · rintro ⟨⟨p, hp, h1, h2⟩, h3, h4⟩
    refine ⟨(max p.1 f, min p.2 t), List.mem_flatMap.mpr ⟨p, hp, ?_⟩, by dsimp only; omega, by dsimp only; omega⟩
    unfold cutP2
    rw [if_pos (by omega)]
    simp
/-! either -/
theorem either_apart {a b : List P2} (ha : Apart a) (hb : Apart b) : Apart (eitherL a b) := by
  refine ha.flat fun p hp => ⟨cut_apart hb, fun q hq => ?_⟩
  obtain ⟨c, hc, rfl, h⟩ := cut_mem hq
  dsimp only
  omega
theorem either_cov {a b : List P2} {d : Int} : covB (eitherL a b) d = (covB a d && covB b d) := by
  unfold eitherL
  rw [covB_flat, Bool.eq_iff_iff, List.any_eq_true, Bool.and_eq_true, covB_true]
  constructor
  · rintro ⟨p, hp, h⟩
    rw [cut_cov, Bool.and_eq_true, inr_iff] at h
    exact ⟨⟨p, hp, h.2⟩, h.1⟩
  · rintro ⟨⟨p, hp, h⟩, h2⟩
    exact ⟨p, hp, by rw [cut_cov, h2, inr_iff.mpr h]; rfl⟩
/-! the one form is one -/
theorem form_unique : ∀ {a b : List P2}, Apart a → Apart b → (∀ d, covB a d = covB b d) → a = b
  | [], [], _, _, _ => rfl
  | [], q :: s, _, hb, h => by
    have := h q.1
    rw [show covB [] q.1 = false from rfl] at this
    have := covB_false.mp this.symm q List.mem_cons_self
    have := hb.1 q List.mem_cons_self
    omega
  | p :: r, [], ha, _, h => by
    have := h p.1
    rw [show covB [] p.1 = false from rfl] at this
    have := covB_false.mp this p List.mem_cons_self
    have := ha.1 p List.mem_cons_self
    omega
  | p :: r, q :: s, ha, hb, h => by
    have hp := ha.1 p List.mem_cons_self
    have hq := hb.1 q List.mem_cons_self
    have ar := (List.pairwise_cons.mp ha.2).1
    have bs := (List.pairwise_cons.mp hb.2).1
    have lo : ∀ {x : P2} {l : List P2}, x.1 ≤ x.2 → (∀ y ∈ l, x.2 + 2 ≤ y.1) → ∀ d, covB (x :: l) d = true → x.1 ≤ d ∧ (d ≤ x.2 ∨ x.2 + 2 ≤ d) := fun {x l} h1 h2 d hd => by
      obtain ⟨y, hy, z1, z2⟩ := covB_true.mp hd
      rcases List.mem_cons.mp hy with rfl | hy
      · exact ⟨z1, .inl z2⟩
      · have := h2 y hy
        omega
    have e1 : p.1 = q.1 := by
      have c1 : covB (q :: s) p.1 = true := by rw [← h]; exact covB_true.mpr ⟨p, List.mem_cons_self, Int.le_refl _, hp⟩
      have c2 : covB (p :: r) q.1 = true := by rw [h]; exact covB_true.mpr ⟨q, List.mem_cons_self, Int.le_refl _, hq⟩
      have := lo hq bs _ c1
      have := lo hp ar _ c2
      omega
    have e2 : p.2 = q.2 := by
      have k1 : ¬ p.2 < q.2 := fun z => by
        have : covB (p :: r) (p.2 + 1) = true := by rw [h]; exact covB_true.mpr ⟨q, List.mem_cons_self, by omega, by omega⟩
        have := lo hp ar _ this
        omega
      have k2 : ¬ q.2 < p.2 := fun z => by
        have : covB (q :: s) (q.2 + 1) = true := by rw [← h]; exact covB_true.mpr ⟨p, List.mem_cons_self, by omega, by omega⟩
        have := lo hq bs _ this
        omega
      omega
    have e3 : p = q := Prod.ext e1 e2
    subst e3
    have tl : ∀ {l : List P2}, (∀ y ∈ l, p.2 + 2 ≤ y.1) → ∀ d, covB l d = (covB (p :: l) d && decide (p.2 < d)) := fun {l} h2 d => by
      rw [Bool.eq_iff_iff, Bool.and_eq_true, covB_true, covB_true, decide_eq_true_eq]
      constructor
      · rintro ⟨y, hy, z⟩
        have := h2 y hy
        exact ⟨⟨y, List.mem_cons_of_mem _ hy, z⟩, by omega⟩
      · rintro ⟨⟨y, hy, z⟩, w⟩
        rcases List.mem_cons.mp hy with rfl | hy
        · omega
        · exact ⟨y, hy, z⟩
    rw [form_unique ha.tail hb.tail fun d => by rw [tl ar, tl bs, h]]
/-! inside -/
theorem ins_iff {a : List P2} (ha : Apart a) : ∀ {b : List P2}, (∀ p ∈ b, p.1 ≤ p.2) → (insB a b = true ↔ ∀ d, covB b d = true → covB a d = true)
  | [], _ => by
    unfold insB
    simp [covB]
  | p :: r, hb => by
    have hp := hb p List.mem_cons_self
    have ih := ins_iff ha (b := r) fun q hq => hb q (List.mem_cons_of_mem _ hq)
    unfold insB
    cases e : atS a p.1 with
    | none =>
      simp only [Bool.false_eq_true, false_iff]
      intro z
      have := z p.1 (covB_true.mpr ⟨p, List.mem_cons_self, Int.le_refl _, hp⟩)
      rw [covB_at, e] at this
      cases this
    | some s =>
      obtain ⟨h1, h2, h3⟩ := atS_some e
      dsimp only
      by_cases c : s.2 < p.2
      · rw [if_pos c]
        simp only [Bool.false_eq_true, false_iff]
        intro z
        have := z (s.2 + 1) (covB_true.mpr ⟨p, List.mem_cons_self, by omega, by omega⟩)
        obtain ⟨y, hy, w⟩ := covB_true.mp this
        have := ha.1 y hy
        have := ha.1 s h1
        rcases apart_sep ha.2 s h1 y hy with rfl | z2 | z2 <;> omega
      · rw [if_neg c, ih]
        constructor
        · intro z d hd
          obtain ⟨y, hy, w⟩ := covB_true.mp hd
          rcases List.mem_cons.mp hy with rfl | hy
          · exact covB_true.mpr ⟨s, h1, by omega, by omega⟩
          · exact z d (covB_true.mpr ⟨y, hy, w⟩)
        · intro z d hd
          obtain ⟨y, hy, w⟩ := covB_true.mp hd
          exact z d (covB_true.mpr ⟨y, List.mem_cons_of_mem _ hy, w⟩)
end G

namespace G
open PySem PySem.Spec PyProof.Rows L2 D
noncomputable def l__law_numbers_1 : DS := (dIfS (dAndT (dCmp gGt (dVar 4) (dC (.int 0))) (dCmp gLt (dOpA gLen (dCons (dVar 2) dNil)) (dVar 1))) (dSeq (dExpr (dMeth "list" gAppend (dVar 2) (dCons (dOp2 gMod (dVar 4) (dC (.int 10007))) dNil))) (dSet 4 (dOp2 gDiv (dVar 4) (dC (.int 10007))))) dPass)
noncomputable def l__law_numbers_2 : DS := (dSeq (dSet 4 (dOpA gAbs (dCons (dOpA gInt (dCons (dOp2 gIx (dVar 0) (dVar 3)) dNil)) dNil))) (dIfS (dCmp gGe (dVar 4) (dOp2 gPow (dC (.int 10)) (dC (.int 18)))) (dFor (dRng1 (dCons (dC (.int 60)) dNil)) (gN 5) [5] l__law_numbers_1) (dIfS (dCmp gLt (dOpA gLen (dCons (dVar 2) dNil)) (dVar 1)) (dSeq (dSet 6 (dOp2 gMod (dOpA gInt (dCons (dOp2 gAdd (dOp2 gAdd (dOp2 gMul (dVar 4) (dC (.int 48271))) (dOp2 gMul (dVar 3) (dC (.int 69621)))) (dC (.int 11))) dNil)) (dC (.int 2147483647)))) (dExpr (dMeth "list" gAppend (dVar 2) (dCons (dOp2 gDiv (dOp2 gMod (dOpA gInt (dCons (dOp2 gAdd (dOp2 gAdd (dOp2 gMul (dVar 6) (dC (.int 16807))) (dOp2 gMul (dC (.int 7)) (dVar 3))) (dC (.int 3))) dNil)) (dC (.int 2147483647))) (dC (.int 3))) dNil)))) dPass)))
noncomputable def l__law_numbers_3 : DS := (dSeq (dIfS (dCmp gGt (dVar 7) (dC (.int 0))) (dSet 8 (dOp2 gAdd (dVar 8) (dOp2 gIx (dVar 2) (dOp2 gMod (dVar 3) (dVar 7))))) dPass) (dSeq (dSet 8 (dOp2 gMod (dOpA gInt (dCons (dOp2 gAdd (dOp2 gMul (dVar 8) (dC (.int 48271))) (dVar 3)) dNil)) (dC (.int 2147483647)))) (dExpr (dMeth "list" gAppend (dVar 2) (dCons (dOp2 gDiv (dVar 8) (dC (.int 7))) dNil)))))
noncomputable def b__law_numbers : DS := (dSeq (dSet 2 (dLst dNil)) (dSeq (dFor (dRng1 (dCons (dOpA gLen (dCons (dVar 0) dNil)) dNil)) (gN 3) [3, 4, 5, 6] l__law_numbers_2) (dSeq (dSet 7 (dOpA gLen (dCons (dVar 2) dNil))) (dSeq (dSet 8 (dOp2 gAdd (dC (.int 5381)) (dOpA gLen (dCons (dVar 0) dNil)))) (dSeq (dFor (dRng1 (dCons (dOpA gMax2 (dCons (dC (.int 0)) (dCons (dOp2 gSub (dVar 1) (dVar 7)) dNil))) dNil)) (gN 3) [3] l__law_numbers_3) (dRet (dSl (dVar 2) dNoPart (dPart (dVar 1)))))))))
noncomputable def F__law_numbers : DF := dDef 2 9 b__law_numbers
/-- numbers of a law, none below 0 -/
def Nn (ns : List Int) : Prop := ∀ n ∈ ns, 0 ≤ n
theorem Nn.snoc {ns : List Int} {i : Int} (h : Nn ns) (h0 : 0 ≤ i) : Nn (ns ++ [i]) := fun n hn => by
  rcases List.mem_append.mp hn with q | q
  · exact h n q
  · rw [List.mem_singleton] at q
    subst q
    exact h0
section
variable {S : Sto} {q : Option PV} {many : Int}
theorem nb_ap (ns : List Int) (v : Int) (h : ns.length ≤ 100000) : gAppend (.loc S.length) [.int v] (S ++ [.lst (intsP ns)]) = some (.ok .non (S ++ [.lst (intsP (ns ++ [v]))])) := by
  rw [ev_append at_0 (by rw [intsP_len]; omega), put_0, intsP_snoc]
theorem nb_ty (ns : List Int) : tyP "list" (.loc S.length) (S ++ [.lst (intsP ns)]) = true := ev_tyL at_0
theorem nb_len (ns : List Int) : gLen [.loc S.length] (S ++ [.lst (intsP ns)]) = some (.ok (.int (ns.length : Int)) (S ++ [.lst (intsP ns)])) := by
  rw [ev_lenL (l := intsP ns) at_0, intsP_len]
theorem nb1 (hm : many ≤ 4000) {k z1 z2 z3 : Option PV} : ∀ (l ns : List Int) (c : Int), Nn ns → ns.length ≤ many → ∃ ns' c', Nn ns' ∧ ns'.length ≤ many ∧
    forL (gN 5) [5] l__law_numbers_1 [] (intsP l) [q, some (.int many), some (.loc S.length), k, some (.int c), none, z1, z2, z3] (S ++ [.lst (intsP ns)]) = some (.next [q, some (.int many), some (.loc S.length), k, some (.int c'), none, z1, z2, z3] (S ++ [.lst (intsP ns')]))
  | [], ns, c, g, hl => ⟨ns, c, g, hl, by rw [intsP_nil, forL_nil (by simp)]⟩
  | i :: l, ns, c, g, hl => by
    have e7 := ev_mod (S := S ++ [.lst (intsP ns)]) (i := c) (j := 10007) (by omega)
    have e8 := fun S => ev_div (S := S) (i := c) (j := 10007) (by omega)
    rw [intsP_cons]
    by_cases h1 : 0 < c
    · by_cases h2 : (ns.length : Int) < many
      · obtain ⟨ns', c', g', hl', ih⟩ := nb1 hm (k := k) (z1 := z1) (z2 := z2) (z3 := z3) l (ns ++ [c % 10007]) (c / 10007) (g.snoc (Int.emod_nonneg _ (by omega))) (by simp; omega)
        refine ⟨ns', c', g', hl', ?_⟩
        rw [forL_cons (by simp)]
        simp [l__law_numbers_1, h1, h2, nb_len, nb_ty, nb_ap ns _ (by omega), e7, e8]
        exact ih
      · obtain ⟨ns', c', g', hl', ih⟩ := nb1 hm (k := k) (z1 := z1) (z2 := z2) (z3 := z3) l ns c g hl
        refine ⟨ns', c', g', hl', ?_⟩
        rw [forL_cons (by simp)]
        simp [l__law_numbers_1, h1, h2, nb_len]
        exact ih
    · obtain ⟨ns', c', g', hl', ih⟩ := nb1 hm (k := k) (z1 := z1) (z2 := z2) (z3 := z3) l ns c g hl
      refine ⟨ns', c', g', hl', ?_⟩
      rw [forL_cons (by simp)]
      simp [l__law_numbers_1, h1]
      exact ih
theorem nb2 (hm : many ≤ 4000) {sc : List Int} {k : Nat} (hk : S[k]? = some (.fz (intsP sc))) {z2 z3 : Option PV} : ∀ (l ns : List Int), (∀ i ∈ l, 0 ≤ i ∧ i < sc.length) → Nn ns → ns.length ≤ many → ∃ ns', Nn ns' ∧ ns'.length ≤ many ∧
    forL (gN 3) [3, 4, 5, 6] l__law_numbers_2 [] (intsP l) [some (.loc k), some (.int many), some (.loc S.length), none, none, none, none, z2, z3] (S ++ [.lst (intsP ns)]) = some (.next [some (.loc k), some (.int many), some (.loc S.length), none, none, none, none, z2, z3] (S ++ [.lst (intsP ns')]))
  | [], ns, _, g, hl => ⟨ns, g, hl, by rw [intsP_nil, forL_nil (by simp)]⟩
  | i :: l, ns, hi, g, hl => by
    obtain ⟨i0, i1⟩ := hi i List.mem_cons_self
    have hx : gIx (.loc k) (.int i) (S ++ [.lst (intsP ns)]) = some (.ok (.int (sc.getD i.toNat 0)) (S ++ [.lst (intsP ns)])) := by
      have h1 : (S ++ [.lst (intsP ns)])[k]? = some (.fz (intsP sc)) := at_old hk
      unfold gIx
      dsimp only
      rw [h1]
      dsimp only
      rw [ints_at i0 i1]
    generalize sc.getD i.toNat 0 = v at hx
    generalize hc : (if v < 0 then -v else v) = c
    have hp : (10 : Int) ^ 18 = 1000000000000000000 := by decide
    have ep := fun S => ev_pow (S := S) (show CPowD 10 18 by unfold CPowD; decide)
    rw [intsP_cons]
    by_cases h1 : 1000000000000000000 ≤ c
    · obtain ⟨n1, c1, g1, l1, e1⟩ := nb1 (S := S) (q := some (.loc k)) hm (k := some (.int i)) (z1 := none) (z2 := z2) (z3 := z3) ((List.range 60).map fun i : Nat => (0 : Int) + (i : Int)) ns c g hl
      rw [← range_ints] at e1
      obtain ⟨n2, g2, l2, e2⟩ := nb2 hm hk (z2 := z2) (z3 := z3) l n1 (fun j hj => hi j (List.mem_cons_of_mem _ hj)) g1 l1
      refine ⟨n2, g2, l2, ?_⟩
      rw [forL_cons (by simp)]
      simp [l__law_numbers_2, hx, hc, ep, hp, h1, e1]
      exact e2
    · by_cases h2 : (ns.length : Int) < many
      · generalize hw : (c * 48271 + i * 69621 + 11) % 2147483647 = w
        generalize hv : (w * 16807 + 7 * i + 3) % 2147483647 / 3 = u
        have h0 : 0 ≤ (w * 16807 + 7 * i + 3) % 2147483647 := Int.emod_nonneg _ (by omega)
        obtain ⟨n2, g2, l2, e2⟩ := nb2 hm hk (z2 := z2) (z3 := z3) l (ns ++ [u]) (fun j hj => hi j (List.mem_cons_of_mem _ hj)) (g.snoc (by omega)) (by simp; omega)
        refine ⟨n2, g2, l2, ?_⟩
        have m1 := fun S x => ev_mulR (S := S) (i := x) (j := 48271) (by omega)
        have m2 := fun S x => ev_mulR (S := S) (i := x) (j := 69621) (by omega)
        have m3 := fun S x => ev_mulR (S := S) (i := x) (j := 16807) (by omega)
        have m4 := fun S x => ev_mulL (S := S) (i := 7) (j := x) (by omega)
        have d1 := fun S x => ev_mod (S := S) (i := x) (j := 2147483647) (by omega)
        have d2 := fun S x => ev_div (S := S) (i := x) (j := 3) (by omega)
        rw [forL_cons (by simp)]
        simp [l__law_numbers_2, hx, hc, ep, hp, h1, nb_len, h2, m1, m2, m3, m4, d1, d2, hw, hv, nb_ty, nb_ap ns _ (by omega)]
        exact e2
      · obtain ⟨n2, g2, l2, e2⟩ := nb2 hm hk (z2 := z2) (z3 := z3) l ns (fun j hj => hi j (List.mem_cons_of_mem _ hj)) g hl
        refine ⟨n2, g2, l2, ?_⟩
        rw [forL_cons (by simp)]
        simp [l__law_numbers_2, hx, hc, ep, hp, h1, nb_len, h2]
        exact e2
theorem nb3 {base : Int} {z4 z5 z6 : Option PV} : ∀ (l ns : List Int) (last : Int), (∀ i ∈ l, 0 ≤ i) → Nn ns → 0 ≤ base → base ≤ ns.length → ns.length + l.length ≤ 4000 → ∃ ns' last', Nn ns' ∧ ns'.length = ns.length + l.length ∧
    forL (gN 3) [3] l__law_numbers_3 [] (intsP l) [q, some (.int many), some (.loc S.length), none, z4, z5, z6, some (.int base), some (.int last)] (S ++ [.lst (intsP ns)]) = some (.next [q, some (.int many), some (.loc S.length), none, z4, z5, z6, some (.int base), some (.int last')] (S ++ [.lst (intsP ns')]))
  | [], ns, last, _, g, _, _, _ => ⟨ns, last, g, by simp, by rw [intsP_nil, forL_nil (by simp)]⟩
  | i :: l, ns, last, hi, g, hb0, hb, hl => by
    rw [List.length_cons] at hl
    have m1 := fun S x => ev_mulR (S := S) (i := x) (j := 48271) (by omega)
    have d1 := fun S x => ev_mod (S := S) (i := x) (j := 2147483647) (by omega)
    have d2 := fun S x => ev_div (S := S) (i := x) (j := 7) (by omega)
    rw [intsP_cons]
    by_cases h1 : 0 < base
    · have b1 := Int.emod_nonneg i (show base ≠ 0 by omega)
      have b2 := Int.emod_lt_of_pos i h1
      have d3 := ev_mod (S := S ++ [.lst (intsP ns)]) (i := i) h1
      have hx := ev_ixL (S := S ++ [.lst (intsP ns)]) (k := S.length) at_0 (ints_at (l := ns) b1 (by omega))
      generalize ns.getD (i % base).toNat 0 = v at hx
      generalize hw : ((last + v) * 48271 + i) % 2147483647 = w
      have h0 : 0 ≤ w := by rw [← hw]; exact Int.emod_nonneg _ (by omega)
      obtain ⟨ns', last', g', l', ih⟩ := nb3 (z4 := z4) (z5 := z5) (z6 := z6) l (ns ++ [w / 7]) w (fun j hj => hi j (List.mem_cons_of_mem _ hj)) (g.snoc (by omega)) hb0 (by simp; omega) (by simp; omega)
      refine ⟨ns', last', g', by rw [l']; simp; omega, ?_⟩
      rw [forL_cons (by simp)]
      simp [l__law_numbers_3, h1, d3, hx, m1, d1, hw, d2, nb_ty, nb_ap ns _ (by omega)]
      exact ih
    · generalize hw : (last * 48271 + i) % 2147483647 = w
      have h0 : 0 ≤ w := by rw [← hw]; exact Int.emod_nonneg _ (by omega)
      obtain ⟨ns', last', g', l', ih⟩ := nb3 (z4 := z4) (z5 := z5) (z6 := z6) l (ns ++ [w / 7]) w (fun j hj => hi j (List.mem_cons_of_mem _ hj)) (g.snoc (by omega)) hb0 (by simp; omega) (by simp; omega)
      refine ⟨ns', last', g', by rw [l']; simp; omega, ?_⟩
      rw [forL_cons (by simp)]
      simp [l__law_numbers_3, h1, m1, d1, hw, d2, nb_ty, nb_ap ns _ (by omega)]
      exact ih
end
theorem numbers_spec {S : Sto} {k : Nat} {sc : List Int} (hk : S[k]? = some (.fz (intsP sc))) {many : Int} (h0 : 0 ≤ many) (hm : many ≤ 1000) : ∃ ns : List Int, Nn ns ∧ (ns.length : Int) = many ∧ F__law_numbers [.loc k, .int many] S = some (.ok (.loc S.length) (S ++ [.lst (intsP ns)])) := by
  obtain ⟨n1, g1, l1, e1⟩ := nb2 (S := S) (many := many) (by omega) hk (z2 := none) (z3 := none) ((List.range sc.length).map fun i : Nat => (0 : Int) + (i : Int)) [] (fun i hi => by
    obtain ⟨j, hj, rfl⟩ := List.mem_map.mp hi
    rw [List.mem_range] at hj
    omega) (fun n hn => by cases hn) (by simpa using h0)
  rw [← range_ints, intsP_nil] at e1
  obtain ⟨n2, last, g2, l2, e2⟩ := nb3 (S := S) (q := some (.loc k)) (many := many) (base := n1.length) (z4 := none) (z5 := none) (z6 := none) ((List.range (many - n1.length).toNat).map fun i : Nat => (0 : Int) + (i : Int)) n1 (5381 + sc.length) (fun i hi => by
    obtain ⟨j, hj, rfl⟩ := List.mem_map.mp hi
    omega) g1 (by omega) (by omega) (by simp; omega)
  rw [← range_ints] at e2
  have hl2 : (n2.length : Int) = many := by rw [l2]; simp; omega
  have hcut : cutP (intsP n2) none (some many) = intsP n2 := by
    rw [cut_to h0, List.take_of_length_le (by rw [intsP_len]; omega)]
  refine ⟨n2, g2, hl2, ?_⟩
  have sl : gSl (.loc S.length) none (some many) (S ++ [.lst (intsP n2)]) = some (.ok (.loc (S.length + 1)) (S ++ [.lst (intsP n2), .lst (intsP n2)])) := by
    rw [ev_gSlL at_0, hcut]
    simp
  have lf : ∀ T, gLen [.loc k] (S ++ T) = some (.ok (.int (sc.length : Int)) (S ++ T)) := fun T => by
    rw [ev_lenF (l := intsP sc) (at_old hk), intsP_len]
  refine call_new (j := S.length + 1) (l := intsP n2) (T := [.lst (intsP n2), .lst (intsP n2)]) ?_ at_1 (by omega) (noLocs_ints _)
  have hmx : ∀ x : Int, (if x > 0 then x else 0).toNat = x.toNat := fun x => by split <;> omega
  have ltn : ((sc.length : Int)).toNat = sc.length := by omega
  simp only [b__law_numbers, ev_seq, ev_set, ev_lst, ev_nil, ev_bR_ok, ev_lst0, ev_bS_ok, ev_bN_next, List.map_cons, List.map_nil, List.cons_append, List.nil_append, List.replicate, Nat.reduceSub, List.set_cons_succ, List.set_cons_zero, ev_for, ev_rng1, ev_cons, ev_opA, ev_var, List.getElem?_cons_succ, List.getElem?_cons_zero, lf, ltn, ev_killC, ev_killN, e1, nb_len, ev_op2, ev_c, ev_addI, ev_sub, ev_max2, hmx, e2, ev_ret, ev_sl, ev_noPart, ev_part, sl]
end G

namespace G
open PySem PySem.Spec PyProof.Rows L2 D
noncomputable def b_check_point : DS := (dIfS (dOrT (dCmp gLt (dVar 1) (dC (.int 0))) (dCmp gGe (dVar 1) (dVar 0))) (dRaise "NotAllowed") dPass)
noncomputable def F_check_point : DF := dDef 2 2 b_check_point
noncomputable def b_check_points : DS := (dIfS (dOrT (dCmp gLt (dVar 0) (dC (.int 1))) (dCmp gGt (dVar 0) (dC (.int 80)))) (dRaise "NotAllowed") dPass)
noncomputable def F_check_points : DF := dDef 1 1 b_check_points
noncomputable def l_check_literals_1 : DS := (dSeq (dExpr (dOpA F_check_point (dCons (dVar 0) (dCons (dVar 2) dNil)))) (dExpr (dOpA F_check_point (dCons (dVar 0) (dCons (dVar 3) dNil)))))
noncomputable def b_check_literals : DS := (dSeq (dExpr (dOpA F_check_points (dCons (dVar 0) dNil))) (dFor (dSeqI (dVar 1)) (gT 3 (gsCons (gN 2) (gsCons (gN 3) (gsCons (gN 4) gsNil)))) [2, 3, 4] l_check_literals_1))
noncomputable def F_check_literals : DF := dDef 2 5 b_check_literals
noncomputable def b_is_ring : DS := (dSeq (dIfS (dOrT (dCmp gEq (dOpA gLen (dCons (dVar 0) dNil)) (dC (.int 0))) (dCmp gGe (dOpA gSumL (dCons (dComp (dSeqI (dVar 0)) (nmTup [1, 1, 2]) [1, 2] dYes (dVar 2)) dNil)) (dC (.int 0)))) (dRet (dC (.bl false))) dPass) (dRet (dOpA gAllL (dCons (dComp (dRng1 (dCons (dOpA gLen (dCons (dVar 0) dNil)) dNil)) (nmOne 3) [3] dYes (dOp2 gEq (dOp2 gIx (dOp2 gIx (dVar 0) (dVar 3)) (dC (.int 0))) (dOp2 gIx (dOp2 gIx (dVar 0) (dOp2 gSub (dVar 3) (dC (.int 1)))) (dC (.int 1))))) dNil))))
noncomputable def F_is_ring : DF := dDef 1 4 b_is_ring
noncomputable def b_satisfies : DS := (dRet (dOpA gAllL (dCons (dComp (dSeqI (dVar 1)) (nmTup [2, 3, 4]) [2, 3, 4] dYes (dOp2 gLe (dOp2 gSub (dOp2 gIx (dVar 0) (dVar 2)) (dOp2 gIx (dVar 0) (dVar 3))) (dVar 4))) dNil)))
noncomputable def F_satisfies : DF := dDef 2 5 b_satisfies
/-! ### a list or a tuple -/
def Seq (S : Sto) (v : PV) (l : List PV) (keep : List (Nat × PO)) : Prop := (v = .tup l ∧ keep = []) ∨ ∃ k, v = .loc k ∧ S[k]? = some (.lst l) ∧ keep = [(k, .lst l)]
section
variable {S T : Sto} {v : PV} {l : List PV} {keep : List (Nat × PO)}
theorem Seq.tup : Seq S (.tup l) l [] := .inl ⟨rfl, rfl⟩
theorem Seq.lst {k : Nat} (h : S[k]? = some (.lst l)) : Seq S (.loc k) l [(k, .lst l)] := .inr ⟨k, rfl, h, rfl⟩
theorem Seq.app (h : Seq S v l keep) : Seq (S ++ T) v l keep := by
  rcases h with h | ⟨k, h1, h2, h3⟩
  · exact .inl h
  · exact .inr ⟨k, h1, at_old h2, h3⟩
theorem Seq.kept (h : Seq S v l keep) : Kept keep S := by
  rcases h with ⟨_, rfl⟩ | ⟨k, _, h2, rfl⟩
  · simp
  · simpa using h2
theorem Seq.it (h : Seq S v l keep) {f : DE} {ρ : En} (hf : f ρ S = some (.ok v S)) : dSeqI f ρ S = some (.ok ⟨l, keep⟩ S) := by
  rw [ev_seqI, hf, ev_bR_ok]
  rcases h with ⟨rfl, rfl⟩ | ⟨k, rfl, h2, rfl⟩
  · rfl
  · dsimp only
    rw [h2]
theorem Seq.len (h : Seq S v l keep) : gLen [v] S = some (.ok (.int (l.length : Int)) S) := by
  rcases h with ⟨rfl, rfl⟩ | ⟨k, rfl, h2, rfl⟩
  · exact ev_lenT l
  · exact ev_lenL h2
theorem Seq.ix (h : Seq S v l keep) {i : Int} {x : PV} (hx : atI l i = some x) : gIx v (.int i) S = some (.ok x S) := by
  rcases h with ⟨rfl, rfl⟩ | ⟨k, rfl, h2, rfl⟩
  · exact ev_ixT hx
  · exact ev_ixL h2 hx
end
/-! ### literals -/
abbrev T3 := Int × Int × Int
def tripP (p : T3) : PV := .tup [.int p.1, .int p.2.1, .int p.2.2]
def tripsP (l : List T3) : List PV := l.map tripP
@[simp] theorem tripsP_nil : tripsP [] = [] := rfl
@[simp] theorem tripsP_cons (p : T3) (l : List T3) : tripsP (p :: l) = tripP p :: tripsP l := rfl
@[simp] theorem tripsP_len (l : List T3) : (tripsP l).length = l.length := List.length_map ..
theorem tripsP_append (l r : List T3) : tripsP (l ++ r) = tripsP l ++ tripsP r := List.map_append
theorem tripsP_snoc (l : List T3) (i : T3) : tripsP l ++ [tripP i] = tripsP (l ++ [i]) := by rw [tripsP_append]; rfl
theorem tripsP_take (l : List T3) (n : Nat) : (tripsP l).take n = tripsP (l.take n) := (List.map_take).symm
theorem tripsP_drop (l : List T3) (n : Nat) : (tripsP l).drop n = tripsP (l.drop n) := (List.map_drop).symm
theorem noLocs_trips : ∀ l : List T3, noLocs (tripsP l) = true
  | [] => rfl
  | i :: l => by
    show (noLoc (tripP i) && noLocs (tripsP l)) = true
    rw [noLocs_trips l]; rfl
theorem trips_at {l : List T3} {i : Int} (h0 : 0 ≤ i) (h : i < l.length) : atI (tripsP l) i = some (tripP (l.getD i.toNat (0, 0, 0))) := by
  have hl : i.toNat < l.length := by omega
  rw [atI_nat h0 (by rw [tripsP_len]; exact hl)]
  unfold tripsP
  rw [List.getElem_map, List.getD_eq_getElem?_getD, List.getElem?_eq_getElem hl, Option.getD_some]
@[simp] theorem ev_ixt0 {S : Sto} (p : T3) : gIx (tripP p) (.int 0) S = some (.ok (.int p.1) S) := (rfl)
@[simp] theorem ev_ixt1 {S : Sto} (p : T3) : gIx (tripP p) (.int 1) S = some (.ok (.int p.2.1) S) := (rfl)
@[simp] theorem ev_ixt2 {S : Sto} (p : T3) : gIx (tripP p) (.int 2) S = some (.ok (.int p.2.2) S) := (rfl)
/-! checks -/
theorem points_ok {S : Sto} {n : Int} (h : 1 ≤ n ∧ n ≤ 80) : F_check_points [.int n] S = some (.ok .non S) := by
  have h1 : ¬ n < 1 := by omega
  have h2 : ¬ 80 < n := by omega
  have hb : b_check_points ([PV.int n].map some ++ List.replicate (1 - 1) none) S = some (.next [some (.int n)] S) := by simp [b_check_points, h1, h2]
  exact (dDef_next (k := 1) (n := 1) rfl hb).trans (by rw [gc_ok_same rfl])
theorem points_bad {S : Sto} {n : Int} (h : ¬ (1 ≤ n ∧ n ≤ 80)) : F_check_points [.int n] S = some (.exc ⟨"NotAllowed", []⟩ S) := by
  refine call_exc0 (ρ := [some (.int n)]) ?_
  by_cases h1 : n < 1
  · simp [b_check_points, h1]
  · have h2 : 80 < n := by omega
    simp [b_check_points, h1, h2]
theorem point_ok {S : Sto} {n a : Int} (h : 0 ≤ a ∧ a < n) : F_check_point [.int n, .int a] S = some (.ok .non S) := by
  have h1 : ¬ a < 0 := by omega
  have h2 : ¬ n ≤ a := by omega
  have hb : b_check_point ([PV.int n, PV.int a].map some ++ List.replicate (2 - 2) none) S = some (.next [some (.int n), some (.int a)] S) := by simp [b_check_point, h1, h2]
  exact (dDef_next (k := 2) (n := 2) rfl hb).trans (by rw [gc_ok_same rfl])
theorem point_bad {S : Sto} {n a : Int} (h : ¬ (0 ≤ a ∧ a < n)) : F_check_point [.int n, .int a] S = some (.exc ⟨"NotAllowed", []⟩ S) := by
  refine call_exc0 (ρ := [some (.int n), some (.int a)]) ?_
  by_cases h1 : a < 0
  · simp [b_check_point, h1]
  · have h2 : n ≤ a := by omega
    simp [b_check_point, h1, h2]
/-- all of them between points below n -/
def ptsB (n : Int) (l : List T3) : Bool := l.all fun p => decide (0 ≤ p.1 ∧ p.1 < n) && decide (0 ≤ p.2.1 ∧ p.2.1 < n)
theorem lits_loop {S : Sto} {keep : List (Nat × PO)} (hk : Kept keep S) {q : Option PV} {n : Int} : ∀ l : List T3, ∃ ρ', forL (gT 3 (gsCons (gN 2) (gsCons (gN 3) (gsCons (gN 4) gsNil)))) [2, 3, 4] l_check_literals_1 keep (tripsP l) [some (.int n), q, none, none, none] S =
    if ptsB n l = true then some (.next [some (.int n), q, none, none, none] S) else some (.exc ⟨"NotAllowed", []⟩ ρ' S)
  | [] => ⟨[], by rw [tripsP_nil, forL_nil hk]; rfl⟩
  | p :: r => by
    obtain ⟨ρ', ih⟩ := lits_loop hk (q := q) (n := n) r
    have hc : ptsB n (p :: r) = ((decide (0 ≤ p.1 ∧ p.1 < n) && decide (0 ≤ p.2.1 ∧ p.2.1 < n)) && ptsB n r) := rfl
    by_cases h1 : 0 ≤ p.1 ∧ p.1 < n
    · by_cases h2 : 0 ≤ p.2.1 ∧ p.2.1 < n
      · refine ⟨ρ', ?_⟩
        rw [tripsP_cons, forL_cons hk, hc]
        simp [tripP, l_check_literals_1, point_ok h1, point_ok h2, h1, h2]
        exact ih
      · refine ⟨[some (.int n), q, some (.int p.1), some (.int p.2.1), some (.int p.2.2)], ?_⟩
        rw [tripsP_cons, forL_cons hk, hc, decide_eq_false h2]
        simp [tripP, l_check_literals_1, point_ok h1, point_bad h2]
    · refine ⟨[some (.int n), q, some (.int p.1), some (.int p.2.1), some (.int p.2.2)], ?_⟩
      rw [tripsP_cons, forL_cons hk, hc, decide_eq_false h1]
      simp [tripP, l_check_literals_1, point_bad h1]
theorem lits_ok {S : Sto} {n : Int} {v : PV} {l : List T3} {keep : List (Nat × PO)} (hv : Seq S v (tripsP l) keep) (hn : 1 ≤ n ∧ n ≤ 80) (h : ptsB n l = true) : F_check_literals [.int n, v] S = some (.ok .non S) := by
  obtain ⟨ρ', e⟩ := lits_loop hv.kept (q := some v) (n := n) l
  rw [if_pos h] at e
  have it := hv.it (f := dVar 1) (ρ := [some (.int n), some v, none, none, none]) (by simp)
  have hb : b_check_literals ([PV.int n, v].map some ++ List.replicate (5 - 2) none) S = some (.next [some (.int n), some v, none, none, none] S) := by
    simp only [b_check_literals, ev_seq, ev_expr, ev_opA, ev_cons, List.map_cons, List.map_nil, List.cons_append, List.nil_append, List.replicate, Nat.reduceSub, ev_var, List.getElem?_cons_succ, List.getElem?_cons_zero, ev_nil, ev_bR_ok, points_ok hn, ev_bS_ok, ev_bN_next, ev_for, it, ev_killC, ev_killN, List.set_cons_succ, List.set_cons_zero, e]
  exact (dDef_next (k := 2) (n := 5) rfl hb).trans (by rw [gc_ok_same rfl])
theorem lits_bad {S : Sto} {n : Int} {v : PV} {l : List T3} {keep : List (Nat × PO)} (hv : Seq S v (tripsP l) keep) (h : ¬ (1 ≤ n ∧ n ≤ 80) ∨ ptsB n l = false) : F_check_literals [.int n, v] S = some (.exc ⟨"NotAllowed", []⟩ S) := by
  by_cases hn : 1 ≤ n ∧ n ≤ 80
  · have h : ptsB n l = false := by
      rcases h with h | h
      · exact absurd hn h
      · exact h
    obtain ⟨ρ', e⟩ := lits_loop hv.kept (q := some v) (n := n) l
    rw [if_neg (by rw [h]; simp)] at e
    have it := hv.it (f := dVar 1) (ρ := [some (.int n), some v, none, none, none]) (by simp)
    refine call_exc0 (ρ := ρ') ?_
    simp only [b_check_literals, ev_seq, ev_expr, ev_opA, ev_cons, List.map_cons, List.map_nil, List.cons_append, List.nil_append, List.replicate, Nat.reduceSub, ev_var, List.getElem?_cons_succ, List.getElem?_cons_zero, ev_nil, ev_bR_ok, points_ok hn, ev_bS_ok, ev_bN_next, ev_for, it, ev_killC, ev_killN, List.set_cons_succ, List.set_cons_zero, e]
  · refine call_exc0 (ρ := [some (.int n), some v, none, none, none]) ?_
    simp only [b_check_literals, ev_seq, ev_expr, ev_opA, ev_cons, List.map_cons, List.map_nil, List.cons_append, List.nil_append, List.replicate, Nat.reduceSub, ev_var, List.getElem?_cons_succ, List.getElem?_cons_zero, ev_nil, ev_bR_ok, points_bad hn, ev_bS_exc, ev_bN_exc]
/-! satisfies -/
theorem blsAt_of {k : Nat} {S : Sto} {bs : List Bool} (h : S[k]? = some (.lst (bs.map PV.bl))) : blsAt k S = some bs := by
  unfold blsAt lstOf
  rw [h]
  exact (mapO_map (f := blP) (e := PV.bl) (d := fun x => x) (l := bs) fun x _ => rfl).trans (by simp)
theorem intsAt_of2 {k : Nat} {S : Sto} {ns : List Int} (h : S[k]? = some (.lst (intsP ns))) : intsAt k S = some ns := by
  unfold intsAt lstOf
  rw [h]
  exact (mapO_map (f := intP) (e := PV.int) (d := fun x => x) (l := ns) fun x _ => rfl).trans (by simp)
/-- all(..) of a comprehension -/
theorem all_comp {α : Type} {f : PV → Option (List Nat × List PV)} {own : List Nat} {elt : DE} {ρ : En} {S : Sto} {it : DI} {keep : List (Nat × PO)} {items : List α} (e : α → PV) (t : α → Bool)
    (hi : it ρ S = some (.ok ⟨items.map e, keep⟩ S)) (hk : Kept keep S) (h : ∀ x ∈ items, ∀ acc, ∃ is l, f (e x) = some (is, l) ∧ elt (setsE is l (killE own ρ)) (S ++ [.lst acc]) = some (.ok (.bl (t x)) (S ++ [.lst acc]))) (hl : items.length ≤ 16777216) :
    dOpA gAllL (dCons (dComp it f own dYes elt) dNil) ρ S = some (.ok (.bl (items.all t)) (S ++ [.lst ((items.map t).map PV.bl)])) := by
  have c := ev_compF (f := f) (own := own) (tt := dYes) (elt := elt) (ρ := ρ) (S := S) (S1 := S) (it := it) (items := items) e (fun _ => true) (fun x => .bl (t x)) hi hk (fun x hx acc => by
    obtain ⟨is, l, h1, h2⟩ := h x hx acc
    exact ⟨is, l, h1, rfl, fun _ => h2⟩) hl
  have hm : (items.filter fun _ => true).map (fun x => PV.bl (t x)) = (items.map t).map PV.bl := by
    rw [List.filter_eq_self.mpr fun _ _ => rfl, List.map_map]
    rfl
  rw [hm] at c
  rw [ev_opA, ev_cons, c]
  simp only [ev_bR_ok, ev_nil]
  unfold gAllL
  dsimp only
  rw [blsAt_of (at_0 (T := []))]
  simp [List.all_map]
/-- all differences at most as told -/
def satB (vs : List Int) (l : List T3) : Bool := l.all fun p => decide (vs.getD p.1.toNat 0 - vs.getD p.2.1.toNat 0 ≤ p.2.2)
theorem satisfies_spec {S : Sto} {v w : PV} {vs : List Int} {l : List T3} {k1 k2 : List (Nat × PO)} (hv : Seq S v (intsP vs) k1) (hw : Seq S w (tripsP l) k2) (hp : ptsB vs.length l = true) (hl : l.length ≤ 1000000) : F_satisfies [v, w] S = some (.ok (.bl (satB vs l)) S) := by
  refine call_val (T := [.lst ((l.map fun p => decide (vs.getD p.1.toNat 0 - vs.getD p.2.1.toNat 0 ≤ p.2.2)).map PV.bl)]) ?_ rfl
  have it := hw.it (f := dVar 1) (ρ := [some v, some w, none, none, none]) (by simp)
  have ac := all_comp (f := nmTup [2, 3, 4]) (own := [2, 3, 4]) (elt := dOp2 gLe (dOp2 gSub (dOp2 gIx (dVar 0) (dVar 2)) (dOp2 gIx (dVar 0) (dVar 3))) (dVar 4)) (ρ := [some v, some w, none, none, none]) (items := l) tripP (fun p => decide (vs.getD p.1.toNat 0 - vs.getD p.2.1.toNat 0 ≤ p.2.2)) it hw.kept (fun p hm acc => by
    have h := List.all_eq_true.mp hp p hm
    simp only [Bool.and_eq_true, decide_eq_true_eq] at h
    have x1 := (hv.app (T := [.lst acc])).ix (ints_at h.1.1 h.1.2)
    have x2 := (hv.app (T := [.lst acc])).ix (ints_at h.2.1 h.2.2)
    exact ⟨[2, 3, 4], [.int p.1, .int p.2.1, .int p.2.2], rfl, by simp only [setsE, ev_killC, ev_killN, List.set_cons_succ, List.set_cons_zero, ev_op2, ev_var, List.getElem?_cons_succ, List.getElem?_cons_zero, ev_bR_ok, x1, x2, ev_sub, ev_rel]⟩) (by omega)
  simp only [b_satisfies, ev_ret, List.map_cons, List.map_nil, List.cons_append, List.nil_append, List.replicate, Nat.reduceSub]
  rw [ac]
  rfl
/-! is_ring -/
def prevI (n i : Nat) : Nat := if i = 0 then n - 1 else i - 1
def linkB (l : List T3) : Bool := (List.range l.length).all fun i => decide ((l.getD i (0, 0, 0)).1 = (l.getD (prevI l.length i) (0, 0, 0)).2.1)
def ringB (l : List T3) : Bool := !l.isEmpty && decide ((l.map fun p => p.2.2).sum < 0) && linkB l
theorem atI_neg1 {γ : Type} {l : List γ} (h : 0 < l.length) : atI l (-1) = l[l.length - 1]? := by
  unfold atI ixN
  rw [if_neg (by omega), if_pos (by omega)]
  have : (-1 + (l.length : Int)).toNat = l.length - 1 := by omega
  rw [this]
  rfl
theorem is_ring_spec {S : Sto} {v : PV} {l : List T3} {k1 : List (Nat × PO)} (hv : Seq S v (tripsP l) k1) (hl : l.length ≤ 1000000) : F_is_ring [v] S = some (.ok (.bl (ringB l)) S) := by
  by_cases h0 : l = []
  · subst h0
    refine call_val0 ?_ rfl
    have hlen := hv.len
    rw [tripsP_nil] at hlen
    simp [b_is_ring, hlen, ringB]
  · have hpos : 0 < l.length := List.length_pos_iff.mpr h0
    have hne : ¬ ((l.length : Int) = 0) := by omega
    have hlen := fun T => (hv.app (T := T)).len
    rw [tripsP_len] at hlen
    have hlen0 := hv.len
    rw [tripsP_len] at hlen0
    have it := hv.it (f := dVar 0) (ρ := [some v, none, none, none]) (by simp)
    have c1 := ev_compF (f := nmTup [1, 1, 2]) (own := [1, 2]) (tt := dYes) (elt := dVar 2) (ρ := [some v, none, none, none]) (S := S) (S1 := S) (items := l) tripP (fun _ => true) (fun p => .int p.2.2) it hv.kept (fun p _ acc => ⟨[1, 1, 2], [.int p.1, .int p.2.1, .int p.2.2], rfl, rfl, fun _ => by simp [setsE]⟩) (by omega)
    have hm : (l.filter fun _ => true).map (fun p => PV.int p.2.2) = intsP (l.map fun p => p.2.2) := by
      rw [List.filter_eq_self.mpr fun _ _ => rfl]
      unfold intsP
      rw [List.map_map]
      rfl
    rw [hm] at c1
    have sm : gSumL [.loc S.length] (S ++ [.lst (intsP (l.map fun p => p.2.2))]) = some (.ok (.int (l.map fun p => p.2.2).sum) (S ++ [.lst (intsP (l.map fun p => p.2.2))])) := by
      unfold gSumL
      dsimp only
      rw [intsAt_of2 at_0]
    let U : Sto := S ++ [.lst (intsP (l.map fun p => p.2.2))]
    have hvU : Seq U v (tripsP l) k1 := hv.app
    have rg : dRng1 (dCons (dOpA gLen (dCons (dVar 0) dNil)) dNil) [some v, none, none, none] U = some (.ok ⟨(List.range l.length).map fun i : Nat => PV.int (0 + (i : Int)), []⟩ U) := by
      have hlU := hvU.len
      rw [tripsP_len] at hlU
      simp only [ev_rng1, ev_cons, ev_opA, ev_var, List.getElem?_cons_zero, ev_nil, ev_bR_ok, hlU]
      rw [show ((l.length : Int)).toNat = l.length by omega]
      rfl
    have ac := all_comp (f := nmOne 3) (own := [3]) (elt := dOp2 gEq (dOp2 gIx (dOp2 gIx (dVar 0) (dVar 3)) (dC (.int 0))) (dOp2 gIx (dOp2 gIx (dVar 0) (dOp2 gSub (dVar 3) (dC (.int 1)))) (dC (.int 1)))) (ρ := [some v, none, none, none]) (S := U) (keep := []) (items := List.range l.length) (fun i : Nat => PV.int (0 + (i : Int))) (fun i => decide ((l.getD i (0, 0, 0)).1 = (l.getD (prevI l.length i) (0, 0, 0)).2.1)) rg (by simp) (fun i hi acc => by
      rw [List.mem_range] at hi
      refine ⟨[3], [.int (0 + (i : Int))], rfl, ?_⟩
      have x1 := (hvU.app (T := [.lst acc])).ix (trips_at (l := l) (i := 0 + (i : Int)) (by omega) (by omega))
      have x2 : gIx v (.int (0 + (i : Int) - 1)) (U ++ [.lst acc]) = some (.ok (tripP (l.getD (prevI l.length i) (0, 0, 0))) (U ++ [.lst acc])) := by
        refine (hvU.app (T := [.lst acc])).ix ?_
        unfold prevI
        by_cases hz : i = 0
        · subst hz
          rw [if_pos rfl, show (0 : Int) + ((0 : Nat) : Int) - 1 = -1 by omega, atI_neg1 (by rw [tripsP_len]; exact hpos), tripsP_len]
          unfold tripsP
          rw [List.getElem?_map, List.getD_eq_getElem?_getD, List.getElem?_eq_getElem (show l.length - 1 < l.length by omega)]
          rfl
        · rw [if_neg hz]
          have := trips_at (l := l) (i := 0 + (i : Int) - 1) (by omega) (by omega)
          rw [this]
          congr 3
          omega
      rw [show (0 + (i : Int)).toNat = i by omega] at x1
      simp only [setsE, ev_killC, ev_killN, List.set_cons_succ, List.set_cons_zero, ev_op2, ev_var, List.getElem?_cons_succ, List.getElem?_cons_zero, ev_bR_ok, x1, ev_c, ev_ixt0, ev_sub, x2, ev_ixt1, ev_eqI]) (by rw [List.length_range]; omega)
    by_cases hs : 0 ≤ (l.map fun p => p.2.2).sum
    · refine call_val (T := [.lst (intsP (l.map fun p => p.2.2))]) ?_ rfl
      have hs2 : ¬ (l.map fun p => p.2.2).sum < 0 := by omega
      simp [b_is_ring, hlen0, hne, c1, sm, hs, ringB, h0, hs2]
    · refine call_val (T := [.lst (intsP (l.map fun p => p.2.2)), .lst (((List.range l.length).map fun i => decide ((l.getD i (0, 0, 0)).1 = (l.getD (prevI l.length i) (0, 0, 0)).2.1)).map PV.bl)]) ?_ rfl
      have hs2 : (l.map fun p => p.2.2).sum < 0 := by omega
      have hr : ringB l = linkB l := by
        unfold ringB
        have : l.isEmpty = false := by cases l with
          | nil => exact absurd rfl h0
          | cons a b => rfl
        simp [this, hs2]
      rw [hr]
      simp only [b_is_ring, ev_seq, ev_ifS, ev_orT, ev_cmp, ev_opA, ev_cons, List.map_cons, List.map_nil, List.cons_append, List.nil_append, List.replicate, Nat.reduceSub, ev_var, List.getElem?_cons_zero, ev_nil, ev_bR_ok, hlen0, ev_c, ev_eqI, hne, decide_false, ev_asB, Bool.false_eq_true, if_false, c1, sm, ev_rel, hs, ev_bS_ok, ev_pass, ev_bN_next, ev_ret]
      have ac2 : dOpA gAllL (dCons (dComp (dRng1 (dCons (dOpA gLen (dCons (dVar 0) dNil)) dNil)) (nmOne 3) [3] dYes (dOp2 gEq (dOp2 gIx (dOp2 gIx (dVar 0) (dVar 3)) (dC (.int 0))) (dOp2 gIx (dOp2 gIx (dVar 0) (dOp2 gSub (dVar 3) (dC (.int 1)))) (dC (.int 1))))) dNil) [some v, none, none, none] (S ++ [.lst (intsP (l.map fun p => p.2.2))]) = _ := ac
      simp only [ev_opA] at ac2
      rw [ev_cons] at ac2
      simp only [ev_nil, ev_bR_ok] at ac2
      rw [ac2]
      simp [U, linkB]
end G

/-! S24: worlds: names, make_world, calendar_of, keeps_rule. -/
namespace G
open PySem PySem.Spec PyProof.Rows L2 D
/-! is_name(text): slots 0 text, 1 sign -/
noncomputable def b_is_name : DS := (dSeq (dIfS (dOrT (dCmp gLt (dOpA gLen (dCons (dVar 0) dNil)) (dC (.int 1))) (dOrT (dCmp gGt (dOpA gLen (dCons (dVar 0) dNil)) (dC (.int 20))) (dCmp gIn (dVar 0) (dC (.tup [(.str "next"), (.str "prev"), (.str "open"), (.str "later"), (.str "earlier"), (.str "if"), (.str "is"), (.str "not"), (.str "and"), (.str "or"), (.str "yes"), (.str "calendar"), (.str "run"), (.str "within"), (.str "known"), (.str "to"), (.str "closed"), (.str "assume"), (.str "claim"), (.str "event"), (.str "rule"), (.str "on"), (.str "when"), (.str "due"), (.str "met"), (.str "called"), (.str "missed"), (.str "filed")]))))) (dRet (dC (.bl false))) dPass) (dRet (dAnd2 (dOp2 (gInS false) (dOp2 gIx (dVar 0) (dC (.int 0))) (dC (.str "abcdefghijklmnopqrstuvwxyz"))) (dOpA gAllL (dCons (dComp (dStrI (dVar 0)) (nmOne 1) [1] dYes (dOp2 (gInS false) (dVar 1) (dC (.str "abcdefghijklmnopqrstuvwxyz0123456789")))) dNil)))))
noncomputable def F_is_name : DF := dDef 1 2 b_is_name
/-! _check_names(table): slots 0 table, 1 name -/
noncomputable def l__check_names_1 : DS := (dBody [1] (dIfS (dNotT (dTru (dOpA F_is_name (dCons (dVar 1) dNil)))) (dRaise "NotAllowed") dPass))
noncomputable def b__check_names : DS := (dLock 0 (dFor (dKeysI (dVar 0)) (gN 1) [1] l__check_names_1))
noncomputable def F__check_names : DF := dDef 1 2 b__check_names
/-! _found(pairs, name): slots 0 pairs, 1 name, 2 other, 3 content -/
noncomputable def l__found_1 : DS := (dIfS (dCmp gEq (dVar 2) (dVar 1)) (dRet (dVar 3)) dPass)
noncomputable def b__found : DS := (dSeq (dFor (dSeqI (dVar 0)) (gT 2 (gsCons (gN 2) (gsCons (gN 3) gsNil))) [2, 3] l__found_1) (dRaiseF "Missing" "name" (dVar 1)))
noncomputable def F__found : DF := dDef 2 4 b__found
/-! calendar_of(world, name): slots 0 world, 1 name -/
noncomputable def b_calendar_of : DS := (dRet (dOpA F__found (dCons (dOp2 gIx (dVar 0) (dC (.int 0))) (dCons (dVar 1) dNil))))
noncomputable def F_calendar_of : DF := dDef 2 2 b_calendar_of
/-! make_world(calendars, days, flags): slots 0 calendars, 1 days, 2 flags, 3 name -/
noncomputable def l_make_world_1 : DS := (dBody [3] (dIfS (dNotT (dTru (dOpA F_is_closed_days (dCons (dOp2 gIxD (dVar 0) (dVar 3)) dNil)))) (dRaise "NotAllowed") dPass))
noncomputable def b_make_world_t4 : DS := (dRet (dTup (dCons (dOpA gTuple (dCons (dComp (dSeqI (dOpA gSortD (dCons (dVar 0) dNil))) (nmOne 3) [3] dYes (dTup (dCons (dVar 3) (dCons (dOp2 gIxD (dVar 0) (dVar 3)) dNil)))) dNil)) (dCons (dOpA gTuple (dCons (dComp (dSeqI (dOpA gSortD (dCons (dVar 1) dNil))) (nmOne 3) [3] dYes (dTup (dCons (dVar 3) (dCons (dOp2 gIxD (dVar 1) (dVar 3)) dNil)))) dNil)) (dCons (dOpA gTuple (dCons (dComp (dSeqI (dOpA gSortD (dCons (dVar 2) dNil))) (nmOne 3) [3] dYes (dTup (dCons (dVar 3) (dCons (dOp2 gIxD (dVar 2) (dVar 3)) dNil)))) dNil)) dNil)))))
noncomputable def b_make_world_t3 : DS := (dSeq (dLock 0 (dFor (dKeysI (dVar 0)) (gN 3) [3] l_make_world_1)) b_make_world_t4)
noncomputable def b_make_world_t2 : DS := (dSeq (dExpr (dOpA F__check_names (dCons (dVar 2) dNil))) b_make_world_t3)
noncomputable def b_make_world_t1 : DS := (dSeq (dExpr (dOpA F__check_names (dCons (dVar 1) dNil))) b_make_world_t2)
noncomputable def b_make_world_t0 : DS := (dSeq (dExpr (dOpA F__check_names (dCons (dVar 0) dNil))) b_make_world_t1)
noncomputable def b_make_world : DS := b_make_world_t0
noncomputable def F_make_world : DF := dDef 3 4 b_make_world
/-! keeps_rule(world, rule): slots 0 world, 1 rule, 2 name, 3 run, 4 within, 5 known, 6 closed, 7 wider -/
noncomputable def b_keeps_rule_t7 : DS := (dRet (dC (.bl true)))
noncomputable def b_keeps_rule_t6 : DS := (dSeq (dIfS (dAndT (dCmp gGt (dOpA gLen (dCons (dVar 5) dNil)) (dC (.int 0))) (dCmp gNe (dOpA F_cut (dCons (dVar 6) (dCons (dOp2 gIx (dVar 5) (dC (.int 0))) (dCons (dOp2 gIx (dVar 5) (dC (.int 1))) dNil)))) (dOp2 gIx (dVar 5) (dC (.int 2))))) (dRet (dC (.bl false))) dPass) b_keeps_rule_t7)
noncomputable def b_keeps_rule_t5 : DS := (dSeq (dIfS (dAndT (dCmp gNe (dVar 4) (dC (.str ""))) (dNotT (dTru (dOpA F_inside (dCons (dVar 6) (dCons (dVar 7) dNil)))))) (dRet (dC (.bl false))) dPass) b_keeps_rule_t6)
noncomputable def b_keeps_rule_t4 : DS := (dSeq (dIfS (dAndT (dCmp gGt (dVar 3) (dC (.int 0))) (dCmp gGt (dOpA F_longest (dCons (dVar 6) dNil)) (dVar 3))) (dRet (dC (.bl false))) dPass) b_keeps_rule_t5)
noncomputable def b_keeps_rule_t3 : DS := (dSeq (dIfS (dCmp gNe (dVar 4) (dC (.str ""))) (dSet 7 (dOpA F_calendar_of (dCons (dVar 0) (dCons (dVar 4) dNil)))) dPass) b_keeps_rule_t4)
noncomputable def b_keeps_rule_t2 : DS := (dSeq (dSet 7 (dTup dNil)) b_keeps_rule_t3)
noncomputable def b_keeps_rule_t1 : DS := (dSeq (dSet 6 (dOpA F_calendar_of (dCons (dVar 0) (dCons (dVar 2) dNil)))) b_keeps_rule_t2)
noncomputable def b_keeps_rule_t0 : DS := (dSeq (dAsg (gT 4 (gsCons (gN 2) (gsCons (gN 3) (gsCons (gN 4) (gsCons (gN 5) gsNil))))) (dVar 1)) b_keeps_rule_t1)
noncomputable def b_keeps_rule : DS := b_keeps_rule_t0
noncomputable def F_keeps_rule : DF := dDef 2 8 b_keeps_rule
/-! ### names -/
def wordsL : List Str := ["next", "prev", "open", "later", "earlier", "if", "is", "not", "and", "or", "yes", "calendar", "run", "within", "known", "to", "closed", "assume", "claim", "event", "rule", "on", "when", "due", "met", "called", "missed", "filed"]
def smallS : Str := "abcdefghijklmnopqrstuvwxyz"
def restS : Str := "abcdefghijklmnopqrstuvwxyz0123456789"
def nameB (s : Str) : Bool := decide (1 ≤ s.length) && decide (s.length ≤ 20) && !decide (s ∈ wordsL) && (match s.cps.toList with
  | [] => false
  | c :: _ => inStr ⟨#[c]⟩ smallS) && s.cps.toList.all fun c => inStr ⟨#[c]⟩ restS
theorem is_name_spec {S : Sto} {s : Str} (hl : s.length ≤ 16777216) : F_is_name [.str s] S = some (.ok (.bl (nameB s)) S) := by
  have l := ev_lenS (S := S) hl
  have w := ev_inT (S := S) (neg := false) (W := wordsL) (i := s)
  have w : gIn (.str s) (.tup [(.str "next"), (.str "prev"), (.str "open"), (.str "later"), (.str "earlier"), (.str "if"), (.str "is"), (.str "not"), (.str "and"), (.str "or"), (.str "yes"), (.str "calendar"), (.str "run"), (.str "within"), (.str "known"), (.str "to"), (.str "closed"), (.str "assume"), (.str "claim"), (.str "event"), (.str "rule"), (.str "on"), (.str "when"), (.str "due"), (.str "met"), (.str "called"), (.str "missed"), (.str "filed")]) S = some (.ok (.bl (decide (s ∈ wordsL))) S) := w
  have hlen : s.length = s.cps.toList.length := by simp [Str.length]
  by_cases h1 : s.length < 1
  · refine call_val0 ?_ rfl
    have n : nameB s = false := by unfold nameB; rw [decide_eq_false (show ¬ 1 ≤ s.length by omega)]; rfl
    rw [n]
    have h1' : (s.length : Int) < 1 := by omega
    simp [b_is_name, l, h1']
  · have h1' : ¬ (s.length : Int) < 1 := by omega
    by_cases h2 : 20 < s.length
    · refine call_val0 ?_ rfl
      have n : nameB s = false := by unfold nameB; rw [decide_eq_false (show ¬ s.length ≤ 20 by omega)]; simp
      rw [n]
      have h2' : (20 : Int) < (s.length : Int) := by omega
      simp [b_is_name, l, h1', h2']
    · have h2' : ¬ (20 : Int) < (s.length : Int) := by omega
      by_cases h3 : s ∈ wordsL
      · refine call_val0 ?_ rfl
        have n : nameB s = false := by unfold nameB; rw [decide_eq_true h3]; simp
        rw [n]
        simp [b_is_name, l, h1', h2', w, h3]
      · cases hc : s.cps.toList with
        | nil => rw [hc] at hlen; simp at hlen; omega
        | cons c r =>
          have x0 : gIx (.str s) (.int 0) S = some (.ok (.str ⟨#[c]⟩) S) := ev_ixS hl (by rw [hc]; exact atI_ok (l := c :: r) (n := 0) (by simp))
          have n : nameB s = (inStr ⟨#[c]⟩ smallS && (c :: r).all fun c => inStr ⟨#[c]⟩ restS) := by
            unfold nameB
            rw [decide_eq_true (show 1 ≤ s.length by omega), decide_eq_true (show s.length ≤ 20 by omega), decide_eq_false h3, hc]
            rfl
          have ac := all_comp (f := nmOne 1) (own := [1]) (elt := dOp2 (gInS false) (dVar 1) (dC (.str "abcdefghijklmnopqrstuvwxyz0123456789"))) (ρ := [some (.str s), none]) (S := S) (it := dStrI (dVar 0)) (keep := []) (items := c :: r) (fun c => .str ⟨#[c]⟩) (fun c => inStr ⟨#[c]⟩ restS) (by simp [hc]) (by simp) (fun x _ acc => ⟨[1], [.str ⟨#[x]⟩], rfl, by simp [setsE, restS]⟩) (by rw [← hc, ← hlen]; omega)
          by_cases h4 : inStr ⟨#[c]⟩ smallS = true
          · refine call_val (T := [.lst (((c :: r).map fun c => inStr ⟨#[c]⟩ restS).map PV.bl)]) ?_ rfl
            rw [n, h4, Bool.true_and]
            have h4' : inStr ⟨#[c]⟩ "abcdefghijklmnopqrstuvwxyz" = true := h4
            have g1 : dOpA gLen (dCons (dVar 0) dNil) [some (.str s), none] S = some (.ok (.int s.length) S) := by simp [l]
            simp [b_is_name, g1, h1', h2', w, h3, x0, h4', ac, -ev_opA, -List.map_map]
          · refine call_val0 ?_ rfl
            rw [Bool.not_eq_true] at h4
            rw [n, h4, Bool.false_and]
            have h4' : inStr ⟨#[c]⟩ "abcdefghijklmnopqrstuvwxyz" = false := h4
            simp [b_is_name, l, h1', h2', w, h3, x0, h4']
/-! ### dicts with texts as keys -/
/-- a dict's items -/
def encD {α : Type} (e : α → PV) (l : List (Str × α)) : List (PV × PV) := l.map fun p => (.str p.1, e p.2)
section
variable {α : Type} {e : α → PV} {S : Sto} {k : Nat}
theorem encD_keys (l : List (Str × α)) : (encD e l).map Prod.fst = (l.map Prod.fst).map PV.str := by
  unfold encD
  rw [List.map_map, List.map_map]
  rfl
theorem encD_strs : ∀ l : List (Str × α), mapO keyS (encD e l) = some (l.map Prod.fst)
  | [] => rfl
  | p :: l => by
    have ih := encD_strs l
    show mapO keyS ((.str p.1, e p.2) :: encD e l) = _
    unfold mapO
    simp only [keyS, ih, List.map_cons]
theorem encD_val (s : Str) : ∀ l : List (Str × α), valD (encD e l) (.inr s) = (l.lookup s).map e
  | [] => rfl
  | p :: l => by
    have ih := encD_val s l
    show valD ((.str p.1, e p.2) :: encD e l) (.inr s) = _
    unfold valD
    obtain ⟨a, b⟩ := p
    by_cases h : a = s
    · subst h
      rw [if_pos (show kP (.str a) = some (.inr a) from rfl)]
      simp
    · rw [if_neg (fun z => h (by simpa [kP] using z)), ih, List.lookup_cons]
      have : (s == a) = false := beq_eq_false_iff_ne.mpr fun z => h z.symm
      rw [this]
theorem ev_ixDS {kvs : List (PV × PV)} {s : Str} {v : PV} (hk : S[k]? = some (.dct false kvs)) (hv : valD kvs (.inr s) = some v) : gIxD (.loc k) (.str s) S = some (.ok v S) := by
  unfold gIxD
  simp only [hk, kP, hv]
theorem ev_ixDF {kvs : List (PV × PV)} {s : Str} {v : PV} (hk : S[k]? = some (.fd kvs)) (hv : valD kvs (.inr s) = some v) : gIxD (.loc k) (.str s) S = some (.ok v S) := by
  unfold gIxD
  simp only [hk, kP, hv]
theorem lookup_mem {l : List (Str × α)} {s : Str} (h : s ∈ l.map Prod.fst) : ∃ v, l.lookup s = some v := by
  induction l with
  | nil => cases h
  | cons p l ih =>
    obtain ⟨a, b⟩ := p
    rw [List.lookup_cons]
    by_cases hs : s = a
    · subst hs
      exact ⟨b, by simp⟩
    · have : (s == a) = false := beq_eq_false_iff_ne.mpr hs
      rw [this]
      rw [List.map_cons, List.mem_cons] at h
      rcases h with h | h
      · exact absurd h hs
      · exact ih h
/-- the names are names -/
theorem check_loop {l0 : List (Str × α)} (hk : S[k]? = some (.fd (encD e l0))) : ∀ l : List (Str × α), (∀ p ∈ l, nameB p.1 = true ∧ p.1.length ≤ 16777216) →
    forL (gN 1) [1] l__check_names_1 [(k, .fd (encD e l0))] ((l.map Prod.fst).map PV.str) [some (.loc k), none] S = some (.next [some (.loc k), none] S)
  | [], _ => by rw [List.map_nil, List.map_nil, forL_nil (by rw [kept_one]; exact hk)]
  | p :: l, h => by
    obtain ⟨h1, h2⟩ := h p List.mem_cons_self
    have ih := check_loop hk l fun x hx => h x (List.mem_cons_of_mem _ hx)
    have n := is_name_spec (S := S) h2
    rw [h1] at n
    have body := body_next (kill := [1]) (f := (dIfS (dNotT (dTru (dOpA F_is_name (dCons (dVar 1) dNil)))) (dRaise "NotAllowed") dPass)) (ρ := [some (.loc k), some (.str p.1)]) (S := S) (ρ' := [some (.loc k), some (.str p.1)]) (S' := S) (by simp [n]) Cl.refl ⟨lt_of_get hk, trivial⟩
    have body : l__check_names_1 [some (.loc k), some (.str p.1)] S = _ := body
    rw [List.take_length] at body
    rw [List.map_cons, List.map_cons, forL_cons (by rw [kept_one]; exact hk)]
    simp only [ev_gN, List.set_cons_succ, List.set_cons_zero, body, ev_killC, ev_killN, killE]
    exact ih
theorem check_spec {l : List (Str × α)} (hk : S[k]? = some (.dct false (encD e l))) (h : ∀ p ∈ l, nameB p.1 = true ∧ p.1.length ≤ 16777216) : F__check_names [.loc k] S = some (.ok .non S) := by
  have hf : (S.set k (.fd (encD e l)))[k]? = some (.fd (encD e l)) := List.getElem?_set_self (lt_of_get hk)
  have lp := check_loop (e := e) hf l h
  refine (dDef_next (ρ := [some (.loc k), none]) (S' := S) rfl ?_).trans (by rw [gc_ok_same rfl])
  unfold b__check_names
  show dLock 0 _ [some (.loc k), none] S = _
  rw [ev_lock rfl hk]
  simp only [ev_for, ev_keysI, ev_var, List.getElem?_cons_zero, ev_bR_ok, hf, ev_bS_ok, ev_killC, ev_killN, List.set_cons_succ, List.set_cons_zero, encD_keys, lp]
  show (unS k _).map _ = _
  rw [un_lock hk]
  rfl
/-! ### make_world -/
def wpairs (e : α → PV) (l : List (Str × α)) : List PV := (sortSt (l.map Prod.fst)).map fun s => .tup [.str s, ((l.lookup s).map e).getD .non]
theorem wpairs_nl (he : ∀ a, noLoc (e a) = true) (l : List (Str × α)) : noLocs (wpairs e l) = true := by
  unfold wpairs
  generalize sortSt (l.map Prod.fst) = ks
  induction ks with
  | nil => rfl
  | cons x r ih =>
    rw [List.map_cons]
    show (noLoc _ && noLocs _) = true
    rw [ih]
    have : noLoc (.tup [.str x, ((l.lookup x).map e).getD .non]) = true := by
      show (true && (noLoc (((l.lookup x).map e).getD .non) && true)) = true
      cases l.lookup x with
      | none => rfl
      | some a => simpa using he a
    rw [this]
    rfl
theorem at_two {S : Sto} {a b : PO} : (S ++ [a] ++ [b])[S.length + 1]? = some b := by
  have : S.length + 1 = (S ++ [a]).length := by simp
  rw [this]
  exact at_0
theorem sortSt_mem {ks : List Str} {s : Str} : s ∈ sortSt ks ↔ s ∈ ks := List.mem_mergeSort
theorem sortSt_len {ks : List Str} : (sortSt ks).length = ks.length := List.length_mergeSort _
theorem sorted_comp {ρ : En} {i : Nat} {l : List (Str × α)} (h0 : ρ[i]? = some (some (.loc k))) (hx : ∀ v : PV, (setsE [3] [v] (killE [3] ρ))[i]? = some (some (.loc k))) (h3 : ∀ v : PV, (setsE [3] [v] (killE [3] ρ))[3]? = some (some v)) (hk : S[k]? = some (.dct false (encD e l))) (hl : l.length < 64) :
    dComp (dSeqI (dOpA gSortD (dCons (dVar i) dNil))) (nmOne 3) [3] dYes (dTup (dCons (dVar 3) (dCons (dOp2 gIxD (dVar i) (dVar 3)) dNil))) ρ S = some (.ok (.loc (S.length + 1)) (S ++ [.lst ((sortSt (l.map Prod.fst)).map PV.str)] ++ [.lst (wpairs e l)])) := by
  have so := ev_sortDk hk (encD_strs l) (by rw [List.length_map]; exact hl)
  have at0 : (S ++ [PO.lst ((sortSt (l.map Prod.fst)).map PV.str)])[S.length]? = some (.lst ((sortSt (l.map Prod.fst)).map PV.str)) := at_0
  rw [ev_compF (S1 := S ++ [.lst ((sortSt (l.map Prod.fst)).map PV.str)]) (keep := [(S.length, .lst ((sortSt (l.map Prod.fst)).map PV.str))]) PV.str (fun _ => true) (fun s => .tup [.str s, ((l.lookup s).map e).getD .non]) (items := sortSt (l.map Prod.fst)) (by
    simp only [ev_seqI, ev_opA, ev_cons, ev_var, h0, ev_bR_ok, ev_nil, so, at0]) (by rw [kept_one]; exact at0) (fun s hs acc => ⟨[3], [.str s], rfl, rfl, fun _ => by
    obtain ⟨v, hv⟩ := lookup_mem (sortSt_mem.mp hs)
    rw [hv]
    have ix := ev_ixDS (S := S ++ [.lst ((sortSt (l.map Prod.fst)).map PV.str)] ++ [.lst acc]) (s := s) (v := e v) (at_old (at_old hk)) (by rw [encD_val, hv]; rfl)
    simp only [ev_tup, ev_cons, ev_var, h3, hx, ev_bR_ok, ev_op2, ix, ev_nil, ev_tup2]
    rfl⟩) (by rw [sortSt_len, List.length_map]; omega)]
  rw [List.filter_eq_self.mpr fun _ _ => rfl]
  simp [wpairs]
end
abbrev clP (c : List P2) : PV := .tup (pairsP c)
theorem closed_loop24 {S : Sto} {k : Nat} {v1 v2 : Option PV} {l0 : List (Str × List P2)} (hk : S[k]? = some (.fd (encD clP l0))) (hv : bdE S.length [some (.loc k), v1, v2, none]) : ∀ l : List (Str × List P2), (∀ p ∈ l, ∃ c, l0.lookup p.1 = some c ∧ formB none c = true) →
    forL (gN 3) [3] l_make_world_1 [(k, .fd (encD clP l0))] ((l.map Prod.fst).map PV.str) [some (.loc k), v1, v2, none] S = some (.next [some (.loc k), v1, v2, none] S)
  | [], _ => by rw [List.map_nil, List.map_nil, forL_nil (by rw [kept_one]; exact hk)]
  | p :: l, h => by
    obtain ⟨c, h1, h2⟩ := h p List.mem_cons_self
    have ih := closed_loop24 hk hv l fun x hx => h x (List.mem_cons_of_mem _ hx)
    have ix := ev_ixDF (S := S) (s := p.1) (v := clP c) hk (by rw [encD_val, h1]; rfl)
    have n := icd_spec (S := S) (l := c)
    rw [h2] at n
    have body := body_next (kill := [3]) (f := (dIfS (dNotT (dTru (dOpA F_is_closed_days (dCons (dOp2 gIxD (dVar 0) (dVar 3)) dNil)))) (dRaise "NotAllowed") dPass)) (ρ := [some (.loc k), v1, v2, some (.str p.1)]) (S := S) (ρ' := [some (.loc k), v1, v2, some (.str p.1)]) (S' := S) (by simp [ix, n]) Cl.refl hv
    have body : l_make_world_1 [some (.loc k), v1, v2, some (.str p.1)] S = _ := body
    rw [List.take_length] at body
    rw [List.map_cons, List.map_cons, forL_cons (by rw [kept_one]; exact hk)]
    simp only [ev_gN, List.set_cons_succ, List.set_cons_zero, body, ev_killC, ev_killN, killE]
    exact ih
def worldP (C : List (Str × List P2)) (Dd : List (Str × Int)) (F : List (Str × Bool)) : PV := .tup [.tup (wpairs clP C), .tup (wpairs PV.int Dd), .tup (wpairs PV.bl F)]
theorem lookup_self {α : Type} {l : List (Str × α)} (hn : (l.map Prod.fst).Nodup) {p : Str × α} (hp : p ∈ l) : l.lookup p.1 = some p.2 := by
  induction l with
  | nil => cases hp
  | cons q l ih =>
    rw [List.map_cons, List.nodup_cons] at hn
    obtain ⟨a, b⟩ := q
    rw [List.lookup_cons]
    rcases List.mem_cons.mp hp with rfl | hp
    · simp
    · have : (p.1 == a) = false := beq_eq_false_iff_ne.mpr fun z => hn.1 (by rw [← z]; exact List.mem_map.mpr ⟨p, hp, rfl⟩)
      rw [this]
      exact ih hn.2 hp
theorem make_world_spec {S : Sto} {kc kd kf : Nat} {C : List (Str × List P2)} {Dd : List (Str × Int)} {F : List (Str × Bool)} (hc : S[kc]? = some (.dct false (encD clP C))) (hd : S[kd]? = some (.dct false (encD PV.int Dd))) (hf : S[kf]? = some (.dct false (encD PV.bl F)))
    (nc : ∀ p ∈ C, nameB p.1 = true ∧ p.1.length ≤ 16777216) (nd : ∀ p ∈ Dd, nameB p.1 = true ∧ p.1.length ≤ 16777216) (nf : ∀ p ∈ F, nameB p.1 = true ∧ p.1.length ≤ 16777216) (hC : ∀ p ∈ C, formB none p.2 = true) (hn : (C.map Prod.fst).Nodup) (lc : C.length < 64) (ld : Dd.length < 64) (lf : F.length < 64) :
    F_make_world [.loc kc, .loc kd, .loc kf] S = some (.ok (worldP C Dd F) S) := by
  have c1 := check_spec hc nc
  have c2 := check_spec hd nd
  have c3 := check_spec hf nf
  have hfz : (S.set kc (.fd (encD clP C)))[kc]? = some (.fd (encD clP C)) := List.getElem?_set_self (lt_of_get hc)
  have lp := closed_loop24 (v1 := some (.loc kd)) (v2 := some (.loc kf)) hfz (by
    rw [List.length_set]
    exact ⟨lt_of_get hc, lt_of_get hd, lt_of_get hf, trivial⟩) C fun p hp => ⟨p.2, lookup_self hn hp, hC p hp⟩
  have lk : dLock 0 (dFor (dKeysI (dVar 0)) (gN 3) [3] l_make_world_1) [some (.loc kc), some (.loc kd), some (.loc kf), none] S = some (.next [some (.loc kc), some (.loc kd), some (.loc kf), none] S) := by
    rw [ev_lock rfl hc]
    simp only [ev_for, ev_keysI, ev_var, List.getElem?_cons_zero, ev_bR_ok, hfz, ev_bS_ok, ev_killC, ev_killN, List.set_cons_succ, List.set_cons_zero, encD_keys, lp]
    show (unS kc _).map _ = _
    rw [un_lock hc]
    rfl
  have w1 := sorted_comp (ρ := [some (.loc kc), some (.loc kd), some (.loc kf), none]) (i := 0) (e := clP) rfl (fun _ => rfl) (fun _ => rfl) hc lc
  have t1 := ev_tupleL (S := S ++ [.lst ((sortSt (C.map Prod.fst)).map PV.str)] ++ [.lst (wpairs clP C)]) (k := S.length + 1) (l := wpairs clP C) (by simp)
  have hd1 : (S ++ [.lst ((sortSt (C.map Prod.fst)).map PV.str)] ++ [.lst (wpairs clP C)])[kd]? = some (.dct false (encD PV.int Dd)) := at_old (at_old hd)
  have hf1 : (S ++ [.lst ((sortSt (C.map Prod.fst)).map PV.str)] ++ [.lst (wpairs clP C)])[kf]? = some (.dct false (encD PV.bl F)) := at_old (at_old hf)
  obtain ⟨T1, hT1⟩ : ∃ T, S ++ [.lst ((sortSt (C.map Prod.fst)).map PV.str)] ++ [.lst (wpairs clP C)] = S ++ T := ⟨_, List.append_assoc ..⟩
  rw [hT1] at w1 t1 hd1 hf1
  have w2 := sorted_comp (ρ := [some (.loc kc), some (.loc kd), some (.loc kf), none]) (i := 1) (e := PV.int) rfl (fun _ => rfl) (fun _ => rfl) hd1 ld
  have t2 := ev_tupleL (S := S ++ T1 ++ [.lst ((sortSt (Dd.map Prod.fst)).map PV.str)] ++ [.lst (wpairs PV.int Dd)]) (k := (S ++ T1).length + 1) (l := wpairs PV.int Dd) at_two
  have hf2 : (S ++ T1 ++ [.lst ((sortSt (Dd.map Prod.fst)).map PV.str)] ++ [.lst (wpairs PV.int Dd)])[kf]? = some (.dct false (encD PV.bl F)) := at_old (at_old hf1)
  obtain ⟨T2, hT2⟩ : ∃ T, S ++ T1 ++ [.lst ((sortSt (Dd.map Prod.fst)).map PV.str)] ++ [.lst (wpairs PV.int Dd)] = S ++ T := ⟨T1 ++ ([.lst ((sortSt (Dd.map Prod.fst)).map PV.str)] ++ [.lst (wpairs PV.int Dd)]), by simp⟩
  rw [hT2] at w2 t2 hf2
  have w3 := sorted_comp (ρ := [some (.loc kc), some (.loc kd), some (.loc kf), none]) (i := 2) (e := PV.bl) rfl (fun _ => rfl) (fun _ => rfl) hf2 lf
  have t3 := ev_tupleL (S := S ++ T2 ++ [.lst ((sortSt (F.map Prod.fst)).map PV.str)] ++ [.lst (wpairs PV.bl F)]) (k := (S ++ T2).length + 1) (l := wpairs PV.bl F) at_two
  obtain ⟨T3, hT3⟩ : ∃ T, S ++ T2 ++ [.lst ((sortSt (F.map Prod.fst)).map PV.str)] ++ [.lst (wpairs PV.bl F)] = S ++ T := ⟨T2 ++ ([.lst ((sortSt (F.map Prod.fst)).map PV.str)] ++ [.lst (wpairs PV.bl F)]), by simp⟩
  rw [hT3] at w3 t3
  refine call_val (T := T3) ?_ ?_
  · simp only [b_make_world, b_make_world_t0, b_make_world_t1, b_make_world_t2, b_make_world_t3, b_make_world_t4, List.map_cons, List.map_nil, List.replicate, Nat.reduceSub, List.cons_append, List.nil_append, ev_seq, ev_expr, ev_opA, ev_cons, ev_var, List.getElem?_cons_zero, List.getElem?_cons_succ, ev_bR_ok, ev_nil, c1, c2, c3, ev_bS_ok, ev_bN_next, lk, ev_ret, ev_tup, w1, t1, w2, t2, w3, t3, ev_tup3]
    rfl
  · show (noLoc (.tup (wpairs clP C)) && (noLoc (.tup (wpairs PV.int Dd)) && (noLoc (.tup (wpairs PV.bl F)) && true))) = true
    have n1 : noLoc (.tup (wpairs clP C)) = true := wpairs_nl (e := clP) (fun c => noLocs_pairs c) C
    have n2 : noLoc (.tup (wpairs PV.int Dd)) = true := wpairs_nl (e := PV.int) (fun c => rfl) Dd
    have n3 : noLoc (.tup (wpairs PV.bl F)) = true := wpairs_nl (e := PV.bl) (fun c => rfl) F
    rw [n1, n2, n3]
    rfl
/-! ### reading a world -/
def pairS (p : Str × PV) : PV := .tup [.str p.1, p.2]
theorem found_loop {S : Sto} {q : PV} {s : Str} : ∀ l : List (Str × PV), forL (gT 2 (gsCons (gN 2) (gsCons (gN 3) gsNil))) [2, 3] l__found_1 [] (l.map pairS) [some q, some (.str s), none, none] S =
    match l.lookup s with
    | some v => some (.ret v S)
    | none => some (.next [some q, some (.str s), none, none] S)
  | [] => by rw [List.map_nil, forL_nil (by simp)]; rfl
  | (a, b) :: l => by
    have ih := found_loop (S := S) (q := q) (s := s) l
    rw [List.map_cons, forL_cons (by simp), List.lookup_cons]
    by_cases h : a = s
    · subst h
      simp [pairS, l__found_1]
    · have h2 : (s == a) = false := beq_eq_false_iff_ne.mpr fun z => h z.symm
      rw [h2]
      simp [pairS, l__found_1, h] at ih ⊢
      exact ih
theorem found_yes {S : Sto} {l : List (Str × PV)} {s : Str} {v : PV} (h : l.lookup s = some v) (hv : noLoc v = true) : F__found [.tup (l.map pairS), .str s] S = some (.ok v S) := by
  have lp := found_loop (S := S) (q := .tup (l.map pairS)) (s := s) l
  rw [h] at lp
  refine call_val0 ?_ hv
  simp [b__found, lp]
theorem cal_yes {S : Sto} {l : List (Str × PV)} {s : Str} {v x y : PV} (h : l.lookup s = some v) (hv : noLoc v = true) : F_calendar_of [.tup [.tup (l.map pairS), x, y], .str s] S = some (.ok v S) := by
  have f := found_yes (S := S) h hv
  refine call_val0 ?_ hv
  have x0 : gIx (.tup [.tup (l.map pairS), x, y]) (.int 0) S = some (.ok (.tup (l.map pairS)) S) := (rfl)
  simp [b_calendar_of, x0, f]
/-- a rule without known days -/
theorem keeps_none {S : Sto} {l : List (Str × PV)} {s within : Str} {c w : List P2} {run : Int} {x y : PV} (h : l.lookup s = some (clP c)) (hw : within = "" ∨ l.lookup within = some (clP w)) (hl : c.length ≤ 1000) :
    F_keeps_rule [.tup [.tup (l.map pairS), x, y], .tup [.str s, .int run, .str within, .tup []]] S = some (.ok (.bl (!(decide (0 < run) && decide (run < longL c)) && (decide (within = "") || insB c w))) S) := by
  have c1 := cal_yes (S := S) (x := x) (y := y) h (show noLoc (clP c) = true from noLocs_pairs c)
  have lg := longest_ok (S := S) hl
  refine call_val0 ?_ rfl
  by_cases h0 : within = ""
  · subst h0
    by_cases h1 : 0 < run
    · by_cases h2 : run < longL c
      · simp [b_keeps_rule, b_keeps_rule_t0, b_keeps_rule_t1, b_keeps_rule_t2, b_keeps_rule_t3, b_keeps_rule_t4, c1, lg, h1, h2]
      · simp [b_keeps_rule, b_keeps_rule_t0, b_keeps_rule_t1, b_keeps_rule_t2, b_keeps_rule_t3, b_keeps_rule_t4, b_keeps_rule_t5, b_keeps_rule_t6, b_keeps_rule_t7, c1, lg, h1, h2]
    · simp [b_keeps_rule, b_keeps_rule_t0, b_keeps_rule_t1, b_keeps_rule_t2, b_keeps_rule_t3, b_keeps_rule_t4, b_keeps_rule_t5, b_keeps_rule_t6, b_keeps_rule_t7, c1, h1]
  · have hw : l.lookup within = some (clP w) := hw.resolve_left h0
    have c2 := cal_yes (S := S) (x := x) (y := y) hw (show noLoc (clP w) = true from noLocs_pairs w)
    have ins := inside_ok (S := S) (a := c) (b := w)
    by_cases h1 : 0 < run
    · by_cases h2 : run < longL c
      · simp [b_keeps_rule, b_keeps_rule_t0, b_keeps_rule_t1, b_keeps_rule_t2, b_keeps_rule_t3, b_keeps_rule_t4, c1, c2, lg, h0, h1, h2]
      · cases hi : insB c w <;> rw [hi] at ins <;> simp [b_keeps_rule, b_keeps_rule_t0, b_keeps_rule_t1, b_keeps_rule_t2, b_keeps_rule_t3, b_keeps_rule_t4, b_keeps_rule_t5, b_keeps_rule_t6, b_keeps_rule_t7, c1, c2, lg, h0, h1, h2, ins]
    · cases hi : insB c w <;> rw [hi] at ins <;> simp [b_keeps_rule, b_keeps_rule_t0, b_keeps_rule_t1, b_keeps_rule_t2, b_keeps_rule_t3, b_keeps_rule_t4, b_keeps_rule_t5, b_keeps_rule_t6, b_keeps_rule_t7, c1, c2, h0, h1, ins]
end G

/-! E6: in, index, remove over lists and tuples of data; errors that leave the store as it was; what Missing says. -/
namespace D
open PySem PySem.Spec PyProof.Rows L2
open Dat (enc)
variable {α : Type} {S : Sto} {neg : Bool}
theorem any_dat [Dat α] [DecidableEq α] (l : List α) (x : α) : ((l.map Dat.dat).any fun z => PyData.eqv z (Dat.dat x)) = decide (x ∈ l) := by
  rw [List.any_map, Bool.eq_iff_iff, List.any_eq_true, decide_eq_true_eq]
  constructor
  · rintro ⟨y, hy, h⟩
    rw [(Dat.eqv y x).mp h] at hy
    exact hy
  · intro h
    exact ⟨x, h, (Dat.eqv x x).mpr rfl⟩
theorem in_lst [Dat α] [DecidableEq α] {k : Nat} {l : List α} {x : α} (hk : S[k]? = some (.lst (l.map enc))) (h : Dat.dep α ≤ 59 := by decide) : gInN neg (enc x) (.loc k) S = some (.ok (.bl (if neg then !decide (x ∈ l) else decide (x ∈ l))) S) := by
  unfold gInN inP
  rw [Dat.td' 60 (by omega) S x, toD_lst (n := 59) hk (mapO_map fun y _ => Dat.td' 59 h S y)]
  dsimp only
  rw [any_dat]
theorem in_tup [Dat α] [DecidableEq α] {l : List α} {x : α} (h : Dat.dep α ≤ 59 := by decide) : gInN neg (enc x) (.tup (l.map enc)) S = some (.ok (.bl (if neg then !decide (x ∈ l) else decide (x ∈ l))) S) := by
  unfold gInN inP
  rw [Dat.td' 60 (by omega) S x, toD_tup (n := 59) (mapO_map fun y _ => Dat.td' 59 h S y)]
  dsimp only
  rw [any_dat]
theorem rem_lst [Dat α] [DecidableEq α] {k : Nat} {l : List α} {x : α} (hk : S[k]? = some (.lst (l.map enc))) (hx : x ∈ l) (h : Dat.dep α ≤ 59 := by decide) : ∃ j, l[j]? = some x ∧ gRemove (.loc k) [enc x] S = some (.ok .non (S.set k (.lst ((l.eraseIdx j).map enc)))) := by
  have hp : ∃ j, SeqAt.dataPlace (l.map Dat.dat) (Dat.dat x) = some j ∧ l[j]? = some x := by
    unfold SeqAt.dataPlace
    cases e : (l.map Dat.dat).findIdx? fun y => PyData.eqv y (Dat.dat x) with
    | none =>
      rw [List.findIdx?_eq_none_iff] at e
      have := e (Dat.dat x) (List.mem_map.mpr ⟨x, hx, rfl⟩)
      rw [(Dat.eqv x x).mpr rfl] at this
      cases this
    | some j =>
      rw [List.findIdx?_eq_some_iff_getElem] at e
      obtain ⟨h1, h2, _⟩ := e
      rw [List.length_map] at h1
      rw [List.getElem_map, Dat.eqv] at h2
      exact ⟨j, rfl, by rw [List.getElem?_eq_getElem h1, h2]⟩
  obtain ⟨j, h1, h2⟩ := hp
  refine ⟨j, h2, ?_⟩
  have e : (l.map enc).eraseIdx j = (l.eraseIdx j).map enc := by rw [List.eraseIdx_eq_take_drop_succ, List.eraseIdx_eq_take_drop_succ]; simp
  unfold gRemove
  simp only [hk, mapO_map (f := toD 60 S) (e := enc) (d := Dat.dat) (l := l) fun y _ => Dat.td' 60 (by omega) S y, Dat.td' 60 (by omega) S x, h1, e]
/-- an item by a number that is within -/
theorem atI_mem {l : List α} {i : Int} (h0 : 0 ≤ i) (h : i < l.length) : ∃ v, v ∈ l ∧ atI l i = some v := by
  have h2 : i.toNat < l.length := by omega
  exact ⟨l[i.toNat], List.getElem_mem h2, atI_nat h0 h2⟩
theorem exc_same {e : Xn} : gcE S (.exc e S) = .exc e S := by
  unfold gcE
  simp
theorem call_exc_same {k n : Nat} {body : DS} {args : List PV} {e : Xn} {ρ : En} (hb : body (args.map some ++ List.replicate (n - k) none) S = some (.exc e ρ S)) (hl : args.length = k := by rfl) : dDef k n body args S = some (.exc e S) := by
  rw [dDef_exc hl hb, exc_same]
end D
namespace G
open PySem PySem.Spec PyProof.Rows L2 D
theorem found_no {S : Sto} {l : List (Str × PV)} {s : Str} (h : l.lookup s = none) : F__found [.tup (l.map pairS), .str s] S = some (.exc ⟨"Missing", [("name", .str s)]⟩ S) := by
  have lp := found_loop (S := S) (q := .tup (l.map pairS)) (s := s) l
  rw [h] at lp
  refine call_exc_same (ρ := [some (.tup (l.map pairS)), some (.str s), none, none]) ?_
  simp [b__found, lp]
end G

/-! S25: worlds changed, read, and told from what is none. -/
namespace G
open PySem PySem.Spec PyProof.Rows L2 D
/-! day_of(world, name): slots 0 world, 1 name -/
noncomputable def b_day_of : DS := (dRet (dOpA F__found (dCons (dOp2 gIx (dVar 0) (dC (.int 1))) (dCons (dVar 1) dNil))))
noncomputable def F_day_of : DF := dDef 2 2 b_day_of
/-! flag_of(world, name): slots 0 world, 1 name -/
noncomputable def b_flag_of : DS := (dRet (dOpA F__found (dCons (dOp2 gIx (dVar 0) (dC (.int 2))) (dCons (dVar 1) dNil))))
noncomputable def F_flag_of : DF := dDef 2 2 b_flag_of
/-! _changed(pairs, name, content): slots 0 pairs, 1 name, 2 content, 3 table, 4 other -/
noncomputable def b__changed_t3 : DS := (dRet (dOpA gTuple (dCons (dComp (dSeqI (dOpA gSortD (dCons (dVar 3) dNil))) (nmOne 4) [4] dYes (dTup (dCons (dVar 4) (dCons (dOp2 gIxD (dVar 3) (dVar 4)) dNil)))) dNil)))
noncomputable def b__changed_t2 : DS := (dSeq (dAsg (gSubT gSetD (dVar 3) (dVar 1)) (dVar 2)) b__changed_t3)
noncomputable def b__changed_t1 : DS := (dSeq (dSet 3 (dOpA gDict (dCons (dOpA gList (dCons (dVar 0) dNil)) dNil))) b__changed_t2)
noncomputable def b__changed_t0 : DS := (dSeq (dIfS (dNotT (dTru (dOpA F_is_name (dCons (dVar 1) dNil)))) (dRaise "NotAllowed") dPass) b__changed_t1)
noncomputable def b__changed : DS := b__changed_t0
noncomputable def F__changed : DF := dDef 3 5 b__changed
/-! set_calendar(world, name, closed): slots 0 world, 1 name, 2 closed -/
noncomputable def b_set_calendar : DS := (dRet (dTup (dCons (dOpA F__changed (dCons (dOp2 gIx (dVar 0) (dC (.int 0))) (dCons (dVar 1) (dCons (dVar 2) dNil)))) (dCons (dOp2 gIx (dVar 0) (dC (.int 1))) (dCons (dOp2 gIx (dVar 0) (dC (.int 2))) dNil)))))
noncomputable def F_set_calendar : DF := dDef 3 3 b_set_calendar
/-! set_day(world, name, day): slots 0 world, 1 name, 2 day -/
noncomputable def b_set_day : DS := (dRet (dTup (dCons (dOp2 gIx (dVar 0) (dC (.int 0))) (dCons (dOpA F__changed (dCons (dOp2 gIx (dVar 0) (dC (.int 1))) (dCons (dVar 1) (dCons (dVar 2) dNil)))) (dCons (dOp2 gIx (dVar 0) (dC (.int 2))) dNil)))))
noncomputable def F_set_day : DF := dDef 3 3 b_set_day
/-! set_flag(world, name, flag): slots 0 world, 1 name, 2 flag -/
noncomputable def b_set_flag : DS := (dRet (dTup (dCons (dOp2 gIx (dVar 0) (dC (.int 0))) (dCons (dOp2 gIx (dVar 0) (dC (.int 1))) (dCons (dOpA F__changed (dCons (dOp2 gIx (dVar 0) (dC (.int 2))) (dCons (dVar 1) (dCons (dVar 2) dNil)))) dNil)))))
noncomputable def F_set_flag : DF := dDef 3 3 b_set_flag
/-! _names_rise(pairs): slots 0 pairs, 1 before, 2 name, 3 _ -/
noncomputable def l__names_rise_1 : DS := (dSeq (dIfS (dOrT (dNotT (dTru (dOpA F_is_name (dCons (dVar 2) dNil)))) (dCmp (gRelS leS) (dVar 2) (dVar 1))) (dRet (dC (.bl false))) dPass) (dSet 1 (dVar 2)))
noncomputable def b__names_rise_t2 : DS := (dRet (dC (.bl true)))
noncomputable def b__names_rise_t1 : DS := (dSeq (dFor (dSeqI (dVar 0)) (gT 2 (gsCons (gN 2) (gsCons (gN 3) gsNil))) [2, 3] l__names_rise_1) b__names_rise_t2)
noncomputable def b__names_rise_t0 : DS := (dSeq (dSet 1 (dC (.str ""))) b__names_rise_t1)
noncomputable def b__names_rise : DS := b__names_rise_t0
noncomputable def F__names_rise : DF := dDef 1 4 b__names_rise
/-! is_world(world): slots 0 world, 1 pairs, 2 _, 3 closed -/
noncomputable def l_is_world_1 : DS := (dIfS (dNotT (dTru (dOpA F__names_rise (dCons (dVar 1) dNil)))) (dRet (dC (.bl false))) dPass)
noncomputable def l_is_world_2 : DS := (dIfS (dNotT (dTru (dOpA F_is_closed_days (dCons (dVar 3) dNil)))) (dRet (dC (.bl false))) dPass)
noncomputable def b_is_world_t2 : DS := (dRet (dC (.bl true)))
noncomputable def b_is_world_t1 : DS := (dSeq (dFor (dSeqI (dOp2 gIx (dVar 0) (dC (.int 0)))) (gT 2 (gsCons (gN 2) (gsCons (gN 3) gsNil))) [2, 3] l_is_world_2) b_is_world_t2)
noncomputable def b_is_world_t0 : DS := (dSeq (dFor (dSeqI (dVar 0)) (gN 1) [1] l_is_world_1) b_is_world_t1)
noncomputable def b_is_world : DS := b_is_world_t0
noncomputable def F_is_world : DF := dDef 1 4 b_is_world
/-! ### lists of pairs with texts as keys -/
section
variable {α : Type} {e : α → PV} {S : Sto}
def keysL (l : List (Str × α)) : List Str := l.map Prod.fst
def putL (l : List (Str × α)) (s : Str) (v : α) : List (Str × α) := if s ∈ keysL l then l.map (fun p => if p.1 = s then (p.1, v) else p) else l ++ [(s, v)]
theorem enc_any (l : List (Str × α)) (s : Str) : ((encD e l).any fun p => decide (kP p.1 = some (.inr s))) = decide (s ∈ keysL l) := by
  unfold encD keysL
  rw [List.any_map, Bool.eq_iff_iff, List.any_eq_true, decide_eq_true_eq, List.mem_map]
  constructor
  · rintro ⟨p, hp, h⟩
    exact ⟨p, hp, by simpa [kP] using h⟩
  · rintro ⟨p, hp, h⟩
    exact ⟨p, hp, by simpa [kP] using h⟩
theorem putD_enc (l : List (Str × α)) (s : Str) (v : α) : putD (encD e l) (.str s) (e v) (.inr s) = encD e (putL l s v) := by
  unfold putD putL
  rw [enc_any]
  by_cases h : s ∈ keysL l
  · rw [if_pos (decide_eq_true h), if_pos h]
    unfold encD
    rw [List.map_map, List.map_map]
    refine List.map_congr_left fun p _ => ?_
    by_cases hp : p.1 = s
    · simp [kP, hp]
    · simp [kP, hp]
  · rw [if_neg (by simpa using h), if_neg h]
    unfold encD
    simp
theorem look_map_put (l : List (Str × α)) (s : Str) (v : α) (x : Str) : (l.map (fun p => if p.1 = s then (p.1, v) else p)).lookup x = if x = s then (l.lookup x).map fun _ => v else l.lookup x := by
  induction l with
  | nil => simp
  | cons p l ih =>
    obtain ⟨a, b⟩ := p
    rw [List.map_cons, List.lookup_cons]
    by_cases ha : a = s
    · rw [if_pos ha]
      dsimp only
      rw [List.lookup_cons, ih]
      by_cases hx : x = a
      · subst hx
        simp [ha]
      · have e1 : (x == a) = false := beq_eq_false_iff_ne.mpr hx
        rw [e1]
    · rw [if_neg ha]
      dsimp only
      rw [List.lookup_cons, ih]
      by_cases hx : x = a
      · subst hx
        simp [ha]
      · have e1 : (x == a) = false := beq_eq_false_iff_ne.mpr hx
        rw [e1]
theorem look_none {l : List (Str × α)} {s : Str} (h : s ∉ keysL l) : l.lookup s = none := by
  induction l with
  | nil => rfl
  | cons p l ih =>
    obtain ⟨a, b⟩ := p
    unfold keysL at h ih
    rw [List.map_cons, List.mem_cons] at h
    have e1 : (s == a) = false := beq_eq_false_iff_ne.mpr fun z => h (.inl z)
    rw [List.lookup_cons, e1]
    exact ih fun z => h (.inr z)
theorem look_key {l : List (Str × α)} {s : Str} {v : α} (h : l.lookup s = some v) : s ∈ keysL l := by
  by_cases z : s ∈ keysL l
  · exact z
  · rw [look_none z] at h; cases h
theorem look_app {l r : List (Str × α)} {x : Str} : (l ++ r).lookup x = (l.lookup x).or (r.lookup x) := by
  induction l with
  | nil => simp
  | cons p l ih =>
    obtain ⟨a, b⟩ := p
    rw [List.cons_append, List.lookup_cons, List.lookup_cons]
    cases h : x == a
    · exact ih
    · rfl
theorem putL_look (l : List (Str × α)) (s : Str) (v : α) (x : Str) : (putL l s v).lookup x = if x = s then some v else l.lookup x := by
  unfold putL
  by_cases h : s ∈ keysL l
  · rw [if_pos h, look_map_put]
    by_cases hx : x = s
    · rw [if_pos hx, if_pos hx, hx]
      obtain ⟨w, hw⟩ := lookup_mem h
      rw [hw]
      rfl
    · rw [if_neg hx, if_neg hx]
  · rw [if_neg h, look_app]
    by_cases hx : x = s
    · subst hx
      rw [look_none h]
      simp
    · have e1 : (x == s) = false := beq_eq_false_iff_ne.mpr hx
      rw [if_neg hx, List.lookup_cons, e1]
      simp
theorem putL_keys (l : List (Str × α)) (s : Str) (v : α) : keysL (putL l s v) = if s ∈ keysL l then keysL l else keysL l ++ [s] := by
  unfold putL
  by_cases h : s ∈ keysL l
  · rw [if_pos h, if_pos h]
    unfold keysL
    rw [List.map_map]
    refine List.map_congr_left fun p _ => ?_
    show (if p.1 = s then (p.1, v) else p).1 = p.1
    split <;> rfl
  · rw [if_neg h, if_neg h]
    unfold keysL
    simp
theorem putL_nodup {l : List (Str × α)} {s : Str} {v : α} (h : (keysL l).Nodup) : (keysL (putL l s v)).Nodup := by
  rw [putL_keys]
  split
  · exact h
  · rename_i hs
    rw [List.nodup_append]
    exact ⟨h, by simp, fun a ha b hb z => hs (by rw [List.mem_singleton] at hb; rw [← hb, ← z]; exact ha)⟩
theorem putL_mem {l : List (Str × α)} {s : Str} {v : α} {p : Str × α} (h : p ∈ putL l s v) : p = (s, v) ∨ p ∈ l := by
  unfold putL at h
  split at h
  · obtain ⟨q, hq, rfl⟩ := List.mem_map.mp h
    split
    · rename_i z
      exact .inl (by rw [← z])
    · exact .inr hq
  · rcases List.mem_append.mp h with h | h
    · exact .inr h
    · rw [List.mem_singleton] at h
      exact .inl h
theorem putL_len (l : List (Str × α)) (s : Str) (v : α) : (putL l s v).length ≤ l.length + 1 := by
  unfold putL
  split
  · rw [List.length_map]; omega
  · rw [List.length_append, List.length_singleton]; omega
theorem ev_setDS {k : Nat} {l : List (Str × α)} {s : Str} {v : α} (hk : S[k]? = some (.dct false (encD e l))) (hl : l.length < 1000) : gSetD (.loc k) (.str s) (e v) S = some (S.set k (.dct false (encD e (putL l s v)))) := by
  unfold gSetD
  dsimp only
  rw [hk]
  have : kP (.str s) = some (.inr s) := rfl
  dsimp only
  rw [this]
  dsimp only
  rw [if_pos (by unfold encD; rw [List.length_map]; omega), putD_enc]
theorem merge_enc (b : List (Str × α)) : ∀ a : List (Str × α), (keysL (a ++ b)).Nodup → mergeD (encD e a) (encD e b) = some (encD e (a ++ b)) := by
  induction b with
  | nil => intro a _; rw [List.append_nil]; rfl
  | cons p b ih =>
    intro a h
    obtain ⟨s, v⟩ := p
    have hs : s ∉ keysL a := by
      unfold keysL at h ⊢
      rw [List.map_append, List.nodup_append] at h
      exact fun z => h.2.2 s z s (by simp) rfl
    have e1 : a ++ (s, v) :: b = (a ++ [(s, v)]) ++ b := by simp
    rw [e1] at h ⊢
    rw [← ih _ h]
    show mergeD (putD (encD e a) (.str s) (e v) (.inr s)) (encD e b) = _
    rw [putD_enc]
    unfold putL
    rw [if_neg hs]
/-! ### in the order of names -/
def srtL (l : List (Str × α)) : List (Str × α) := (sortSt (keysL l)).filterMap fun s => (l.lookup s).map (Prod.mk s)
theorem sort_in {ks : List Str} {s : Str} : s ∈ sortSt ks ↔ s ∈ ks := List.mem_mergeSort
theorem filt_ok {β : Type} {l : List (Str × α)} (g : Str × α → β) (f : Str → β) (h : ∀ s v, l.lookup s = some v → g (s, v) = f s) : ∀ ks : List Str, (∀ s ∈ ks, s ∈ keysL l) → (ks.filterMap fun s => (l.lookup s).map (Prod.mk s)).map g = ks.map f
  | [], _ => rfl
  | s :: ks, hk => by
    obtain ⟨v, hv⟩ := lookup_mem (hk s List.mem_cons_self)
    rw [List.filterMap_cons, hv]
    show List.map g ((s, v) :: _) = _
    rw [List.map_cons, List.map_cons, h s v hv, filt_ok g f h ks fun x hx => hk x (List.mem_cons_of_mem _ hx)]
theorem srt_keys (l : List (Str × α)) : keysL (srtL l) = sortSt (keysL l) := by
  unfold srtL
  have := filt_ok (l := l) Prod.fst id (fun _ _ _ => rfl) (sortSt (keysL l)) fun s hs => sort_in.mp hs
  rw [List.map_id] at this
  exact this
theorem srt_wp (l : List (Str × α)) : wpairs e l = (srtL l).map fun p => pairS (p.1, e p.2) := by
  unfold srtL wpairs
  exact (filt_ok (l := l) (fun p => pairS (p.1, e p.2)) (fun s => .tup [.str s, ((l.lookup s).map e).getD .non]) (fun s v hv => by rw [hv]; rfl) (sortSt (keysL l)) fun s hs => sort_in.mp hs).symm
theorem filt_look {l : List (Str × α)} (x : Str) : ∀ ks : List Str, (∀ s ∈ ks, s ∈ keysL l) → (ks.filterMap fun s => (l.lookup s).map (Prod.mk s)).lookup x = if x ∈ ks then l.lookup x else none
  | [], _ => rfl
  | s :: ks, hk => by
    obtain ⟨v, hv⟩ := lookup_mem (hk s List.mem_cons_self)
    have ih := filt_look x ks fun y hy => hk y (List.mem_cons_of_mem _ hy)
    rw [List.filterMap_cons, hv]
    show List.lookup x ((s, v) :: _) = _
    rw [List.lookup_cons, ih]
    by_cases h : x = s
    · subst h
      simp [hv]
    · have e1 : (x == s) = false := beq_eq_false_iff_ne.mpr h
      rw [e1]
      simp [h]
theorem srt_look (l : List (Str × α)) (x : Str) : (srtL l).lookup x = l.lookup x := by
  unfold srtL
  rw [filt_look x _ fun s hs => sort_in.mp hs]
  by_cases h : x ∈ keysL l
  · rw [if_pos (sort_in.mpr h)]
  · rw [if_neg fun z => h (sort_in.mp z), look_none h]
theorem look_in {l : List (Str × α)} {s : Str} {v : α} (h : l.lookup s = some v) : (s, v) ∈ l := by
  induction l with
  | nil => cases h
  | cons p l ih =>
    obtain ⟨a, b⟩ := p
    rw [List.lookup_cons] at h
    by_cases hs : s = a
    · subst hs
      rw [beq_self_eq_true] at h
      cases h
      exact List.mem_cons_self
    · have e1 : (s == a) = false := beq_eq_false_iff_ne.mpr hs
      rw [e1] at h
      exact List.mem_cons_of_mem _ (ih h)
theorem srt_mem {l : List (Str × α)} {p : Str × α} (h : p ∈ srtL l) : p ∈ l := by
  unfold srtL at h
  obtain ⟨s, _, h⟩ := List.mem_filterMap.mp h
  cases hv : l.lookup s with
  | none => rw [hv] at h; cases h
  | some v =>
    rw [hv] at h
    cases h
    exact look_in hv
theorem sort_nodup {ks : List Str} (h : ks.Nodup) : (sortSt ks).Nodup := (List.mergeSort_perm ks leSt).nodup_iff.mpr h
theorem sort_perm {a b : List Str} (h : a.Perm b) : sortSt a = sortSt b :=
  ((List.mergeSort_perm a leSt).trans (h.trans (List.mergeSort_perm b leSt).symm)).eq_of_pairwise (fun _ _ _ _ => leSt_anti) (List.pairwise_mergeSort leSt_trans leSt_total a) (List.pairwise_mergeSort leSt_trans leSt_total b)
theorem wp_ext {β : Type} {e' : β → PV} {l : List (Str × α)} {l' : List (Str × β)} (h : (keysL l).Perm (keysL l')) (hl : ∀ s, (l.lookup s).map e = (l'.lookup s).map e') : wpairs e l = wpairs e' l' := by
  unfold wpairs
  have : sortSt (l.map Prod.fst) = sortSt (l'.map Prod.fst) := sort_perm h
  rw [this]
  refine List.map_congr_left fun s _ => ?_
  rw [hl]
/-! ### reading -/
theorem found_ok {l : List (Str × α)} {s : Str} {v : α} (h : l.lookup s = some v) (hn : noLoc (e v) = true) : F__found [.tup (wpairs e l), .str s] S = some (.ok (e v) S) := by
  have h2 : ((srtL l).map fun p => (p.1, e p.2)).lookup s = some (e v) := by
    rw [← srt_look] at h
    generalize srtL l = r at h
    induction r with
    | nil => cases h
    | cons p r ih =>
      obtain ⟨a, b⟩ := p
      rw [List.map_cons, List.lookup_cons]
      rw [List.lookup_cons] at h
      cases z : s == a
      · rw [z] at h; exact ih h
      · rw [z] at h; cases h; rfl
  have := found_yes (S := S) h2 hn
  rw [List.map_map] at this
  rw [srt_wp]
  exact this
theorem found_not {l : List (Str × α)} {s : Str} (h : s ∉ keysL l) : F__found [.tup (wpairs e l), .str s] S = some (.exc ⟨"Missing", [("name", .str s)]⟩ S) := by
  have h2 : ((srtL l).map fun p => (p.1, e p.2)).lookup s = none := by
    refine look_none fun z => h ?_
    have : keysL ((srtL l).map fun p => (p.1, e p.2)) = keysL (srtL l) := by unfold keysL; rw [List.map_map]; rfl
    rw [this, srt_keys] at z
    exact sort_in.mp z
  have := found_no (S := S) h2
  rw [List.map_map] at this
  rw [srt_wp]
  exact this
end
section
variable {S : Sto} {C : List (Str × List P2)} {Dd : List (Str × Int)} {F : List (Str × Bool)} {s : Str}
theorem cal_at {c : List P2} (h : C.lookup s = some c) : F_calendar_of [worldP C Dd F, .str s] S = some (.ok (clP c) S) := by
  have f := found_ok (e := clP) (S := S) h (show noLoc (clP c) = true from noLocs_pairs c)
  refine call_val0 ?_ (show noLoc (clP c) = true from noLocs_pairs c)
  have x0 : gIx (worldP C Dd F) (.int 0) S = some (.ok (.tup (wpairs clP C)) S) := (rfl)
  simp [b_calendar_of, x0, f]
theorem day_at {c : Int} (h : Dd.lookup s = some c) : F_day_of [worldP C Dd F, .str s] S = some (.ok (.int c) S) := by
  have f := found_ok (e := PV.int) (S := S) h rfl
  refine call_val0 ?_ rfl
  have x0 : gIx (worldP C Dd F) (.int 1) S = some (.ok (.tup (wpairs PV.int Dd)) S) := (rfl)
  simp [b_day_of, x0, f]
theorem flag_at {c : Bool} (h : F.lookup s = some c) : F_flag_of [worldP C Dd F, .str s] S = some (.ok (.bl c) S) := by
  have f := found_ok (e := PV.bl) (S := S) h rfl
  refine call_val0 ?_ rfl
  have x0 : gIx (worldP C Dd F) (.int 2) S = some (.ok (.tup (wpairs PV.bl F)) S) := (rfl)
  simp [b_flag_of, x0, f]
theorem cal_not (h : s ∉ keysL C) : F_calendar_of [worldP C Dd F, .str s] S = some (.exc ⟨"Missing", [("name", .str s)]⟩ S) := by
  have f := found_not (e := clP) (S := S) h
  refine call_exc_same (ρ := [some (worldP C Dd F), some (.str s)]) ?_
  have x0 : gIx (worldP C Dd F) (.int 0) S = some (.ok (.tup (wpairs clP C)) S) := (rfl)
  simp [b_calendar_of, x0, f]
theorem day_not (h : s ∉ keysL Dd) : F_day_of [worldP C Dd F, .str s] S = some (.exc ⟨"Missing", [("name", .str s)]⟩ S) := by
  have f := found_not (e := PV.int) (S := S) h
  refine call_exc_same (ρ := [some (worldP C Dd F), some (.str s)]) ?_
  have x0 : gIx (worldP C Dd F) (.int 1) S = some (.ok (.tup (wpairs PV.int Dd)) S) := (rfl)
  simp [b_day_of, x0, f]
theorem flag_not (h : s ∉ keysL F) : F_flag_of [worldP C Dd F, .str s] S = some (.exc ⟨"Missing", [("name", .str s)]⟩ S) := by
  have f := found_not (e := PV.bl) (S := S) h
  refine call_exc_same (ρ := [some (worldP C Dd F), some (.str s)]) ?_
  have x0 : gIx (worldP C Dd F) (.int 2) S = some (.ok (.tup (wpairs PV.bl F)) S) := (rfl)
  simp [b_flag_of, x0, f]
end
/-! ### setting -/
section
variable {α : Type} {e : α → PV} {S : Sto}
theorem sorted_compJ {ρ : En} {i j k : Nat} {l : List (Str × α)} (h0 : ρ[i]? = some (some (.loc k))) (hx : ∀ v : PV, (setsE [j] [v] (killE [j] ρ))[i]? = some (some (.loc k))) (h3 : ∀ v : PV, (setsE [j] [v] (killE [j] ρ))[j]? = some (some v)) (hk : S[k]? = some (.dct false (encD e l))) (hl : l.length < 64) :
    dComp (dSeqI (dOpA gSortD (dCons (dVar i) dNil))) (nmOne j) [j] dYes (dTup (dCons (dVar j) (dCons (dOp2 gIxD (dVar i) (dVar j)) dNil))) ρ S = some (.ok (.loc (S.length + 1)) (S ++ [.lst ((sortSt (l.map Prod.fst)).map PV.str)] ++ [.lst (wpairs e l)])) := by
  have so := ev_sortDk hk (encD_strs l) (by rw [List.length_map]; exact hl)
  have at0 : (S ++ [PO.lst ((sortSt (l.map Prod.fst)).map PV.str)])[S.length]? = some (.lst ((sortSt (l.map Prod.fst)).map PV.str)) := at_0
  rw [ev_compF (S1 := S ++ [.lst ((sortSt (l.map Prod.fst)).map PV.str)]) (keep := [(S.length, .lst ((sortSt (l.map Prod.fst)).map PV.str))]) PV.str (fun _ => true) (fun s => .tup [.str s, ((l.lookup s).map e).getD .non]) (items := sortSt (l.map Prod.fst)) (by
    simp only [ev_seqI, ev_opA, ev_cons, ev_var, h0, ev_bR_ok, ev_nil, so, at0]) (by rw [kept_one]; exact at0) (fun s hs acc => ⟨[j], [.str s], rfl, rfl, fun _ => by
    obtain ⟨v, hv⟩ := lookup_mem (sortSt_mem.mp hs)
    rw [hv]
    have ix := ev_ixDS (S := S ++ [.lst ((sortSt (l.map Prod.fst)).map PV.str)] ++ [.lst acc]) (s := s) (v := e v) (at_old (at_old hk)) (by rw [encD_val, hv]; rfl)
    simp only [ev_tup, ev_cons, ev_var, h3, hx, ev_bR_ok, ev_op2, ix, ev_nil, ev_tup2]
    rfl⟩) (by rw [sortSt_len, List.length_map]; omega)]
  rw [List.filter_eq_self.mpr fun _ _ => rfl]
  simp [wpairs]
theorem pairs_of (r : List (Str × α)) : pairsOf2 (r.map fun p => pairS (p.1, e p.2)) = some (encD e r) := by
  induction r with
  | nil => rfl
  | cons p r ih =>
    obtain ⟨a, b⟩ := p
    rw [List.map_cons]
    show pairsOf2 (.tup [.str a, e b] :: _) = _
    unfold pairsOf2
    rw [ih]
    rfl
theorem srt_len (l : List (Str × α)) : (srtL l).length = l.length := by
  have h := congrArg List.length (srt_keys l)
  have h2 : (sortSt (keysL l)).length = (keysL l).length := List.length_mergeSort _
  rw [h2] at h
  unfold keysL at h
  rw [List.length_map, List.length_map] at h
  exact h
theorem changed_ok {l : List (Str × α)} {s : Str} {v : α} (hs : nameB s = true) (hl : s.length ≤ 16777216) (hn : (keysL l).Nodup) (hz : l.length < 60) (he : ∀ a, noLoc (e a) = true) : F__changed [.tup (wpairs e l), .str s, e v] S = some (.ok (.tup (wpairs e (putL l s v))) S) := by
  have nm := is_name_spec (S := S) hl
  rw [hs] at nm
  obtain ⟨U, hU⟩ : ∃ U, U = S ++ [PO.lst (wpairs e l)] := ⟨_, rfl⟩
  have u0 : U[S.length]? = some (.lst (wpairs e l)) := by rw [hU]; exact at_0
  have ul : U.length = S.length + 1 := by rw [hU]; simp
  have dn : (keysL (srtL l)).Nodup := by rw [srt_keys]; exact sort_nodup hn
  have mg : mergeD [] (encD e (srtL l)) = some (encD e (srtL l)) := merge_enc (e := e) (srtL l) [] (by simpa using dn)
  have gd : gDict [.loc S.length] U = some (.ok (.loc U.length) (U ++ [.dct false (encD e (srtL l))])) := by
    unfold gDict dctOf lstOf
    dsimp only
    rw [u0]
    dsimp only
    rw [srt_wp, pairs_of]
    dsimp only
    rw [mg]
  have sd := ev_setDS (e := e) (S := U ++ [.dct false (encD e (srtL l))]) (k := U.length) (l := srtL l) (s := s) (v := v) at_0 (by rw [srt_len]; omega)
  rw [put_0] at sd
  obtain ⟨V, hV⟩ : ∃ V, V = U ++ [PO.dct false (encD e (putL (srtL l) s v))] := ⟨_, rfl⟩
  rw [← hV] at sd
  have vk : V[U.length]? = some (.dct false (encD e (putL (srtL l) s v))) := by rw [hV]; exact at_0
  have hlen : (putL (srtL l) s v).length < 64 := by have := putL_len (srtL l) s v; rw [srt_len] at this; omega
  have cm := sorted_compJ (e := e) (S := V) (ρ := [some (.tup (wpairs e l)), some (.str s), some (e v), some (.loc U.length), none]) (i := 3) (j := 4) (k := U.length) rfl (fun _ => rfl) (fun _ => rfl) vk hlen
  have wx : wpairs e (putL (srtL l) s v) = wpairs e (putL l s v) := by
    refine wp_ext ?_ fun x => ?_
    · rw [putL_keys, putL_keys, srt_keys]
      have p : (sortSt (keysL l)).Perm (keysL l) := List.mergeSort_perm _ _
      by_cases h : s ∈ keysL l
      · rw [if_pos h, if_pos (sort_in.mpr h)]; exact p
      · rw [if_neg h, if_neg fun z => h (sort_in.mp z)]; exact p.append_right _
    · rw [putL_look, putL_look, srt_look]
  rw [wx] at cm
  have tl := ev_tupleL (S := V ++ [.lst ((sortSt ((putL (srtL l) s v).map Prod.fst)).map PV.str)] ++ [.lst (wpairs e (putL l s v))]) (k := V.length + 1) (l := wpairs e (putL l s v)) at_two
  obtain ⟨T, hT⟩ : ∃ T, V ++ [.lst ((sortSt ((putL (srtL l) s v).map Prod.fst)).map PV.str)] ++ [.lst (wpairs e (putL l s v))] = S ++ T := ⟨[PO.lst (wpairs e l), .dct false (encD e (putL (srtL l) s v)), .lst ((sortSt ((putL (srtL l) s v).map Prod.fst)).map PV.str), .lst (wpairs e (putL l s v))], by rw [hV, hU]; simp⟩
  rw [hT] at cm tl
  refine call_val (T := T) ?_ (wpairs_nl he _)
  show b__changed [some (.tup (wpairs e l)), some (.str s), some (e v), none, none] S = _
  simp only [b__changed, b__changed_t0, ev_seq, ev_ifS, ev_notT, ev_tru, ev_opA, ev_cons, ev_var, List.getElem?_cons_zero, List.getElem?_cons_succ, ev_bR_ok, ev_nil, nm, ev_gTru_bl, Bool.not_true, ev_bS_ok, Bool.false_eq_true, if_false, ev_pass, ev_bN_next]
  simp only [b__changed_t1, ev_seq, ev_set, ev_opA, ev_cons, ev_var, List.getElem?_cons_zero, ev_bR_ok, ev_nil, ev_listT, ← hU, gd, ev_bS_ok, ev_bN_next, List.set_cons_succ, List.set_cons_zero]
  simp only [b__changed_t2, ev_seq, ev_asg, ev_var, List.getElem?_cons_zero, List.getElem?_cons_succ, ev_bS_ok, ev_gsub, sd, ev_bN_next]
  simp only [b__changed_t3, ev_ret, ev_opA, ev_cons, cm, ev_bR_ok, ev_nil, tl, ev_bS_ok]
theorem changed_bad {v w : PV} {s : Str} (hs : nameB s = false) (hl : s.length ≤ 16777216) : F__changed [w, .str s, v] S = some (.exc ⟨"NotAllowed", []⟩ S) := by
  have nm := is_name_spec (S := S) hl
  rw [hs] at nm
  refine call_exc0 (ρ := [some w, some (.str s), some v, none, none]) ?_
  simp [b__changed, b__changed_t0, nm]
end
section
variable {S : Sto} {C : List (Str × List P2)} {Dd : List (Str × Int)} {F : List (Str × Bool)} {s : Str}
theorem wP_nl (C : List (Str × List P2)) (Dd : List (Str × Int)) (F : List (Str × Bool)) : noLoc (worldP C Dd F) = true := by
  show (noLoc (.tup (wpairs clP C)) && (noLoc (.tup (wpairs PV.int Dd)) && (noLoc (.tup (wpairs PV.bl F)) && true))) = true
  have n1 : noLoc (.tup (wpairs clP C)) = true := wpairs_nl (e := clP) (fun c => noLocs_pairs c) C
  have n2 : noLoc (.tup (wpairs PV.int Dd)) = true := wpairs_nl (e := PV.int) (fun c => rfl) Dd
  have n3 : noLoc (.tup (wpairs PV.bl F)) = true := wpairs_nl (e := PV.bl) (fun c => rfl) F
  rw [n1, n2, n3]
  rfl
theorem wix0 : gIx (worldP C Dd F) (.int 0) S = some (.ok (.tup (wpairs clP C)) S) := (rfl)
theorem wix1 : gIx (worldP C Dd F) (.int 1) S = some (.ok (.tup (wpairs PV.int Dd)) S) := (rfl)
theorem wix2 : gIx (worldP C Dd F) (.int 2) S = some (.ok (.tup (wpairs PV.bl F)) S) := (rfl)
theorem set_cal_ok {c : List P2} (hs : nameB s = true) (hl : s.length ≤ 16777216) (hn : (keysL C).Nodup) (hz : C.length < 60) : F_set_calendar [worldP C Dd F, .str s, clP c] S = some (.ok (worldP (putL C s c) Dd F) S) := by
  have ch := changed_ok (e := clP) (S := S) (v := c) hs hl hn hz fun c => noLocs_pairs c
  refine call_val0 ?_ (wP_nl _ _ _)
  show b_set_calendar [some (worldP C Dd F), some (.str s), some (clP c)] S = _
  simp only [b_set_calendar, ev_ret, ev_tup, ev_cons, ev_opA, ev_op2, ev_var, List.getElem?_cons_zero, List.getElem?_cons_succ, ev_bR_ok, ev_c, wix0, wix1, wix2, ev_nil, ch, ev_tup3, ev_bS_ok]
  rfl
theorem set_day_ok {c : Int} (hs : nameB s = true) (hl : s.length ≤ 16777216) (hn : (keysL Dd).Nodup) (hz : Dd.length < 60) : F_set_day [worldP C Dd F, .str s, .int c] S = some (.ok (worldP C (putL Dd s c) F) S) := by
  have ch := changed_ok (e := PV.int) (S := S) (v := c) hs hl hn hz fun c => rfl
  refine call_val0 ?_ (wP_nl _ _ _)
  show b_set_day [some (worldP C Dd F), some (.str s), some (.int c)] S = _
  simp only [b_set_day, ev_ret, ev_tup, ev_cons, ev_opA, ev_op2, ev_var, List.getElem?_cons_zero, List.getElem?_cons_succ, ev_bR_ok, ev_c, wix0, wix1, wix2, ev_nil, ch, ev_tup3, ev_bS_ok]
  rfl
theorem set_flag_ok {c : Bool} (hs : nameB s = true) (hl : s.length ≤ 16777216) (hn : (keysL F).Nodup) (hz : F.length < 60) : F_set_flag [worldP C Dd F, .str s, .bl c] S = some (.ok (worldP C Dd (putL F s c)) S) := by
  have ch := changed_ok (e := PV.bl) (S := S) (v := c) hs hl hn hz fun c => rfl
  refine call_val0 ?_ (wP_nl _ _ _)
  show b_set_flag [some (worldP C Dd F), some (.str s), some (.bl c)] S = _
  simp only [b_set_flag, ev_ret, ev_tup, ev_cons, ev_opA, ev_op2, ev_var, List.getElem?_cons_zero, List.getElem?_cons_succ, ev_bR_ok, ev_c, wix0, wix1, wix2, ev_nil, ch, ev_tup3, ev_bS_ok]
  rfl
theorem set_bad {v : PV} (hs : nameB s = false) (hl : s.length ≤ 16777216) : F_set_calendar [worldP C Dd F, .str s, v] S = some (.exc ⟨"NotAllowed", []⟩ S) ∧ F_set_day [worldP C Dd F, .str s, v] S = some (.exc ⟨"NotAllowed", []⟩ S) ∧ F_set_flag [worldP C Dd F, .str s, v] S = some (.exc ⟨"NotAllowed", []⟩ S) := by
  have ch := fun w => changed_bad (S := S) (v := v) (w := w) hs hl
  refine ⟨call_exc0 (ρ := [some (worldP C Dd F), some (.str s), some v]) ?_, call_exc0 (ρ := [some (worldP C Dd F), some (.str s), some v]) ?_, call_exc0 (ρ := [some (worldP C Dd F), some (.str s), some v]) ?_⟩
  · simp [b_set_calendar, wix0, wix1, wix2, ch]
  · simp [b_set_day, wix0, wix1, wix2, ch]
  · simp [b_set_flag, wix0, wix1, wix2, ch]
end
/-! ### what is a world -/
def ltT (a b : Str) : Prop := a.cps.toList < b.cps.toList
theorem ltT_irr (a : Str) : ¬ ltT a a := List.lt_irrefl _
theorem ltT_trans {a b c : Str} (h1 : ltT a b) (h2 : ltT b c) : ltT a c := List.lt_trans h1 h2
theorem leS_lt {a b : Str} : leS b a = false ↔ ltT a b := by
  unfold leS ltT
  simp
def riseB : Str → List Str → Bool
  | _, [] => true
  | b, n :: r => nameB n && !leS n b && riseB n r
theorem rise_pw : ∀ {l : List Str} {b : Str}, riseB b l = true → (b :: l).Pairwise ltT
  | [], b, _ => by simp
  | n :: l, b, h => by
    unfold riseB at h
    rw [Bool.and_eq_true, Bool.and_eq_true, Bool.not_eq_true'] at h
    have ih := rise_pw h.2
    have hb := leS_lt.mp h.1.2
    rw [List.pairwise_cons]
    refine ⟨fun x hx => ?_, ih⟩
    rcases List.mem_cons.mp hx with rfl | hx
    · exact hb
    · exact ltT_trans hb (List.rel_of_pairwise_cons ih hx)
theorem rise_of : ∀ {l : List Str} {b : Str}, (∀ n ∈ l, nameB n = true) → (b :: l).Pairwise ltT → riseB b l = true
  | [], b, _, _ => rfl
  | n :: l, b, h, hp => by
    unfold riseB
    rw [List.pairwise_cons] at hp
    rw [h n List.mem_cons_self, leS_lt.mpr (hp.1 n List.mem_cons_self), rise_of (fun x hx => h x (List.mem_cons_of_mem _ hx)) hp.2]
    rfl
theorem rise_names : ∀ {l : List Str} {b : Str}, riseB b l = true → ∀ n ∈ l, nameB n = true
  | n :: l, b, h, x, hx => by
    unfold riseB at h
    rw [Bool.and_eq_true, Bool.and_eq_true] at h
    rcases List.mem_cons.mp hx with rfl | hx
    · exact h.1.1
    · exact rise_names h.2 x hx
theorem name_pos {s : Str} (h : nameB s = true) : 1 ≤ s.length ∧ s.length ≤ 20 := by
  unfold nameB at h
  simp only [Bool.and_eq_true, decide_eq_true_eq] at h
  exact ⟨h.1.1.1.1, h.1.1.1.2⟩
theorem empty_lt {s : Str} (h : 1 ≤ s.length) : ltT "" s := by
  have hl : s.length = s.cps.toList.length := by simp [Str.length]
  unfold ltT
  have e0 : ("" : Str).cps.toList = [] := by decide +kernel
  rw [e0]
  cases h2 : s.cps.toList with
  | nil => rw [h2] at hl; simp at hl; omega
  | cons a b => exact List.nil_lt_cons _ _
theorem rise_sort {ks : List Str} (hn : ks.Nodup) (h : ∀ n ∈ ks, nameB n = true) : riseB "" (sortSt ks) = true := by
  refine rise_of (fun n hm => h n (sort_in.mp hm)) ?_
  rw [List.pairwise_cons]
  refine ⟨fun n hm => empty_lt (name_pos (h n (sort_in.mp hm))).1, ?_⟩
  have h1 : (sortSt ks).Pairwise fun a b => leSt a b = true := List.pairwise_mergeSort leSt_trans leSt_total ks
  have h2 := sort_nodup hn
  refine (List.Pairwise.and h1 h2).imp fun {a b} hab => ?_
  have := leSt_iff.mp hab.1
  unfold ltT
  rcases List.le_iff_lt_or_eq.mp this with h | h
  · exact h
  · exact absurd (str_ext h) hab.2
theorem rise_loop {S : Sto} {q : Option PV} : ∀ (l : List (Str × PV)) (b : Str), (∀ p ∈ l, p.1.length ≤ 16777216) → ∃ b', forL (gT 2 (gsCons (gN 2) (gsCons (gN 3) gsNil))) [2, 3] l__names_rise_1 [] (l.map pairS) [q, some (.str b), none, none] S =
    if riseB b (keysL l) = true then some (.next [q, some (.str b'), none, none] S) else some (.ret (.bl false) S)
  | [], b, _ => ⟨b, by rw [List.map_nil, forL_nil (by simp)]; rfl⟩
  | p :: l, b, h => by
    obtain ⟨n, v⟩ := p
    obtain ⟨b', ih⟩ := rise_loop (S := S) (q := q) l n fun x hx => h x (List.mem_cons_of_mem _ hx)
    have nm := is_name_spec (S := S) (h _ List.mem_cons_self)
    refine ⟨b', ?_⟩
    rw [List.map_cons, forL_cons (by simp)]
    show _ = if (nameB n && !leS n b && riseB n (keysL l)) = true then _ else _
    have nm : F_is_name [.str n] S = some (.ok (.bl (nameB n)) S) := nm
    cases h1 : nameB n with
    | false =>
      rw [h1] at nm
      simp [pairS, l__names_rise_1, nm]
    | true =>
      rw [h1] at nm
      cases h2 : leS n b with
      | true => simp [pairS, l__names_rise_1, nm, h2]
      | false =>
        simp [pairS, l__names_rise_1, nm, h2] at ih ⊢
        exact ih
theorem rise_ok {S : Sto} {l : List (Str × PV)} (h : ∀ p ∈ l, p.1.length ≤ 16777216) : F__names_rise [.tup (l.map pairS)] S = some (.ok (.bl (riseB "" (keysL l))) S) := by
  obtain ⟨b', lp⟩ := rise_loop (S := S) (q := some (.tup (l.map pairS))) l "" h
  refine call_val0 ?_ rfl
  cases e : riseB "" (keysL l) with
  | true => rw [e, if_pos rfl] at lp; simp [b__names_rise, b__names_rise_t0, b__names_rise_t1, b__names_rise_t2, lp]
  | false => rw [e, if_neg (by simp)] at lp; simp [b__names_rise, b__names_rise_t0, b__names_rise_t1, b__names_rise_t2, lp]
theorem forms_loop {S : Sto} {q : Option PV} : ∀ l : List (Str × List P2), forL (gT 2 (gsCons (gN 2) (gsCons (gN 3) gsNil))) [2, 3] l_is_world_2 [] (l.map fun p => pairS (p.1, clP p.2)) [q, none, none, none] S =
    if l.all (fun p => formB none p.2) = true then some (.next [q, none, none, none] S) else some (.ret (.bl false) S)
  | [] => by rw [List.map_nil, forL_nil (by simp)]; rfl
  | p :: l => by
    have ih := forms_loop (S := S) (q := q) l
    have n := icd_spec (S := S) (l := p.2)
    rw [List.map_cons, forL_cons (by simp), List.all_cons]
    cases h : formB none p.2 with
    | true => rw [h] at n; rw [Bool.true_and]; simp [pairS, l_is_world_2, n] at ih ⊢; exact ih
    | false => rw [h] at n; rw [Bool.false_and]; simp [pairS, l_is_world_2, n]
def wldB (A : List (Str × List P2)) (B D : List (Str × PV)) : Bool := riseB "" (keysL A) && riseB "" (keysL B) && riseB "" (keysL D) && A.all fun p => formB none p.2
theorem is_world_ok {S : Sto} {A : List (Str × List P2)} {B D : List (Str × PV)} (hA : ∀ p ∈ A, p.1.length ≤ 16777216) (hB : ∀ p ∈ B, p.1.length ≤ 16777216) (hD : ∀ p ∈ D, p.1.length ≤ 16777216) :
    F_is_world [.tup [.tup (A.map fun p => pairS (p.1, clP p.2)), .tup (B.map pairS), .tup (D.map pairS)]] S = some (.ok (.bl (wldB A B D)) S) := by
  have eA : (A.map fun p => pairS (p.1, clP p.2)) = (A.map fun p => (p.1, clP p.2)).map pairS := by rw [List.map_map]; rfl
  have kA : keysL (A.map fun p => (p.1, clP p.2)) = keysL A := by unfold keysL; rw [List.map_map]; rfl
  have rA := rise_ok (S := S) (l := A.map fun p => (p.1, clP p.2)) fun p hp => by
    obtain ⟨q, hq, rfl⟩ := List.mem_map.mp hp
    exact hA q hq
  rw [kA, ← eA] at rA
  have rB := rise_ok (S := S) hB
  have rD := rise_ok (S := S) hD
  have fl := forms_loop (S := S) (q := some (.tup [.tup (A.map fun p => pairS (p.1, clP p.2)), .tup (B.map pairS), .tup (D.map pairS)])) A
  have x0 : gIx (.tup [.tup (A.map fun p => pairS (p.1, clP p.2)), .tup (B.map pairS), .tup (D.map pairS)]) (.int 0) S = some (.ok (.tup (A.map fun p => pairS (p.1, clP p.2))) S) := (rfl)
  refine call_val0 ?_ rfl
  unfold wldB
  generalize (A.map fun p => pairS (p.1, clP p.2)) = PA at rA fl x0
  generalize B.map pairS = PB at rB fl x0
  generalize D.map pairS = PD at rD fl x0
  have loop : forL (gN 1) [1] l_is_world_1 [] [.tup PA, .tup PB, .tup PD] [some (.tup [.tup PA, .tup PB, .tup PD]), none, none, none] S = if (riseB "" (keysL A) && riseB "" (keysL B) && riseB "" (keysL D)) = true then some (.next [some (.tup [.tup PA, .tup PB, .tup PD]), none, none, none] S) else some (.ret (.bl false) S) := by
    generalize riseB "" (keysL A) = a at rA
    generalize riseB "" (keysL B) = b at rB
    generalize riseB "" (keysL D) = d at rD
    rw [forL_cons (by simp)]
    cases a
    · simp [l_is_world_1, rA]
    · simp [l_is_world_1, rA]
      rw [forL_cons (by simp)]
      cases b
      · simp [rB]
      · simp [rB]
        rw [forL_cons (by simp)]
        cases d
        · simp [rD]
        · simp [rD]
          rw [forL_nil (by simp)]
  show b_is_world [some (.tup [.tup PA, .tup PB, .tup PD]), none, none, none] S = _
  cases h : (riseB "" (keysL A) && riseB "" (keysL B) && riseB "" (keysL D)) with
  | false =>
    rw [h, if_neg (by simp)] at loop
    rw [Bool.false_and]
    simp [b_is_world, b_is_world_t0, loop]
  | true =>
    rw [h, if_pos rfl] at loop
    rw [Bool.true_and]
    cases h2 : A.all fun p => formB none p.2 with
    | false =>
      rw [h2, if_neg (by simp)] at fl
      simp [b_is_world, b_is_world_t0, b_is_world_t1, b_is_world_t2, loop, x0, fl]
    | true =>
      rw [h2, if_pos rfl] at fl
      simp [b_is_world, b_is_world_t0, b_is_world_t1, b_is_world_t2, loop, x0, fl]
end G

namespace G
end G
namespace Lk05
open PySem PySem.Spec PyProof.Rows L2 D G
/-! ## denotations -/
def cat_Missing (x : Str) : Option Bool := if x = "DiesError" then some false else if x = "NotAllowed" then some false else if x = "TooLarge" then some false else if x = "Never" then some false else if x = "Missing" then some true else none
def cat_NotAllowed (x : Str) : Option Bool := if x = "DiesError" then some false else if x = "NotAllowed" then some true else if x = "TooLarge" then some false else if x = "Never" then some false else if x = "Missing" then some false else none
/-! _law_due(_law_tables): slots 0 _law_tables, 1 _law_found, 2 _law_table, 3 _law_name -/
noncomputable def l__law_due_1 : DS := (dBody [2] (dExpr (dMeth "list" gAppend (dVar 1) (dCons (dOpA gTuple (dCons (dComp (dSeqI (dOpA gSortD (dCons (dVar 2) dNil))) (nmOne 3) [3] dYes (dTup (dCons (dVar 3) (dCons (dOp2 gIxD (dVar 2) (dVar 3)) dNil)))) dNil)) dNil))))
noncomputable def b__law_due_t2 : DS := (dRet (dOpA gTuple (dCons (dVar 1) dNil)))
noncomputable def b__law_due_t1 : DS := (dSeq (dFor (dSeqI (dVar 0)) (gN 2) [2] l__law_due_1) b__law_due_t2)
noncomputable def b__law_due_t0 : DS := (dSeq (dSet 1 (dLst dNil)) b__law_due_t1)
noncomputable def b__law_due : DS := b__law_due_t0
noncomputable def F__law_due : DF := dDef 1 4 b__law_due
/-! _law_missing(_law_world, _law_which, _law_name): slots 0 _law_world, 1 _law_which, 2 _law_name, 3 e -/
noncomputable def h__law_missing_1 : Hd := fun e a d => (if e.c = "Missing" ∧ e.fs.isEmpty = false then suF d (fun dd => (dRet (dAnd2 (dOp2 gEq (dXf 3 a dd "name") (dVar 2)) (dAnd2 (dIsEd 3 a dd true) (dNot2 (dIsEd 3 a dd false)))))) else dNope)
noncomputable def b__law_missing : DS := (dSeq (dTryAs (dIfS (dCmp gEq (dVar 1) (dC (.int 0))) (dExpr (dOpA F_calendar_of (dCons (dVar 0) (dCons (dVar 2) dNil)))) (dIfS (dCmp gEq (dVar 1) (dC (.int 1))) (dExpr (dOpA F_day_of (dCons (dVar 0) (dCons (dVar 2) dNil)))) (dExpr (dOpA F_flag_of (dCons (dVar 0) (dCons (dVar 2) dNil)))))) 3 cat_Missing h__law_missing_1) (dRet (dC (.bl false))))
noncomputable def F__law_missing : DF := dDef 3 4 b__law_missing
/-! _law_words(): slots  -/
noncomputable def b__law_words : DS := (dRet (dLst (dCons (dC (.str "next")) (dCons (dC (.str "prev")) (dCons (dC (.str "open")) (dCons (dC (.str "later")) (dCons (dC (.str "earlier")) (dCons (dC (.str "if")) (dCons (dC (.str "is")) (dCons (dC (.str "not")) (dCons (dC (.str "and")) (dCons (dC (.str "or")) (dCons (dC (.str "yes")) (dCons (dC (.str "calendar")) (dCons (dC (.str "run")) (dCons (dC (.str "within")) (dCons (dC (.str "known")) (dCons (dC (.str "to")) (dCons (dC (.str "closed")) (dCons (dC (.str "assume")) (dCons (dC (.str "claim")) (dCons (dC (.str "event")) (dCons (dC (.str "rule")) (dCons (dC (.str "on")) (dCons (dC (.str "when")) (dCons (dC (.str "due")) (dCons (dC (.str "met")) (dCons (dC (.str "called")) (dCons (dC (.str "missed")) (dCons (dC (.str "filed")) dNil))))))))))))))))))))))))))))))
noncomputable def F__law_words : DF := dDef 0 0 b__law_words
/-! _law_word(_law_name): slots 0 _law_name -/
noncomputable def b__law_word : DS := (dRet (dOp2 gIn (dVar 0) (dOpA F__law_words dNil)))
noncomputable def F__law_word : DF := dDef 1 1 b__law_word
/-! _law_names(_law_numbers, _law_at): slots 0 _law_numbers, 1 _law_at, 2 _law_letters, 3 _law_found, 4 _law_k, 5 _law_size, 6 _law_name, 7 _law_j -/
noncomputable def l__law_names_2 : DS := (dSet 6 (dOp2 gAdd (dVar 6) (dOp2 gIx (dVar 2) (dOpA F__law_pick (dCons (dVar 0) (dCons (dOp2 gAdd (dOp2 gAdd (dVar 1) (dC (.int 5))) (dOp2 gMul (dVar 7) (dOp2 gAdd (dVar 4) (dC (.int 1))))) (dCons (dC (.int 36)) dNil)))))))
noncomputable def l__law_names_1_t3 : DS := (dIfS (dAndT (dCmp gNotIn (dVar 6) (dVar 3)) (dNotT (dTru (dOpA F__law_word (dCons (dVar 6) dNil))))) (dExpr (dMeth "list" gAppend (dVar 3) (dCons (dVar 6) dNil))) dPass)
noncomputable def l__law_names_1_t2 : DS := (dSeq (dFor (dRng1 (dCons (dOp2 gSub (dVar 5) (dC (.int 1))) dNil)) (gN 7) [7] l__law_names_2) l__law_names_1_t3)
noncomputable def l__law_names_1_t1 : DS := (dSeq (dSet 6 (dOp2 gIx (dVar 2) (dOpA F__law_pick (dCons (dVar 0) (dCons (dOp2 gAdd (dOp2 gAdd (dVar 1) (dC (.int 3))) (dVar 4)) (dCons (dC (.int 26)) dNil)))))) l__law_names_1_t2)
noncomputable def l__law_names_1_t0 : DS := (dSeq (dSet 5 (dOp2 gIx (dLst (dCons (dC (.int 1)) (dCons (dC (.int 2)) (dCons (dC (.int 20)) (dCons (dOp2 gAdd (dC (.int 1)) (dOpA F__law_pick (dCons (dVar 0) (dCons (dOp2 gAdd (dVar 1) (dC (.int 1))) (dCons (dC (.int 20)) dNil))))) dNil))))) (dOpA F__law_pick (dCons (dVar 0) (dCons (dOp2 gAdd (dOp2 gAdd (dVar 1) (dC (.int 2))) (dVar 4)) (dCons (dC (.int 4)) dNil)))))) l__law_names_1_t1)
noncomputable def l__law_names_1 : DS := (dBody [4, 5, 6, 7] l__law_names_1_t0)
noncomputable def b__law_names_t3 : DS := (dRet (dVar 3))
noncomputable def b__law_names_t2 : DS := (dSeq (dFor (dRng1 (dCons (dOpA F__law_pick (dCons (dVar 0) (dCons (dVar 1) (dCons (dC (.int 6)) dNil)))) dNil)) (gN 4) [4, 5, 6, 7] l__law_names_1) b__law_names_t3)
noncomputable def b__law_names_t1 : DS := (dSeq (dSet 3 (dLst dNil)) b__law_names_t2)
noncomputable def b__law_names_t0 : DS := (dSeq (dSet 2 (dC (.str "abcdefghijklmnopqrstuvwxyz0123456789"))) b__law_names_t1)
noncomputable def b__law_names : DS := b__law_names_t0
noncomputable def F__law_names : DF := dDef 2 8 b__law_names
/-! _law_read(_law_world, _law_table, _law_which): slots 0 _law_world, 1 _law_table, 2 _law_which, 3 _law_name, 4 _law_told -/
noncomputable def l__law_read_1 : DS := (dSeq (dIfS (dCmp gEq (dVar 2) (dC (.int 0))) (dSet 4 (dOpA F_calendar_of (dCons (dVar 0) (dCons (dVar 3) dNil)))) (dIfS (dCmp gEq (dVar 2) (dC (.int 1))) (dSet 4 (dOpA F_day_of (dCons (dVar 0) (dCons (dVar 3) dNil)))) (dSet 4 (dOpA F_flag_of (dCons (dVar 0) (dCons (dVar 3) dNil)))))) (dIfS (dOrT (dCmp gNe (dVar 4) (dOp2 gIxD (dVar 1) (dVar 3))) (dCmp gNe (dOpA gIsa (dCons (dVar 4) (dCons (dC (.ty "bool")) dNil))) (dOp2 gEq (dVar 2) (dC (.int 2))))) (dRet (dC (.bl false))) dPass))
noncomputable def b__law_read : DS := (dSeq (dLock 1 (dFor (dKeysI (dVar 1)) (gN 3) [3, 4] l__law_read_1)) (dRet (dC (.bl true))))
noncomputable def F__law_read : DF := dDef 3 5 b__law_read
/-! _law_refused(_law_tables, _law_which, _law_name, _law_closed_here): slots 0 _law_tables, 1 _law_which, 2 _law_name, 3 _law_closed_here, 4 _law_handed, 5 e -/
noncomputable def h__law_refused_1 : Hd := fun e a d => (if e.c = "NotAllowed" ∧ e.fs.isEmpty = true then (dRet (dAnd2 (dIsE 5 a true) (dNot2 (dOr2 (dIsE 5 a false) (dOr2 (dIsE 5 a false) (dIsE 5 a false)))))) else dNope)
noncomputable def b__law_refused_t3 : DS := (dRet (dC (.bl false)))
noncomputable def b__law_refused_t2 : DS := (dSeq (dTryAs (dExpr (dOpA F_make_world (dCons (dOp2 gIx (dVar 4) (dC (.int 0))) (dCons (dOp2 gIx (dVar 4) (dC (.int 1))) (dCons (dOp2 gIx (dVar 4) (dC (.int 2))) dNil))))) 5 cat_NotAllowed h__law_refused_1) b__law_refused_t3)
noncomputable def b__law_refused_t1 : DS := (dSeq (dAsg (gSubT gSetD (dOp2 gIx (dVar 4) (dVar 1)) (dVar 2)) (dOp2 gIx (dLst (dCons (dVar 3) (dCons (dC (.int 7)) (dCons (dC (.bl true)) dNil)))) (dVar 1))) b__law_refused_t2)
noncomputable def b__law_refused_t0 : DS := (dSeq (dSet 4 (dLst (dCons (dOpA gDict (dCons (dOp2 gIx (dVar 0) (dC (.int 0))) dNil)) (dCons (dOpA gDict (dCons (dOp2 gIx (dVar 0) (dC (.int 1))) dNil)) (dCons (dOpA gDict (dCons (dOp2 gIx (dVar 0) (dC (.int 2))) dNil)) dNil))))) b__law_refused_t1)
noncomputable def b__law_refused : DS := b__law_refused_t0
noncomputable def F__law_refused : DF := dDef 4 6 b__law_refused
/-! _law_set(_law_world, _law_which, _law_name, _law_content): slots 0 _law_world, 1 _law_which, 2 _law_name, 3 _law_content -/
noncomputable def b__law_set_t2 : DS := (dRet (dOpA F_set_flag (dCons (dVar 0) (dCons (dVar 2) (dCons (dVar 3) dNil)))))
noncomputable def b__law_set_t1 : DS := (dSeq (dIfS (dCmp gEq (dVar 1) (dC (.int 1))) (dRet (dOpA F_set_day (dCons (dVar 0) (dCons (dVar 2) (dCons (dVar 3) dNil))))) dPass) b__law_set_t2)
noncomputable def b__law_set_t0 : DS := (dSeq (dIfS (dCmp gEq (dVar 1) (dC (.int 0))) (dRet (dOpA F_set_calendar (dCons (dVar 0) (dCons (dVar 2) (dCons (dVar 3) dNil))))) dPass) b__law_set_t1)
noncomputable def b__law_set : DS := b__law_set_t0
noncomputable def F__law_set : DF := dDef 4 4 b__law_set
/-! _law_spoilt(_law_world, _law_which, _law_name, _law_bad): slots 0 _law_world, 1 _law_which, 2 _law_name, 3 _law_bad, 4 _law_entry, 5 _law_found, 6 _law_pairs, 7 _law_other -/
noncomputable def l__law_spoilt_1 : DS := (dBody [6] (dExpr (dMeth "list" gAppend (dVar 5) (dCons (dOp2 gAdd (dOp2 gAdd (dSl (dVar 0) dNoPart (dPart (dVar 1))) (dTup (dCons (dVar 6) dNil))) (dSl (dVar 0) (dPart (dOp2 gAdd (dVar 1) (dC (.int 1)))) dNoPart)) dNil))))
noncomputable def l__law_spoilt_2 : DS := (dIfS (dCmp gIsNot (dOpA F_is_world (dCons (dVar 7) dNil)) (dC (.bl false))) (dRet (dC (.bl false))) dPass)
noncomputable def b__law_spoilt_t6 : DS := (dRet (dC (.bl true)))
noncomputable def b__law_spoilt_t5 : DS := (dSeq (dFor (dSeqI (dVar 5)) (gN 7) [7] l__law_spoilt_2) b__law_spoilt_t6)
noncomputable def b__law_spoilt_t4 : DS := (dSeq (dExpr (dMeth "list" gAppend (dVar 5) (dCons (dTup (dCons (dOp2 gAdd (dOp2 gIx (dVar 0) (dC (.int 0))) (dTup (dCons (dTup (dCons (dOp2 gAdd (dC (.str "zz")) (dOp2 gMulS (dC (.str "z")) (dC (.int 18)))) (dCons (dVar 3) dNil))) dNil))) (dCons (dOp2 gIx (dVar 0) (dC (.int 1))) (dCons (dOp2 gIx (dVar 0) (dC (.int 2))) dNil)))) dNil))) b__law_spoilt_t5)
noncomputable def b__law_spoilt_t3 : DS := (dSeq (dIfS (dCmp gGt (dOpA gLen (dCons (dOp2 gIx (dVar 0) (dVar 1)) dNil)) (dC (.int 1))) (dExpr (dMeth "list" gAppend (dVar 5) (dCons (dOp2 gAdd (dOp2 gAdd (dSl (dVar 0) dNoPart (dPart (dVar 1))) (dTup (dCons (dOp2 gAdd (dSl (dOp2 gIx (dVar 0) (dVar 1)) (dPart (dC (.int 1))) dNoPart) (dSl (dOp2 gIx (dVar 0) (dVar 1)) dNoPart (dPart (dC (.int 1))))) dNil))) (dSl (dVar 0) (dPart (dOp2 gAdd (dVar 1) (dC (.int 1)))) dNoPart)) dNil))) dPass) b__law_spoilt_t4)
noncomputable def b__law_spoilt_t2 : DS := (dSeq (dFor (dSeqI (dLst (dCons (dOp2 gAdd (dOp2 gIx (dVar 0) (dVar 1)) (dTup (dCons (dVar 4) (dCons (dVar 4) dNil)))) (dCons (dOp2 gAdd (dOp2 gAdd (dTup (dCons (dVar 4) dNil)) (dOp2 gIx (dVar 0) (dVar 1))) (dTup (dCons (dVar 4) dNil))) (dCons (dOp2 gAdd (dOp2 gIx (dVar 0) (dVar 1)) (dTup (dCons (dTup (dCons (dC (.str "a")) (dCons (dOp2 gIx (dVar 4) (dC (.int 1))) dNil))) (dCons (dTup (dCons (dC (.str "A")) (dCons (dOp2 gIx (dVar 4) (dC (.int 1))) dNil))) dNil)))) dNil))))) (gN 6) [6] l__law_spoilt_1) b__law_spoilt_t3)
noncomputable def b__law_spoilt_t1 : DS := (dSeq (dSet 5 (dLst dNil)) b__law_spoilt_t2)
noncomputable def b__law_spoilt_t0 : DS := (dSeq (dSet 4 (dTup (dCons (dVar 2) (dCons (dOp2 gIx (dLst (dCons (dTup dNil) (dCons (dC (.int 5)) (dCons (dC (.bl true)) dNil)))) (dVar 1)) dNil)))) b__law_spoilt_t1)
noncomputable def b__law_spoilt : DS := b__law_spoilt_t0
noncomputable def F__law_spoilt : DF := dDef 4 8 b__law_spoilt
/-! _law_unset(_law_world, _law_which, _law_name): slots 0 _law_world, 1 _law_which, 2 _law_name -/
noncomputable def b__law_unset : DS := (dSeq (dTryOnly (dIfS (dCmp gEq (dVar 1) (dC (.int 0))) (dExpr (dOpA F_set_calendar (dCons (dVar 0) (dCons (dVar 2) (dCons (dTup dNil) dNil))))) (dIfS (dCmp gEq (dVar 1) (dC (.int 1))) (dExpr (dOpA F_set_day (dCons (dVar 0) (dCons (dVar 2) (dCons (dC (.int 3)) dNil))))) (dExpr (dOpA F_set_flag (dCons (dVar 0) (dCons (dVar 2) (dCons (dC (.bl false)) dNil))))))) cat_NotAllowed (dRet (dC (.bl true)))) (dRet (dC (.bl false))))
noncomputable def F__law_unset : DF := dDef 3 3 b__law_unset
/-! law(_law_script): slots 0 _law_script, 1 _law_numbers, 2 _law_tables, 3 _law_k, 4 _law_name, 5 _law_kept, 6 _law_world, 7 _law_which, 8 _law_names_here, 9 _law_new, 10 _law_content, 11 _law_told, 12 _law_bad, 13 _law_words_here, 14 _law_wrong -/
noncomputable def l_law_1 : DS := (dBody [3, 4] (dSeq (dAsg (gSubT gSetD (dOp2 gIx (dVar 2) (dC (.int 0))) (dVar 4)) (dOpA F__law_closed (dCons (dVar 1) (dCons (dOp2 gAdd (dC (.int 11)) (dOp2 gMul (dC (.int 5)) (dVar 3))) (dCons (dC (.int 0)) dNil))))) (dIfS (dCmp gEq (dOpA F__law_pick (dCons (dVar 1) (dCons (dOp2 gAdd (dC (.int 12)) (dVar 3)) (dCons (dC (.int 2)) dNil)))) (dC (.int 0))) (dAsg (gSubT gSetD (dOp2 gIx (dVar 2) (dC (.int 1))) (dVar 4)) (dOp2 gSub (dOpA F__law_pick (dCons (dVar 1) (dCons (dOp2 gAdd (dC (.int 13)) (dVar 3)) (dCons (dC (.int 1009)) dNil)))) (dC (.int 500)))) dPass)))
noncomputable def l_law_2 : DS := (dSeq (dAsg (gSubT gSetD (dOp2 gIx (dVar 2) (dC (.int 1))) (dVar 4)) (dOp2 gMul (dOp2 gSub (dOpA F__law_pick (dCons (dVar 1) (dCons (dOp2 gAdd (dC (.int 32)) (dVar 3)) (dCons (dC (.int 1009)) dNil)))) (dC (.int 500))) (dOp2 gPow (dC (.int 10)) (dC (.int 20))))) (dAsg (gSubT gSetD (dOp2 gIx (dVar 2) (dC (.int 2))) (dVar 4)) (dOp2 gEq (dOpA F__law_pick (dCons (dVar 1) (dCons (dOp2 gAdd (dC (.int 33)) (dVar 3)) (dCons (dC (.int 2)) dNil)))) (dC (.int 0)))))
noncomputable def l_law_3 : DS := (dSeq (dIfS (dNotT (dTru (dOpA F__law_read (dCons (dVar 6) (dCons (dOp2 gIx (dVar 2) (dVar 3)) (dCons (dVar 3) dNil)))))) (dRet (dC (.bl false))) dPass) (dIfS (dAndT (dCmp (gDIn true) (dVar 9) (dOp2 gIx (dVar 2) (dVar 3))) (dNotT (dTru (dOpA F__law_missing (dCons (dVar 6) (dCons (dVar 3) (dCons (dVar 9) dNil))))))) (dRet (dC (.bl false))) dPass))
noncomputable def l_law_4 : DS := (dIfS (dOrT (dNotT (dTru (dOpA F__law_refused (dCons (dVar 2) (dCons (dVar 3) (dCons (dVar 14) (dCons (dTup dNil) dNil))))))) (dNotT (dTru (dOpA F__law_unset (dCons (dVar 6) (dCons (dVar 3) (dCons (dVar 14) dNil))))))) (dRet (dC (.bl false))) dPass)
noncomputable def t_22 : DS := (dRet (dOpA F__law_spoilt (dCons (dVar 6) (dCons (dVar 7) (dCons (dOp2 gMulS (dC (.str "z")) (dOp2 gAdd (dC (.int 1)) (dOpA F__law_pick (dCons (dVar 1) (dCons (dC (.int 61)) (dCons (dC (.int 20)) dNil)))))) (dCons (dVar 12) dNil))))))
noncomputable def t_21 : DS := (dSeq (dIfS (dNotT (dTru (dOpA F__law_refused (dCons (dVar 2) (dCons (dC (.int 0)) (dCons (dOp2 gAdd (dC (.str "w")) (dOp2 gMulS (dC (.str "v")) (dC (.int 19)))) (dCons (dVar 12) dNil))))))) (dRet (dC (.bl false))) dPass) t_22)
noncomputable def t_20 : DS := (dSeq (dFor (dRng1 (dCons (dC (.int 3)) dNil)) (gN 3) [3] l_law_4) t_21)
noncomputable def t_19 : DS := (dSeq (dSet 14 (dOp2 gIx (dLst (dCons (dC (.str "")) (dCons (dC (.str "A")) (dCons (dC (.str "a_")) (dCons (dC (.str "9a")) (dCons (dC (.str "a b")) (dCons (dOp2 gMulS (dC (.str "a")) (dC (.int 21))) (dCons (dC (.str "a.")) (dCons (dOp2 gIx (dVar 13) (dOpA F__law_pick (dCons (dVar 1) (dCons (dC (.int 59)) (dCons (dOpA gLen (dCons (dVar 13) dNil)) dNil))))) dNil))))))))) (dOpA F__law_pick (dCons (dVar 1) (dCons (dC (.int 60)) (dCons (dC (.int 8)) dNil)))))) t_20)
noncomputable def t_18 : DS := (dSeq (dSet 13 (dOpA F__law_words dNil)) t_19)
noncomputable def t_17 : DS := (dSeq (dSet 12 (dTup (dCons (dTup (dCons (dOpA F__law_pick (dCons (dVar 1) (dCons (dC (.int 57)) (dCons (dC (.int 9)) dNil)))) (dCons (dC (.int 12)) dNil))) (dCons (dTup (dCons (dOp2 gSub (dC (.int 13)) (dOpA F__law_pick (dCons (dVar 1) (dCons (dC (.int 58)) (dCons (dC (.int 3)) dNil))))) (dCons (dC (.int 20)) dNil))) dNil)))) t_18)
noncomputable def t_16 : DS := (dSeq (dIfS (dOrT (dCmp gNe (dVar 11) (dOpA F__law_due (dCons (dVar 2) dNil))) (dCmp gNe (dVar 6) (dVar 5))) (dRet (dC (.bl false))) dPass) t_17)
noncomputable def t_15 : DS := (dSeq (dAsg (gSubT gSetD (dOp2 gIx (dVar 2) (dVar 7)) (dVar 9)) (dVar 10)) t_16)
noncomputable def t_14 : DS := (dSeq (dSet 11 (dOpA F__law_set (dCons (dVar 6) (dCons (dVar 7) (dCons (dVar 9) (dCons (dVar 10) dNil)))))) t_15)
noncomputable def t_13 : DS := (dSeq (dSet 10 (dOp2 gIx (dLst (dCons (dOpA F__law_closed (dCons (dVar 1) (dCons (dC (.int 54)) (dCons (dOp2 gPow (dC (.int 10)) (dC (.int 9))) dNil)))) (dCons (dOpA F__law_pick (dCons (dVar 1) (dCons (dC (.int 55)) (dCons (dC (.int 1009)) dNil)))) (dCons (dOp2 gEq (dOpA F__law_pick (dCons (dVar 1) (dCons (dC (.int 56)) (dCons (dC (.int 2)) dNil)))) (dC (.int 1))) dNil)))) (dVar 7))) t_14)
noncomputable def t_12 : DS := (dSeq (dIfS (dAndT (dCmp gGt (dOpA gLen (dCons (dVar 8) dNil)) (dC (.int 0))) (dCmp gEq (dOpA F__law_pick (dCons (dVar 1) (dCons (dC (.int 52)) (dCons (dC (.int 2)) dNil)))) (dC (.int 0)))) (dSet 9 (dOp2 gIx (dVar 8) (dOpA F__law_pick (dCons (dVar 1) (dCons (dC (.int 53)) (dCons (dOpA gLen (dCons (dVar 8) dNil)) dNil)))))) dPass) t_13)
noncomputable def t_11 : DS := (dSeq (dFor (dRng1 (dCons (dC (.int 3)) dNil)) (gN 3) [3] l_law_3) t_12)
noncomputable def t_10 : DS := (dSeq (dIfS (dCmp gIn (dVar 9) (dVar 8)) (dExpr (dMeth "list" gRemove (dVar 8) (dCons (dVar 9) dNil))) dPass) t_11)
noncomputable def t_9 : DS := (dSeq (dSet 9 (dOp2 gAdd (dOp2 gAdd (dC (.str "x")) (dOp2 gMulS (dC (.str "y")) (dOpA F__law_pick (dCons (dVar 1) (dCons (dC (.int 51)) (dCons (dC (.int 19)) dNil)))))) (dC (.str "9")))) t_10)
noncomputable def t_8 : DS := (dSeq (dSet 8 (dOpA gListD (dCons (dOp2 gIx (dVar 2) (dVar 7)) dNil))) t_9)
noncomputable def t_7 : DS := (dSeq (dSet 7 (dOpA F__law_pick (dCons (dVar 1) (dCons (dC (.int 50)) (dCons (dC (.int 3)) dNil))))) t_8)
noncomputable def t_6 : DS := (dSeq (dIfS (dOrT (dCmp gNe (dVar 6) (dVar 5)) (dOrT (dCmp gNe (dOpA F__law_due (dCons (dVar 2) dNil)) (dVar 5)) (dCmp gIsNot (dOpA F_is_world (dCons (dVar 6) dNil)) (dC (.bl true))))) (dRet (dC (.bl false))) dPass) t_7)
noncomputable def t_5 : DS := (dSeq (dSet 6 (dOpA F_make_world (dCons (dOp2 gIx (dVar 2) (dC (.int 0))) (dCons (dOp2 gIx (dVar 2) (dC (.int 1))) (dCons (dOp2 gIx (dVar 2) (dC (.int 2))) dNil))))) t_6)
noncomputable def t_4 : DS := (dSeq (dSet 5 (dOpA F__law_due (dCons (dVar 2) dNil))) t_5)
noncomputable def t_3 : DS := (dSeq (dFor (dEnumI (dCons (dOpA F__law_names (dCons (dVar 1) (dCons (dC (.int 31)) dNil))) dNil)) (gT 2 (gsCons (gN 3) (gsCons (gN 4) gsNil))) [3, 4] l_law_2) t_4)
noncomputable def t_2 : DS := (dSeq (dFor (dEnumI (dCons (dOpA F__law_names (dCons (dVar 1) (dCons (dC (.int 1)) dNil))) dNil)) (gT 2 (gsCons (gN 3) (gsCons (gN 4) gsNil))) [3, 4] l_law_1) t_3)
noncomputable def t_1 : DS := (dSeq (dSet 2 (dLst (dCons dNewD (dCons dNewD (dCons dNewD dNil))))) t_2)
noncomputable def t_0 : DS := (dSeq (dSet 1 (dOpA F__law_stream (dCons (dVar 0) dNil))) t_1)
noncomputable def b_law : DS := t_0
noncomputable def F_law : DF := dDef 1 15 b_law
/- end of the denotations -/
/-! ## the text -/
def top (i : Nat) : Stmt := PySem.Challenge.pw_diesnon_k05_worlds_made_and_changed.main.body.getD i (.Pass ⟨0, 0, 0, 0⟩)
abbrev s__law_pick : Stmt := top 29
abbrev s__law_closed : Stmt := top 30
abbrev s__law_due : Stmt := top 40
abbrev s__found : Stmt := top 19
abbrev s_calendar_of : Stmt := top 20
abbrev s_day_of : Stmt := top 21
abbrev s_flag_of : Stmt := top 22
abbrev s__law_missing : Stmt := top 36
abbrev s__law_words : Stmt := top 33
abbrev s__law_word : Stmt := top 34
abbrev s__law_names : Stmt := top 32
abbrev s__law_read : Stmt := top 35
abbrev s_is_name : Stmt := top 13
abbrev s__check_names : Stmt := top 15
abbrev s_is_closed_days : Stmt := top 7
abbrev s_make_world : Stmt := top 16
abbrev s__law_refused : Stmt := top 37
abbrev s__changed : Stmt := top 23
abbrev s_set_calendar : Stmt := top 24
abbrev s_set_day : Stmt := top 25
abbrev s_set_flag : Stmt := top 26
abbrev s__law_set : Stmt := top 39
abbrev s__names_rise : Stmt := top 17
abbrev s_is_world : Stmt := top 18
abbrev s__law_spoilt : Stmt := top 41
abbrev s__law_stream : Stmt := top 28
abbrev s__law_unset : Stmt := top 38
abbrev s_law : Stmt := top 42
abbrev s_xi_Missing : Stmt := inClass (top 5) 0
structure Txt (w : World) (K : PySem.W.Frag) (mg : Str → Option Value) where
  a_DiesError : Addr
  a_NotAllowed : Addr
  a_TooLarge : Addr
  a_Never : Addr
  a_Missing : Addr
  m_MAX_NAME : ∃ t, mg "MAX_NAME" = some (.int 20 t)
  m_REST : ∃ t, mg "REST" = some (.str "abcdefghijklmnopqrstuvwxyz0123456789" t)
  m_SMALL : ∃ t, mg "SMALL" = some (.str "abcdefghijklmnopqrstuvwxyz" t)
  at_WORDS : Addr
  m_WORDS : mg "WORDS" = some (.ref at_WORDS)
  q_WORDS : ∀ H m n, Rp K H m n (.tup [(.str "next"), (.str "prev"), (.str "open"), (.str "later"), (.str "earlier"), (.str "if"), (.str "is"), (.str "not"), (.str "and"), (.str "or"), (.str "yes"), (.str "calendar"), (.str "run"), (.str "within"), (.str "known"), (.str "to"), (.str "closed"), (.str "assume"), (.str "claim"), (.str "event"), (.str "rule"), (.str "on"), (.str "when"), (.str "due"), (.str "met"), (.str "called"), (.str "missed"), (.str "filed")]) (.ref at_WORDS)
  m_all : mg "all" = none
  m_bool : mg "bool" = none
  m_dict : mg "dict" = none
  m_enumerate : mg "enumerate" = none
  m_int : mg "int" = none
  m_isinstance : mg "isinstance" = none
  m_len : mg "len" = none
  m_list : mg "list" = none
  m_range : mg "range" = none
  m_sorted : mg "sorted" = none
  m_tuple : mg "tuple" = none
  c_DiesError : mg "DiesError" = some (.ref a_DiesError)
  k_DiesError : PySem.W.keepIn K (.ref a_DiesError) = true
  b_DiesError : PySem.W.subIn K (.ref a_DiesError) (.type "BaseException") = some true
  t_DiesError : PySem.W.typeIn K (.ref a_DiesError) = some (.type "type")
  d_DiesError : PySem.W.hasDictIn K a_DiesError = true
  e_DiesError : PySem.W.excIn K a_DiesError [.type "ValueError", .type "Exception", .type "BaseException", .type "object"] "ValueError.__new__" = true
  x_DiesError : ExcC K a_DiesError
  c_NotAllowed : mg "NotAllowed" = some (.ref a_NotAllowed)
  k_NotAllowed : PySem.W.keepIn K (.ref a_NotAllowed) = true
  b_NotAllowed : PySem.W.subIn K (.ref a_NotAllowed) (.type "BaseException") = some true
  t_NotAllowed : PySem.W.typeIn K (.ref a_NotAllowed) = some (.type "type")
  d_NotAllowed : PySem.W.hasDictIn K a_NotAllowed = true
  e_NotAllowed : PySem.W.excIn K a_NotAllowed [.type "ValueError", .type "Exception", .type "BaseException", .type "object"] "ValueError.__new__" = true
  x_NotAllowed : ExcC K a_NotAllowed
  c_TooLarge : mg "TooLarge" = some (.ref a_TooLarge)
  k_TooLarge : PySem.W.keepIn K (.ref a_TooLarge) = true
  b_TooLarge : PySem.W.subIn K (.ref a_TooLarge) (.type "BaseException") = some true
  t_TooLarge : PySem.W.typeIn K (.ref a_TooLarge) = some (.type "type")
  d_TooLarge : PySem.W.hasDictIn K a_TooLarge = true
  e_TooLarge : PySem.W.excIn K a_TooLarge [.type "ValueError", .type "Exception", .type "BaseException", .type "object"] "ValueError.__new__" = true
  x_TooLarge : ExcC K a_TooLarge
  c_Never : mg "Never" = some (.ref a_Never)
  k_Never : PySem.W.keepIn K (.ref a_Never) = true
  b_Never : PySem.W.subIn K (.ref a_Never) (.type "BaseException") = some true
  t_Never : PySem.W.typeIn K (.ref a_Never) = some (.type "type")
  d_Never : PySem.W.hasDictIn K a_Never = true
  e_Never : PySem.W.excIn K a_Never [.type "ValueError", .type "Exception", .type "BaseException", .type "object"] "ValueError.__new__" = true
  x_Never : ExcC K a_Never
  c_Missing : mg "Missing" = some (.ref a_Missing)
  k_Missing : PySem.W.keepIn K (.ref a_Missing) = true
  b_Missing : PySem.W.subIn K (.ref a_Missing) (.type "BaseException") = some true
  t_Missing : PySem.W.typeIn K (.ref a_Missing) = some (.type "type")
  d_Missing : PySem.W.hasDictIn K a_Missing = true
  x_Missing : ExcC K a_Missing
  fi_Missing : Addr
  ox_Missing : OexC K a_Missing
  iC_Missing : PySem.W.findIn K (.ref a_Missing) "__init__" = some (some (.ref fi_Missing))
  tI_Missing : PySem.W.typeIn K (.ref fi_Missing) = some (.type "function")
  nf_Missing : PySem.W.findIn K (.ref a_Missing) "name" = some none
  s_DiesError_DiesError : PySem.W.kitOne K (.ref a_DiesError) (.ref a_DiesError) = some true
  u_DiesError_DiesError : PySem.W.subIn K (.ref a_DiesError) (.ref a_DiesError) = some true
  s_DiesError_Missing : PySem.W.kitOne K (.ref a_DiesError) (.ref a_Missing) = some false
  u_DiesError_Missing : PySem.W.subIn K (.ref a_DiesError) (.ref a_Missing) = some false
  s_DiesError_Never : PySem.W.kitOne K (.ref a_DiesError) (.ref a_Never) = some false
  u_DiesError_Never : PySem.W.subIn K (.ref a_DiesError) (.ref a_Never) = some false
  s_DiesError_NotAllowed : PySem.W.kitOne K (.ref a_DiesError) (.ref a_NotAllowed) = some false
  u_DiesError_NotAllowed : PySem.W.subIn K (.ref a_DiesError) (.ref a_NotAllowed) = some false
  s_DiesError_TooLarge : PySem.W.kitOne K (.ref a_DiesError) (.ref a_TooLarge) = some false
  u_DiesError_TooLarge : PySem.W.subIn K (.ref a_DiesError) (.ref a_TooLarge) = some false
  s_Missing_DiesError : PySem.W.kitOne K (.ref a_Missing) (.ref a_DiesError) = some true
  u_Missing_DiesError : PySem.W.subIn K (.ref a_Missing) (.ref a_DiesError) = some true
  s_Missing_Missing : PySem.W.kitOne K (.ref a_Missing) (.ref a_Missing) = some true
  u_Missing_Missing : PySem.W.subIn K (.ref a_Missing) (.ref a_Missing) = some true
  s_Missing_Never : PySem.W.kitOne K (.ref a_Missing) (.ref a_Never) = some false
  u_Missing_Never : PySem.W.subIn K (.ref a_Missing) (.ref a_Never) = some false
  s_Missing_NotAllowed : PySem.W.kitOne K (.ref a_Missing) (.ref a_NotAllowed) = some false
  u_Missing_NotAllowed : PySem.W.subIn K (.ref a_Missing) (.ref a_NotAllowed) = some false
  s_Missing_TooLarge : PySem.W.kitOne K (.ref a_Missing) (.ref a_TooLarge) = some false
  u_Missing_TooLarge : PySem.W.subIn K (.ref a_Missing) (.ref a_TooLarge) = some false
  s_Never_DiesError : PySem.W.kitOne K (.ref a_Never) (.ref a_DiesError) = some true
  u_Never_DiesError : PySem.W.subIn K (.ref a_Never) (.ref a_DiesError) = some true
  s_Never_Missing : PySem.W.kitOne K (.ref a_Never) (.ref a_Missing) = some false
  u_Never_Missing : PySem.W.subIn K (.ref a_Never) (.ref a_Missing) = some false
  s_Never_Never : PySem.W.kitOne K (.ref a_Never) (.ref a_Never) = some true
  u_Never_Never : PySem.W.subIn K (.ref a_Never) (.ref a_Never) = some true
  s_Never_NotAllowed : PySem.W.kitOne K (.ref a_Never) (.ref a_NotAllowed) = some false
  u_Never_NotAllowed : PySem.W.subIn K (.ref a_Never) (.ref a_NotAllowed) = some false
  s_Never_TooLarge : PySem.W.kitOne K (.ref a_Never) (.ref a_TooLarge) = some false
  u_Never_TooLarge : PySem.W.subIn K (.ref a_Never) (.ref a_TooLarge) = some false
  s_NotAllowed_DiesError : PySem.W.kitOne K (.ref a_NotAllowed) (.ref a_DiesError) = some true
  u_NotAllowed_DiesError : PySem.W.subIn K (.ref a_NotAllowed) (.ref a_DiesError) = some true
  s_NotAllowed_Missing : PySem.W.kitOne K (.ref a_NotAllowed) (.ref a_Missing) = some false
  u_NotAllowed_Missing : PySem.W.subIn K (.ref a_NotAllowed) (.ref a_Missing) = some false
  s_NotAllowed_Never : PySem.W.kitOne K (.ref a_NotAllowed) (.ref a_Never) = some false
  u_NotAllowed_Never : PySem.W.subIn K (.ref a_NotAllowed) (.ref a_Never) = some false
  s_NotAllowed_NotAllowed : PySem.W.kitOne K (.ref a_NotAllowed) (.ref a_NotAllowed) = some true
  u_NotAllowed_NotAllowed : PySem.W.subIn K (.ref a_NotAllowed) (.ref a_NotAllowed) = some true
  s_NotAllowed_TooLarge : PySem.W.kitOne K (.ref a_NotAllowed) (.ref a_TooLarge) = some false
  u_NotAllowed_TooLarge : PySem.W.subIn K (.ref a_NotAllowed) (.ref a_TooLarge) = some false
  s_TooLarge_DiesError : PySem.W.kitOne K (.ref a_TooLarge) (.ref a_DiesError) = some true
  u_TooLarge_DiesError : PySem.W.subIn K (.ref a_TooLarge) (.ref a_DiesError) = some true
  s_TooLarge_Missing : PySem.W.kitOne K (.ref a_TooLarge) (.ref a_Missing) = some false
  u_TooLarge_Missing : PySem.W.subIn K (.ref a_TooLarge) (.ref a_Missing) = some false
  s_TooLarge_Never : PySem.W.kitOne K (.ref a_TooLarge) (.ref a_Never) = some false
  u_TooLarge_Never : PySem.W.subIn K (.ref a_TooLarge) (.ref a_Never) = some false
  s_TooLarge_NotAllowed : PySem.W.kitOne K (.ref a_TooLarge) (.ref a_NotAllowed) = some false
  u_TooLarge_NotAllowed : PySem.W.subIn K (.ref a_TooLarge) (.ref a_NotAllowed) = some false
  s_TooLarge_TooLarge : PySem.W.kitOne K (.ref a_TooLarge) (.ref a_TooLarge) = some true
  u_TooLarge_TooLarge : PySem.W.subIn K (.ref a_TooLarge) (.ref a_TooLarge) = some true
theorem Txt.isCat_Missing {w : World} {K : PySem.W.Frag} {mg : Str → Option Value} (T : Txt w K mg) : Cat K mg (.ref T.a_Missing) cat_Missing := by
  intro nm C b h e
  unfold cat_Missing at e
  split at e
  · rename_i q; subst q; cases e; cases T.c_DiesError.symm.trans h; exact PySem.W.exm_ref T.b_Missing T.d_Missing T.t_Missing T.u_DiesError_Missing
  split at e
  · rename_i q; subst q; cases e; cases T.c_NotAllowed.symm.trans h; exact PySem.W.exm_ref T.b_Missing T.d_Missing T.t_Missing T.u_NotAllowed_Missing
  split at e
  · rename_i q; subst q; cases e; cases T.c_TooLarge.symm.trans h; exact PySem.W.exm_ref T.b_Missing T.d_Missing T.t_Missing T.u_TooLarge_Missing
  split at e
  · rename_i q; subst q; cases e; cases T.c_Never.symm.trans h; exact PySem.W.exm_ref T.b_Missing T.d_Missing T.t_Missing T.u_Never_Missing
  split at e
  · rename_i q; subst q; cases e; cases T.c_Missing.symm.trans h; exact PySem.W.exm_ref T.b_Missing T.d_Missing T.t_Missing T.u_Missing_Missing
  · cases e
theorem Txt.isCat_NotAllowed {w : World} {K : PySem.W.Frag} {mg : Str → Option Value} (T : Txt w K mg) : Cat K mg (.ref T.a_NotAllowed) cat_NotAllowed := by
  intro nm C b h e
  unfold cat_NotAllowed at e
  split at e
  · rename_i q; subst q; cases e; cases T.c_DiesError.symm.trans h; exact PySem.W.exm_ref T.b_NotAllowed T.d_NotAllowed T.t_NotAllowed T.u_DiesError_NotAllowed
  split at e
  · rename_i q; subst q; cases e; cases T.c_NotAllowed.symm.trans h; exact PySem.W.exm_ref T.b_NotAllowed T.d_NotAllowed T.t_NotAllowed T.u_NotAllowed_NotAllowed
  split at e
  · rename_i q; subst q; cases e; cases T.c_TooLarge.symm.trans h; exact PySem.W.exm_ref T.b_NotAllowed T.d_NotAllowed T.t_NotAllowed T.u_TooLarge_NotAllowed
  split at e
  · rename_i q; subst q; cases e; cases T.c_Never.symm.trans h; exact PySem.W.exm_ref T.b_NotAllowed T.d_NotAllowed T.t_NotAllowed T.u_Never_NotAllowed
  split at e
  · rename_i q; subst q; cases e; cases T.c_Missing.symm.trans h; exact PySem.W.exm_ref T.b_NotAllowed T.d_NotAllowed T.t_NotAllowed T.u_Missing_NotAllowed
  · cases e
section
variable {P : Program} {w : World} {K : PySem.W.Frag} {mg : Str → Option Value} {base : Heap}
abbrev N__law_pick : List Str := ["_law_numbers", "_law_at", "_law_many"]
theorem sc__law_pick : FnScope ["_law_numbers", "_law_at", "_law_many"] ["_law_numbers", "_law_at", "_law_many"] (defScope s__law_pick) := ⟨rfl, rfl, rfl, by decide +kernel, rfl, by decide +kernel, by decide +kernel⟩
theorem ok__law_pick {f : Addr} {fd : FuncData} (F : Fun K "_law_pick" "_law_pick" s__law_pick f fd) (T : Txt w K mg) : FnOk P w K mg base (L2.CX P w) 1 f fd ["_law_numbers", "_law_at", "_law_many"] (spD K mg 3 F__law_pick) :=
  have S := sc__law_pick
  fn_d F S (fun cdv A outer s H E hr => (dss_one (ds_ret (de_op op_mod ok_mod (de_bty call_int1 ok_int (by rfl) T.m_int (by decide +kernel) (da_cons (de_ix ix_seq ok_ix (de_var 0) (de_op op_mod ok_mod (de_var 1) (de_bi call_len4 ok_len (by rfl) T.m_len (by decide +kernel) (da_cons (de_var 0) da_nil)))) da_nil)) (de_var 2)))))
abbrev N__law_closed : List Str := ["_law_numbers", "_law_at", "_law_shift", "_law_found", "_law_day", "_law_k", "_law_last"]
theorem sc__law_closed : FnScope ["_law_numbers", "_law_at", "_law_shift", "_law_found", "_law_day", "_law_k", "_law_last"] ["_law_numbers", "_law_at", "_law_shift"] (defScope s__law_closed) := ⟨rfl, rfl, rfl, by decide +kernel, rfl, by decide +kernel, by decide +kernel⟩
theorem ok__law_closed {f : Addr} {fd : FuncData} (F : Fun K "_law_closed" "_law_closed" s__law_closed f fd) (T : Txt w K mg) {f__law_pick : Addr} {fd__law_pick : FuncData} (G__law_pick : FnOk P w K mg base (L2.CX P w) 1 f__law_pick fd__law_pick ["_law_numbers", "_law_at", "_law_many"] (spD K mg 3 F__law_pick)) (m__law_pick : mg "_law_pick" = some (.ref f__law_pick)) (k__law_pick : PySem.W.keepIn K (.ref f__law_pick) = true) (b__law_pick : Binds K fd__law_pick ["_law_numbers", "_law_at", "_law_many"] []) : FnOk P w K mg base (L2.CX P w) 2 f fd ["_law_numbers", "_law_at", "_law_shift"] (spD K mg 3 F__law_closed) :=
  have S := sc__law_closed
  fn_d F S (fun cdv A outer s H E hr => (dss_cons (ds_set 3 S.nd rfl (Or.inl rfl) (de_lst da_nil)) (dss_cons (ds_set 4 S.nd rfl (Or.inl rfl) (de_op op_add4 ok_add (de_op op_sub ok_sub (de_call G__law_pick (hr.mono (by decide)) (by rfl) m__law_pick k__law_pick b__law_pick (takes_of rfl rfl rfl rfl) (da_cons (de_var 0) (da_cons (de_var 1) (da_cons de_int da_nil))) (by rfl) dDef_len) de_int) (de_var 2))) (dss_cons (ds_for [5, 6] (passes_of rfl) rfl (di_rng1 (by rfl) T.m_range (da_cons (de_call G__law_pick (hr.mono (by decide)) (by rfl) m__law_pick k__law_pick b__law_pick (takes_of rfl rfl rfl rfl) (da_cons (de_var 0) (da_cons (de_op op_add4 ok_add (de_var 1) de_int) (da_cons de_int da_nil))) (by rfl) dDef_len) da_nil)) (dg_n 5 S.nd rfl (Or.inl rfl)) (dss_cons (ds_set 6 S.nd rfl (Or.inl rfl) (de_op op_add4 ok_add (de_var 4) (de_call G__law_pick (hr.mono (by decide)) (by rfl) m__law_pick k__law_pick b__law_pick (takes_of rfl rfl rfl rfl) (da_cons (de_var 0) (da_cons (de_op op_add4 ok_add (de_op op_add4 ok_add (de_var 1) de_int) (de_op op_mul4 ok_mul de_int (de_var 5))) (da_cons de_int da_nil))) (by rfl) dDef_len))) (dss_cons (ds_expr (de_bm PySem.F.plainAttrs_list PySem.F.slot_list_append PySem.F.type_list_append mt_append ok_append (de_var 3) (da_cons (de_tup (da_cons (de_var 4) (da_cons (de_var 6) da_nil))) da_nil))) (dss_one (ds_set 4 S.nd rfl (Or.inl rfl) (de_op op_add4 ok_add (de_op op_add4 ok_add (de_var 6) de_int) (de_call G__law_pick (hr.mono (by decide)) (by rfl) m__law_pick k__law_pick b__law_pick (takes_of rfl rfl rfl rfl) (da_cons (de_var 0) (da_cons (de_op op_add4 ok_add (de_op op_add4 ok_add (de_var 1) de_int) (de_op op_mul4 ok_mul de_int (de_var 5))) (da_cons de_int da_nil))) (by rfl) dDef_len))))))) (dss_one (ds_ret (de_bty call_tuple_of ok_tuple (by rfl) T.m_tuple (by decide +kernel) (da_cons (de_var 3) da_nil))))))))
abbrev N__law_due : List Str := ["_law_tables", "_law_found", "_law_table", "_law_name"]
theorem sc__law_due : FnScope ["_law_tables", "_law_found", "_law_table", "_law_name"] ["_law_tables"] (defScope s__law_due) := ⟨rfl, rfl, rfl, by decide +kernel, rfl, by decide +kernel, by decide +kernel⟩
theorem ok__law_due {f : Addr} {fd : FuncData} (F : Fun K "_law_due" "_law_due" s__law_due f fd) (T : Txt w K mg) : FnOk P w K mg base (L2.CX P w) 1 f fd ["_law_tables"] (spD K mg 1 F__law_due) := by
  have S := sc__law_due
  unfold F__law_due b__law_due b__law_due_t0 b__law_due_t1 b__law_due_t2 l__law_due_1
  exact fn_d F S (fun cdv A outer s H E hr => (dss_cons (ds_set 1 S.nd rfl (Or.inl rfl) (de_lst da_nil)) (dss_cons (ds_for [2] (passes_of rfl) rfl (di_seq (de_var 0)) (dg_n 2 S.nd rfl (Or.inr rfl)) (dss_body [2] (dss_one (ds_expr (de_bm PySem.F.plainAttrs_list PySem.F.slot_list_append PySem.F.type_list_append mt_append ok_append (de_var 1) (da_cons (de_bty call_tuple_of ok_tuple (by rfl) T.m_tuple (by decide +kernel) (da_cons (de_comp (own := [("_law_name", 3)]) rfl S.nd (di_seq (de_bi (call_sortedD rfl) ok_sortDk (by rfl) T.m_sorted (by decide +kernel) (da_cons (de_var 2) da_nil))) (blkOk_by (N := N__law_due) (sc := defScope s__law_due) (by decide +kernel)) (nm_one 3) (fun _ _ _ _ _ => (pg_name (i := 3) S.nd rfl (Or.inl rfl))) (fun _ _ _ _ _ => dts_nil) (fun _ _ _ _ _ => (de_tup (da_cons (de_var 3) (da_cons (de_ix (ix_dict (hu1 hr)) ok_ixD (de_var 2) (de_var 3)) da_nil))))) da_nil)) da_nil)))))) (dss_one (ds_ret (de_bty call_tuple_of ok_tuple (by rfl) T.m_tuple (by decide +kernel) (da_cons (de_var 1) da_nil)))))))
abbrev N__found : List Str := ["pairs", "name", "other", "content"]
theorem sc__found : FnScope ["pairs", "name", "other", "content"] ["pairs", "name"] (defScope s__found) := ⟨rfl, rfl, rfl, by decide +kernel, rfl, by decide +kernel, by decide +kernel⟩
theorem ok__found {f : Addr} {fd : FuncData} (F : Fun K "_found" "_found" s__found f fd) (T : Txt w K mg) {fdi_Missing : FuncData} (X_Missing : FnOk P w K mg base CX0 1 T.fi_Missing fdi_Missing ["self", "name"] (spXI T.a_Missing "name")) (bX_Missing : Binds K fdi_Missing ["self", "name"] []) : FnOk P w K mg base (L2.CX P w) 3 f fd ["pairs", "name"] (spD K mg 2 F__found) := by
  have S := sc__found
  unfold F__found b__found l__found_1
  exact fn_d F S (fun cdv A outer s H E hr => (dss_cons (ds_for [2, 3] (passes_of rfl) rfl (di_seq (de_var 0)) (dg_t rfl (dgs_cons (dg_n 2 S.nd rfl (Or.inl rfl)) (dgs_cons (dg_n 3 S.nd rfl (Or.inl rfl)) dgs_nil))) (dss_one (ds_if (dt_cmp (op_eqP (Room.units hr)) ok_eq (de_var 2) (de_var 1)) (dss_one (ds_ret (de_var 3))) dss_nil))) (dss_one (ds_raiseF rfl (takes_of rfl rfl rfl rfl) T.ox_Missing T.c_Missing T.iC_Missing T.tI_Missing X_Missing (hr.mono (by decide)) bX_Missing (by rfl) (de_var 1)))))
abbrev N_calendar_of : List Str := ["world", "name"]
theorem sc_calendar_of : FnScope ["world", "name"] ["world", "name"] (defScope s_calendar_of) := ⟨rfl, rfl, rfl, by decide +kernel, rfl, by decide +kernel, by decide +kernel⟩
theorem ok_calendar_of {f : Addr} {fd : FuncData} (F : Fun K "calendar_of" "calendar_of" s_calendar_of f fd) (T : Txt w K mg) {f__found : Addr} {fd__found : FuncData} (G__found : FnOk P w K mg base (L2.CX P w) 3 f__found fd__found ["pairs", "name"] (spD K mg 2 F__found)) (m__found : mg "_found" = some (.ref f__found)) (k__found : PySem.W.keepIn K (.ref f__found) = true) (b__found : Binds K fd__found ["pairs", "name"] []) : FnOk P w K mg base (L2.CX P w) 4 f fd ["world", "name"] (spD K mg 2 F_calendar_of) := by
  have S := sc_calendar_of
  unfold F_calendar_of b_calendar_of
  exact fn_d F S (fun cdv A outer s H E hr => (dss_one (ds_ret (de_call G__found (hr.mono (by decide)) (by rfl) m__found k__found b__found (takes_of rfl rfl rfl rfl) (da_cons (de_ix ix_seq ok_ix (de_var 0) de_int) (da_cons (de_var 1) da_nil)) (by rfl) dDef_len))))
abbrev N_day_of : List Str := ["world", "name"]
theorem sc_day_of : FnScope ["world", "name"] ["world", "name"] (defScope s_day_of) := ⟨rfl, rfl, rfl, by decide +kernel, rfl, by decide +kernel, by decide +kernel⟩
theorem ok_day_of {f : Addr} {fd : FuncData} (F : Fun K "day_of" "day_of" s_day_of f fd) (T : Txt w K mg) {f__found : Addr} {fd__found : FuncData} (G__found : FnOk P w K mg base (L2.CX P w) 3 f__found fd__found ["pairs", "name"] (spD K mg 2 F__found)) (m__found : mg "_found" = some (.ref f__found)) (k__found : PySem.W.keepIn K (.ref f__found) = true) (b__found : Binds K fd__found ["pairs", "name"] []) : FnOk P w K mg base (L2.CX P w) 4 f fd ["world", "name"] (spD K mg 2 F_day_of) := by
  have S := sc_day_of
  unfold F_day_of b_day_of
  exact fn_d F S (fun cdv A outer s H E hr => (dss_one (ds_ret (de_call G__found (hr.mono (by decide)) (by rfl) m__found k__found b__found (takes_of rfl rfl rfl rfl) (da_cons (de_ix ix_seq ok_ix (de_var 0) de_int) (da_cons (de_var 1) da_nil)) (by rfl) dDef_len))))
abbrev N_flag_of : List Str := ["world", "name"]
theorem sc_flag_of : FnScope ["world", "name"] ["world", "name"] (defScope s_flag_of) := ⟨rfl, rfl, rfl, by decide +kernel, rfl, by decide +kernel, by decide +kernel⟩
theorem ok_flag_of {f : Addr} {fd : FuncData} (F : Fun K "flag_of" "flag_of" s_flag_of f fd) (T : Txt w K mg) {f__found : Addr} {fd__found : FuncData} (G__found : FnOk P w K mg base (L2.CX P w) 3 f__found fd__found ["pairs", "name"] (spD K mg 2 F__found)) (m__found : mg "_found" = some (.ref f__found)) (k__found : PySem.W.keepIn K (.ref f__found) = true) (b__found : Binds K fd__found ["pairs", "name"] []) : FnOk P w K mg base (L2.CX P w) 4 f fd ["world", "name"] (spD K mg 2 F_flag_of) := by
  have S := sc_flag_of
  unfold F_flag_of b_flag_of
  exact fn_d F S (fun cdv A outer s H E hr => (dss_one (ds_ret (de_call G__found (hr.mono (by decide)) (by rfl) m__found k__found b__found (takes_of rfl rfl rfl rfl) (da_cons (de_ix ix_seq ok_ix (de_var 0) de_int) (da_cons (de_var 1) da_nil)) (by rfl) dDef_len))))
abbrev N__law_missing : List Str := ["_law_world", "_law_which", "_law_name", "e"]
theorem sc__law_missing : FnScope ["_law_world", "_law_which", "_law_name", "e"] ["_law_world", "_law_which", "_law_name"] (defScope s__law_missing) := ⟨rfl, rfl, rfl, by decide +kernel, rfl, by decide +kernel, by decide +kernel⟩
theorem ok__law_missing {f : Addr} {fd : FuncData} (F : Fun K "_law_missing" "_law_missing" s__law_missing f fd) (T : Txt w K mg) {f_calendar_of : Addr} {fd_calendar_of : FuncData} (G_calendar_of : FnOk P w K mg base (L2.CX P w) 4 f_calendar_of fd_calendar_of ["world", "name"] (spD K mg 2 F_calendar_of)) (m_calendar_of : mg "calendar_of" = some (.ref f_calendar_of)) (k_calendar_of : PySem.W.keepIn K (.ref f_calendar_of) = true) (b_calendar_of : Binds K fd_calendar_of ["world", "name"] []) {f_day_of : Addr} {fd_day_of : FuncData} (G_day_of : FnOk P w K mg base (L2.CX P w) 4 f_day_of fd_day_of ["world", "name"] (spD K mg 2 F_day_of)) (m_day_of : mg "day_of" = some (.ref f_day_of)) (k_day_of : PySem.W.keepIn K (.ref f_day_of) = true) (b_day_of : Binds K fd_day_of ["world", "name"] []) {f_flag_of : Addr} {fd_flag_of : FuncData} (G_flag_of : FnOk P w K mg base (L2.CX P w) 4 f_flag_of fd_flag_of ["world", "name"] (spD K mg 2 F_flag_of)) (m_flag_of : mg "flag_of" = some (.ref f_flag_of)) (k_flag_of : PySem.W.keepIn K (.ref f_flag_of) = true) (b_flag_of : Binds K fd_flag_of ["world", "name"] []) : FnOk P w K mg base (L2.CX P w) 5 f fd ["_law_world", "_law_which", "_law_name"] (spD K mg 3 F__law_missing) := by
  have S := sc__law_missing
  unfold F__law_missing b__law_missing
  exact fn_d F S (fun cdv A outer s H E hr => (dss_cons (ds_try_as (i := 3) rfl rfl S.nd rfl rfl ⟨by rfl, by decide, Or.inl T.c_Missing⟩ T.isCat_Missing (takes_of rfl rfl rfl rfl) (fun W pn xe tk ps => (dss_one (ds_if (dt_cmp (op_eqP (Room.units hr)) ok_eq (de_var 1) de_int) (dss_one (ds_expr (de_call G_calendar_of (hr.mono (by decide)) (by rfl) m_calendar_of k_calendar_of b_calendar_of tk (da_cons (de_var 0) (da_cons (de_var 2) da_nil)) (by rfl) dDef_len))) (dss_one (ds_if (dt_cmp (op_eqP (Room.units hr)) ok_eq (de_var 1) de_int) (dss_one (ds_expr (de_call G_day_of (hr.mono (by decide)) (by rfl) m_day_of k_day_of b_day_of tk (da_cons (de_var 0) (da_cons (de_var 2) da_nil)) (by rfl) dDef_len))) (dss_one (ds_expr (de_call G_flag_of (hr.mono (by decide)) (by rfl) m_flag_of k_flag_of b_flag_of tk (da_cons (de_var 0) (da_cons (de_var 2) da_nil)) (by rfl) dDef_len)))))))) (fun e a oe C d pn hs => (su_altF T.c_Missing hs (fun dd hz hf => (dss_one (ds_ret (de_and (de_cmp (op_eqP (have h__ := Room.units hr; h__)) ok_eq (de_xf 3 ⟨T.x_Missing.hg, T.x_Missing.hk, T.x_Missing.hs, T.x_Missing.hd⟩ T.nf_Missing hz hf) (de_var 2)) (de_and (de_isEd 3 T.x_Missing hz hf (by rfl) T.m_isinstance (by rfl) (Or.inl rfl) (pe_glob (v := .ref T.a_DiesError) (by rfl) T.c_DiesError rfl) (fun u r => r) T.s_Missing_DiesError) (de_one (de_not (de_isEd 3 T.x_Missing hz hf (by rfl) T.m_isinstance (by rfl) (Or.inl rfl) (pe_glob (v := .ref T.a_NotAllowed) (by rfl) T.c_NotAllowed rfl) (fun u r => r) T.s_Missing_NotAllowed)))))))) pss_nope))) (dss_one (ds_ret de_bl))))
abbrev N__law_words : List Str := []
theorem sc__law_words : FnScope [] [] (defScope s__law_words) := ⟨rfl, rfl, rfl, by decide +kernel, rfl, by decide +kernel, by decide +kernel⟩
theorem ok__law_words {f : Addr} {fd : FuncData} (F : Fun K "_law_words" "_law_words" s__law_words f fd) (T : Txt w K mg) : FnOk P w K mg base (L2.CX P w) 1 f fd [] (spD K mg 0 F__law_words) := by
  have S := sc__law_words
  unfold F__law_words b__law_words
  exact fn_d F S (fun cdv A outer s H E hr => (dss_one (ds_ret (de_lst (da_cons de_str (da_cons de_str (da_cons de_str (da_cons de_str (da_cons de_str (da_cons de_str (da_cons de_str (da_cons de_str (da_cons de_str (da_cons de_str (da_cons de_str (da_cons de_str (da_cons de_str (da_cons de_str (da_cons de_str (da_cons de_str (da_cons de_str (da_cons de_str (da_cons de_str (da_cons de_str (da_cons de_str (da_cons de_str (da_cons de_str (da_cons de_str (da_cons de_str (da_cons de_str (da_cons de_str (da_cons de_str da_nil))))))))))))))))))))))))))))))))
abbrev N__law_word : List Str := ["_law_name"]
theorem sc__law_word : FnScope ["_law_name"] ["_law_name"] (defScope s__law_word) := ⟨rfl, rfl, rfl, by decide +kernel, rfl, by decide +kernel, by decide +kernel⟩
theorem ok__law_word {f : Addr} {fd : FuncData} (F : Fun K "_law_word" "_law_word" s__law_word f fd) (T : Txt w K mg) {f__law_words : Addr} {fd__law_words : FuncData} (G__law_words : FnOk P w K mg base (L2.CX P w) 1 f__law_words fd__law_words [] (spD K mg 0 F__law_words)) (m__law_words : mg "_law_words" = some (.ref f__law_words)) (k__law_words : PySem.W.keepIn K (.ref f__law_words) = true) (b__law_words : Binds K fd__law_words [] []) : FnOk P w K mg base (L2.CX P w) 2 f fd ["_law_name"] (spD K mg 1 F__law_word) := by
  have S := sc__law_word
  unfold F__law_word b__law_word
  exact fn_d F S (fun cdv A outer s H E hr => (dss_one (ds_ret (de_cmp (op_inP (Room.units hr)) ok_in (de_var 0) (de_call0 G__law_words (hr.mono (by decide)) (by rfl) m__law_words k__law_words b__law_words (takes_of rfl rfl rfl rfl) dDef_len)))))
abbrev N__law_names : List Str := ["_law_numbers", "_law_at", "_law_letters", "_law_found", "_law_k", "_law_size", "_law_name", "_law_j"]
theorem sc__law_names : FnScope ["_law_numbers", "_law_at", "_law_letters", "_law_found", "_law_k", "_law_size", "_law_name", "_law_j"] ["_law_numbers", "_law_at"] (defScope s__law_names) := ⟨rfl, rfl, rfl, by decide +kernel, rfl, by decide +kernel, by decide +kernel⟩
theorem ok__law_names {f : Addr} {fd : FuncData} (F : Fun K "_law_names" "_law_names" s__law_names f fd) (T : Txt w K mg) {f__law_pick : Addr} {fd__law_pick : FuncData} (G__law_pick : FnOk P w K mg base (L2.CX P w) 1 f__law_pick fd__law_pick ["_law_numbers", "_law_at", "_law_many"] (spD K mg 3 F__law_pick)) (m__law_pick : mg "_law_pick" = some (.ref f__law_pick)) (k__law_pick : PySem.W.keepIn K (.ref f__law_pick) = true) (b__law_pick : Binds K fd__law_pick ["_law_numbers", "_law_at", "_law_many"] []) {f__law_word : Addr} {fd__law_word : FuncData} (G__law_word : FnOk P w K mg base (L2.CX P w) 2 f__law_word fd__law_word ["_law_name"] (spD K mg 1 F__law_word)) (m__law_word : mg "_law_word" = some (.ref f__law_word)) (k__law_word : PySem.W.keepIn K (.ref f__law_word) = true) (b__law_word : Binds K fd__law_word ["_law_name"] []) : FnOk P w K mg base (L2.CX P w) 3 f fd ["_law_numbers", "_law_at"] (spD K mg 2 F__law_names) := by
  have S := sc__law_names
  unfold F__law_names b__law_names b__law_names_t0 b__law_names_t1 b__law_names_t2 b__law_names_t3 l__law_names_1 l__law_names_1_t0 l__law_names_1_t1 l__law_names_1_t2 l__law_names_1_t3 l__law_names_2
  exact fn_d F S (fun cdv A outer s H E hr => (dss_cons (ds_set 2 S.nd rfl (Or.inl rfl) de_str) (dss_cons (ds_set 3 S.nd rfl (Or.inl rfl) (de_lst da_nil)) (dss_cons (ds_for [4, 5, 6, 7] (passes_of rfl) rfl (di_rng1 (by rfl) T.m_range (da_cons (de_call G__law_pick (hr.mono (by decide)) (by rfl) m__law_pick k__law_pick b__law_pick (takes_of rfl rfl rfl rfl) (da_cons (de_var 0) (da_cons (de_var 1) (da_cons de_int da_nil))) (by rfl) dDef_len) da_nil)) (dg_n 4 S.nd rfl (Or.inl rfl)) (dss_body [4, 5, 6, 7] (dss_cons (ds_set 5 S.nd rfl (Or.inl rfl) (de_ix ix_seq ok_ix (de_lst (da_cons de_int (da_cons de_int (da_cons de_int (da_cons (de_op op_add4 ok_add de_int (de_call G__law_pick (hr.mono (by decide)) (by rfl) m__law_pick k__law_pick b__law_pick (takes_of rfl rfl rfl rfl) (da_cons (de_var 0) (da_cons (de_op op_add4 ok_add (de_var 1) de_int) (da_cons de_int da_nil))) (by rfl) dDef_len)) da_nil))))) (de_call G__law_pick (hr.mono (by decide)) (by rfl) m__law_pick k__law_pick b__law_pick (takes_of rfl rfl rfl rfl) (da_cons (de_var 0) (da_cons (de_op op_add4 ok_add (de_op op_add4 ok_add (de_var 1) de_int) (de_var 4)) (da_cons de_int da_nil))) (by rfl) dDef_len))) (dss_cons (ds_set 6 S.nd rfl (Or.inl rfl) (de_ix ix_seq ok_ix (de_var 2) (de_call G__law_pick (hr.mono (by decide)) (by rfl) m__law_pick k__law_pick b__law_pick (takes_of rfl rfl rfl rfl) (da_cons (de_var 0) (da_cons (de_op op_add4 ok_add (de_op op_add4 ok_add (de_var 1) de_int) (de_var 4)) (da_cons de_int da_nil))) (by rfl) dDef_len))) (dss_cons (ds_for [7] (passes_of rfl) rfl (di_rng1 (by rfl) T.m_range (da_cons (de_op op_sub ok_sub (de_var 5) de_int) da_nil)) (dg_n 7 S.nd rfl (Or.inl rfl)) (dss_one (ds_set 6 S.nd rfl (Or.inl rfl) (de_op op_add4 ok_add (de_var 6) (de_ix ix_seq ok_ix (de_var 2) (de_call G__law_pick (hr.mono (by decide)) (by rfl) m__law_pick k__law_pick b__law_pick (takes_of rfl rfl rfl rfl) (da_cons (de_var 0) (da_cons (de_op op_add4 ok_add (de_op op_add4 ok_add (de_var 1) de_int) (de_op op_mul4 ok_mul (de_var 7) (de_op op_add4 ok_add (de_var 4) de_int))) (da_cons de_int da_nil))) (by rfl) dDef_len)))))) (dss_one (ds_if (PWd.pt (dw_and (dt_cmp (op_notinP (Room.units hr)) ok_in (de_var 6) (de_var 3)) (dw_and1 (dt_not (dt_tru (de_call G__law_word (hr.mono (by decide)) (by rfl) m__law_word k__law_word b__law_word (takes_of rfl rfl rfl rfl) (da_cons (de_var 6) da_nil) (by rfl) dDef_len)))))) (dss_one (ds_expr (de_bm PySem.F.plainAttrs_list PySem.F.slot_list_append PySem.F.type_list_append mt_append ok_append (de_var 3) (da_cons (de_var 6) da_nil)))) dss_nil))))))) (dss_one (ds_ret (de_var 3)))))))
abbrev N__law_read : List Str := ["_law_world", "_law_table", "_law_which", "_law_name", "_law_told"]
theorem sc__law_read : FnScope ["_law_world", "_law_table", "_law_which", "_law_name", "_law_told"] ["_law_world", "_law_table", "_law_which"] (defScope s__law_read) := ⟨rfl, rfl, rfl, by decide +kernel, rfl, by decide +kernel, by decide +kernel⟩
theorem ok__law_read {f : Addr} {fd : FuncData} (F : Fun K "_law_read" "_law_read" s__law_read f fd) (T : Txt w K mg) {f_calendar_of : Addr} {fd_calendar_of : FuncData} (G_calendar_of : FnOk P w K mg base (L2.CX P w) 4 f_calendar_of fd_calendar_of ["world", "name"] (spD K mg 2 F_calendar_of)) (m_calendar_of : mg "calendar_of" = some (.ref f_calendar_of)) (k_calendar_of : PySem.W.keepIn K (.ref f_calendar_of) = true) (b_calendar_of : Binds K fd_calendar_of ["world", "name"] []) {f_day_of : Addr} {fd_day_of : FuncData} (G_day_of : FnOk P w K mg base (L2.CX P w) 4 f_day_of fd_day_of ["world", "name"] (spD K mg 2 F_day_of)) (m_day_of : mg "day_of" = some (.ref f_day_of)) (k_day_of : PySem.W.keepIn K (.ref f_day_of) = true) (b_day_of : Binds K fd_day_of ["world", "name"] []) {f_flag_of : Addr} {fd_flag_of : FuncData} (G_flag_of : FnOk P w K mg base (L2.CX P w) 4 f_flag_of fd_flag_of ["world", "name"] (spD K mg 2 F_flag_of)) (m_flag_of : mg "flag_of" = some (.ref f_flag_of)) (k_flag_of : PySem.W.keepIn K (.ref f_flag_of) = true) (b_flag_of : Binds K fd_flag_of ["world", "name"] []) : FnOk P w K mg base (L2.CX P w) 5 f fd ["_law_world", "_law_table", "_law_which"] (spD K mg 3 F__law_read) := by
  have S := sc__law_read
  unfold F__law_read b__law_read l__law_read_1
  exact fn_d F S (fun cdv A outer s H E hr => (dss_cons (ds_lock 1 (takes_of rfl rfl rfl rfl) (fun W tk => ds_for [3, 4] (passes_of rfl) rfl (di_keys (de_var 1)) (dg_n 3 S.nd rfl (Or.inl rfl)) (dss_cons (ds_if (dt_cmp (op_eqP (Room.units hr)) ok_eq (de_var 2) de_int) (dss_one (ds_set 4 S.nd rfl (Or.inl rfl) (de_call G_calendar_of (hr.mono (by decide)) (by rfl) m_calendar_of k_calendar_of b_calendar_of tk (da_cons (de_var 0) (da_cons (de_var 3) da_nil)) (by rfl) dDef_len))) (dss_one (ds_if (dt_cmp (op_eqP (Room.units hr)) ok_eq (de_var 2) de_int) (dss_one (ds_set 4 S.nd rfl (Or.inl rfl) (de_call G_day_of (hr.mono (by decide)) (by rfl) m_day_of k_day_of b_day_of tk (da_cons (de_var 0) (da_cons (de_var 3) da_nil)) (by rfl) dDef_len))) (dss_one (ds_set 4 S.nd rfl (Or.inl rfl) (de_call G_flag_of (hr.mono (by decide)) (by rfl) m_flag_of k_flag_of b_flag_of tk (da_cons (de_var 0) (da_cons (de_var 3) da_nil)) (by rfl) dDef_len)))))) (dss_one (ds_if (PWd.pt (dw_or (dt_cmp (op_neP (Room.units hr)) ok_eq (de_var 4) (de_ix (ix_dict (hu1 hr)) ok_ixD (de_var 1) (de_var 3))) (dw_or1 (dt_cmp (op_neP (Room.units hr)) ok_eq (de_bi call_isi ok_isa (by rfl) T.m_isinstance (by decide +kernel) (da_cons (de_var 4) (da_cons (de_bltn (by rfl) T.m_bool (by decide +kernel)) da_nil))) (de_cmp (op_eqP (Room.units hr)) ok_eq (de_var 2) de_int))))) (dss_one (ds_ret de_bl)) dss_nil))))) (dss_one (ds_ret de_bl))))
abbrev N_is_name : List Str := ["text", "sign"]
theorem sc_is_name : FnScope ["text", "sign"] ["text"] (defScope s_is_name) := ⟨rfl, rfl, rfl, by decide +kernel, rfl, by decide +kernel, by decide +kernel⟩
theorem ok_is_name {f : Addr} {fd : FuncData} (F : Fun K "is_name" "is_name" s_is_name f fd) (T : Txt w K mg) : FnOk P w K mg base (L2.CX P w) 1 f fd ["text"] (spD K mg 1 F_is_name) := by
  have S := sc_is_name
  unfold F_is_name b_is_name
  exact fn_d F S (fun cdv A outer s H E hr => (dss_cons (ds_if (PWd.pt (dw_or (dt_cmp op_lt ok_rel (de_bi call_len4 ok_len (by rfl) T.m_len (by decide +kernel) (da_cons (de_var 0) da_nil)) de_int) (dw_or (dt_cmp op_gt ok_rel (de_bi call_len4 ok_len (by rfl) T.m_len (by decide +kernel) (da_cons (de_var 0) da_nil)) (de_gint (by rfl) T.m_MAX_NAME.choose_spec)) (dw_or1 (dt_cmp (op_inP (Room.units hr)) ok_in (de_var 0) (de_gtup (by rfl) T.m_WORDS T.q_WORDS)))))) (dss_one (ds_ret de_bl)) dss_nil) (dss_one (ds_ret (de_and (de_cmp D.op_inS ok_inS (de_ix ix_seq ok_ix (de_var 0) de_int) (de_gstr (by rfl) T.m_SMALL.choose_spec)) (de_one (de_bi (cr_all rfl) ok_allL (by rfl) T.m_all (by decide +kernel) (da_cons (de_comp (own := [("sign", 1)]) rfl S.nd (di_str (de_var 0)) (blkOk_by (N := N_is_name) (sc := defScope s_is_name) (by decide +kernel)) (nm_one 1) (fun _ _ _ _ _ => (pg_name (i := 1) S.nd rfl (Or.inl rfl))) (fun _ _ _ _ _ => dts_nil) (fun _ _ _ _ _ => (de_cmp D.op_inS ok_inS (de_var 1) (de_gstr (by rfl) T.m_REST.choose_spec)))) da_nil))))))))
abbrev N__check_names : List Str := ["table", "name"]
theorem sc__check_names : FnScope ["table", "name"] ["table"] (defScope s__check_names) := ⟨rfl, rfl, rfl, by decide +kernel, rfl, by decide +kernel, by decide +kernel⟩
theorem ok__check_names {f : Addr} {fd : FuncData} (F : Fun K "_check_names" "_check_names" s__check_names f fd) (T : Txt w K mg) {f_is_name : Addr} {fd_is_name : FuncData} (G_is_name : FnOk P w K mg base (L2.CX P w) 1 f_is_name fd_is_name ["text"] (spD K mg 1 F_is_name)) (m_is_name : mg "is_name" = some (.ref f_is_name)) (k_is_name : PySem.W.keepIn K (.ref f_is_name) = true) (b_is_name : Binds K fd_is_name ["text"] []) : FnOk P w K mg base (L2.CX P w) 2 f fd ["table"] (spD K mg 1 F__check_names) := by
  have S := sc__check_names
  unfold F__check_names b__check_names l__check_names_1
  exact fn_d F S (fun cdv A outer s H E hr => (dss_one (ds_lock 0 (takes_of rfl rfl rfl rfl) (fun W tk => ds_for [1] (passes_of rfl) rfl (di_keys (de_var 0)) (dg_n 1 S.nd rfl (Or.inl rfl)) (dss_body [1] (dss_one (ds_if (dt_not (dt_tru (de_call G_is_name (hr.mono (by decide)) (by rfl) m_is_name k_is_name b_is_name tk (da_cons (de_var 1) da_nil) (by rfl) dDef_len))) (dss_one (ds_raise rfl tk T.e_NotAllowed T.c_NotAllowed T.k_NotAllowed T.b_NotAllowed T.t_NotAllowed (by rfl))) dss_nil)))))))
abbrev N_is_closed_days : List Str := ["pairs", "before", "first", "last"]
theorem sc_is_closed_days : FnScope ["pairs", "before", "first", "last"] ["pairs"] (defScope s_is_closed_days) := ⟨rfl, rfl, rfl, by decide +kernel, rfl, by decide +kernel, by decide +kernel⟩
theorem ok_is_closed_days {f : Addr} {fd : FuncData} (F : Fun K "is_closed_days" "is_closed_days" s_is_closed_days f fd) (T : Txt w K mg) : FnOk P w K mg base (L2.CX P w) 1 f fd ["pairs"] (spD K mg 1 F_is_closed_days) :=
  have S := sc_is_closed_days
  fn_d F S (fun cdv A outer s H E hr => (dss_cons (ds_set 1 S.nd rfl (Or.inl rfl) de_non) (dss_cons (ds_for [2, 3] (passes_of rfl) rfl (di_seq (de_var 0)) (dg_t rfl (dgs_cons (dg_n 2 S.nd rfl (Or.inl rfl)) (dgs_cons (dg_n 3 S.nd rfl (Or.inl rfl)) dgs_nil))) (dss_cons (ds_if (dt_cmp op_gt ok_rel (de_var 2) (de_var 3)) (dss_one (ds_ret de_bl)) dss_nil) (dss_cons (ds_if (PWd.pt (dw_and (dt_cmp op_isnot4 ok_isnot (de_var 1) de_non) (dw_and1 (dt_cmp op_lt ok_rel (de_var 2) (de_op op_add4 ok_add (de_var 1) de_int))))) (dss_one (ds_ret de_bl)) dss_nil) (dss_one (ds_set 1 S.nd rfl (Or.inl rfl) (de_var 3)))))) (dss_one (ds_ret de_bl)))))
abbrev N_make_world : List Str := ["calendars", "days", "flags", "name"]
theorem sc_make_world : FnScope ["calendars", "days", "flags", "name"] ["calendars", "days", "flags"] (defScope s_make_world) := ⟨rfl, rfl, rfl, by decide +kernel, rfl, by decide +kernel, by decide +kernel⟩
theorem ok_make_world {f : Addr} {fd : FuncData} (F : Fun K "make_world" "make_world" s_make_world f fd) (T : Txt w K mg) {f__check_names : Addr} {fd__check_names : FuncData} (G__check_names : FnOk P w K mg base (L2.CX P w) 2 f__check_names fd__check_names ["table"] (spD K mg 1 F__check_names)) (m__check_names : mg "_check_names" = some (.ref f__check_names)) (k__check_names : PySem.W.keepIn K (.ref f__check_names) = true) (b__check_names : Binds K fd__check_names ["table"] []) {f_is_closed_days : Addr} {fd_is_closed_days : FuncData} (G_is_closed_days : FnOk P w K mg base (L2.CX P w) 1 f_is_closed_days fd_is_closed_days ["pairs"] (spD K mg 1 F_is_closed_days)) (m_is_closed_days : mg "is_closed_days" = some (.ref f_is_closed_days)) (k_is_closed_days : PySem.W.keepIn K (.ref f_is_closed_days) = true) (b_is_closed_days : Binds K fd_is_closed_days ["pairs"] []) : FnOk P w K mg base (L2.CX P w) 3 f fd ["calendars", "days", "flags"] (spD K mg 3 F_make_world) := by
  have S := sc_make_world
  unfold F_make_world b_make_world b_make_world_t0 b_make_world_t1 b_make_world_t2 b_make_world_t3 b_make_world_t4 l_make_world_1
  exact fn_d F S (fun cdv A outer s H E hr => (dss_cons (ds_expr (de_call G__check_names (hr.mono (by decide)) (by rfl) m__check_names k__check_names b__check_names (takes_of rfl rfl rfl rfl) (da_cons (de_var 0) da_nil) (by rfl) dDef_len)) (dss_cons (ds_expr (de_call G__check_names (hr.mono (by decide)) (by rfl) m__check_names k__check_names b__check_names (takes_of rfl rfl rfl rfl) (da_cons (de_var 1) da_nil) (by rfl) dDef_len)) (dss_cons (ds_expr (de_call G__check_names (hr.mono (by decide)) (by rfl) m__check_names k__check_names b__check_names (takes_of rfl rfl rfl rfl) (da_cons (de_var 2) da_nil) (by rfl) dDef_len)) (dss_cons (ds_lock 0 (takes_of rfl rfl rfl rfl) (fun W tk => ds_for [3] (passes_of rfl) rfl (di_keys (de_var 0)) (dg_n 3 S.nd rfl (Or.inl rfl)) (dss_body [3] (dss_one (ds_if (dt_not (dt_tru (de_call G_is_closed_days (hr.mono (by decide)) (by rfl) m_is_closed_days k_is_closed_days b_is_closed_days tk (da_cons (de_ix (ix_dict (hu1 hr)) ok_ixD (de_var 0) (de_var 3)) da_nil) (by rfl) dDef_len))) (dss_one (ds_raise rfl tk T.e_NotAllowed T.c_NotAllowed T.k_NotAllowed T.b_NotAllowed T.t_NotAllowed (by rfl))) dss_nil))))) (dss_one (ds_ret (de_tup (da_cons (de_bty call_tuple_of ok_tuple (by rfl) T.m_tuple (by decide +kernel) (da_cons (de_comp (own := [("name", 3)]) rfl S.nd (di_seq (de_bi (call_sortedD rfl) ok_sortDk (by rfl) T.m_sorted (by decide +kernel) (da_cons (de_var 0) da_nil))) (blkOk_by (N := N_make_world) (sc := defScope s_make_world) (by decide +kernel)) (nm_one 3) (fun _ _ _ _ _ => (pg_name (i := 3) S.nd rfl (Or.inl rfl))) (fun _ _ _ _ _ => dts_nil) (fun _ _ _ _ _ => (de_tup (da_cons (de_var 3) (da_cons (de_ix (ix_dict (hu1 hr)) ok_ixD (de_var 0) (de_var 3)) da_nil))))) da_nil)) (da_cons (de_bty call_tuple_of ok_tuple (by rfl) T.m_tuple (by decide +kernel) (da_cons (de_comp (own := [("name", 3)]) rfl S.nd (di_seq (de_bi (call_sortedD rfl) ok_sortDk (by rfl) T.m_sorted (by decide +kernel) (da_cons (de_var 1) da_nil))) (blkOk_by (N := N_make_world) (sc := defScope s_make_world) (by decide +kernel)) (nm_one 3) (fun _ _ _ _ _ => (pg_name (i := 3) S.nd rfl (Or.inl rfl))) (fun _ _ _ _ _ => dts_nil) (fun _ _ _ _ _ => (de_tup (da_cons (de_var 3) (da_cons (de_ix (ix_dict (hu1 hr)) ok_ixD (de_var 1) (de_var 3)) da_nil))))) da_nil)) (da_cons (de_bty call_tuple_of ok_tuple (by rfl) T.m_tuple (by decide +kernel) (da_cons (de_comp (own := [("name", 3)]) rfl S.nd (di_seq (de_bi (call_sortedD rfl) ok_sortDk (by rfl) T.m_sorted (by decide +kernel) (da_cons (de_var 2) da_nil))) (blkOk_by (N := N_make_world) (sc := defScope s_make_world) (by decide +kernel)) (nm_one 3) (fun _ _ _ _ _ => (pg_name (i := 3) S.nd rfl (Or.inl rfl))) (fun _ _ _ _ _ => dts_nil) (fun _ _ _ _ _ => (de_tup (da_cons (de_var 3) (da_cons (de_ix (ix_dict (hu1 hr)) ok_ixD (de_var 2) (de_var 3)) da_nil))))) da_nil)) da_nil)))))))))))
abbrev N__law_refused : List Str := ["_law_tables", "_law_which", "_law_name", "_law_closed_here", "_law_handed", "e"]
theorem sc__law_refused : FnScope ["_law_tables", "_law_which", "_law_name", "_law_closed_here", "_law_handed", "e"] ["_law_tables", "_law_which", "_law_name", "_law_closed_here"] (defScope s__law_refused) := ⟨rfl, rfl, rfl, by decide +kernel, rfl, by decide +kernel, by decide +kernel⟩
theorem ok__law_refused {f : Addr} {fd : FuncData} (F : Fun K "_law_refused" "_law_refused" s__law_refused f fd) (T : Txt w K mg) {f_make_world : Addr} {fd_make_world : FuncData} (G_make_world : FnOk P w K mg base (L2.CX P w) 3 f_make_world fd_make_world ["calendars", "days", "flags"] (spD K mg 3 F_make_world)) (m_make_world : mg "make_world" = some (.ref f_make_world)) (k_make_world : PySem.W.keepIn K (.ref f_make_world) = true) (b_make_world : Binds K fd_make_world ["calendars", "days", "flags"] []) : FnOk P w K mg base (L2.CX P w) 4 f fd ["_law_tables", "_law_which", "_law_name", "_law_closed_here"] (spD K mg 4 F__law_refused) := by
  have S := sc__law_refused
  unfold F__law_refused b__law_refused b__law_refused_t0 b__law_refused_t1 b__law_refused_t2 b__law_refused_t3
  exact fn_d F S (fun cdv A outer s H E hr => (dss_cons (ds_set 4 S.nd rfl (Or.inl rfl) (de_lst (da_cons (de_bty (call_dict rfl) ok_dict (by rfl) T.m_dict (by decide +kernel) (da_cons (de_ix ix_seq ok_ix (de_var 0) de_int) da_nil)) (da_cons (de_bty (call_dict rfl) ok_dict (by rfl) T.m_dict (by decide +kernel) (da_cons (de_ix ix_seq ok_ix (de_var 0) de_int) da_nil)) (da_cons (de_bty (call_dict rfl) ok_dict (by rfl) T.m_dict (by decide +kernel) (da_cons (de_ix ix_seq ok_ix (de_var 0) de_int) da_nil)) da_nil))))) (dss_cons (ds_asg (de_ix ix_seq ok_ix (de_lst (da_cons (de_var 3) (da_cons de_int (da_cons de_bl da_nil)))) (de_var 1)) (dg_sub (set_dict (hu1 hr)) ok_setD (de_ix ix_seq ok_ix (de_var 4) (de_var 1)) (de_var 2))) (dss_cons (ds_try_as (i := 5) rfl rfl S.nd rfl rfl ⟨by rfl, by decide, Or.inl T.c_NotAllowed⟩ T.isCat_NotAllowed (takes_of rfl rfl rfl rfl) (fun W pn xe tk ps => (dss_one (ds_expr (de_call G_make_world (hr.mono (by decide)) (by rfl) m_make_world k_make_world b_make_world tk (da_cons (de_ix ix_seq ok_ix (de_var 4) de_int) (da_cons (de_ix ix_seq ok_ix (de_var 4) de_int) (da_cons (de_ix ix_seq ok_ix (de_var 4) de_int) da_nil))) (by rfl) dDef_len)))) (fun e a oe C d pn hs => (su_alt T.c_NotAllowed hs (fun hz hf => (dss_one (ds_ret (de_and (de_isE 5 T.x_NotAllowed hz hf (by rfl) T.m_isinstance (by rfl) (Or.inl rfl) (pe_glob (v := .ref T.a_DiesError) (by rfl) T.c_DiesError rfl) (fun u r => r) T.s_NotAllowed_DiesError) (de_one (de_not (de_or (de_isE 5 T.x_NotAllowed hz hf (by rfl) T.m_isinstance (by rfl) (Or.inl rfl) (pe_glob (v := .ref T.a_Missing) (by rfl) T.c_Missing rfl) (fun u r => r) T.s_NotAllowed_Missing) (de_or (de_isE 5 T.x_NotAllowed hz hf (by rfl) T.m_isinstance (by rfl) (Or.inl rfl) (pe_glob (v := .ref T.a_TooLarge) (by rfl) T.c_TooLarge rfl) (fun u r => r) T.s_NotAllowed_TooLarge) (de_one (de_isE 5 T.x_NotAllowed hz hf (by rfl) T.m_isinstance (by rfl) (Or.inl rfl) (pe_glob (v := .ref T.a_Never) (by rfl) T.c_Never rfl) (fun u r => r) T.s_NotAllowed_Never)))))))))) pss_nope))) (dss_one (ds_ret de_bl))))))
abbrev N__changed : List Str := ["pairs", "name", "content", "table", "other"]
theorem sc__changed : FnScope ["pairs", "name", "content", "table", "other"] ["pairs", "name", "content"] (defScope s__changed) := ⟨rfl, rfl, rfl, by decide +kernel, rfl, by decide +kernel, by decide +kernel⟩
theorem ok__changed {f : Addr} {fd : FuncData} (F : Fun K "_changed" "_changed" s__changed f fd) (T : Txt w K mg) {f_is_name : Addr} {fd_is_name : FuncData} (G_is_name : FnOk P w K mg base (L2.CX P w) 1 f_is_name fd_is_name ["text"] (spD K mg 1 F_is_name)) (m_is_name : mg "is_name" = some (.ref f_is_name)) (k_is_name : PySem.W.keepIn K (.ref f_is_name) = true) (b_is_name : Binds K fd_is_name ["text"] []) : FnOk P w K mg base (L2.CX P w) 2 f fd ["pairs", "name", "content"] (spD K mg 3 F__changed) := by
  have S := sc__changed
  unfold F__changed b__changed b__changed_t0 b__changed_t1 b__changed_t2 b__changed_t3
  exact fn_d F S (fun cdv A outer s H E hr => (dss_cons (ds_if (dt_not (dt_tru (de_call G_is_name (hr.mono (by decide)) (by rfl) m_is_name k_is_name b_is_name (takes_of rfl rfl rfl rfl) (da_cons (de_var 1) da_nil) (by rfl) dDef_len))) (dss_one (ds_raise rfl (takes_of rfl rfl rfl rfl) T.e_NotAllowed T.c_NotAllowed T.k_NotAllowed T.b_NotAllowed T.t_NotAllowed (by rfl))) dss_nil) (dss_cons (ds_set 3 S.nd rfl (Or.inr rfl) (de_bty (call_dict rfl) ok_dict (by rfl) T.m_dict (by decide +kernel) (da_cons (de_bty call_list_of ok_list (by rfl) T.m_list (by decide +kernel) (da_cons (de_var 0) da_nil)) da_nil))) (dss_cons (ds_asg (de_var 2) (dg_sub (set_dict (hu1 hr)) ok_setD (de_var 3) (de_var 1))) (dss_one (ds_ret (de_bty call_tuple_of ok_tuple (by rfl) T.m_tuple (by decide +kernel) (da_cons (de_comp (own := [("other", 4)]) rfl S.nd (di_seq (de_bi (call_sortedD rfl) ok_sortDk (by rfl) T.m_sorted (by decide +kernel) (da_cons (de_var 3) da_nil))) (blkOk_by (N := N__changed) (sc := defScope s__changed) (by decide +kernel)) (nm_one 4) (fun _ _ _ _ _ => (pg_name (i := 4) S.nd rfl (Or.inl rfl))) (fun _ _ _ _ _ => dts_nil) (fun _ _ _ _ _ => (de_tup (da_cons (de_var 4) (da_cons (de_ix (ix_dict (hu1 hr)) ok_ixD (de_var 3) (de_var 4)) da_nil))))) da_nil))))))))
abbrev N_set_calendar : List Str := ["world", "name", "closed"]
theorem sc_set_calendar : FnScope ["world", "name", "closed"] ["world", "name", "closed"] (defScope s_set_calendar) := ⟨rfl, rfl, rfl, by decide +kernel, rfl, by decide +kernel, by decide +kernel⟩
theorem ok_set_calendar {f : Addr} {fd : FuncData} (F : Fun K "set_calendar" "set_calendar" s_set_calendar f fd) (T : Txt w K mg) {f__changed : Addr} {fd__changed : FuncData} (G__changed : FnOk P w K mg base (L2.CX P w) 2 f__changed fd__changed ["pairs", "name", "content"] (spD K mg 3 F__changed)) (m__changed : mg "_changed" = some (.ref f__changed)) (k__changed : PySem.W.keepIn K (.ref f__changed) = true) (b__changed : Binds K fd__changed ["pairs", "name", "content"] []) : FnOk P w K mg base (L2.CX P w) 3 f fd ["world", "name", "closed"] (spD K mg 3 F_set_calendar) := by
  have S := sc_set_calendar
  unfold F_set_calendar b_set_calendar
  exact fn_d F S (fun cdv A outer s H E hr => (dss_one (ds_ret (de_tup (da_cons (de_call G__changed (hr.mono (by decide)) (by rfl) m__changed k__changed b__changed (takes_of rfl rfl rfl rfl) (da_cons (de_ix ix_seq ok_ix (de_var 0) de_int) (da_cons (de_var 1) (da_cons (de_var 2) da_nil))) (by rfl) dDef_len) (da_cons (de_ix ix_seq ok_ix (de_var 0) de_int) (da_cons (de_ix ix_seq ok_ix (de_var 0) de_int) da_nil)))))))
abbrev N_set_day : List Str := ["world", "name", "day"]
theorem sc_set_day : FnScope ["world", "name", "day"] ["world", "name", "day"] (defScope s_set_day) := ⟨rfl, rfl, rfl, by decide +kernel, rfl, by decide +kernel, by decide +kernel⟩
theorem ok_set_day {f : Addr} {fd : FuncData} (F : Fun K "set_day" "set_day" s_set_day f fd) (T : Txt w K mg) {f__changed : Addr} {fd__changed : FuncData} (G__changed : FnOk P w K mg base (L2.CX P w) 2 f__changed fd__changed ["pairs", "name", "content"] (spD K mg 3 F__changed)) (m__changed : mg "_changed" = some (.ref f__changed)) (k__changed : PySem.W.keepIn K (.ref f__changed) = true) (b__changed : Binds K fd__changed ["pairs", "name", "content"] []) : FnOk P w K mg base (L2.CX P w) 3 f fd ["world", "name", "day"] (spD K mg 3 F_set_day) := by
  have S := sc_set_day
  unfold F_set_day b_set_day
  exact fn_d F S (fun cdv A outer s H E hr => (dss_one (ds_ret (de_tup (da_cons (de_ix ix_seq ok_ix (de_var 0) de_int) (da_cons (de_call G__changed (hr.mono (by decide)) (by rfl) m__changed k__changed b__changed (takes_of rfl rfl rfl rfl) (da_cons (de_ix ix_seq ok_ix (de_var 0) de_int) (da_cons (de_var 1) (da_cons (de_var 2) da_nil))) (by rfl) dDef_len) (da_cons (de_ix ix_seq ok_ix (de_var 0) de_int) da_nil)))))))
abbrev N_set_flag : List Str := ["world", "name", "flag"]
theorem sc_set_flag : FnScope ["world", "name", "flag"] ["world", "name", "flag"] (defScope s_set_flag) := ⟨rfl, rfl, rfl, by decide +kernel, rfl, by decide +kernel, by decide +kernel⟩
theorem ok_set_flag {f : Addr} {fd : FuncData} (F : Fun K "set_flag" "set_flag" s_set_flag f fd) (T : Txt w K mg) {f__changed : Addr} {fd__changed : FuncData} (G__changed : FnOk P w K mg base (L2.CX P w) 2 f__changed fd__changed ["pairs", "name", "content"] (spD K mg 3 F__changed)) (m__changed : mg "_changed" = some (.ref f__changed)) (k__changed : PySem.W.keepIn K (.ref f__changed) = true) (b__changed : Binds K fd__changed ["pairs", "name", "content"] []) : FnOk P w K mg base (L2.CX P w) 3 f fd ["world", "name", "flag"] (spD K mg 3 F_set_flag) := by
  have S := sc_set_flag
  unfold F_set_flag b_set_flag
  exact fn_d F S (fun cdv A outer s H E hr => (dss_one (ds_ret (de_tup (da_cons (de_ix ix_seq ok_ix (de_var 0) de_int) (da_cons (de_ix ix_seq ok_ix (de_var 0) de_int) (da_cons (de_call G__changed (hr.mono (by decide)) (by rfl) m__changed k__changed b__changed (takes_of rfl rfl rfl rfl) (da_cons (de_ix ix_seq ok_ix (de_var 0) de_int) (da_cons (de_var 1) (da_cons (de_var 2) da_nil))) (by rfl) dDef_len) da_nil)))))))
abbrev N__law_set : List Str := ["_law_world", "_law_which", "_law_name", "_law_content"]
theorem sc__law_set : FnScope ["_law_world", "_law_which", "_law_name", "_law_content"] ["_law_world", "_law_which", "_law_name", "_law_content"] (defScope s__law_set) := ⟨rfl, rfl, rfl, by decide +kernel, rfl, by decide +kernel, by decide +kernel⟩
theorem ok__law_set {f : Addr} {fd : FuncData} (F : Fun K "_law_set" "_law_set" s__law_set f fd) (T : Txt w K mg) {f_set_calendar : Addr} {fd_set_calendar : FuncData} (G_set_calendar : FnOk P w K mg base (L2.CX P w) 3 f_set_calendar fd_set_calendar ["world", "name", "closed"] (spD K mg 3 F_set_calendar)) (m_set_calendar : mg "set_calendar" = some (.ref f_set_calendar)) (k_set_calendar : PySem.W.keepIn K (.ref f_set_calendar) = true) (b_set_calendar : Binds K fd_set_calendar ["world", "name", "closed"] []) {f_set_day : Addr} {fd_set_day : FuncData} (G_set_day : FnOk P w K mg base (L2.CX P w) 3 f_set_day fd_set_day ["world", "name", "day"] (spD K mg 3 F_set_day)) (m_set_day : mg "set_day" = some (.ref f_set_day)) (k_set_day : PySem.W.keepIn K (.ref f_set_day) = true) (b_set_day : Binds K fd_set_day ["world", "name", "day"] []) {f_set_flag : Addr} {fd_set_flag : FuncData} (G_set_flag : FnOk P w K mg base (L2.CX P w) 3 f_set_flag fd_set_flag ["world", "name", "flag"] (spD K mg 3 F_set_flag)) (m_set_flag : mg "set_flag" = some (.ref f_set_flag)) (k_set_flag : PySem.W.keepIn K (.ref f_set_flag) = true) (b_set_flag : Binds K fd_set_flag ["world", "name", "flag"] []) : FnOk P w K mg base (L2.CX P w) 4 f fd ["_law_world", "_law_which", "_law_name", "_law_content"] (spD K mg 4 F__law_set) := by
  have S := sc__law_set
  unfold F__law_set b__law_set b__law_set_t0 b__law_set_t1 b__law_set_t2
  exact fn_d F S (fun cdv A outer s H E hr => (dss_cons (ds_if (dt_cmp (op_eqP (Room.units hr)) ok_eq (de_var 1) de_int) (dss_one (ds_ret (de_call G_set_calendar (hr.mono (by decide)) (by rfl) m_set_calendar k_set_calendar b_set_calendar (takes_of rfl rfl rfl rfl) (da_cons (de_var 0) (da_cons (de_var 2) (da_cons (de_var 3) da_nil))) (by rfl) dDef_len))) dss_nil) (dss_cons (ds_if (dt_cmp (op_eqP (Room.units hr)) ok_eq (de_var 1) de_int) (dss_one (ds_ret (de_call G_set_day (hr.mono (by decide)) (by rfl) m_set_day k_set_day b_set_day (takes_of rfl rfl rfl rfl) (da_cons (de_var 0) (da_cons (de_var 2) (da_cons (de_var 3) da_nil))) (by rfl) dDef_len))) dss_nil) (dss_one (ds_ret (de_call G_set_flag (hr.mono (by decide)) (by rfl) m_set_flag k_set_flag b_set_flag (takes_of rfl rfl rfl rfl) (da_cons (de_var 0) (da_cons (de_var 2) (da_cons (de_var 3) da_nil))) (by rfl) dDef_len))))))
abbrev N__names_rise : List Str := ["pairs", "before", "name", "_"]
theorem sc__names_rise : FnScope ["pairs", "before", "name", "_"] ["pairs"] (defScope s__names_rise) := ⟨rfl, rfl, rfl, by decide +kernel, rfl, by decide +kernel, by decide +kernel⟩
theorem ok__names_rise {f : Addr} {fd : FuncData} (F : Fun K "_names_rise" "_names_rise" s__names_rise f fd) (T : Txt w K mg) {f_is_name : Addr} {fd_is_name : FuncData} (G_is_name : FnOk P w K mg base (L2.CX P w) 1 f_is_name fd_is_name ["text"] (spD K mg 1 F_is_name)) (m_is_name : mg "is_name" = some (.ref f_is_name)) (k_is_name : PySem.W.keepIn K (.ref f_is_name) = true) (b_is_name : Binds K fd_is_name ["text"] []) : FnOk P w K mg base (L2.CX P w) 2 f fd ["pairs"] (spD K mg 1 F__names_rise) := by
  have S := sc__names_rise
  unfold F__names_rise b__names_rise b__names_rise_t0 b__names_rise_t1 b__names_rise_t2 l__names_rise_1
  exact fn_d F S (fun cdv A outer s H E hr => (dss_cons (ds_set 1 S.nd rfl (Or.inl rfl) de_str) (dss_cons (ds_for [2, 3] (passes_of rfl) rfl (di_seq (de_var 0)) (dg_t rfl (dgs_cons (dg_n 2 S.nd rfl (Or.inl rfl)) (dgs_cons (dg_n 3 S.nd rfl (Or.inl rfl)) dgs_nil))) (dss_cons (ds_if (PWd.pt (dw_or (dt_not (dt_tru (de_call G_is_name (hr.mono (by decide)) (by rfl) m_is_name k_is_name b_is_name (takes_of rfl rfl rfl rfl) (da_cons (de_var 2) da_nil) (by rfl) dDef_len))) (dw_or1 (dt_cmp op_leS ok_relS (de_var 2) (de_var 1))))) (dss_one (ds_ret de_bl)) dss_nil) (dss_one (ds_set 1 S.nd rfl (Or.inl rfl) (de_var 2))))) (dss_one (ds_ret de_bl)))))
abbrev N_is_world : List Str := ["world", "pairs", "_", "closed"]
theorem sc_is_world : FnScope ["world", "pairs", "_", "closed"] ["world"] (defScope s_is_world) := ⟨rfl, rfl, rfl, by decide +kernel, rfl, by decide +kernel, by decide +kernel⟩
theorem ok_is_world {f : Addr} {fd : FuncData} (F : Fun K "is_world" "is_world" s_is_world f fd) (T : Txt w K mg) {f__names_rise : Addr} {fd__names_rise : FuncData} (G__names_rise : FnOk P w K mg base (L2.CX P w) 2 f__names_rise fd__names_rise ["pairs"] (spD K mg 1 F__names_rise)) (m__names_rise : mg "_names_rise" = some (.ref f__names_rise)) (k__names_rise : PySem.W.keepIn K (.ref f__names_rise) = true) (b__names_rise : Binds K fd__names_rise ["pairs"] []) {f_is_closed_days : Addr} {fd_is_closed_days : FuncData} (G_is_closed_days : FnOk P w K mg base (L2.CX P w) 1 f_is_closed_days fd_is_closed_days ["pairs"] (spD K mg 1 F_is_closed_days)) (m_is_closed_days : mg "is_closed_days" = some (.ref f_is_closed_days)) (k_is_closed_days : PySem.W.keepIn K (.ref f_is_closed_days) = true) (b_is_closed_days : Binds K fd_is_closed_days ["pairs"] []) : FnOk P w K mg base (L2.CX P w) 3 f fd ["world"] (spD K mg 1 F_is_world) := by
  have S := sc_is_world
  unfold F_is_world b_is_world b_is_world_t0 b_is_world_t1 b_is_world_t2 l_is_world_1 l_is_world_2
  exact fn_d F S (fun cdv A outer s H E hr => (dss_cons (ds_for [1] (passes_of rfl) rfl (di_seq (de_var 0)) (dg_n 1 S.nd rfl (Or.inl rfl)) (dss_one (ds_if (dt_not (dt_tru (de_call G__names_rise (hr.mono (by decide)) (by rfl) m__names_rise k__names_rise b__names_rise (takes_of rfl rfl rfl rfl) (da_cons (de_var 1) da_nil) (by rfl) dDef_len))) (dss_one (ds_ret de_bl)) dss_nil))) (dss_cons (ds_for [2, 3] (passes_of rfl) rfl (di_seq (de_ix ix_seq ok_ix (de_var 0) de_int)) (dg_t rfl (dgs_cons (dg_n 2 S.nd rfl (Or.inl rfl)) (dgs_cons (dg_n 3 S.nd rfl (Or.inl rfl)) dgs_nil))) (dss_one (ds_if (dt_not (dt_tru (de_call G_is_closed_days (hr.mono (by decide)) (by rfl) m_is_closed_days k_is_closed_days b_is_closed_days (takes_of rfl rfl rfl rfl) (da_cons (de_var 3) da_nil) (by rfl) dDef_len))) (dss_one (ds_ret de_bl)) dss_nil))) (dss_one (ds_ret de_bl)))))
abbrev N__law_spoilt : List Str := ["_law_world", "_law_which", "_law_name", "_law_bad", "_law_entry", "_law_found", "_law_pairs", "_law_other"]
theorem sc__law_spoilt : FnScope ["_law_world", "_law_which", "_law_name", "_law_bad", "_law_entry", "_law_found", "_law_pairs", "_law_other"] ["_law_world", "_law_which", "_law_name", "_law_bad"] (defScope s__law_spoilt) := ⟨rfl, rfl, rfl, by decide +kernel, rfl, by decide +kernel, by decide +kernel⟩
theorem ok__law_spoilt {f : Addr} {fd : FuncData} (F : Fun K "_law_spoilt" "_law_spoilt" s__law_spoilt f fd) (T : Txt w K mg) {f_is_world : Addr} {fd_is_world : FuncData} (G_is_world : FnOk P w K mg base (L2.CX P w) 3 f_is_world fd_is_world ["world"] (spD K mg 1 F_is_world)) (m_is_world : mg "is_world" = some (.ref f_is_world)) (k_is_world : PySem.W.keepIn K (.ref f_is_world) = true) (b_is_world : Binds K fd_is_world ["world"] []) : FnOk P w K mg base (L2.CX P w) 4 f fd ["_law_world", "_law_which", "_law_name", "_law_bad"] (spD K mg 4 F__law_spoilt) := by
  have S := sc__law_spoilt
  unfold F__law_spoilt b__law_spoilt b__law_spoilt_t0 b__law_spoilt_t1 b__law_spoilt_t2 b__law_spoilt_t3 b__law_spoilt_t4 b__law_spoilt_t5 b__law_spoilt_t6 l__law_spoilt_1 l__law_spoilt_2
  exact fn_d F S (fun cdv A outer s H E hr => (dss_cons (ds_set 4 S.nd rfl (Or.inl rfl) (de_tup (da_cons (de_var 2) (da_cons (de_ix ix_seq ok_ix (de_lst (da_cons (de_tup da_nil) (da_cons de_int (da_cons de_bl da_nil)))) (de_var 1)) da_nil)))) (dss_cons (ds_set 5 S.nd rfl (Or.inl rfl) (de_lst da_nil)) (dss_cons (ds_for [6] (passes_of rfl) rfl (di_seq (de_lst (da_cons (de_op op_add4 ok_add (de_ix ix_seq ok_ix (de_var 0) (de_var 1)) (de_tup (da_cons (de_var 4) (da_cons (de_var 4) da_nil)))) (da_cons (de_op op_add4 ok_add (de_op op_add4 ok_add (de_tup (da_cons (de_var 4) da_nil)) (de_ix ix_seq ok_ix (de_var 0) (de_var 1))) (de_tup (da_cons (de_var 4) da_nil))) (da_cons (de_op op_add4 ok_add (de_ix ix_seq ok_ix (de_var 0) (de_var 1)) (de_tup (da_cons (de_tup (da_cons de_str (da_cons (de_ix ix_seq ok_ix (de_var 4) de_int) da_nil))) (da_cons (de_tup (da_cons de_str (da_cons (de_ix ix_seq ok_ix (de_var 4) de_int) da_nil))) da_nil)))) da_nil))))) (dg_n 6 S.nd rfl (Or.inl rfl)) (dss_body [6] (dss_one (ds_expr (de_bm PySem.F.plainAttrs_list PySem.F.slot_list_append PySem.F.type_list_append mt_append ok_append (de_var 5) (da_cons (de_op op_add4 ok_add (de_op op_add4 ok_add (de_sl (de_var 0) do_none (do_some (de_var 1))) (de_tup (da_cons (de_var 6) da_nil))) (de_sl (de_var 0) (do_some (de_op op_add4 ok_add (de_var 1) de_int)) do_none)) da_nil)))))) (dss_cons (ds_if (dt_cmp op_gt ok_rel (de_bi call_len4 ok_len (by rfl) T.m_len (by decide +kernel) (da_cons (de_ix ix_seq ok_ix (de_var 0) (de_var 1)) da_nil)) de_int) (dss_one (ds_expr (de_bm PySem.F.plainAttrs_list PySem.F.slot_list_append PySem.F.type_list_append mt_append ok_append (de_var 5) (da_cons (de_op op_add4 ok_add (de_op op_add4 ok_add (de_sl (de_var 0) do_none (do_some (de_var 1))) (de_tup (da_cons (de_op op_add4 ok_add (de_sl (de_ix ix_seq ok_ix (de_var 0) (de_var 1)) (do_some de_int) do_none) (de_sl (de_ix ix_seq ok_ix (de_var 0) (de_var 1)) do_none (do_some de_int))) da_nil))) (de_sl (de_var 0) (do_some (de_op op_add4 ok_add (de_var 1) de_int)) do_none)) da_nil)))) dss_nil) (dss_cons (ds_expr (de_bm PySem.F.plainAttrs_list PySem.F.slot_list_append PySem.F.type_list_append mt_append ok_append (de_var 5) (da_cons (de_tup (da_cons (de_op op_add4 ok_add (de_ix ix_seq ok_ix (de_var 0) de_int) (de_tup (da_cons (de_tup (da_cons (de_op op_add4 ok_add de_str (de_op op_mulS ok_mulS de_str de_int)) (da_cons (de_var 3) da_nil))) da_nil))) (da_cons (de_ix ix_seq ok_ix (de_var 0) de_int) (da_cons (de_ix ix_seq ok_ix (de_var 0) de_int) da_nil)))) da_nil))) (dss_cons (ds_for [7] (passes_of rfl) rfl (di_seq (de_var 5)) (dg_n 7 S.nd rfl (Or.inl rfl)) (dss_one (ds_if (dt_cmp op_isnot4 ok_isnot (de_call G_is_world (hr.mono (by decide)) (by rfl) m_is_world k_is_world b_is_world (takes_of rfl rfl rfl rfl) (da_cons (de_var 7) da_nil) (by rfl) dDef_len) de_bl) (dss_one (ds_ret de_bl)) dss_nil))) (dss_one (ds_ret de_bl)))))))))
abbrev N__law_stream : List Str := ["_law_script", "_law_numbers", "_law_cell", "_law_rest", "_law_k", "_law_mixed"]
theorem sc__law_stream : FnScope ["_law_script", "_law_numbers", "_law_cell", "_law_rest", "_law_k", "_law_mixed"] ["_law_script"] (defScope s__law_stream) := ⟨rfl, rfl, rfl, by decide +kernel, rfl, by decide +kernel, by decide +kernel⟩
theorem ok__law_stream {f : Addr} {fd : FuncData} (F : Fun K "_law_stream" "_law_stream" s__law_stream f fd) (T : Txt w K mg) : FnOk P w K mg base (L2.CX P w) 1 f fd ["_law_script"] (spD K mg 1 F__law_stream) :=
  have S := sc__law_stream
  fn_d F S (fun cdv A outer s H E hr => (dss_cons (ds_set 1 S.nd rfl (Or.inl rfl) (de_lst da_nil)) (dss_cons (ds_for [2, 3, 4, 5] (passes_of rfl) rfl (di_seq (de_sl (de_var 0) do_none (do_some de_int))) (dg_n 2 S.nd rfl (Or.inl rfl)) (dss_cons (ds_set 3 S.nd rfl (Or.inl rfl) (de_bty call_int1 ok_int (by rfl) T.m_int (by decide +kernel) (da_cons (de_var 2) da_nil))) (dss_one (ds_if (dt_cmp op_ge ok_rel (de_var 3) (de_op op_pow ok_pow de_int de_int)) (dss_one (ds_for [4] (passes_of rfl) rfl (di_rng1 (by rfl) T.m_range (da_cons de_int da_nil)) (dg_n 4 S.nd rfl (Or.inl rfl)) (dss_cons (ds_expr (de_bm PySem.F.plainAttrs_list PySem.F.slot_list_append PySem.F.type_list_append mt_append ok_append (de_var 1) (da_cons (de_op op_mod ok_mod (de_bty call_int1 ok_int (by rfl) T.m_int (by decide +kernel) (da_cons (de_var 3) da_nil)) de_int) da_nil))) (dss_cons (ds_set 3 S.nd rfl (Or.inl rfl) (de_op op_fdiv ok_div (de_var 3) de_int)) (dss_one (ds_if (dt_cmp (op_eqP (Room.units hr)) ok_eq (de_var 3) de_int) (dss_one ds_brk) dss_nil)))))) (dss_cons (ds_set 5 S.nd rfl (Or.inl rfl) (de_op op_mod ok_mod (de_bty call_int1 ok_int (by rfl) T.m_int (by decide +kernel) (da_cons (de_var 3) da_nil)) de_int)) (dss_one (ds_for [4] (passes_of rfl) rfl (di_rng1 (by rfl) T.m_range (da_cons de_int da_nil)) (dg_n 4 S.nd rfl (Or.inl rfl)) (dss_cons (ds_set 5 S.nd rfl (Or.inl rfl) (de_op op_mod ok_mod (de_bty call_int1 ok_int (by rfl) T.m_int (by decide +kernel) (da_cons (de_op op_add4 ok_add (de_op op_add4 ok_add (de_op op_mul4 ok_mul (de_var 5) de_int) (de_op op_mul4 ok_mul de_int (de_var 4))) de_int) da_nil)) de_int)) (dss_one (ds_expr (de_bm PySem.F.plainAttrs_list PySem.F.slot_list_append PySem.F.type_list_append mt_append ok_append (de_var 1) (da_cons (de_op op_mod ok_mod (de_op op_mod ok_mod (de_bty call_int1 ok_int (by rfl) T.m_int (by decide +kernel) (da_cons (de_op op_add4 ok_add (de_op op_mul4 ok_mul (de_var 5) de_int) (de_var 4)) da_nil)) de_int) de_int) da_nil)))))))))))) (dss_cons (ds_if (dt_cmp (op_eqP (Room.units hr)) ok_eq (de_bi call_len4 ok_len (by rfl) T.m_len (by decide +kernel) (da_cons (de_var 1) da_nil)) de_int) (dss_one (ds_expr (de_bm PySem.F.plainAttrs_list PySem.F.slot_list_append PySem.F.type_list_append mt_append ok_append (de_var 1) (da_cons de_int da_nil)))) dss_nil) (dss_one (ds_ret (de_var 1)))))))
abbrev N__law_unset : List Str := ["_law_world", "_law_which", "_law_name"]
theorem sc__law_unset : FnScope ["_law_world", "_law_which", "_law_name"] ["_law_world", "_law_which", "_law_name"] (defScope s__law_unset) := ⟨rfl, rfl, rfl, by decide +kernel, rfl, by decide +kernel, by decide +kernel⟩
theorem ok__law_unset {f : Addr} {fd : FuncData} (F : Fun K "_law_unset" "_law_unset" s__law_unset f fd) (T : Txt w K mg) {f_set_calendar : Addr} {fd_set_calendar : FuncData} (G_set_calendar : FnOk P w K mg base (L2.CX P w) 3 f_set_calendar fd_set_calendar ["world", "name", "closed"] (spD K mg 3 F_set_calendar)) (m_set_calendar : mg "set_calendar" = some (.ref f_set_calendar)) (k_set_calendar : PySem.W.keepIn K (.ref f_set_calendar) = true) (b_set_calendar : Binds K fd_set_calendar ["world", "name", "closed"] []) {f_set_day : Addr} {fd_set_day : FuncData} (G_set_day : FnOk P w K mg base (L2.CX P w) 3 f_set_day fd_set_day ["world", "name", "day"] (spD K mg 3 F_set_day)) (m_set_day : mg "set_day" = some (.ref f_set_day)) (k_set_day : PySem.W.keepIn K (.ref f_set_day) = true) (b_set_day : Binds K fd_set_day ["world", "name", "day"] []) {f_set_flag : Addr} {fd_set_flag : FuncData} (G_set_flag : FnOk P w K mg base (L2.CX P w) 3 f_set_flag fd_set_flag ["world", "name", "flag"] (spD K mg 3 F_set_flag)) (m_set_flag : mg "set_flag" = some (.ref f_set_flag)) (k_set_flag : PySem.W.keepIn K (.ref f_set_flag) = true) (b_set_flag : Binds K fd_set_flag ["world", "name", "flag"] []) : FnOk P w K mg base (L2.CX P w) 4 f fd ["_law_world", "_law_which", "_law_name"] (spD K mg 3 F__law_unset) := by
  have S := sc__law_unset
  unfold F__law_unset b__law_unset
  exact fn_d F S (fun cdv A outer s H E hr => (dss_cons (ds_try_only rfl rfl ⟨by rfl, by decide, Or.inl T.c_NotAllowed⟩ T.isCat_NotAllowed (takes_of rfl rfl rfl rfl) (fun W pn xe tk ps => (dss_one (ds_if (dt_cmp (op_eqP (Room.units hr)) ok_eq (de_var 1) de_int) (dss_one (ds_expr (de_call G_set_calendar (hr.mono (by decide)) (by rfl) m_set_calendar k_set_calendar b_set_calendar tk (da_cons (de_var 0) (da_cons (de_var 2) (da_cons (de_tup da_nil) da_nil))) (by rfl) dDef_len))) (dss_one (ds_if (dt_cmp (op_eqP (Room.units hr)) ok_eq (de_var 1) de_int) (dss_one (ds_expr (de_call G_set_day (hr.mono (by decide)) (by rfl) m_set_day k_set_day b_set_day tk (da_cons (de_var 0) (da_cons (de_var 2) (da_cons de_int da_nil))) (by rfl) dDef_len))) (dss_one (ds_expr (de_call G_set_flag (hr.mono (by decide)) (by rfl) m_set_flag k_set_flag b_set_flag tk (da_cons (de_var 0) (da_cons (de_var 2) (da_cons de_bl da_nil))) (by rfl) dDef_len)))))))) (fun a pn => (dss_one (ds_ret de_bl)))) (dss_one (ds_ret de_bl))))
abbrev N_law : List Str := ["_law_script", "_law_numbers", "_law_tables", "_law_k", "_law_name", "_law_kept", "_law_world", "_law_which", "_law_names_here", "_law_new", "_law_content", "_law_told", "_law_bad", "_law_words_here", "_law_wrong"]
theorem sc_law : FnScope ["_law_script", "_law_numbers", "_law_tables", "_law_k", "_law_name", "_law_kept", "_law_world", "_law_which", "_law_names_here", "_law_new", "_law_content", "_law_told", "_law_bad", "_law_words_here", "_law_wrong"] ["_law_script"] (defScope s_law) := ⟨rfl, rfl, rfl, by decide +kernel, rfl, by decide +kernel, by decide +kernel⟩
theorem ok_law {f : Addr} {fd : FuncData} (F : Fun K "law" "law" s_law f fd) (T : Txt w K mg) {f__law_closed : Addr} {fd__law_closed : FuncData} (G__law_closed : FnOk P w K mg base (L2.CX P w) 2 f__law_closed fd__law_closed ["_law_numbers", "_law_at", "_law_shift"] (spD K mg 3 F__law_closed)) (m__law_closed : mg "_law_closed" = some (.ref f__law_closed)) (k__law_closed : PySem.W.keepIn K (.ref f__law_closed) = true) (b__law_closed : Binds K fd__law_closed ["_law_numbers", "_law_at", "_law_shift"] []) {f__law_due : Addr} {fd__law_due : FuncData} (G__law_due : FnOk P w K mg base (L2.CX P w) 1 f__law_due fd__law_due ["_law_tables"] (spD K mg 1 F__law_due)) (m__law_due : mg "_law_due" = some (.ref f__law_due)) (k__law_due : PySem.W.keepIn K (.ref f__law_due) = true) (b__law_due : Binds K fd__law_due ["_law_tables"] []) {f__law_missing : Addr} {fd__law_missing : FuncData} (G__law_missing : FnOk P w K mg base (L2.CX P w) 5 f__law_missing fd__law_missing ["_law_world", "_law_which", "_law_name"] (spD K mg 3 F__law_missing)) (m__law_missing : mg "_law_missing" = some (.ref f__law_missing)) (k__law_missing : PySem.W.keepIn K (.ref f__law_missing) = true) (b__law_missing : Binds K fd__law_missing ["_law_world", "_law_which", "_law_name"] []) {f__law_names : Addr} {fd__law_names : FuncData} (G__law_names : FnOk P w K mg base (L2.CX P w) 3 f__law_names fd__law_names ["_law_numbers", "_law_at"] (spD K mg 2 F__law_names)) (m__law_names : mg "_law_names" = some (.ref f__law_names)) (k__law_names : PySem.W.keepIn K (.ref f__law_names) = true) (b__law_names : Binds K fd__law_names ["_law_numbers", "_law_at"] []) {f__law_pick : Addr} {fd__law_pick : FuncData} (G__law_pick : FnOk P w K mg base (L2.CX P w) 1 f__law_pick fd__law_pick ["_law_numbers", "_law_at", "_law_many"] (spD K mg 3 F__law_pick)) (m__law_pick : mg "_law_pick" = some (.ref f__law_pick)) (k__law_pick : PySem.W.keepIn K (.ref f__law_pick) = true) (b__law_pick : Binds K fd__law_pick ["_law_numbers", "_law_at", "_law_many"] []) {f__law_read : Addr} {fd__law_read : FuncData} (G__law_read : FnOk P w K mg base (L2.CX P w) 5 f__law_read fd__law_read ["_law_world", "_law_table", "_law_which"] (spD K mg 3 F__law_read)) (m__law_read : mg "_law_read" = some (.ref f__law_read)) (k__law_read : PySem.W.keepIn K (.ref f__law_read) = true) (b__law_read : Binds K fd__law_read ["_law_world", "_law_table", "_law_which"] []) {f__law_refused : Addr} {fd__law_refused : FuncData} (G__law_refused : FnOk P w K mg base (L2.CX P w) 4 f__law_refused fd__law_refused ["_law_tables", "_law_which", "_law_name", "_law_closed_here"] (spD K mg 4 F__law_refused)) (m__law_refused : mg "_law_refused" = some (.ref f__law_refused)) (k__law_refused : PySem.W.keepIn K (.ref f__law_refused) = true) (b__law_refused : Binds K fd__law_refused ["_law_tables", "_law_which", "_law_name", "_law_closed_here"] []) {f__law_set : Addr} {fd__law_set : FuncData} (G__law_set : FnOk P w K mg base (L2.CX P w) 4 f__law_set fd__law_set ["_law_world", "_law_which", "_law_name", "_law_content"] (spD K mg 4 F__law_set)) (m__law_set : mg "_law_set" = some (.ref f__law_set)) (k__law_set : PySem.W.keepIn K (.ref f__law_set) = true) (b__law_set : Binds K fd__law_set ["_law_world", "_law_which", "_law_name", "_law_content"] []) {f__law_spoilt : Addr} {fd__law_spoilt : FuncData} (G__law_spoilt : FnOk P w K mg base (L2.CX P w) 4 f__law_spoilt fd__law_spoilt ["_law_world", "_law_which", "_law_name", "_law_bad"] (spD K mg 4 F__law_spoilt)) (m__law_spoilt : mg "_law_spoilt" = some (.ref f__law_spoilt)) (k__law_spoilt : PySem.W.keepIn K (.ref f__law_spoilt) = true) (b__law_spoilt : Binds K fd__law_spoilt ["_law_world", "_law_which", "_law_name", "_law_bad"] []) {f__law_stream : Addr} {fd__law_stream : FuncData} (G__law_stream : FnOk P w K mg base (L2.CX P w) 1 f__law_stream fd__law_stream ["_law_script"] (spD K mg 1 F__law_stream)) (m__law_stream : mg "_law_stream" = some (.ref f__law_stream)) (k__law_stream : PySem.W.keepIn K (.ref f__law_stream) = true) (b__law_stream : Binds K fd__law_stream ["_law_script"] []) {f__law_unset : Addr} {fd__law_unset : FuncData} (G__law_unset : FnOk P w K mg base (L2.CX P w) 4 f__law_unset fd__law_unset ["_law_world", "_law_which", "_law_name"] (spD K mg 3 F__law_unset)) (m__law_unset : mg "_law_unset" = some (.ref f__law_unset)) (k__law_unset : PySem.W.keepIn K (.ref f__law_unset) = true) (b__law_unset : Binds K fd__law_unset ["_law_world", "_law_which", "_law_name"] []) {f__law_words : Addr} {fd__law_words : FuncData} (G__law_words : FnOk P w K mg base (L2.CX P w) 1 f__law_words fd__law_words [] (spD K mg 0 F__law_words)) (m__law_words : mg "_law_words" = some (.ref f__law_words)) (k__law_words : PySem.W.keepIn K (.ref f__law_words) = true) (b__law_words : Binds K fd__law_words [] []) {f_is_world : Addr} {fd_is_world : FuncData} (G_is_world : FnOk P w K mg base (L2.CX P w) 3 f_is_world fd_is_world ["world"] (spD K mg 1 F_is_world)) (m_is_world : mg "is_world" = some (.ref f_is_world)) (k_is_world : PySem.W.keepIn K (.ref f_is_world) = true) (b_is_world : Binds K fd_is_world ["world"] []) {f_make_world : Addr} {fd_make_world : FuncData} (G_make_world : FnOk P w K mg base (L2.CX P w) 3 f_make_world fd_make_world ["calendars", "days", "flags"] (spD K mg 3 F_make_world)) (m_make_world : mg "make_world" = some (.ref f_make_world)) (k_make_world : PySem.W.keepIn K (.ref f_make_world) = true) (b_make_world : Binds K fd_make_world ["calendars", "days", "flags"] []) : FnOk P w K mg base (L2.CX P w) 6 f fd ["_law_script"] (spD K mg 1 F_law) := by
  have S := sc_law
  unfold F_law b_law t_0 t_1 t_2 t_3 t_4 t_5 t_6 t_7 t_8 t_9 t_10 t_11 t_12 t_13 t_14 t_15 t_16 t_17 t_18 t_19 t_20 t_21 t_22 l_law_1 l_law_2 l_law_3 l_law_4
  exact fn_d F S (fun cdv A outer s H E hr => (dss_cons (ds_set 1 S.nd rfl (Or.inl rfl) (de_call G__law_stream (hr.mono (by decide)) (by rfl) m__law_stream k__law_stream b__law_stream (takes_of rfl rfl rfl rfl) (da_cons (de_var 0) da_nil) (by rfl) dDef_len)) (dss_cons (ds_set 2 S.nd rfl (Or.inl rfl) (de_lst (da_cons de_dnew (da_cons de_dnew (da_cons de_dnew da_nil))))) (dss_cons (ds_for [3, 4] (passes_of rfl) rfl (di_enum (by rfl) T.m_enumerate (da_cons (de_call G__law_names (hr.mono (by decide)) (by rfl) m__law_names k__law_names b__law_names (takes_of rfl rfl rfl rfl) (da_cons (de_var 1) (da_cons de_int da_nil)) (by rfl) dDef_len) da_nil)) (dg_t rfl (dgs_cons (dg_n 3 S.nd rfl (Or.inl rfl)) (dgs_cons (dg_n 4 S.nd rfl (Or.inl rfl)) dgs_nil))) (dss_body [3, 4] (dss_cons (ds_asg (de_call G__law_closed (hr.mono (by decide)) (by rfl) m__law_closed k__law_closed b__law_closed (takes_of rfl rfl rfl rfl) (da_cons (de_var 1) (da_cons (de_op op_add4 ok_add de_int (de_op op_mul4 ok_mul de_int (de_var 3))) (da_cons de_int da_nil))) (by rfl) dDef_len) (dg_sub (set_dict (hu1 hr)) ok_setD (de_ix ix_seq ok_ix (de_var 2) de_int) (de_var 4))) (dss_one (ds_if (dt_cmp (op_eqP (Room.units hr)) ok_eq (de_call G__law_pick (hr.mono (by decide)) (by rfl) m__law_pick k__law_pick b__law_pick (takes_of rfl rfl rfl rfl) (da_cons (de_var 1) (da_cons (de_op op_add4 ok_add de_int (de_var 3)) (da_cons de_int da_nil))) (by rfl) dDef_len) de_int) (dss_one (ds_asg (de_op op_sub ok_sub (de_call G__law_pick (hr.mono (by decide)) (by rfl) m__law_pick k__law_pick b__law_pick (takes_of rfl rfl rfl rfl) (da_cons (de_var 1) (da_cons (de_op op_add4 ok_add de_int (de_var 3)) (da_cons de_int da_nil))) (by rfl) dDef_len) de_int) (dg_sub (set_dict (hu1 hr)) ok_setD (de_ix ix_seq ok_ix (de_var 2) de_int) (de_var 4)))) dss_nil))))) (dss_cons (ds_for [3, 4] (passes_of rfl) rfl (di_enum (by rfl) T.m_enumerate (da_cons (de_call G__law_names (hr.mono (by decide)) (by rfl) m__law_names k__law_names b__law_names (takes_of rfl rfl rfl rfl) (da_cons (de_var 1) (da_cons de_int da_nil)) (by rfl) dDef_len) da_nil)) (dg_t rfl (dgs_cons (dg_n 3 S.nd rfl (Or.inl rfl)) (dgs_cons (dg_n 4 S.nd rfl (Or.inl rfl)) dgs_nil))) (dss_cons (ds_asg (de_op op_mul4 ok_mul (de_op op_sub ok_sub (de_call G__law_pick (hr.mono (by decide)) (by rfl) m__law_pick k__law_pick b__law_pick (takes_of rfl rfl rfl rfl) (da_cons (de_var 1) (da_cons (de_op op_add4 ok_add de_int (de_var 3)) (da_cons de_int da_nil))) (by rfl) dDef_len) de_int) (de_op op_pow ok_pow de_int de_int)) (dg_sub (set_dict (hu1 hr)) ok_setD (de_ix ix_seq ok_ix (de_var 2) de_int) (de_var 4))) (dss_one (ds_asg (de_cmp (op_eqP (Room.units hr)) ok_eq (de_call G__law_pick (hr.mono (by decide)) (by rfl) m__law_pick k__law_pick b__law_pick (takes_of rfl rfl rfl rfl) (da_cons (de_var 1) (da_cons (de_op op_add4 ok_add de_int (de_var 3)) (da_cons de_int da_nil))) (by rfl) dDef_len) de_int) (dg_sub (set_dict (hu1 hr)) ok_setD (de_ix ix_seq ok_ix (de_var 2) de_int) (de_var 4)))))) (dss_cons (ds_set 5 S.nd rfl (Or.inl rfl) (de_call G__law_due (hr.mono (by decide)) (by rfl) m__law_due k__law_due b__law_due (takes_of rfl rfl rfl rfl) (da_cons (de_var 2) da_nil) (by rfl) dDef_len)) (dss_cons (ds_set 6 S.nd rfl (Or.inl rfl) (de_call G_make_world (hr.mono (by decide)) (by rfl) m_make_world k_make_world b_make_world (takes_of rfl rfl rfl rfl) (da_cons (de_ix ix_seq ok_ix (de_var 2) de_int) (da_cons (de_ix ix_seq ok_ix (de_var 2) de_int) (da_cons (de_ix ix_seq ok_ix (de_var 2) de_int) da_nil))) (by rfl) dDef_len)) (dss_cons (ds_if (PWd.pt (dw_or (dt_cmp (op_neP (Room.units hr)) ok_eq (de_var 6) (de_var 5)) (dw_or (dt_cmp (op_neP (Room.units hr)) ok_eq (de_call G__law_due (hr.mono (by decide)) (by rfl) m__law_due k__law_due b__law_due (takes_of rfl rfl rfl rfl) (da_cons (de_var 2) da_nil) (by rfl) dDef_len) (de_var 5)) (dw_or1 (dt_cmp op_isnot4 ok_isnot (de_call G_is_world (hr.mono (by decide)) (by rfl) m_is_world k_is_world b_is_world (takes_of rfl rfl rfl rfl) (da_cons (de_var 6) da_nil) (by rfl) dDef_len) de_bl))))) (dss_one (ds_ret de_bl)) dss_nil) (dss_cons (ds_set 7 S.nd rfl (Or.inl rfl) (de_call G__law_pick (hr.mono (by decide)) (by rfl) m__law_pick k__law_pick b__law_pick (takes_of rfl rfl rfl rfl) (da_cons (de_var 1) (da_cons de_int (da_cons de_int da_nil))) (by rfl) dDef_len)) (dss_cons (ds_set 8 S.nd rfl (Or.inl rfl) (de_bty (call_listD rfl) ok_listD (by rfl) T.m_list (by decide +kernel) (da_cons (de_ix ix_seq ok_ix (de_var 2) (de_var 7)) da_nil))) (dss_cons (ds_set 9 S.nd rfl (Or.inl rfl) (de_op op_add4 ok_add (de_op op_add4 ok_add de_str (de_op op_mulS ok_mulS de_str (de_call G__law_pick (hr.mono (by decide)) (by rfl) m__law_pick k__law_pick b__law_pick (takes_of rfl rfl rfl rfl) (da_cons (de_var 1) (da_cons de_int (da_cons de_int da_nil))) (by rfl) dDef_len))) de_str)) (dss_cons (ds_if (dt_cmp (op_inP (Room.units hr)) ok_in (de_var 9) (de_var 8)) (dss_one (ds_expr (de_bm PySem.F.plainAttrs_list PySem.F.slot_list_remove PySem.F.type_list_remove (mt_removeD (Room.units hr)) ok_removeD (de_var 8) (da_cons (de_var 9) da_nil)))) dss_nil) (dss_cons (ds_for [3] (passes_of rfl) rfl (di_rng1 (by rfl) T.m_range (da_cons de_int da_nil)) (dg_n 3 S.nd rfl (Or.inl rfl)) (dss_cons (ds_if (dt_not (dt_tru (de_call G__law_read (hr.mono (by decide)) (by rfl) m__law_read k__law_read b__law_read (takes_of rfl rfl rfl rfl) (da_cons (de_var 6) (da_cons (de_ix ix_seq ok_ix (de_var 2) (de_var 3)) (da_cons (de_var 3) da_nil))) (by rfl) dDef_len))) (dss_one (ds_ret de_bl)) dss_nil) (dss_one (ds_if (PWd.pt (dw_and (dt_cmp (op_dNotIn (hu1 hr)) ok_dIn (de_var 9) (de_ix ix_seq ok_ix (de_var 2) (de_var 3))) (dw_and1 (dt_not (dt_tru (de_call G__law_missing (hr.mono (by decide)) (by rfl) m__law_missing k__law_missing b__law_missing (takes_of rfl rfl rfl rfl) (da_cons (de_var 6) (da_cons (de_var 3) (da_cons (de_var 9) da_nil))) (by rfl) dDef_len)))))) (dss_one (ds_ret de_bl)) dss_nil)))) (dss_cons (ds_if (PWd.pt (dw_and (dt_cmp op_gt ok_rel (de_bi call_len4 ok_len (by rfl) T.m_len (by decide +kernel) (da_cons (de_var 8) da_nil)) de_int) (dw_and1 (dt_cmp (op_eqP (Room.units hr)) ok_eq (de_call G__law_pick (hr.mono (by decide)) (by rfl) m__law_pick k__law_pick b__law_pick (takes_of rfl rfl rfl rfl) (da_cons (de_var 1) (da_cons de_int (da_cons de_int da_nil))) (by rfl) dDef_len) de_int)))) (dss_one (ds_set 9 S.nd rfl (Or.inl rfl) (de_ix ix_seq ok_ix (de_var 8) (de_call G__law_pick (hr.mono (by decide)) (by rfl) m__law_pick k__law_pick b__law_pick (takes_of rfl rfl rfl rfl) (da_cons (de_var 1) (da_cons de_int (da_cons (de_bi call_len4 ok_len (by rfl) T.m_len (by decide +kernel) (da_cons (de_var 8) da_nil)) da_nil))) (by rfl) dDef_len)))) dss_nil) (dss_cons (ds_set 10 S.nd rfl (Or.inl rfl) (de_ix ix_seq ok_ix (de_lst (da_cons (de_call G__law_closed (hr.mono (by decide)) (by rfl) m__law_closed k__law_closed b__law_closed (takes_of rfl rfl rfl rfl) (da_cons (de_var 1) (da_cons de_int (da_cons (de_op op_pow ok_pow de_int de_int) da_nil))) (by rfl) dDef_len) (da_cons (de_call G__law_pick (hr.mono (by decide)) (by rfl) m__law_pick k__law_pick b__law_pick (takes_of rfl rfl rfl rfl) (da_cons (de_var 1) (da_cons de_int (da_cons de_int da_nil))) (by rfl) dDef_len) (da_cons (de_cmp (op_eqP (Room.units hr)) ok_eq (de_call G__law_pick (hr.mono (by decide)) (by rfl) m__law_pick k__law_pick b__law_pick (takes_of rfl rfl rfl rfl) (da_cons (de_var 1) (da_cons de_int (da_cons de_int da_nil))) (by rfl) dDef_len) de_int) da_nil)))) (de_var 7))) (dss_cons (ds_set 11 S.nd rfl (Or.inl rfl) (de_call G__law_set (hr.mono (by decide)) (by rfl) m__law_set k__law_set b__law_set (takes_of rfl rfl rfl rfl) (da_cons (de_var 6) (da_cons (de_var 7) (da_cons (de_var 9) (da_cons (de_var 10) da_nil)))) (by rfl) dDef_len)) (dss_cons (ds_asg (de_var 10) (dg_sub (set_dict (hu1 hr)) ok_setD (de_ix ix_seq ok_ix (de_var 2) (de_var 7)) (de_var 9))) (dss_cons (ds_if (PWd.pt (dw_or (dt_cmp (op_neP (Room.units hr)) ok_eq (de_var 11) (de_call G__law_due (hr.mono (by decide)) (by rfl) m__law_due k__law_due b__law_due (takes_of rfl rfl rfl rfl) (da_cons (de_var 2) da_nil) (by rfl) dDef_len)) (dw_or1 (dt_cmp (op_neP (Room.units hr)) ok_eq (de_var 6) (de_var 5))))) (dss_one (ds_ret de_bl)) dss_nil) (dss_cons (ds_set 12 S.nd rfl (Or.inl rfl) (de_tup (da_cons (de_tup (da_cons (de_call G__law_pick (hr.mono (by decide)) (by rfl) m__law_pick k__law_pick b__law_pick (takes_of rfl rfl rfl rfl) (da_cons (de_var 1) (da_cons de_int (da_cons de_int da_nil))) (by rfl) dDef_len) (da_cons de_int da_nil))) (da_cons (de_tup (da_cons (de_op op_sub ok_sub de_int (de_call G__law_pick (hr.mono (by decide)) (by rfl) m__law_pick k__law_pick b__law_pick (takes_of rfl rfl rfl rfl) (da_cons (de_var 1) (da_cons de_int (da_cons de_int da_nil))) (by rfl) dDef_len)) (da_cons de_int da_nil))) da_nil)))) (dss_cons (ds_set 13 S.nd rfl (Or.inl rfl) (de_call0 G__law_words (hr.mono (by decide)) (by rfl) m__law_words k__law_words b__law_words (takes_of rfl rfl rfl rfl) dDef_len)) (dss_cons (ds_set 14 S.nd rfl (Or.inl rfl) (de_ix ix_seq ok_ix (de_lst (da_cons de_str (da_cons de_str (da_cons de_str (da_cons de_str (da_cons de_str (da_cons (de_op op_mulS ok_mulS de_str de_int) (da_cons de_str (da_cons (de_ix ix_seq ok_ix (de_var 13) (de_call G__law_pick (hr.mono (by decide)) (by rfl) m__law_pick k__law_pick b__law_pick (takes_of rfl rfl rfl rfl) (da_cons (de_var 1) (da_cons de_int (da_cons (de_bi call_len4 ok_len (by rfl) T.m_len (by decide +kernel) (da_cons (de_var 13) da_nil)) da_nil))) (by rfl) dDef_len)) da_nil))))))))) (de_call G__law_pick (hr.mono (by decide)) (by rfl) m__law_pick k__law_pick b__law_pick (takes_of rfl rfl rfl rfl) (da_cons (de_var 1) (da_cons de_int (da_cons de_int da_nil))) (by rfl) dDef_len))) (dss_cons (ds_for [3] (passes_of rfl) rfl (di_rng1 (by rfl) T.m_range (da_cons de_int da_nil)) (dg_n 3 S.nd rfl (Or.inl rfl)) (dss_one (ds_if (PWd.pt (dw_or (dt_not (dt_tru (de_call G__law_refused (hr.mono (by decide)) (by rfl) m__law_refused k__law_refused b__law_refused (takes_of rfl rfl rfl rfl) (da_cons (de_var 2) (da_cons (de_var 3) (da_cons (de_var 14) (da_cons (de_tup da_nil) da_nil)))) (by rfl) dDef_len))) (dw_or1 (dt_not (dt_tru (de_call G__law_unset (hr.mono (by decide)) (by rfl) m__law_unset k__law_unset b__law_unset (takes_of rfl rfl rfl rfl) (da_cons (de_var 6) (da_cons (de_var 3) (da_cons (de_var 14) da_nil))) (by rfl) dDef_len)))))) (dss_one (ds_ret de_bl)) dss_nil))) (dss_cons (ds_if (dt_not (dt_tru (de_call G__law_refused (hr.mono (by decide)) (by rfl) m__law_refused k__law_refused b__law_refused (takes_of rfl rfl rfl rfl) (da_cons (de_var 2) (da_cons de_int (da_cons (de_op op_add4 ok_add de_str (de_op op_mulS ok_mulS de_str de_int)) (da_cons (de_var 12) da_nil)))) (by rfl) dDef_len))) (dss_one (ds_ret de_bl)) dss_nil) (dss_one (ds_ret (de_call G__law_spoilt (hr.mono (by decide)) (by rfl) m__law_spoilt k__law_spoilt b__law_spoilt (takes_of rfl rfl rfl rfl) (da_cons (de_var 6) (da_cons (de_var 7) (da_cons (de_op op_mulS ok_mulS de_str (de_op op_add4 ok_add de_int (de_call G__law_pick (hr.mono (by decide)) (by rfl) m__law_pick k__law_pick b__law_pick (takes_of rfl rfl rfl rfl) (da_cons (de_var 1) (da_cons de_int (da_cons de_int da_nil))) (by rfl) dDef_len))) (da_cons (de_var 12) da_nil)))) (by rfl) dDef_len))))))))))))))))))))))))))
end
theorem all_mk {l : PySem.W.OpenLaw} {w : World} {K : PySem.W.Frag} {h : Heap} {mg : Str → Option Value} {fa : Addr} (X : K.In h) (G : h.Ns mainGlobals mg) (hfa : mg "law" = some (.ref fa))
    {f__law_pick : Addr} {od__law_pick an__law_pick : Option Addr} {sl__law_pick : Array (Option Value)} {oc__law_pick kV__law_pick dc__law_pick pm__law_pick cd__law_pick ct__law_pick : Value}
    {f__law_closed : Addr} {od__law_closed an__law_closed : Option Addr} {sl__law_closed : Array (Option Value)} {oc__law_closed kV__law_closed dc__law_closed pm__law_closed cd__law_closed ct__law_closed : Value}
    {f__law_due : Addr} {od__law_due an__law_due : Option Addr} {sl__law_due : Array (Option Value)} {oc__law_due kV__law_due dc__law_due pm__law_due cd__law_due ct__law_due : Value}
    {f__found : Addr} {od__found an__found : Option Addr} {sl__found : Array (Option Value)} {oc__found kV__found dc__found pm__found cd__found ct__found : Value}
    {f_calendar_of : Addr} {od_calendar_of an_calendar_of : Option Addr} {sl_calendar_of : Array (Option Value)} {oc_calendar_of kV_calendar_of dc_calendar_of pm_calendar_of cd_calendar_of ct_calendar_of : Value}
    {f_day_of : Addr} {od_day_of an_day_of : Option Addr} {sl_day_of : Array (Option Value)} {oc_day_of kV_day_of dc_day_of pm_day_of cd_day_of ct_day_of : Value}
    {f_flag_of : Addr} {od_flag_of an_flag_of : Option Addr} {sl_flag_of : Array (Option Value)} {oc_flag_of kV_flag_of dc_flag_of pm_flag_of cd_flag_of ct_flag_of : Value}
    {f__law_missing : Addr} {od__law_missing an__law_missing : Option Addr} {sl__law_missing : Array (Option Value)} {oc__law_missing kV__law_missing dc__law_missing pm__law_missing cd__law_missing ct__law_missing : Value}
    {f__law_words : Addr} {od__law_words an__law_words : Option Addr} {sl__law_words : Array (Option Value)} {oc__law_words kV__law_words dc__law_words pm__law_words cd__law_words ct__law_words : Value}
    {f__law_word : Addr} {od__law_word an__law_word : Option Addr} {sl__law_word : Array (Option Value)} {oc__law_word kV__law_word dc__law_word pm__law_word cd__law_word ct__law_word : Value}
    {f__law_names : Addr} {od__law_names an__law_names : Option Addr} {sl__law_names : Array (Option Value)} {oc__law_names kV__law_names dc__law_names pm__law_names cd__law_names ct__law_names : Value}
    {f__law_read : Addr} {od__law_read an__law_read : Option Addr} {sl__law_read : Array (Option Value)} {oc__law_read kV__law_read dc__law_read pm__law_read cd__law_read ct__law_read : Value}
    {f_is_name : Addr} {od_is_name an_is_name : Option Addr} {sl_is_name : Array (Option Value)} {oc_is_name kV_is_name dc_is_name pm_is_name cd_is_name ct_is_name : Value}
    {f__check_names : Addr} {od__check_names an__check_names : Option Addr} {sl__check_names : Array (Option Value)} {oc__check_names kV__check_names dc__check_names pm__check_names cd__check_names ct__check_names : Value}
    {f_is_closed_days : Addr} {od_is_closed_days an_is_closed_days : Option Addr} {sl_is_closed_days : Array (Option Value)} {oc_is_closed_days kV_is_closed_days dc_is_closed_days pm_is_closed_days cd_is_closed_days ct_is_closed_days : Value}
    {f_make_world : Addr} {od_make_world an_make_world : Option Addr} {sl_make_world : Array (Option Value)} {oc_make_world kV_make_world dc_make_world pm_make_world cd_make_world ct_make_world : Value}
    {f__law_refused : Addr} {od__law_refused an__law_refused : Option Addr} {sl__law_refused : Array (Option Value)} {oc__law_refused kV__law_refused dc__law_refused pm__law_refused cd__law_refused ct__law_refused : Value}
    {f__changed : Addr} {od__changed an__changed : Option Addr} {sl__changed : Array (Option Value)} {oc__changed kV__changed dc__changed pm__changed cd__changed ct__changed : Value}
    {f_set_calendar : Addr} {od_set_calendar an_set_calendar : Option Addr} {sl_set_calendar : Array (Option Value)} {oc_set_calendar kV_set_calendar dc_set_calendar pm_set_calendar cd_set_calendar ct_set_calendar : Value}
    {f_set_day : Addr} {od_set_day an_set_day : Option Addr} {sl_set_day : Array (Option Value)} {oc_set_day kV_set_day dc_set_day pm_set_day cd_set_day ct_set_day : Value}
    {f_set_flag : Addr} {od_set_flag an_set_flag : Option Addr} {sl_set_flag : Array (Option Value)} {oc_set_flag kV_set_flag dc_set_flag pm_set_flag cd_set_flag ct_set_flag : Value}
    {f__law_set : Addr} {od__law_set an__law_set : Option Addr} {sl__law_set : Array (Option Value)} {oc__law_set kV__law_set dc__law_set pm__law_set cd__law_set ct__law_set : Value}
    {f__names_rise : Addr} {od__names_rise an__names_rise : Option Addr} {sl__names_rise : Array (Option Value)} {oc__names_rise kV__names_rise dc__names_rise pm__names_rise cd__names_rise ct__names_rise : Value}
    {f_is_world : Addr} {od_is_world an_is_world : Option Addr} {sl_is_world : Array (Option Value)} {oc_is_world kV_is_world dc_is_world pm_is_world cd_is_world ct_is_world : Value}
    {f__law_spoilt : Addr} {od__law_spoilt an__law_spoilt : Option Addr} {sl__law_spoilt : Array (Option Value)} {oc__law_spoilt kV__law_spoilt dc__law_spoilt pm__law_spoilt cd__law_spoilt ct__law_spoilt : Value}
    {f__law_stream : Addr} {od__law_stream an__law_stream : Option Addr} {sl__law_stream : Array (Option Value)} {oc__law_stream kV__law_stream dc__law_stream pm__law_stream cd__law_stream ct__law_stream : Value}
    {f__law_unset : Addr} {od__law_unset an__law_unset : Option Addr} {sl__law_unset : Array (Option Value)} {oc__law_unset kV__law_unset dc__law_unset pm__law_unset cd__law_unset ct__law_unset : Value}
    {f_law : Addr} {od_law an_law : Option Addr} {sl_law : Array (Option Value)} {oc_law kV_law dc_law pm_law cd_law ct_law : Value}
    {a_DiesError : Addr}
    {a_NotAllowed : Addr}
    {a_TooLarge : Addr}
    {a_Never : Addr}
    {a_Missing : Addr}
    {nm_Missing q_Missing : Str} {N_Missing : Addr} {bs_Missing sub_Missing : List Value} {sn_Missing : List Str} {ab_Missing : Bool} {col_Missing : Option Bool} {dd_Missing : Option Addr} {m0_Missing m1_Missing m2_Missing m3_Missing m5_Missing : Option Value}
    {fi_Missing : Addr} {odi_Missing ani_Missing : Option Addr} {sli_Missing : Array (Option Value)} {oci_Missing kVi_Missing dci_Missing pmi_Missing cdi_Missing cti_Missing : Value}
    {t_MAX_NAME : Tok}
    {t_REST : Tok}
    {t_SMALL : Tok}
    {at_WORDS : Addr} {od_WORDS : Option Addr} {k_WORDS : Nat} {sl_WORDS : Array (Option Value)} {t_WORDS_0 t_WORDS_1 t_WORDS_2 t_WORDS_3 t_WORDS_4 t_WORDS_5 t_WORDS_6 t_WORDS_7 t_WORDS_8 t_WORDS_9 t_WORDS_10 t_WORDS_11 t_WORDS_12 t_WORDS_13 t_WORDS_14 t_WORDS_15 t_WORDS_16 t_WORDS_17 t_WORDS_18 t_WORDS_19 t_WORDS_20 t_WORDS_21 t_WORDS_22 t_WORDS_23 t_WORDS_24 t_WORDS_25 t_WORDS_26 t_WORDS_27 : Tok}
    (a__law_pick : PySem.W.nsIn K mainGlobals "_law_pick" = some (some (.ref f__law_pick)))
    (l__law_pick : K.lookup f__law_pick = some ⟨oc__law_pick, od__law_pick, .func (PySem.W.fnOf "_law_pick" "_law_pick" (defArgs s__law_pick) (defBody s__law_pick) (defScope s__law_pick) .none kV__law_pick dc__law_pick pm__law_pick an__law_pick cd__law_pick ct__law_pick), sl__law_pick⟩)
    (c__law_pick : PySem.W.codeIn K cd__law_pick "_law_pick" = true)
    (k__law_pick : PySem.W.keepIn K (.ref f__law_pick) = true)
    (a__law_closed : PySem.W.nsIn K mainGlobals "_law_closed" = some (some (.ref f__law_closed)))
    (l__law_closed : K.lookup f__law_closed = some ⟨oc__law_closed, od__law_closed, .func (PySem.W.fnOf "_law_closed" "_law_closed" (defArgs s__law_closed) (defBody s__law_closed) (defScope s__law_closed) .none kV__law_closed dc__law_closed pm__law_closed an__law_closed cd__law_closed ct__law_closed), sl__law_closed⟩)
    (c__law_closed : PySem.W.codeIn K cd__law_closed "_law_closed" = true)
    (k__law_closed : PySem.W.keepIn K (.ref f__law_closed) = true)
    (a__law_due : PySem.W.nsIn K mainGlobals "_law_due" = some (some (.ref f__law_due)))
    (l__law_due : K.lookup f__law_due = some ⟨oc__law_due, od__law_due, .func (PySem.W.fnOf "_law_due" "_law_due" (defArgs s__law_due) (defBody s__law_due) (defScope s__law_due) .none kV__law_due dc__law_due pm__law_due an__law_due cd__law_due ct__law_due), sl__law_due⟩)
    (c__law_due : PySem.W.codeIn K cd__law_due "_law_due" = true)
    (k__law_due : PySem.W.keepIn K (.ref f__law_due) = true)
    (a__found : PySem.W.nsIn K mainGlobals "_found" = some (some (.ref f__found)))
    (l__found : K.lookup f__found = some ⟨oc__found, od__found, .func (PySem.W.fnOf "_found" "_found" (defArgs s__found) (defBody s__found) (defScope s__found) .none kV__found dc__found pm__found an__found cd__found ct__found), sl__found⟩)
    (c__found : PySem.W.codeIn K cd__found "_found" = true)
    (k__found : PySem.W.keepIn K (.ref f__found) = true)
    (a_calendar_of : PySem.W.nsIn K mainGlobals "calendar_of" = some (some (.ref f_calendar_of)))
    (l_calendar_of : K.lookup f_calendar_of = some ⟨oc_calendar_of, od_calendar_of, .func (PySem.W.fnOf "calendar_of" "calendar_of" (defArgs s_calendar_of) (defBody s_calendar_of) (defScope s_calendar_of) .none kV_calendar_of dc_calendar_of pm_calendar_of an_calendar_of cd_calendar_of ct_calendar_of), sl_calendar_of⟩)
    (c_calendar_of : PySem.W.codeIn K cd_calendar_of "calendar_of" = true)
    (k_calendar_of : PySem.W.keepIn K (.ref f_calendar_of) = true)
    (a_day_of : PySem.W.nsIn K mainGlobals "day_of" = some (some (.ref f_day_of)))
    (l_day_of : K.lookup f_day_of = some ⟨oc_day_of, od_day_of, .func (PySem.W.fnOf "day_of" "day_of" (defArgs s_day_of) (defBody s_day_of) (defScope s_day_of) .none kV_day_of dc_day_of pm_day_of an_day_of cd_day_of ct_day_of), sl_day_of⟩)
    (c_day_of : PySem.W.codeIn K cd_day_of "day_of" = true)
    (k_day_of : PySem.W.keepIn K (.ref f_day_of) = true)
    (a_flag_of : PySem.W.nsIn K mainGlobals "flag_of" = some (some (.ref f_flag_of)))
    (l_flag_of : K.lookup f_flag_of = some ⟨oc_flag_of, od_flag_of, .func (PySem.W.fnOf "flag_of" "flag_of" (defArgs s_flag_of) (defBody s_flag_of) (defScope s_flag_of) .none kV_flag_of dc_flag_of pm_flag_of an_flag_of cd_flag_of ct_flag_of), sl_flag_of⟩)
    (c_flag_of : PySem.W.codeIn K cd_flag_of "flag_of" = true)
    (k_flag_of : PySem.W.keepIn K (.ref f_flag_of) = true)
    (a__law_missing : PySem.W.nsIn K mainGlobals "_law_missing" = some (some (.ref f__law_missing)))
    (l__law_missing : K.lookup f__law_missing = some ⟨oc__law_missing, od__law_missing, .func (PySem.W.fnOf "_law_missing" "_law_missing" (defArgs s__law_missing) (defBody s__law_missing) (defScope s__law_missing) .none kV__law_missing dc__law_missing pm__law_missing an__law_missing cd__law_missing ct__law_missing), sl__law_missing⟩)
    (c__law_missing : PySem.W.codeIn K cd__law_missing "_law_missing" = true)
    (k__law_missing : PySem.W.keepIn K (.ref f__law_missing) = true)
    (a__law_words : PySem.W.nsIn K mainGlobals "_law_words" = some (some (.ref f__law_words)))
    (l__law_words : K.lookup f__law_words = some ⟨oc__law_words, od__law_words, .func (PySem.W.fnOf "_law_words" "_law_words" (defArgs s__law_words) (defBody s__law_words) (defScope s__law_words) .none kV__law_words dc__law_words pm__law_words an__law_words cd__law_words ct__law_words), sl__law_words⟩)
    (c__law_words : PySem.W.codeIn K cd__law_words "_law_words" = true)
    (k__law_words : PySem.W.keepIn K (.ref f__law_words) = true)
    (a__law_word : PySem.W.nsIn K mainGlobals "_law_word" = some (some (.ref f__law_word)))
    (l__law_word : K.lookup f__law_word = some ⟨oc__law_word, od__law_word, .func (PySem.W.fnOf "_law_word" "_law_word" (defArgs s__law_word) (defBody s__law_word) (defScope s__law_word) .none kV__law_word dc__law_word pm__law_word an__law_word cd__law_word ct__law_word), sl__law_word⟩)
    (c__law_word : PySem.W.codeIn K cd__law_word "_law_word" = true)
    (k__law_word : PySem.W.keepIn K (.ref f__law_word) = true)
    (a__law_names : PySem.W.nsIn K mainGlobals "_law_names" = some (some (.ref f__law_names)))
    (l__law_names : K.lookup f__law_names = some ⟨oc__law_names, od__law_names, .func (PySem.W.fnOf "_law_names" "_law_names" (defArgs s__law_names) (defBody s__law_names) (defScope s__law_names) .none kV__law_names dc__law_names pm__law_names an__law_names cd__law_names ct__law_names), sl__law_names⟩)
    (c__law_names : PySem.W.codeIn K cd__law_names "_law_names" = true)
    (k__law_names : PySem.W.keepIn K (.ref f__law_names) = true)
    (a__law_read : PySem.W.nsIn K mainGlobals "_law_read" = some (some (.ref f__law_read)))
    (l__law_read : K.lookup f__law_read = some ⟨oc__law_read, od__law_read, .func (PySem.W.fnOf "_law_read" "_law_read" (defArgs s__law_read) (defBody s__law_read) (defScope s__law_read) .none kV__law_read dc__law_read pm__law_read an__law_read cd__law_read ct__law_read), sl__law_read⟩)
    (c__law_read : PySem.W.codeIn K cd__law_read "_law_read" = true)
    (k__law_read : PySem.W.keepIn K (.ref f__law_read) = true)
    (a_is_name : PySem.W.nsIn K mainGlobals "is_name" = some (some (.ref f_is_name)))
    (l_is_name : K.lookup f_is_name = some ⟨oc_is_name, od_is_name, .func (PySem.W.fnOf "is_name" "is_name" (defArgs s_is_name) (defBody s_is_name) (defScope s_is_name) .none kV_is_name dc_is_name pm_is_name an_is_name cd_is_name ct_is_name), sl_is_name⟩)
    (c_is_name : PySem.W.codeIn K cd_is_name "is_name" = true)
    (k_is_name : PySem.W.keepIn K (.ref f_is_name) = true)
    (a__check_names : PySem.W.nsIn K mainGlobals "_check_names" = some (some (.ref f__check_names)))
    (l__check_names : K.lookup f__check_names = some ⟨oc__check_names, od__check_names, .func (PySem.W.fnOf "_check_names" "_check_names" (defArgs s__check_names) (defBody s__check_names) (defScope s__check_names) .none kV__check_names dc__check_names pm__check_names an__check_names cd__check_names ct__check_names), sl__check_names⟩)
    (c__check_names : PySem.W.codeIn K cd__check_names "_check_names" = true)
    (k__check_names : PySem.W.keepIn K (.ref f__check_names) = true)
    (a_is_closed_days : PySem.W.nsIn K mainGlobals "is_closed_days" = some (some (.ref f_is_closed_days)))
    (l_is_closed_days : K.lookup f_is_closed_days = some ⟨oc_is_closed_days, od_is_closed_days, .func (PySem.W.fnOf "is_closed_days" "is_closed_days" (defArgs s_is_closed_days) (defBody s_is_closed_days) (defScope s_is_closed_days) .none kV_is_closed_days dc_is_closed_days pm_is_closed_days an_is_closed_days cd_is_closed_days ct_is_closed_days), sl_is_closed_days⟩)
    (c_is_closed_days : PySem.W.codeIn K cd_is_closed_days "is_closed_days" = true)
    (k_is_closed_days : PySem.W.keepIn K (.ref f_is_closed_days) = true)
    (a_make_world : PySem.W.nsIn K mainGlobals "make_world" = some (some (.ref f_make_world)))
    (l_make_world : K.lookup f_make_world = some ⟨oc_make_world, od_make_world, .func (PySem.W.fnOf "make_world" "make_world" (defArgs s_make_world) (defBody s_make_world) (defScope s_make_world) .none kV_make_world dc_make_world pm_make_world an_make_world cd_make_world ct_make_world), sl_make_world⟩)
    (c_make_world : PySem.W.codeIn K cd_make_world "make_world" = true)
    (k_make_world : PySem.W.keepIn K (.ref f_make_world) = true)
    (a__law_refused : PySem.W.nsIn K mainGlobals "_law_refused" = some (some (.ref f__law_refused)))
    (l__law_refused : K.lookup f__law_refused = some ⟨oc__law_refused, od__law_refused, .func (PySem.W.fnOf "_law_refused" "_law_refused" (defArgs s__law_refused) (defBody s__law_refused) (defScope s__law_refused) .none kV__law_refused dc__law_refused pm__law_refused an__law_refused cd__law_refused ct__law_refused), sl__law_refused⟩)
    (c__law_refused : PySem.W.codeIn K cd__law_refused "_law_refused" = true)
    (k__law_refused : PySem.W.keepIn K (.ref f__law_refused) = true)
    (a__changed : PySem.W.nsIn K mainGlobals "_changed" = some (some (.ref f__changed)))
    (l__changed : K.lookup f__changed = some ⟨oc__changed, od__changed, .func (PySem.W.fnOf "_changed" "_changed" (defArgs s__changed) (defBody s__changed) (defScope s__changed) .none kV__changed dc__changed pm__changed an__changed cd__changed ct__changed), sl__changed⟩)
    (c__changed : PySem.W.codeIn K cd__changed "_changed" = true)
    (k__changed : PySem.W.keepIn K (.ref f__changed) = true)
    (a_set_calendar : PySem.W.nsIn K mainGlobals "set_calendar" = some (some (.ref f_set_calendar)))
    (l_set_calendar : K.lookup f_set_calendar = some ⟨oc_set_calendar, od_set_calendar, .func (PySem.W.fnOf "set_calendar" "set_calendar" (defArgs s_set_calendar) (defBody s_set_calendar) (defScope s_set_calendar) .none kV_set_calendar dc_set_calendar pm_set_calendar an_set_calendar cd_set_calendar ct_set_calendar), sl_set_calendar⟩)
    (c_set_calendar : PySem.W.codeIn K cd_set_calendar "set_calendar" = true)
    (k_set_calendar : PySem.W.keepIn K (.ref f_set_calendar) = true)
    (a_set_day : PySem.W.nsIn K mainGlobals "set_day" = some (some (.ref f_set_day)))
    (l_set_day : K.lookup f_set_day = some ⟨oc_set_day, od_set_day, .func (PySem.W.fnOf "set_day" "set_day" (defArgs s_set_day) (defBody s_set_day) (defScope s_set_day) .none kV_set_day dc_set_day pm_set_day an_set_day cd_set_day ct_set_day), sl_set_day⟩)
    (c_set_day : PySem.W.codeIn K cd_set_day "set_day" = true)
    (k_set_day : PySem.W.keepIn K (.ref f_set_day) = true)
    (a_set_flag : PySem.W.nsIn K mainGlobals "set_flag" = some (some (.ref f_set_flag)))
    (l_set_flag : K.lookup f_set_flag = some ⟨oc_set_flag, od_set_flag, .func (PySem.W.fnOf "set_flag" "set_flag" (defArgs s_set_flag) (defBody s_set_flag) (defScope s_set_flag) .none kV_set_flag dc_set_flag pm_set_flag an_set_flag cd_set_flag ct_set_flag), sl_set_flag⟩)
    (c_set_flag : PySem.W.codeIn K cd_set_flag "set_flag" = true)
    (k_set_flag : PySem.W.keepIn K (.ref f_set_flag) = true)
    (a__law_set : PySem.W.nsIn K mainGlobals "_law_set" = some (some (.ref f__law_set)))
    (l__law_set : K.lookup f__law_set = some ⟨oc__law_set, od__law_set, .func (PySem.W.fnOf "_law_set" "_law_set" (defArgs s__law_set) (defBody s__law_set) (defScope s__law_set) .none kV__law_set dc__law_set pm__law_set an__law_set cd__law_set ct__law_set), sl__law_set⟩)
    (c__law_set : PySem.W.codeIn K cd__law_set "_law_set" = true)
    (k__law_set : PySem.W.keepIn K (.ref f__law_set) = true)
    (a__names_rise : PySem.W.nsIn K mainGlobals "_names_rise" = some (some (.ref f__names_rise)))
    (l__names_rise : K.lookup f__names_rise = some ⟨oc__names_rise, od__names_rise, .func (PySem.W.fnOf "_names_rise" "_names_rise" (defArgs s__names_rise) (defBody s__names_rise) (defScope s__names_rise) .none kV__names_rise dc__names_rise pm__names_rise an__names_rise cd__names_rise ct__names_rise), sl__names_rise⟩)
    (c__names_rise : PySem.W.codeIn K cd__names_rise "_names_rise" = true)
    (k__names_rise : PySem.W.keepIn K (.ref f__names_rise) = true)
    (a_is_world : PySem.W.nsIn K mainGlobals "is_world" = some (some (.ref f_is_world)))
    (l_is_world : K.lookup f_is_world = some ⟨oc_is_world, od_is_world, .func (PySem.W.fnOf "is_world" "is_world" (defArgs s_is_world) (defBody s_is_world) (defScope s_is_world) .none kV_is_world dc_is_world pm_is_world an_is_world cd_is_world ct_is_world), sl_is_world⟩)
    (c_is_world : PySem.W.codeIn K cd_is_world "is_world" = true)
    (k_is_world : PySem.W.keepIn K (.ref f_is_world) = true)
    (a__law_spoilt : PySem.W.nsIn K mainGlobals "_law_spoilt" = some (some (.ref f__law_spoilt)))
    (l__law_spoilt : K.lookup f__law_spoilt = some ⟨oc__law_spoilt, od__law_spoilt, .func (PySem.W.fnOf "_law_spoilt" "_law_spoilt" (defArgs s__law_spoilt) (defBody s__law_spoilt) (defScope s__law_spoilt) .none kV__law_spoilt dc__law_spoilt pm__law_spoilt an__law_spoilt cd__law_spoilt ct__law_spoilt), sl__law_spoilt⟩)
    (c__law_spoilt : PySem.W.codeIn K cd__law_spoilt "_law_spoilt" = true)
    (k__law_spoilt : PySem.W.keepIn K (.ref f__law_spoilt) = true)
    (a__law_stream : PySem.W.nsIn K mainGlobals "_law_stream" = some (some (.ref f__law_stream)))
    (l__law_stream : K.lookup f__law_stream = some ⟨oc__law_stream, od__law_stream, .func (PySem.W.fnOf "_law_stream" "_law_stream" (defArgs s__law_stream) (defBody s__law_stream) (defScope s__law_stream) .none kV__law_stream dc__law_stream pm__law_stream an__law_stream cd__law_stream ct__law_stream), sl__law_stream⟩)
    (c__law_stream : PySem.W.codeIn K cd__law_stream "_law_stream" = true)
    (k__law_stream : PySem.W.keepIn K (.ref f__law_stream) = true)
    (a__law_unset : PySem.W.nsIn K mainGlobals "_law_unset" = some (some (.ref f__law_unset)))
    (l__law_unset : K.lookup f__law_unset = some ⟨oc__law_unset, od__law_unset, .func (PySem.W.fnOf "_law_unset" "_law_unset" (defArgs s__law_unset) (defBody s__law_unset) (defScope s__law_unset) .none kV__law_unset dc__law_unset pm__law_unset an__law_unset cd__law_unset ct__law_unset), sl__law_unset⟩)
    (c__law_unset : PySem.W.codeIn K cd__law_unset "_law_unset" = true)
    (k__law_unset : PySem.W.keepIn K (.ref f__law_unset) = true)
    (a_law : PySem.W.nsIn K mainGlobals "law" = some (some (.ref f_law)))
    (l_law : K.lookup f_law = some ⟨oc_law, od_law, .func (PySem.W.fnOf "law" "law" (defArgs s_law) (defBody s_law) (defScope s_law) .none kV_law dc_law pm_law an_law cd_law ct_law), sl_law⟩)
    (c_law : PySem.W.codeIn K cd_law "law" = true)
    (k_law : PySem.W.keepIn K (.ref f_law) = true)
    (xa_DiesError : PySem.W.nsIn K mainGlobals "DiesError" = some (some (.ref a_DiesError)))
    (xk_DiesError : PySem.W.keepIn K (.ref a_DiesError) = true)
    (xb_DiesError : PySem.W.subIn K (.ref a_DiesError) (.type "BaseException") = some true)
    (xt_DiesError : PySem.W.typeIn K (.ref a_DiesError) = some (.type "type"))
    (xd_DiesError : PySem.W.hasDictIn K a_DiesError = true)
    (xe_DiesError : PySem.W.excIn K a_DiesError [.type "ValueError", .type "Exception", .type "BaseException", .type "object"] "ValueError.__new__" = true)
    (y1_DiesError : PySem.W.findIn K (.ref a_DiesError) "__getattribute__" = some (some (.builtin "BaseException.__getattribute__")))
    (y2_DiesError : PySem.W.findIn K (.ref a_DiesError) "__getattr__" = some none)
    (y3_DiesError : PySem.W.findIn K (.ref a_DiesError) "__class__" = some (some (.builtin "object.__class__")))
    (y4_DiesError : PySem.W.mroIn K a_DiesError (.type "object") = some true)
    (xa_NotAllowed : PySem.W.nsIn K mainGlobals "NotAllowed" = some (some (.ref a_NotAllowed)))
    (xk_NotAllowed : PySem.W.keepIn K (.ref a_NotAllowed) = true)
    (xb_NotAllowed : PySem.W.subIn K (.ref a_NotAllowed) (.type "BaseException") = some true)
    (xt_NotAllowed : PySem.W.typeIn K (.ref a_NotAllowed) = some (.type "type"))
    (xd_NotAllowed : PySem.W.hasDictIn K a_NotAllowed = true)
    (xe_NotAllowed : PySem.W.excIn K a_NotAllowed [.type "ValueError", .type "Exception", .type "BaseException", .type "object"] "ValueError.__new__" = true)
    (y1_NotAllowed : PySem.W.findIn K (.ref a_NotAllowed) "__getattribute__" = some (some (.builtin "BaseException.__getattribute__")))
    (y2_NotAllowed : PySem.W.findIn K (.ref a_NotAllowed) "__getattr__" = some none)
    (y3_NotAllowed : PySem.W.findIn K (.ref a_NotAllowed) "__class__" = some (some (.builtin "object.__class__")))
    (y4_NotAllowed : PySem.W.mroIn K a_NotAllowed (.type "object") = some true)
    (xa_TooLarge : PySem.W.nsIn K mainGlobals "TooLarge" = some (some (.ref a_TooLarge)))
    (xk_TooLarge : PySem.W.keepIn K (.ref a_TooLarge) = true)
    (xb_TooLarge : PySem.W.subIn K (.ref a_TooLarge) (.type "BaseException") = some true)
    (xt_TooLarge : PySem.W.typeIn K (.ref a_TooLarge) = some (.type "type"))
    (xd_TooLarge : PySem.W.hasDictIn K a_TooLarge = true)
    (xe_TooLarge : PySem.W.excIn K a_TooLarge [.type "ValueError", .type "Exception", .type "BaseException", .type "object"] "ValueError.__new__" = true)
    (y1_TooLarge : PySem.W.findIn K (.ref a_TooLarge) "__getattribute__" = some (some (.builtin "BaseException.__getattribute__")))
    (y2_TooLarge : PySem.W.findIn K (.ref a_TooLarge) "__getattr__" = some none)
    (y3_TooLarge : PySem.W.findIn K (.ref a_TooLarge) "__class__" = some (some (.builtin "object.__class__")))
    (y4_TooLarge : PySem.W.mroIn K a_TooLarge (.type "object") = some true)
    (xa_Never : PySem.W.nsIn K mainGlobals "Never" = some (some (.ref a_Never)))
    (xk_Never : PySem.W.keepIn K (.ref a_Never) = true)
    (xb_Never : PySem.W.subIn K (.ref a_Never) (.type "BaseException") = some true)
    (xt_Never : PySem.W.typeIn K (.ref a_Never) = some (.type "type"))
    (xd_Never : PySem.W.hasDictIn K a_Never = true)
    (xe_Never : PySem.W.excIn K a_Never [.type "ValueError", .type "Exception", .type "BaseException", .type "object"] "ValueError.__new__" = true)
    (y1_Never : PySem.W.findIn K (.ref a_Never) "__getattribute__" = some (some (.builtin "BaseException.__getattribute__")))
    (y2_Never : PySem.W.findIn K (.ref a_Never) "__getattr__" = some none)
    (y3_Never : PySem.W.findIn K (.ref a_Never) "__class__" = some (some (.builtin "object.__class__")))
    (y4_Never : PySem.W.mroIn K a_Never (.type "object") = some true)
    (xa_Missing : PySem.W.nsIn K mainGlobals "Missing" = some (some (.ref a_Missing)))
    (xk_Missing : PySem.W.keepIn K (.ref a_Missing) = true)
    (xb_Missing : PySem.W.subIn K (.ref a_Missing) (.type "BaseException") = some true)
    (xt_Missing : PySem.W.typeIn K (.ref a_Missing) = some (.type "type"))
    (xd_Missing : PySem.W.hasDictIn K a_Missing = true)
    (y1_Missing : PySem.W.findIn K (.ref a_Missing) "__getattribute__" = some (some (.builtin "BaseException.__getattribute__")))
    (y2_Missing : PySem.W.findIn K (.ref a_Missing) "__getattr__" = some none)
    (y3_Missing : PySem.W.findIn K (.ref a_Missing) "__class__" = some (some (.builtin "object.__class__")))
    (y4_Missing : PySem.W.mroIn K a_Missing (.type "object") = some true)
    (nf_Missing : PySem.W.findIn K (.ref a_Missing) "name" = some none)
    (xL_Missing : K.lookup a_Missing = some (excClassObj nm_Missing q_Missing a_Missing N_Missing bs_Missing [.ref a_DiesError, .type "ValueError", .type "Exception", .type "BaseException", .type "object"] true sn_Missing sub_Missing ab_Missing col_Missing dd_Missing m0_Missing m1_Missing m2_Missing m3_Missing m5_Missing "ValueError.__new__"))
    (xsa_Missing : PySem.W.findIn K (.ref a_Missing) "__setattr__" = some (some (.builtin "object.__setattr__")))
    (xI_Missing : PySem.W.findIn K (.ref a_Missing) "__init__" = some (some (.ref fi_Missing)))
    (xT_Missing : PySem.W.typeIn K (.ref fi_Missing) = some (.type "function"))
    (li_Missing : K.lookup fi_Missing = some ⟨oci_Missing, odi_Missing, .func (PySem.W.fnOf "__init__" "Missing.__init__" (defArgs s_xi_Missing) (defBody s_xi_Missing) (defScope s_xi_Missing) .none kVi_Missing dci_Missing pmi_Missing ani_Missing cdi_Missing cti_Missing), sli_Missing⟩)
    (ci_Missing : PySem.W.codeIn K cdi_Missing "Missing.__init__" = true)
    (ki_Missing : PySem.W.keepIn K (.ref fi_Missing) = true)
    (z1 : PySem.W.specialIn K (.builtin "object.__class__") "__get__" = some (some (.builtin "getset_descriptor.__get__")))
    (z2 : PySem.W.takesIn K (.builtin "object.__class__") = some true)
    (u_DiesError_DiesError : PySem.W.subIn K (.ref a_DiesError) (.ref a_DiesError) = some true)
    (u_DiesError_Missing : PySem.W.subIn K (.ref a_DiesError) (.ref a_Missing) = some false)
    (u_DiesError_Never : PySem.W.subIn K (.ref a_DiesError) (.ref a_Never) = some false)
    (u_DiesError_NotAllowed : PySem.W.subIn K (.ref a_DiesError) (.ref a_NotAllowed) = some false)
    (u_DiesError_TooLarge : PySem.W.subIn K (.ref a_DiesError) (.ref a_TooLarge) = some false)
    (u_Missing_DiesError : PySem.W.subIn K (.ref a_Missing) (.ref a_DiesError) = some true)
    (u_Missing_Missing : PySem.W.subIn K (.ref a_Missing) (.ref a_Missing) = some true)
    (u_Missing_Never : PySem.W.subIn K (.ref a_Missing) (.ref a_Never) = some false)
    (u_Missing_NotAllowed : PySem.W.subIn K (.ref a_Missing) (.ref a_NotAllowed) = some false)
    (u_Missing_TooLarge : PySem.W.subIn K (.ref a_Missing) (.ref a_TooLarge) = some false)
    (u_Never_DiesError : PySem.W.subIn K (.ref a_Never) (.ref a_DiesError) = some true)
    (u_Never_Missing : PySem.W.subIn K (.ref a_Never) (.ref a_Missing) = some false)
    (u_Never_Never : PySem.W.subIn K (.ref a_Never) (.ref a_Never) = some true)
    (u_Never_NotAllowed : PySem.W.subIn K (.ref a_Never) (.ref a_NotAllowed) = some false)
    (u_Never_TooLarge : PySem.W.subIn K (.ref a_Never) (.ref a_TooLarge) = some false)
    (u_NotAllowed_DiesError : PySem.W.subIn K (.ref a_NotAllowed) (.ref a_DiesError) = some true)
    (u_NotAllowed_Missing : PySem.W.subIn K (.ref a_NotAllowed) (.ref a_Missing) = some false)
    (u_NotAllowed_Never : PySem.W.subIn K (.ref a_NotAllowed) (.ref a_Never) = some false)
    (u_NotAllowed_NotAllowed : PySem.W.subIn K (.ref a_NotAllowed) (.ref a_NotAllowed) = some true)
    (u_NotAllowed_TooLarge : PySem.W.subIn K (.ref a_NotAllowed) (.ref a_TooLarge) = some false)
    (u_TooLarge_DiesError : PySem.W.subIn K (.ref a_TooLarge) (.ref a_DiesError) = some true)
    (u_TooLarge_Missing : PySem.W.subIn K (.ref a_TooLarge) (.ref a_Missing) = some false)
    (u_TooLarge_Never : PySem.W.subIn K (.ref a_TooLarge) (.ref a_Never) = some false)
    (u_TooLarge_NotAllowed : PySem.W.subIn K (.ref a_TooLarge) (.ref a_NotAllowed) = some false)
    (u_TooLarge_TooLarge : PySem.W.subIn K (.ref a_TooLarge) (.ref a_TooLarge) = some true)
    (g_MAX_NAME : PySem.W.nsIn K mainGlobals "MAX_NAME" = some (some (.int 20 t_MAX_NAME)))
    (g_REST : PySem.W.nsIn K mainGlobals "REST" = some (some (.str "abcdefghijklmnopqrstuvwxyz0123456789" t_REST)))
    (g_SMALL : PySem.W.nsIn K mainGlobals "SMALL" = some (some (.str "abcdefghijklmnopqrstuvwxyz" t_SMALL)))
    (g_WORDS : PySem.W.nsIn K mainGlobals "WORDS" = some (some (.ref at_WORDS)))
    (gl_WORDS : K.lookup at_WORDS = some ⟨.type "tuple", od_WORDS, .seq #[.str "next" t_WORDS_0, .str "prev" t_WORDS_1, .str "open" t_WORDS_2, .str "later" t_WORDS_3, .str "earlier" t_WORDS_4, .str "if" t_WORDS_5, .str "is" t_WORDS_6, .str "not" t_WORDS_7, .str "and" t_WORDS_8, .str "or" t_WORDS_9, .str "yes" t_WORDS_10, .str "calendar" t_WORDS_11, .str "run" t_WORDS_12, .str "within" t_WORDS_13, .str "known" t_WORDS_14, .str "to" t_WORDS_15, .str "closed" t_WORDS_16, .str "assume" t_WORDS_17, .str "claim" t_WORDS_18, .str "event" t_WORDS_19, .str "rule" t_WORDS_20, .str "on" t_WORDS_21, .str "when" t_WORDS_22, .str "due" t_WORDS_23, .str "met" t_WORDS_24, .str "called" t_WORDS_25, .str "missed" t_WORDS_26, .str "filed" t_WORDS_27] k_WORDS, sl_WORDS⟩)
    (g_all : PySem.W.nsIn K mainGlobals "all" = some none)
    (g_bool : PySem.W.nsIn K mainGlobals "bool" = some none)
    (g_dict : PySem.W.nsIn K mainGlobals "dict" = some none)
    (g_enumerate : PySem.W.nsIn K mainGlobals "enumerate" = some none)
    (g_int : PySem.W.nsIn K mainGlobals "int" = some none)
    (g_isinstance : PySem.W.nsIn K mainGlobals "isinstance" = some none)
    (g_len : PySem.W.nsIn K mainGlobals "len" = some none)
    (g_list : PySem.W.nsIn K mainGlobals "list" = some none)
    (g_range : PySem.W.nsIn K mainGlobals "range" = some none)
    (g_sorted : PySem.W.nsIn K mainGlobals "sorted" = some none)
    (g_tuple : PySem.W.nsIn K mainGlobals "tuple" = some none)
    : ∃ fd : FuncData, (∀ (s : Shared) (u : Value), BindsTo s fd ⟨[u], []⟩ [("_law_script", u)]) ∧ ∀ base : Heap, K.In base → base.Ns mainGlobals mg → FnOk l.prog w K mg base (L2.CX l.prog w) 6 fa fd ["_law_script"] (spD K mg 1 F_law) := by
  have e := hfa.symm.trans (PySem.W.mg_of X G a_law)
  cases e
  let T : Txt w K mg := { a_DiesError := a_DiesError, c_DiesError := PySem.W.mg_of X G xa_DiesError, k_DiesError := xk_DiesError, b_DiesError := xb_DiesError, t_DiesError := xt_DiesError, d_DiesError := xd_DiesError, e_DiesError := xe_DiesError, x_DiesError := ⟨y1_DiesError, y2_DiesError, xb_DiesError, xd_DiesError, y3_DiesError, z1, z2, y4_DiesError⟩, a_NotAllowed := a_NotAllowed, c_NotAllowed := PySem.W.mg_of X G xa_NotAllowed, k_NotAllowed := xk_NotAllowed, b_NotAllowed := xb_NotAllowed, t_NotAllowed := xt_NotAllowed, d_NotAllowed := xd_NotAllowed, e_NotAllowed := xe_NotAllowed, x_NotAllowed := ⟨y1_NotAllowed, y2_NotAllowed, xb_NotAllowed, xd_NotAllowed, y3_NotAllowed, z1, z2, y4_NotAllowed⟩, a_TooLarge := a_TooLarge, c_TooLarge := PySem.W.mg_of X G xa_TooLarge, k_TooLarge := xk_TooLarge, b_TooLarge := xb_TooLarge, t_TooLarge := xt_TooLarge, d_TooLarge := xd_TooLarge, e_TooLarge := xe_TooLarge, x_TooLarge := ⟨y1_TooLarge, y2_TooLarge, xb_TooLarge, xd_TooLarge, y3_TooLarge, z1, z2, y4_TooLarge⟩, a_Never := a_Never, c_Never := PySem.W.mg_of X G xa_Never, k_Never := xk_Never, b_Never := xb_Never, t_Never := xt_Never, d_Never := xd_Never, e_Never := xe_Never, x_Never := ⟨y1_Never, y2_Never, xb_Never, xd_Never, y3_Never, z1, z2, y4_Never⟩, a_Missing := a_Missing, c_Missing := PySem.W.mg_of X G xa_Missing, k_Missing := xk_Missing, b_Missing := xb_Missing, t_Missing := xt_Missing, d_Missing := xd_Missing, nf_Missing := nf_Missing, fi_Missing := fi_Missing, ox_Missing := ⟨⟨_, _, _, _, _, _, _, _, _, _, _, _, _, _, _, xL_Missing, by rfl⟩, xsa_Missing, xb_Missing, xt_Missing, xk_Missing⟩, iC_Missing := xI_Missing, tI_Missing := xT_Missing, x_Missing := ⟨y1_Missing, y2_Missing, xb_Missing, xd_Missing, y3_Missing, z1, z2, y4_Missing⟩, s_DiesError_DiesError := kit_ref xt_DiesError xd_DiesError u_DiesError_DiesError u_DiesError_DiesError, u_DiesError_DiesError := u_DiesError_DiesError, s_DiesError_Missing := kit_ref xt_Missing xd_Missing u_DiesError_Missing u_DiesError_DiesError, u_DiesError_Missing := u_DiesError_Missing, s_DiesError_Never := kit_ref xt_Never xd_Never u_DiesError_Never u_DiesError_DiesError, u_DiesError_Never := u_DiesError_Never, s_DiesError_NotAllowed := kit_ref xt_NotAllowed xd_NotAllowed u_DiesError_NotAllowed u_DiesError_DiesError, u_DiesError_NotAllowed := u_DiesError_NotAllowed, s_DiesError_TooLarge := kit_ref xt_TooLarge xd_TooLarge u_DiesError_TooLarge u_DiesError_DiesError, u_DiesError_TooLarge := u_DiesError_TooLarge, s_Missing_DiesError := kit_ref xt_DiesError xd_DiesError u_Missing_DiesError u_Missing_Missing, u_Missing_DiesError := u_Missing_DiesError, s_Missing_Missing := kit_ref xt_Missing xd_Missing u_Missing_Missing u_Missing_Missing, u_Missing_Missing := u_Missing_Missing, s_Missing_Never := kit_ref xt_Never xd_Never u_Missing_Never u_Missing_Missing, u_Missing_Never := u_Missing_Never, s_Missing_NotAllowed := kit_ref xt_NotAllowed xd_NotAllowed u_Missing_NotAllowed u_Missing_Missing, u_Missing_NotAllowed := u_Missing_NotAllowed, s_Missing_TooLarge := kit_ref xt_TooLarge xd_TooLarge u_Missing_TooLarge u_Missing_Missing, u_Missing_TooLarge := u_Missing_TooLarge, s_Never_DiesError := kit_ref xt_DiesError xd_DiesError u_Never_DiesError u_Never_Never, u_Never_DiesError := u_Never_DiesError, s_Never_Missing := kit_ref xt_Missing xd_Missing u_Never_Missing u_Never_Never, u_Never_Missing := u_Never_Missing, s_Never_Never := kit_ref xt_Never xd_Never u_Never_Never u_Never_Never, u_Never_Never := u_Never_Never, s_Never_NotAllowed := kit_ref xt_NotAllowed xd_NotAllowed u_Never_NotAllowed u_Never_Never, u_Never_NotAllowed := u_Never_NotAllowed, s_Never_TooLarge := kit_ref xt_TooLarge xd_TooLarge u_Never_TooLarge u_Never_Never, u_Never_TooLarge := u_Never_TooLarge, s_NotAllowed_DiesError := kit_ref xt_DiesError xd_DiesError u_NotAllowed_DiesError u_NotAllowed_NotAllowed, u_NotAllowed_DiesError := u_NotAllowed_DiesError, s_NotAllowed_Missing := kit_ref xt_Missing xd_Missing u_NotAllowed_Missing u_NotAllowed_NotAllowed, u_NotAllowed_Missing := u_NotAllowed_Missing, s_NotAllowed_Never := kit_ref xt_Never xd_Never u_NotAllowed_Never u_NotAllowed_NotAllowed, u_NotAllowed_Never := u_NotAllowed_Never, s_NotAllowed_NotAllowed := kit_ref xt_NotAllowed xd_NotAllowed u_NotAllowed_NotAllowed u_NotAllowed_NotAllowed, u_NotAllowed_NotAllowed := u_NotAllowed_NotAllowed, s_NotAllowed_TooLarge := kit_ref xt_TooLarge xd_TooLarge u_NotAllowed_TooLarge u_NotAllowed_NotAllowed, u_NotAllowed_TooLarge := u_NotAllowed_TooLarge, s_TooLarge_DiesError := kit_ref xt_DiesError xd_DiesError u_TooLarge_DiesError u_TooLarge_TooLarge, u_TooLarge_DiesError := u_TooLarge_DiesError, s_TooLarge_Missing := kit_ref xt_Missing xd_Missing u_TooLarge_Missing u_TooLarge_TooLarge, u_TooLarge_Missing := u_TooLarge_Missing, s_TooLarge_Never := kit_ref xt_Never xd_Never u_TooLarge_Never u_TooLarge_TooLarge, u_TooLarge_Never := u_TooLarge_Never, s_TooLarge_NotAllowed := kit_ref xt_NotAllowed xd_NotAllowed u_TooLarge_NotAllowed u_TooLarge_TooLarge, u_TooLarge_NotAllowed := u_TooLarge_NotAllowed, s_TooLarge_TooLarge := kit_ref xt_TooLarge xd_TooLarge u_TooLarge_TooLarge u_TooLarge_TooLarge, u_TooLarge_TooLarge := u_TooLarge_TooLarge, m_MAX_NAME := ⟨_, PySem.W.mg_of X G g_MAX_NAME⟩, m_REST := ⟨_, PySem.W.mg_of X G g_REST⟩, m_SMALL := ⟨_, PySem.W.mg_of X G g_SMALL⟩, at_WORDS := at_WORDS, m_WORDS := PySem.W.mg_of X G g_WORDS, q_WORDS := tup_rp (xs := [.str "next", .str "prev", .str "open", .str "later", .str "earlier", .str "if", .str "is", .str "not", .str "and", .str "or", .str "yes", .str "calendar", .str "run", .str "within", .str "known", .str "to", .str "closed", .str "assume", .str "claim", .str "event", .str "rule", .str "on", .str "when", .str "due", .str "met", .str "called", .str "missed", .str "filed"]) gl_WORDS rfl rfl (show 28 ≤ sizeLine by rw [sizeLine_eq]; omega) (.cons ⟨_, rfl⟩ (.cons ⟨_, rfl⟩ (.cons ⟨_, rfl⟩ (.cons ⟨_, rfl⟩ (.cons ⟨_, rfl⟩ (.cons ⟨_, rfl⟩ (.cons ⟨_, rfl⟩ (.cons ⟨_, rfl⟩ (.cons ⟨_, rfl⟩ (.cons ⟨_, rfl⟩ (.cons ⟨_, rfl⟩ (.cons ⟨_, rfl⟩ (.cons ⟨_, rfl⟩ (.cons ⟨_, rfl⟩ (.cons ⟨_, rfl⟩ (.cons ⟨_, rfl⟩ (.cons ⟨_, rfl⟩ (.cons ⟨_, rfl⟩ (.cons ⟨_, rfl⟩ (.cons ⟨_, rfl⟩ (.cons ⟨_, rfl⟩ (.cons ⟨_, rfl⟩ (.cons ⟨_, rfl⟩ (.cons ⟨_, rfl⟩ (.cons ⟨_, rfl⟩ (.cons ⟨_, rfl⟩ (.cons ⟨_, rfl⟩ (.cons ⟨_, rfl⟩ .nil)))))))))))))))))))))))))))) (fun _ _ _ => (.cons (.str _) (.cons (.str _) (.cons (.str _) (.cons (.str _) (.cons (.str _) (.cons (.str _) (.cons (.str _) (.cons (.str _) (.cons (.str _) (.cons (.str _) (.cons (.str _) (.cons (.str _) (.cons (.str _) (.cons (.str _) (.cons (.str _) (.cons (.str _) (.cons (.str _) (.cons (.str _) (.cons (.str _) (.cons (.str _) (.cons (.str _) (.cons (.str _) (.cons (.str _) (.cons (.str _) (.cons (.str _) (.cons (.str _) (.cons (.str _) (.cons (.str _) .nil))))))))))))))))))))))))))))), m_all := PySem.W.mg_none_of X G g_all, m_bool := PySem.W.mg_none_of X G g_bool, m_dict := PySem.W.mg_none_of X G g_dict, m_enumerate := PySem.W.mg_none_of X G g_enumerate, m_int := PySem.W.mg_none_of X G g_int, m_isinstance := PySem.W.mg_none_of X G g_isinstance, m_len := PySem.W.mg_none_of X G g_len, m_list := PySem.W.mg_none_of X G g_list, m_range := PySem.W.mg_none_of X G g_range, m_sorted := PySem.W.mg_none_of X G g_sorted, m_tuple := PySem.W.mg_none_of X G g_tuple }
  have F__law_pick := fun_mk (st := s__law_pick) l__law_pick c__law_pick k__law_pick
  have b__law_pick := F__law_pick.binds (ps := ["_law_numbers", "_law_at", "_law_many"]) fun _ _ _ _ _ _ us hl => match us, hl with | [_, _, _], _ => rfl
  have F__law_closed := fun_mk (st := s__law_closed) l__law_closed c__law_closed k__law_closed
  have b__law_closed := F__law_closed.binds (ps := ["_law_numbers", "_law_at", "_law_shift"]) fun _ _ _ _ _ _ us hl => match us, hl with | [_, _, _], _ => rfl
  have F__law_due := fun_mk (st := s__law_due) l__law_due c__law_due k__law_due
  have b__law_due := F__law_due.binds (ps := ["_law_tables"]) fun _ _ _ _ _ _ us hl => match us, hl with | [_], _ => rfl
  have F__found := fun_mk (st := s__found) l__found c__found k__found
  have b__found := F__found.binds (ps := ["pairs", "name"]) fun _ _ _ _ _ _ us hl => match us, hl with | [_, _], _ => rfl
  have F_calendar_of := fun_mk (st := s_calendar_of) l_calendar_of c_calendar_of k_calendar_of
  have b_calendar_of := F_calendar_of.binds (ps := ["world", "name"]) fun _ _ _ _ _ _ us hl => match us, hl with | [_, _], _ => rfl
  have F_day_of := fun_mk (st := s_day_of) l_day_of c_day_of k_day_of
  have b_day_of := F_day_of.binds (ps := ["world", "name"]) fun _ _ _ _ _ _ us hl => match us, hl with | [_, _], _ => rfl
  have F_flag_of := fun_mk (st := s_flag_of) l_flag_of c_flag_of k_flag_of
  have b_flag_of := F_flag_of.binds (ps := ["world", "name"]) fun _ _ _ _ _ _ us hl => match us, hl with | [_, _], _ => rfl
  have F__law_missing := fun_mk (st := s__law_missing) l__law_missing c__law_missing k__law_missing
  have b__law_missing := F__law_missing.binds (ps := ["_law_world", "_law_which", "_law_name"]) fun _ _ _ _ _ _ us hl => match us, hl with | [_, _, _], _ => rfl
  have F__law_words := fun_mk (st := s__law_words) l__law_words c__law_words k__law_words
  have b__law_words := F__law_words.binds (ps := []) fun _ _ _ _ _ _ us hl => match us, hl with | [], _ => rfl
  have F__law_word := fun_mk (st := s__law_word) l__law_word c__law_word k__law_word
  have b__law_word := F__law_word.binds (ps := ["_law_name"]) fun _ _ _ _ _ _ us hl => match us, hl with | [_], _ => rfl
  have F__law_names := fun_mk (st := s__law_names) l__law_names c__law_names k__law_names
  have b__law_names := F__law_names.binds (ps := ["_law_numbers", "_law_at"]) fun _ _ _ _ _ _ us hl => match us, hl with | [_, _], _ => rfl
  have F__law_read := fun_mk (st := s__law_read) l__law_read c__law_read k__law_read
  have b__law_read := F__law_read.binds (ps := ["_law_world", "_law_table", "_law_which"]) fun _ _ _ _ _ _ us hl => match us, hl with | [_, _, _], _ => rfl
  have F_is_name := fun_mk (st := s_is_name) l_is_name c_is_name k_is_name
  have b_is_name := F_is_name.binds (ps := ["text"]) fun _ _ _ _ _ _ us hl => match us, hl with | [_], _ => rfl
  have F__check_names := fun_mk (st := s__check_names) l__check_names c__check_names k__check_names
  have b__check_names := F__check_names.binds (ps := ["table"]) fun _ _ _ _ _ _ us hl => match us, hl with | [_], _ => rfl
  have F_is_closed_days := fun_mk (st := s_is_closed_days) l_is_closed_days c_is_closed_days k_is_closed_days
  have b_is_closed_days := F_is_closed_days.binds (ps := ["pairs"]) fun _ _ _ _ _ _ us hl => match us, hl with | [_], _ => rfl
  have F_make_world := fun_mk (st := s_make_world) l_make_world c_make_world k_make_world
  have b_make_world := F_make_world.binds (ps := ["calendars", "days", "flags"]) fun _ _ _ _ _ _ us hl => match us, hl with | [_, _, _], _ => rfl
  have F__law_refused := fun_mk (st := s__law_refused) l__law_refused c__law_refused k__law_refused
  have b__law_refused := F__law_refused.binds (ps := ["_law_tables", "_law_which", "_law_name", "_law_closed_here"]) fun _ _ _ _ _ _ us hl => match us, hl with | [_, _, _, _], _ => rfl
  have F__changed := fun_mk (st := s__changed) l__changed c__changed k__changed
  have b__changed := F__changed.binds (ps := ["pairs", "name", "content"]) fun _ _ _ _ _ _ us hl => match us, hl with | [_, _, _], _ => rfl
  have F_set_calendar := fun_mk (st := s_set_calendar) l_set_calendar c_set_calendar k_set_calendar
  have b_set_calendar := F_set_calendar.binds (ps := ["world", "name", "closed"]) fun _ _ _ _ _ _ us hl => match us, hl with | [_, _, _], _ => rfl
  have F_set_day := fun_mk (st := s_set_day) l_set_day c_set_day k_set_day
  have b_set_day := F_set_day.binds (ps := ["world", "name", "day"]) fun _ _ _ _ _ _ us hl => match us, hl with | [_, _, _], _ => rfl
  have F_set_flag := fun_mk (st := s_set_flag) l_set_flag c_set_flag k_set_flag
  have b_set_flag := F_set_flag.binds (ps := ["world", "name", "flag"]) fun _ _ _ _ _ _ us hl => match us, hl with | [_, _, _], _ => rfl
  have F__law_set := fun_mk (st := s__law_set) l__law_set c__law_set k__law_set
  have b__law_set := F__law_set.binds (ps := ["_law_world", "_law_which", "_law_name", "_law_content"]) fun _ _ _ _ _ _ us hl => match us, hl with | [_, _, _, _], _ => rfl
  have F__names_rise := fun_mk (st := s__names_rise) l__names_rise c__names_rise k__names_rise
  have b__names_rise := F__names_rise.binds (ps := ["pairs"]) fun _ _ _ _ _ _ us hl => match us, hl with | [_], _ => rfl
  have F_is_world := fun_mk (st := s_is_world) l_is_world c_is_world k_is_world
  have b_is_world := F_is_world.binds (ps := ["world"]) fun _ _ _ _ _ _ us hl => match us, hl with | [_], _ => rfl
  have F__law_spoilt := fun_mk (st := s__law_spoilt) l__law_spoilt c__law_spoilt k__law_spoilt
  have b__law_spoilt := F__law_spoilt.binds (ps := ["_law_world", "_law_which", "_law_name", "_law_bad"]) fun _ _ _ _ _ _ us hl => match us, hl with | [_, _, _, _], _ => rfl
  have F__law_stream := fun_mk (st := s__law_stream) l__law_stream c__law_stream k__law_stream
  have b__law_stream := F__law_stream.binds (ps := ["_law_script"]) fun _ _ _ _ _ _ us hl => match us, hl with | [_], _ => rfl
  have F__law_unset := fun_mk (st := s__law_unset) l__law_unset c__law_unset k__law_unset
  have b__law_unset := F__law_unset.binds (ps := ["_law_world", "_law_which", "_law_name"]) fun _ _ _ _ _ _ us hl => match us, hl with | [_, _, _], _ => rfl
  have F_law := fun_mk (st := s_law) l_law c_law k_law
  have b_law := F_law.binds (ps := ["_law_script"]) fun _ _ _ _ _ _ us hl => match us, hl with | [_], _ => rfl
  have Fi_Missing := fun_mk (st := s_xi_Missing) li_Missing ci_Missing ki_Missing
  have bX_Missing := Fi_Missing.binds (ps := ["self", "name"]) fun _ _ _ _ _ _ us hl => match us, hl with | [_, _], _ => rfl
  refine ⟨PySem.W.fnOf "law" "law" (defArgs s_law) (defBody s_law) (defScope s_law) .none kV_law dc_law pm_law an_law cd_law ct_law, fun s u => .of_eq rfl, fun base _ _ => ?_⟩
  have X_Missing : FnOk l.prog w K mg base CX0 1 T.fi_Missing _ ["self", "name"] (spXI T.a_Missing "name") := ok_xinit Fi_Missing ⟨rfl, rfl, rfl, by decide +kernel, rfl, by decide +kernel, by decide +kernel⟩ T.ox_Missing T.nf_Missing rfl
  have G__law_pick := ok__law_pick (P := l.prog) (w := w) (base := base) F__law_pick T
  have G__law_closed := ok__law_closed (P := l.prog) (w := w) (base := base) F__law_closed T G__law_pick (PySem.W.mg_of X G a__law_pick) k__law_pick b__law_pick
  have G__law_due := ok__law_due (P := l.prog) (w := w) (base := base) F__law_due T
  have G__found := ok__found (P := l.prog) (w := w) (base := base) F__found T X_Missing bX_Missing
  have G_calendar_of := ok_calendar_of (P := l.prog) (w := w) (base := base) F_calendar_of T G__found (PySem.W.mg_of X G a__found) k__found b__found
  have G_day_of := ok_day_of (P := l.prog) (w := w) (base := base) F_day_of T G__found (PySem.W.mg_of X G a__found) k__found b__found
  have G_flag_of := ok_flag_of (P := l.prog) (w := w) (base := base) F_flag_of T G__found (PySem.W.mg_of X G a__found) k__found b__found
  have G__law_missing := ok__law_missing (P := l.prog) (w := w) (base := base) F__law_missing T G_calendar_of (PySem.W.mg_of X G a_calendar_of) k_calendar_of b_calendar_of G_day_of (PySem.W.mg_of X G a_day_of) k_day_of b_day_of G_flag_of (PySem.W.mg_of X G a_flag_of) k_flag_of b_flag_of
  have G__law_words := ok__law_words (P := l.prog) (w := w) (base := base) F__law_words T
  have G__law_word := ok__law_word (P := l.prog) (w := w) (base := base) F__law_word T G__law_words (PySem.W.mg_of X G a__law_words) k__law_words b__law_words
  have G__law_names := ok__law_names (P := l.prog) (w := w) (base := base) F__law_names T G__law_pick (PySem.W.mg_of X G a__law_pick) k__law_pick b__law_pick G__law_word (PySem.W.mg_of X G a__law_word) k__law_word b__law_word
  have G__law_read := ok__law_read (P := l.prog) (w := w) (base := base) F__law_read T G_calendar_of (PySem.W.mg_of X G a_calendar_of) k_calendar_of b_calendar_of G_day_of (PySem.W.mg_of X G a_day_of) k_day_of b_day_of G_flag_of (PySem.W.mg_of X G a_flag_of) k_flag_of b_flag_of
  have G_is_name := ok_is_name (P := l.prog) (w := w) (base := base) F_is_name T
  have G__check_names := ok__check_names (P := l.prog) (w := w) (base := base) F__check_names T G_is_name (PySem.W.mg_of X G a_is_name) k_is_name b_is_name
  have G_is_closed_days := ok_is_closed_days (P := l.prog) (w := w) (base := base) F_is_closed_days T
  have G_make_world := ok_make_world (P := l.prog) (w := w) (base := base) F_make_world T G__check_names (PySem.W.mg_of X G a__check_names) k__check_names b__check_names G_is_closed_days (PySem.W.mg_of X G a_is_closed_days) k_is_closed_days b_is_closed_days
  have G__law_refused := ok__law_refused (P := l.prog) (w := w) (base := base) F__law_refused T G_make_world (PySem.W.mg_of X G a_make_world) k_make_world b_make_world
  have G__changed := ok__changed (P := l.prog) (w := w) (base := base) F__changed T G_is_name (PySem.W.mg_of X G a_is_name) k_is_name b_is_name
  have G_set_calendar := ok_set_calendar (P := l.prog) (w := w) (base := base) F_set_calendar T G__changed (PySem.W.mg_of X G a__changed) k__changed b__changed
  have G_set_day := ok_set_day (P := l.prog) (w := w) (base := base) F_set_day T G__changed (PySem.W.mg_of X G a__changed) k__changed b__changed
  have G_set_flag := ok_set_flag (P := l.prog) (w := w) (base := base) F_set_flag T G__changed (PySem.W.mg_of X G a__changed) k__changed b__changed
  have G__law_set := ok__law_set (P := l.prog) (w := w) (base := base) F__law_set T G_set_calendar (PySem.W.mg_of X G a_set_calendar) k_set_calendar b_set_calendar G_set_day (PySem.W.mg_of X G a_set_day) k_set_day b_set_day G_set_flag (PySem.W.mg_of X G a_set_flag) k_set_flag b_set_flag
  have G__names_rise := ok__names_rise (P := l.prog) (w := w) (base := base) F__names_rise T G_is_name (PySem.W.mg_of X G a_is_name) k_is_name b_is_name
  have G_is_world := ok_is_world (P := l.prog) (w := w) (base := base) F_is_world T G__names_rise (PySem.W.mg_of X G a__names_rise) k__names_rise b__names_rise G_is_closed_days (PySem.W.mg_of X G a_is_closed_days) k_is_closed_days b_is_closed_days
  have G__law_spoilt := ok__law_spoilt (P := l.prog) (w := w) (base := base) F__law_spoilt T G_is_world (PySem.W.mg_of X G a_is_world) k_is_world b_is_world
  have G__law_stream := ok__law_stream (P := l.prog) (w := w) (base := base) F__law_stream T
  have G__law_unset := ok__law_unset (P := l.prog) (w := w) (base := base) F__law_unset T G_set_calendar (PySem.W.mg_of X G a_set_calendar) k_set_calendar b_set_calendar G_set_day (PySem.W.mg_of X G a_set_day) k_set_day b_set_day G_set_flag (PySem.W.mg_of X G a_set_flag) k_set_flag b_set_flag
  have G_law := ok_law (P := l.prog) (w := w) (base := base) F_law T G__law_closed (PySem.W.mg_of X G a__law_closed) k__law_closed b__law_closed G__law_due (PySem.W.mg_of X G a__law_due) k__law_due b__law_due G__law_missing (PySem.W.mg_of X G a__law_missing) k__law_missing b__law_missing G__law_names (PySem.W.mg_of X G a__law_names) k__law_names b__law_names G__law_pick (PySem.W.mg_of X G a__law_pick) k__law_pick b__law_pick G__law_read (PySem.W.mg_of X G a__law_read) k__law_read b__law_read G__law_refused (PySem.W.mg_of X G a__law_refused) k__law_refused b__law_refused G__law_set (PySem.W.mg_of X G a__law_set) k__law_set b__law_set G__law_spoilt (PySem.W.mg_of X G a__law_spoilt) k__law_spoilt b__law_spoilt G__law_stream (PySem.W.mg_of X G a__law_stream) k__law_stream b__law_stream G__law_unset (PySem.W.mg_of X G a__law_unset) k__law_unset b__law_unset G__law_words (PySem.W.mg_of X G a__law_words) k__law_words b__law_words G_is_world (PySem.W.mg_of X G a_is_world) k_is_world b_is_world G_make_world (PySem.W.mg_of X G a_make_world) k_make_world b_make_world
  exact G_law
/-! ## words and names -/
theorem words_ok {S : Sto} : F__law_words [] S = some (.ok (.loc S.length) (S ++ [.lst (wordsL.map PV.str)])) := by
  have g : gLstP (wordsL.map PV.str) S = some (.ok (.loc S.length) (S ++ [.lst (wordsL.map PV.str)])) := ev_gLstP (by simp [wordsL])
  have nl : noLocs (wordsL.map PV.str) = true := by simp only [wordsL, List.map_cons, List.map_nil]; rfl
  refine call_new (j := S.length) (T := [.lst (wordsL.map PV.str)]) (l := wordsL.map PV.str) ?_ at_0 (Nat.le_refl _) nl
  have hw : wordsL.map PV.str = [.str "next", .str "prev", .str "open", .str "later", .str "earlier", .str "if", .str "is", .str "not", .str "and", .str "or", .str "yes", .str "calendar", .str "run", .str "within", .str "known", .str "to", .str "closed", .str "assume", .str "claim", .str "event", .str "rule", .str "on", .str "when", .str "due", .str "met", .str "called", .str "missed", .str "filed"] := rfl
  rw [hw] at g ⊢
  simp only [b__law_words, ev_ret, ev_lst, ev_cons, ev_c, ev_bR_ok, ev_nil, g, ev_bS_ok]
theorem word_ok {S : Sto} {s : Str} : F__law_word [.str s] S = some (.ok (.bl (decide (s ∈ wordsL))) S) := by
  have w := words_ok (S := S)
  have i := in_lst (S := S ++ [.lst (wordsL.map PV.str)]) (neg := false) (k := S.length) (l := wordsL) (x := s) at_0
  rw [show (Dat.enc s : PV) = .str s from rfl] at i
  simp only [Bool.false_eq_true, if_false] at i
  refine call_val (T := [.lst (wordsL.map PV.str)]) ?_ rfl
  simp [b__law_word, w, i]
def cOf (i : Int) : Nat := restS.cps.toList.getD i.toNat 0
theorem rest_len : restS.cps.toList.length = 36 := by decide +kernel
theorem letter {S : Sto} {i : Int} (h0 : 0 ≤ i) (h : i < 36) : gIx (.str restS) (.int i) S = some (.ok (.str ⟨#[cOf i]⟩) S) := by
  refine ev_ixS (by decide +kernel) ?_
  have h2 : i.toNat < restS.cps.toList.length := by rw [rest_len]; omega
  rw [atI_nat h0 h2]
  unfold cOf
  rw [List.getD_eq_getElem?_getD, List.getElem?_eq_getElem h2, Option.getD_some]
theorem in_rest {i : Int} (h0 : 0 ≤ i) (h : i < 36) : inStr ⟨#[cOf i]⟩ restS = true := by
  have all : ∀ j : Fin 36, inStr ⟨#[cOf (j.val : Int)]⟩ restS = true := by decide +kernel
  have := all ⟨i.toNat, by omega⟩
  have e : ((i.toNat : Nat) : Int) = i := by omega
  rw [show (((⟨i.toNat, by omega⟩ : Fin 36).val : Nat) : Int) = i from e] at this
  exact this
theorem in_small {i : Int} (h0 : 0 ≤ i) (h : i < 26) : inStr ⟨#[cOf i]⟩ smallS = true := by
  have all : ∀ j : Fin 26, inStr ⟨#[cOf (j.val : Int)]⟩ smallS = true := by decide +kernel
  have := all ⟨i.toNat, by omega⟩
  have e : ((i.toNat : Nat) : Int) = i := by omega
  rw [show (((⟨i.toNat, by omega⟩ : Fin 26).val : Nat) : Int) = i from e] at this
  exact this
theorem app_cps (a b : Str) : (a ++ b).cps.toList = a.cps.toList ++ b.cps.toList := by
  show (a.cps ++ b.cps).toList = _
  rw [Array.toList_append]
theorem len_cps (a : Str) : a.length = a.cps.toList.length := by simp [Str.length]
/-- the letters of a name -/
structure Lts (s : Str) (n : Nat) : Prop where
  len : s.length = n
  ne : ∃ c r, s.cps.toList = c :: r ∧ inStr ⟨#[c]⟩ smallS = true
  all : ∀ c ∈ s.cps.toList, inStr ⟨#[c]⟩ restS = true
theorem Lts.name {s : Str} {n : Nat} (h : Lts s n) (h1 : 1 ≤ n) (h2 : n ≤ 20) (hw : s ∉ wordsL) : nameB s = true := by
  obtain ⟨c, r, hc, hs⟩ := h.ne
  have ha := h.all
  unfold nameB
  rw [hc] at ha ⊢
  have hl := h.len
  rw [decide_eq_true (show 1 ≤ s.length by omega), decide_eq_true (show s.length ≤ 20 by omega), decide_eq_false hw]
  show (true && true && !false && inStr ⟨#[c]⟩ smallS && (c :: r).all fun c => inStr ⟨#[c]⟩ restS) = true
  rw [hs, List.all_eq_true.mpr ha]
  rfl
theorem Lts.app {s t : Str} {n m : Nat} (h : Lts s n) (ht : t.length = m) (ha : ∀ c ∈ t.cps.toList, inStr ⟨#[c]⟩ restS = true) : Lts (s ++ t) (n + m) := by
  obtain ⟨c, r, hc, hs⟩ := h.ne
  refine ⟨?_, ⟨c, r ++ t.cps.toList, ?_, hs⟩, fun x hx => ?_⟩
  · rw [len_cps, app_cps, List.length_append, ← len_cps, ← len_cps, h.len, ht]
  · rw [app_cps, hc]; rfl
  · rw [app_cps] at hx
    rcases List.mem_append.mp hx with hx | hx
    · exact h.all x hx
    · exact ha x hx
section
variable {ns : List Int} {at_ kk : Int} {v3 v5 : Option PV}
theorem lets_in {S : Sto} (hk : S[1]? = some (.lst (intsP ns))) (hn : ns ≠ []) (hkk : 0 ≤ kk ∧ kk < 100) : ∀ (js : List Int) (s : Str) (n : Nat), Lts s n → n + js.length ≤ 1000 → (∀ j ∈ js, 0 ≤ j ∧ j < 100) → ∃ t, Lts t (n + js.length) ∧
    forL (gN 7) [7] l__law_names_2 [] (intsP js) [some (.loc 1), some (.int at_), some (.str restS), v3, some (.int kk), v5, some (.str s), none] S = some (.next [some (.loc 1), some (.int at_), some (.str restS), v3, some (.int kk), v5, some (.str t), none] S)
  | [], s, n, h, _, _ => ⟨s, h, by rw [intsP_nil, forL_nil (by simp)]⟩
  | j :: js, s, n, h, hl, hj => by
    rw [List.length_cons] at hl
    have bj := hj j List.mem_cons_self
    have mu := ev_mulL (S := S) (i := j) (j := kk + 1) (by omega)
    have p := pick_spec (a := at_ + 5 + j * (kk + 1)) hk hn (show (0 : Int) < 36 by omega)
    have b := pick_lt ns (at_ + 5 + j * (kk + 1)) (show (0 : Int) < 36 by omega)
    generalize pick ns (at_ + 5 + j * (kk + 1)) 36 = i at p b
    have lt := letter (S := S) b.1 b.2
    have lc := in_rest b.1 b.2
    have h2 := h.app (t := ⟨#[cOf i]⟩) (m := 1) rfl (fun c hc => by
      have : c = cOf i := by simpa using hc
      rw [this]; exact lc)
    obtain ⟨t, ht, ih⟩ := lets_in hk hn hkk js (s ++ ⟨#[cOf i]⟩) (n + 1) h2 (by omega) fun x hx => hj x (List.mem_cons_of_mem _ hx)
    refine ⟨t, by rw [List.length_cons, show n + (js.length + 1) = n + 1 + js.length by omega]; exact ht, ?_⟩
    have ad : gAdd (.str s) (.str ⟨#[cOf i]⟩) S = some (.ok (.str (s ++ ⟨#[cOf i]⟩)) S) := by
      unfold gAdd
      dsimp only
      rw [if_pos (by rw [h.len]; show n + 1 ≤ _; omega)]
    have body : l__law_names_2 [some (.loc 1), some (.int at_), some (.str restS), v3, some (.int kk), v5, some (.str s), some (.int j)] S = some (.next [some (.loc 1), some (.int at_), some (.str restS), v3, some (.int kk), v5, some (.str (s ++ ⟨#[cOf i]⟩)), some (.int j)] S) := by
      simp only [l__law_names_2, ev_set, ev_op2, ev_var, List.getElem?_cons_zero, List.getElem?_cons_succ, ev_bR_ok, ev_opA, ev_cons, ev_c, ev_addI, mu, ev_nil, p, lt, ad, ev_bS_ok, List.set_cons_succ, List.set_cons_zero]
    rw [intsP_cons, forL_cons (by simp)]
    simp only [ev_gN, List.set_cons_succ, List.set_cons_zero, body, ev_killC, ev_killN, ih]
end
def okN (L : List Str) : Prop := L.Nodup ∧ ∀ s ∈ L, nameB s = true
theorem nls_strs : ∀ L : List Str, noLocs (L.map PV.str) = true
  | [] => rfl
  | _ :: L => nls_strs L
theorem names_loop {S : Sto} {ns : List Int} {at_ : Int} (hk : S[1]? = some (.lst (intsP ns))) (hn : ns ≠ []) : ∀ (ks : List Int) (L : List Str), okN L → L.length + ks.length ≤ 100 → (∀ k ∈ ks, 0 ≤ k ∧ k < 100) → ∃ L', okN L' ∧ L'.length ≤ L.length + ks.length ∧
    forL (gN 4) [4, 5, 6, 7] l__law_names_1 [] (intsP ks) [some (.loc 1), some (.int at_), some (.str restS), some (.loc S.length), none, none, none, none] (S ++ [.lst (L.map PV.str)]) =
      some (.next [some (.loc 1), some (.int at_), some (.str restS), some (.loc S.length), none, none, none, none] (S ++ [.lst (L'.map PV.str)]))
  | [], L, h, _, _ => ⟨L, h, by simp, by rw [intsP_nil, forL_nil (by simp)]⟩
  | kk :: ks, L, h, hl, hks => by
    rw [List.length_cons] at hl
    have bk := hks kk List.mem_cons_self
    obtain ⟨U, hU⟩ : ∃ U, U = S ++ [PO.lst (L.map PV.str)] := ⟨_, rfl⟩
    have ku : U[1]? = some (.lst (intsP ns)) := by rw [hU]; exact at_old hk
    have u3 : U[S.length]? = some (.lst (L.map PV.str)) := by rw [hU]; exact at_0
    have p1 := pick_spec (a := at_ + 1) ku hn (show (0 : Int) < 20 by omega)
    have b1 := pick_lt ns (at_ + 1) (show (0 : Int) < 20 by omega)
    generalize pick ns (at_ + 1) 20 = z1 at p1 b1
    obtain ⟨D, hD⟩ : ∃ D : List PV, D = [.int 1, .int 2, .int 20, .int (1 + z1)] := ⟨_, rfl⟩
    obtain ⟨V, hV⟩ : ∃ V, V = U ++ [PO.lst D] := ⟨_, rfl⟩
    have g4 : gLstP D U = some (.ok (.loc U.length) V) := by rw [hV, hD]; rfl
    have kv : V[1]? = some (.lst (intsP ns)) := by rw [hV]; exact at_old ku
    have v3 : V[S.length]? = some (.lst (L.map PV.str)) := by rw [hV]; exact at_old u3
    have p2 := pick_spec (a := at_ + 2 + kk) kv hn (show (0 : Int) < 4 by omega)
    have b2 := pick_lt ns (at_ + 2 + kk) (show (0 : Int) < 4 by omega)
    generalize pick ns (at_ + 2 + kk) 4 = z2 at p2 b2
    have hx : ∃ n : Int, 1 ≤ n ∧ n ≤ 20 ∧ gIx (.loc U.length) (.int z2) V = some (.ok (.int n) V) := by
      obtain ⟨v, hv, e⟩ := atI_mem (l := D) b2.1 (by rw [hD]; exact b2.2)
      have e2 := ev_ixL (S := V) (k := U.length) (l := D) (by rw [hV]; exact at_0) e
      rw [hD] at hv
      simp only [List.mem_cons, List.not_mem_nil, or_false] at hv
      rcases hv with rfl | rfl | rfl | rfl
      · exact ⟨1, by omega, by omega, e2⟩
      · exact ⟨2, by omega, by omega, e2⟩
      · exact ⟨20, by omega, by omega, e2⟩
      · exact ⟨1 + z1, by omega, by omega, e2⟩
    obtain ⟨n, n1, n2, hx⟩ := hx
    have p3 := pick_spec (a := at_ + 3 + kk) kv hn (show (0 : Int) < 26 by omega)
    have b3 := pick_lt ns (at_ + 3 + kk) (show (0 : Int) < 26 by omega)
    generalize pick ns (at_ + 3 + kk) 26 = z3 at p3 b3
    have lt := letter (S := V) b3.1 (by omega)
    have l0 : Lts ⟨#[cOf z3]⟩ 1 := ⟨rfl, ⟨cOf z3, [], rfl, in_small b3.1 b3.2⟩, fun c hc => by
      have : c = cOf z3 := by simpa using hc
      rw [this]; exact in_rest b3.1 (by omega)⟩
    obtain ⟨t, ht, li⟩ := lets_in kv hn bk (at_ := at_) (v3 := some (.loc S.length)) (v5 := some (.int n)) ((List.range (n - 1).toNat).map fun i : Nat => 0 + (i : Int)) _ 1 l0 (by simp; omega) (fun j hj => by
      obtain ⟨i, hi, rfl⟩ := List.mem_map.mp hj
      rw [List.mem_range] at hi
      omega)
    have rg : rangeP 0 (n - 1).toNat = intsP ((List.range (n - 1).toNat).map fun i : Nat => 0 + (i : Int)) := range_ints _ _
    rw [← rg] at li
    simp only [List.length_map, List.length_range] at ht
    have w := word_ok (S := V) (s := t)
    have ni := in_lst (S := V) (neg := true) (l := L) (x := t) v3
    rw [show (Dat.enc t : PV) = .str t from rfl] at ni
    simp only [if_true] at ni
    have ty := ev_tyL v3
    have bdy : ∃ L2, okN L2 ∧ L2.length ≤ L.length + 1 ∧ l__law_names_1_t0 [some (.loc 1), some (.int at_), some (.str restS), some (.loc S.length), some (.int kk), none, none, none] U = some (.next [some (.loc 1), some (.int at_), some (.str restS), some (.loc S.length), some (.int kk), some (.int n), some (.str t), none] (S ++ [.lst (L2.map PV.str), .lst D])) := by
      have front : l__law_names_1_t0 [some (.loc 1), some (.int at_), some (.str restS), some (.loc S.length), some (.int kk), none, none, none] U = l__law_names_1_t3 [some (.loc 1), some (.int at_), some (.str restS), some (.loc S.length), some (.int kk), some (.int n), some (.str t), none] V := by
        simp only [l__law_names_1_t0, ev_seq, ev_set, ev_op2, ev_lst, ev_cons, ev_c, ev_bR_ok, ev_opA, ev_var, List.getElem?_cons_zero, List.getElem?_cons_succ, ev_addI, ev_nil, p1, ← hD, g4, p2, hx, ev_bS_ok, ev_bN_next, List.set_cons_succ, List.set_cons_zero]
        simp only [l__law_names_1_t1, ev_seq, ev_set, ev_op2, ev_var, List.getElem?_cons_zero, List.getElem?_cons_succ, ev_bR_ok, ev_opA, ev_cons, ev_c, ev_addI, ev_nil, p3, lt, ev_bS_ok, ev_bN_next, List.set_cons_succ, List.set_cons_zero]
        simp only [l__law_names_1_t2, ev_seq, ev_for, ev_rng1, ev_cons, ev_op2, ev_var, List.getElem?_cons_zero, List.getElem?_cons_succ, ev_bR_ok, ev_c, ev_sub, ev_nil, ev_bS_ok, ev_killC, ev_killN, List.set_cons_succ, List.set_cons_zero, li, ev_bN_next]
      have vs : V = S ++ [.lst (L.map PV.str), .lst D] := by rw [hV, hU]; simp
      by_cases c1 : t ∈ L
      · refine ⟨L, h, by omega, ?_⟩
        rw [front, ← vs]
        simp [l__law_names_1_t3, ni, c1]
      · by_cases c2 : t ∈ wordsL
        · refine ⟨L, h, by omega, ?_⟩
          rw [front, ← vs]
          simp [l__law_names_1_t3, ni, c1, w, c2]
        · refine ⟨L ++ [t], ⟨?_, fun s hs => ?_⟩, by simp, ?_⟩
          · rw [List.nodup_append]
            exact ⟨h.1, by simp, fun a ha b hb z => c1 (by rw [List.mem_singleton] at hb; rw [← hb, ← z]; exact ha)⟩
          · rcases List.mem_append.mp hs with hs | hs
            · exact h.2 s hs
            · rw [List.mem_singleton] at hs
              rw [hs]
              exact ht.name (by omega) (by omega) c2
          · rw [front]
            have ap : gAppend (.loc S.length) [.str t] V = some (.ok .non (S ++ [.lst ((L ++ [t]).map PV.str), .lst D])) := by
              rw [ev_append v3 (by rw [List.length_map]; omega), vs]
              simp
            simp only [c1, decide_false, Bool.not_false] at ni
            simp only [c2, decide_false] at w
            simp only [l__law_names_1_t3, ev_ifS, ev_andT, ev_cmp, ev_op2, ev_var, List.getElem?_cons_zero, List.getElem?_cons_succ, ev_bR_ok, ni, ev_asB, if_true, ev_notT, ev_tru, ev_opA, ev_cons, ev_nil, w, ev_gTru_bl, Bool.not_false, ev_bS_ok, ev_expr, ev_meth, ty, ap]
    obtain ⟨L2, h2, hl2, bdy⟩ := bdy
    have cl : Cl U (S ++ [PO.lst (L2.map PV.str), .lst D]) := by
      have : S ++ [PO.lst (L2.map PV.str), .lst D] = (U ++ [PO.lst D]).set S.length (.lst (L2.map PV.str)) := by rw [hU]; simp
      rw [this]
      exact (Cl.app _).set (bds_noLoc _ _ (nls_strs _))
    have bn := body_next (kill := [4, 5, 6, 7]) (f := l__law_names_1_t0) bdy cl (by
      show bdE U.length [some (.loc 1), some (.int at_), some (.str restS), some (.loc S.length), none, none, none, none]
      exact ⟨lt_of_get ku, trivial, trivial, lt_of_get u3, trivial⟩)
    have tk : (S ++ [PO.lst (L2.map PV.str), .lst D]).take U.length = S ++ [.lst (L2.map PV.str)] := by
      have : U.length = S.length + 1 := by rw [hU]; simp
      rw [this]
      simp
    rw [tk, hU] at bn
    have bn : l__law_names_1 [some (.loc 1), some (.int at_), some (.str restS), some (.loc S.length), some (.int kk), none, none, none] (S ++ [.lst (L.map PV.str)]) = _ := bn
    obtain ⟨L', h3, hl3, ih⟩ := names_loop hk hn ks L2 h2 (by omega) (fun x hx => hks x (List.mem_cons_of_mem _ hx)) (at_ := at_)
    refine ⟨L', h3, by rw [List.length_cons]; omega, ?_⟩
    rw [intsP_cons, forL_cons (by simp)]
    simp only [ev_gN, List.set_cons_succ, List.set_cons_zero, bn, ev_killC, ev_killN, ih]
theorem names_made {S : Sto} {ns : List Int} {at_ : Int} (hk : S[1]? = some (.lst (intsP ns))) (hn : ns ≠ []) : ∃ L, okN L ∧ L.length ≤ 5 ∧ F__law_names [.loc 1, .int at_] S = some (.ok (.loc S.length) (S ++ [.lst (L.map PV.str)])) := by
  have p := pick_spec (a := at_) (S := S ++ [.lst []]) (at_old hk) hn (show (0 : Int) < 6 by omega)
  have b := pick_lt ns at_ (show (0 : Int) < 6 by omega)
  generalize pick ns at_ 6 = m at p b
  obtain ⟨L, h, hl, lp⟩ := names_loop (S := S) (at_ := at_) hk hn ((List.range m.toNat).map fun i : Nat => 0 + (i : Int)) [] ⟨List.nodup_nil, fun s hs => by cases hs⟩ (by simp; omega) (fun j hj => by
    obtain ⟨i, hi, rfl⟩ := List.mem_map.mp hj
    rw [List.mem_range] at hi
    omega)
  have rg : rangeP 0 m.toNat = intsP ((List.range m.toNat).map fun i : Nat => 0 + (i : Int)) := range_ints _ _
  rw [← rg] at lp
  refine ⟨L, h, by simp at hl; omega, call_new (j := S.length) (T := [.lst (L.map PV.str)]) (l := L.map PV.str) ?_ at_0 (Nat.le_refl _) (nls_strs _)⟩
  have lp : forL (gN 4) [4, 5, 6, 7] l__law_names_1 [] (rangeP 0 m.toNat) [some (.loc 1), some (.int at_), some (.str restS), some (.loc S.length), none, none, none, none] (S ++ [.lst []]) = _ := lp
  show b__law_names [some (.loc 1), some (.int at_), none, none, none, none, none, none] S = _
  have e : (.str "abcdefghijklmnopqrstuvwxyz0123456789" : PV) = .str restS := rfl
  simp only [b__law_names, b__law_names_t0, b__law_names_t1, ev_seq, ev_set, ev_c, e, ev_bS_ok, ev_bN_next, List.set_cons_succ, List.set_cons_zero, ev_lst, ev_nil, ev_bR_ok, ev_lst0]
  simp only [b__law_names_t2, b__law_names_t3, ev_seq, ev_for, ev_rng1, ev_cons, ev_opA, ev_var, List.getElem?_cons_zero, List.getElem?_cons_succ, ev_bR_ok, ev_c, ev_nil, p, ev_bS_ok, ev_killC, ev_killN, List.set_cons_succ, List.set_cons_zero, lp, ev_bN_next, ev_ret]
/-! ## the tables -/
def stW (S : Sto) (C : List (Str × List P2)) (Dd : List (Str × Int)) (F : List (Str × Bool)) : Sto := ((S.set 2 (.dct false (encD clP C))).set 3 (.dct false (encD PV.int Dd))).set 4 (.dct false (encD PV.bl F))
section
variable {S T : Sto} {C C' : List (Str × List P2)} {Dd Dd' : List (Str × Int)} {F F' : List (Str × Bool)}
theorem stW_len : (stW S C Dd F).length = S.length := by unfold stW; simp
theorem stW_2 (h : 6 ≤ S.length) : (stW S C Dd F)[2]? = some (.dct false (encD clP C)) := by
  unfold stW
  rw [List.getElem?_set_ne (by omega), List.getElem?_set_ne (by omega), List.getElem?_set_self (by omega)]
theorem stW_3 (h : 6 ≤ S.length) : (stW S C Dd F)[3]? = some (.dct false (encD PV.int Dd)) := by
  unfold stW
  rw [List.getElem?_set_ne (by omega), List.getElem?_set_self (by simp; omega)]
theorem stW_4 (h : 6 ≤ S.length) : (stW S C Dd F)[4]? = some (.dct false (encD PV.bl F)) := by
  unfold stW
  rw [List.getElem?_set_self (by simp; omega)]
theorem stW_ne {i : Nat} (h2 : i ≠ 2) (h3 : i ≠ 3) (h4 : i ≠ 4) : (stW S C Dd F)[i]? = S[i]? := by
  unfold stW
  rw [List.getElem?_set_ne (by omega), List.getElem?_set_ne (by omega), List.getElem?_set_ne (by omega)]
theorem stW_s4 : (stW S C Dd F).set 4 (.dct false (encD PV.bl F')) = stW S C Dd F' := by
  unfold stW
  rw [List.set_set]
theorem stW_s3 : (stW S C Dd F).set 3 (.dct false (encD PV.int Dd')) = stW S C Dd' F := by
  unfold stW
  rw [List.set_comm _ _ (show (4 : Nat) ≠ 3 by omega), List.set_set]
theorem stW_s2 : (stW S C Dd F).set 2 (.dct false (encD clP C')) = stW S C' Dd F := by
  unfold stW
  rw [List.set_comm _ _ (show (4 : Nat) ≠ 2 by omega), List.set_comm _ _ (show (3 : Nat) ≠ 2 by omega), List.set_set]
theorem stW_app (h : 6 ≤ S.length) : stW (S ++ T) C Dd F = stW S C Dd F ++ T := by
  unfold stW
  rw [List.set_append_left _ _ (by omega), List.set_append_left _ _ (by simp; omega), List.set_append_left _ _ (by simp; omega)]
end
structure Gd (C : List (Str × List P2)) (Dd : List (Str × Int)) (F : List (Str × Bool)) (m : Nat) : Prop where
  nc : (keysL C).Nodup
  nd : (keysL Dd).Nodup
  nf : (keysL F).Nodup
  kc : ∀ p ∈ C, nameB p.1 = true
  kd : ∀ p ∈ Dd, nameB p.1 = true
  kf : ∀ p ∈ F, nameB p.1 = true
  fc : ∀ p ∈ C, formB none p.2 = true
  lc : C.length ≤ m
  ld : Dd.length ≤ m
  lf : F.length ≤ m
section
variable {C : List (Str × List P2)} {Dd : List (Str × Int)} {F : List (Str × Bool)} {m : Nat} {s : Str}
theorem Gd.mono (g : Gd C Dd F m) {k : Nat} (h : m ≤ k) : Gd C Dd F k := ⟨g.nc, g.nd, g.nf, g.kc, g.kd, g.kf, g.fc, by have := g.lc; omega, by have := g.ld; omega, by have := g.lf; omega⟩
theorem Gd.putC (g : Gd C Dd F m) {c : List P2} (hs : nameB s = true) (hc : formB none c = true) : Gd (putL C s c) Dd F (m + 1) :=
  ⟨putL_nodup g.nc, g.nd, g.nf, fun p hp => by
    rcases putL_mem hp with rfl | hp
    · exact hs
    · exact g.kc p hp, g.kd, g.kf, fun p hp => by
    rcases putL_mem hp with rfl | hp
    · exact hc
    · exact g.fc p hp, by have := putL_len C s c; have := g.lc; omega, by have := g.ld; omega, by have := g.lf; omega⟩
theorem Gd.putD (g : Gd C Dd F m) {c : Int} (hs : nameB s = true) : Gd C (putL Dd s c) F (m + 1) :=
  ⟨g.nc, putL_nodup g.nd, g.nf, g.kc, fun p hp => by
    rcases putL_mem hp with rfl | hp
    · exact hs
    · exact g.kd p hp, g.kf, g.fc, by have := g.lc; omega, by have := putL_len Dd s c; have := g.ld; omega, by have := g.lf; omega⟩
theorem Gd.putF (g : Gd C Dd F m) {c : Bool} (hs : nameB s = true) : Gd C Dd (putL F s c) (m + 1) :=
  ⟨g.nc, g.nd, putL_nodup g.nf, g.kc, g.kd, fun p hp => by
    rcases putL_mem hp with rfl | hp
    · exact hs
    · exact g.kf p hp, g.fc, by have := g.lc; omega, by have := g.ld; omega, by have := putL_len F s c; have := g.lf; omega⟩
end
theorem bd_encC (n : Nat) (C : List (Str × List P2)) : bdO n (.dct false (encD clP C)) := fun p hp => by
  obtain ⟨q, _, rfl⟩ := List.mem_map.mp hp
  exact bds_noLoc _ _ (noLocs_pairs _)
theorem bd_encD (n : Nat) (C : List (Str × Int)) : bdO n (.dct false (encD PV.int C)) := fun p hp => by
  obtain ⟨q, _, rfl⟩ := List.mem_map.mp hp
  trivial
theorem bd_encF (n : Nat) (C : List (Str × Bool)) : bdO n (.dct false (encD PV.bl C)) := fun p hp => by
  obtain ⟨q, _, rfl⟩ := List.mem_map.mp hp
  trivial
abbrev e3 : En := [none, none, none, none, none, none, none, none, none, none]
section
variable {S : Sto} {ns : List Int} {C : List (Str × List P2)} {Dd : List (Str × Int)} {F : List (Str × Bool)} {m : Nat}
structure Bs (S : Sto) (ns : List Int) : Prop where
  le : 6 ≤ S.length
  nb : S[1]? = some (.lst (intsP ns))
  tb : S[5]? = some (.lst [.loc 2, .loc 3, .loc 4])
  ne : ns ≠ []
theorem Bs.app (h : Bs S ns) (T : Sto) : Bs (S ++ T) ns := ⟨by rw [List.length_append]; have := h.le; omega, at_old h.nb, at_old h.tb, h.ne⟩
theorem Bs.w1 (h : Bs S ns) : (stW S C Dd F)[1]? = some (.lst (intsP ns)) := by rw [stW_ne (by omega) (by omega) (by omega)]; exact h.nb
theorem Bs.w5 (h : Bs S ns) : (stW S C Dd F)[5]? = some (.lst [.loc 2, .loc 3, .loc 4]) := by rw [stW_ne (by omega) (by omega) (by omega)]; exact h.tb
theorem Bs.t0 (h : Bs S ns) : gIx (.loc 5) (.int 0) (stW S C Dd F) = some (.ok (.loc 2) (stW S C Dd F)) := ev_ixL h.w5 rfl
theorem Bs.t1 (h : Bs S ns) : gIx (.loc 5) (.int 1) (stW S C Dd F) = some (.ok (.loc 3) (stW S C Dd F)) := ev_ixL h.w5 rfl
theorem Bs.t2 (h : Bs S ns) : gIx (.loc 5) (.int 2) (stW S C Dd F) = some (.ok (.loc 4) (stW S C Dd F)) := ev_ixL h.w5 rfl
theorem body1 (B : Bs S ns) (g : Gd C Dd F m) (hm : m ≤ 50) {k : Int} (hk : 0 ≤ k ∧ k < 1000) {s : Str} (hs : nameB s = true) : ∃ C' Dd', Gd C' Dd' F (m + 1) ∧ l_law_1 (some (.loc 0) :: some (.loc 1) :: some (.loc 5) :: some (.int k) :: some (.str s) :: e3) (stW S C Dd F) =
    some (.next (some (.loc 0) :: some (.loc 1) :: some (.loc 5) :: none :: none :: e3) (stW S C' Dd' F)) := by
  have hl := B.le
  obtain ⟨c, bc, ec⟩ := closed_made (S := stW S C Dd F) (k := 1) (at_ := 11 + 5 * k) (sh := 0) B.ne B.w1
  have mu := ev_mulL (S := stW S C Dd F) (i := 5) (j := k) (by omega)
  have s1 := ev_setDS (e := clP) (S := stW S C Dd F) (k := 2) (s := s) (v := c) (stW_2 hl) (by have := g.lc; omega)
  rw [stW_s2] at s1
  have p1 := pick_spec (S := stW S (putL C s c) Dd F) (k := 1) (a := 12 + k) B.w1 B.ne (show (0 : Int) < 2 by omega)
  generalize pick ns (12 + k) 2 = z at p1
  have p2 := pick_spec (S := stW S (putL C s c) Dd F) (k := 1) (a := 13 + k) B.w1 B.ne (show (0 : Int) < 1009 by omega)
  generalize pick ns (13 + k) 1009 = d at p2
  have s2 := ev_setDS (e := PV.int) (S := stW S (putL C s c) Dd F) (k := 3) (s := s) (v := d - 500) (stW_3 hl) (by have := g.ld; omega)
  rw [stW_s3] at s2
  have g1 := g.putC hs bc.form
  have fin : ∀ Dd', (∀ S0 : Sto, S0 = (stW S (putL C s c) Dd F) → True) → Cl (stW S C Dd F) (stW S (putL C s c) Dd' F) := fun Dd' _ => by
    have : stW S (putL C s c) Dd' F = ((stW S C Dd F).set 2 (.dct false (encD clP (putL C s c)))).set 3 (.dct false (encD PV.int Dd')) := by rw [stW_s2, stW_s3]
    rw [this]
    exact (Cl.refl.set (bd_encC _ _)).set (bd_encD _ _)
  have bde : bdE (stW S C Dd F).length (some (.loc 0) :: some (.loc 1) :: some (.loc 5) :: none :: none :: e3) := by
    rw [stW_len]
    exact ⟨(by show 0 < S.length; omega), (by show 1 < S.length; omega), (by show 5 < S.length; omega), trivial⟩
  have tk : ∀ Dd', (stW S (putL C s c) Dd' F).take (stW S C Dd F).length = stW S (putL C s c) Dd' F := fun Dd' => by
    rw [stW_len, ← stW_len (S := S) (C := putL C s c) (Dd := Dd') (F := F), List.take_length]
  by_cases hz : z = 0
  · refine ⟨putL C s c, putL Dd s (d - 500), ?_, ?_⟩
    · have h2 := (g.putD (c := d - 500) hs)
      exact ⟨g1.nc, h2.nd, g1.nf, g1.kc, h2.kd, g1.kf, g1.fc, g1.lc, h2.ld, g1.lf⟩
    · have bn := body_next (kill := [3, 4]) (f := (dSeq (dAsg (gSubT gSetD (dOp2 gIx (dVar 2) (dC (.int 0))) (dVar 4)) (dOpA F__law_closed (dCons (dVar 1) (dCons (dOp2 gAdd (dC (.int 11)) (dOp2 gMul (dC (.int 5)) (dVar 3))) (dCons (dC (.int 0)) dNil))))) (dIfS (dCmp gEq (dOpA F__law_pick (dCons (dVar 1) (dCons (dOp2 gAdd (dC (.int 12)) (dVar 3)) (dCons (dC (.int 2)) dNil)))) (dC (.int 0))) (dAsg (gSubT gSetD (dOp2 gIx (dVar 2) (dC (.int 1))) (dVar 4)) (dOp2 gSub (dOpA F__law_pick (dCons (dVar 1) (dCons (dOp2 gAdd (dC (.int 13)) (dVar 3)) (dCons (dC (.int 1009)) dNil)))) (dC (.int 500)))) dPass))) (ρ := some (.loc 0) :: some (.loc 1) :: some (.loc 5) :: some (.int k) :: some (.str s) :: e3) (S := stW S C Dd F) (ρ' := some (.loc 0) :: some (.loc 1) :: some (.loc 5) :: some (.int k) :: some (.str s) :: e3) (S' := stW S (putL C s c) (putL Dd s (d - 500)) F) (by
        simp only [ev_seq, ev_asg, ev_opA, ev_cons, ev_var, List.getElem?_cons_zero, List.getElem?_cons_succ, ev_bR_ok, ev_op2, ev_c, mu, ev_addI, ev_nil, ec, ev_bS_ok, ev_gsub, B.t0, s1, ev_bN_next]
        simp only [ev_ifS, ev_cmp, ev_opA, ev_cons, ev_op2, ev_var, List.getElem?_cons_zero, List.getElem?_cons_succ, ev_bR_ok, ev_c, ev_addI, ev_nil, p1, ev_eqI, hz, decide_true, ev_asB, ev_bS_ok, if_true, ev_asg, p2, ev_sub, ev_gsub, B.t1, s2]) (fin _ fun _ _ => trivial) bde
      rw [tk] at bn
      exact bn
  · refine ⟨putL C s c, Dd, g1, ?_⟩
    have bn := body_next (kill := [3, 4]) (f := (dSeq (dAsg (gSubT gSetD (dOp2 gIx (dVar 2) (dC (.int 0))) (dVar 4)) (dOpA F__law_closed (dCons (dVar 1) (dCons (dOp2 gAdd (dC (.int 11)) (dOp2 gMul (dC (.int 5)) (dVar 3))) (dCons (dC (.int 0)) dNil))))) (dIfS (dCmp gEq (dOpA F__law_pick (dCons (dVar 1) (dCons (dOp2 gAdd (dC (.int 12)) (dVar 3)) (dCons (dC (.int 2)) dNil)))) (dC (.int 0))) (dAsg (gSubT gSetD (dOp2 gIx (dVar 2) (dC (.int 1))) (dVar 4)) (dOp2 gSub (dOpA F__law_pick (dCons (dVar 1) (dCons (dOp2 gAdd (dC (.int 13)) (dVar 3)) (dCons (dC (.int 1009)) dNil)))) (dC (.int 500)))) dPass))) (ρ := some (.loc 0) :: some (.loc 1) :: some (.loc 5) :: some (.int k) :: some (.str s) :: e3) (S := stW S C Dd F) (ρ' := some (.loc 0) :: some (.loc 1) :: some (.loc 5) :: some (.int k) :: some (.str s) :: e3) (S' := stW S (putL C s c) Dd F) (by
      simp only [ev_seq, ev_asg, ev_opA, ev_cons, ev_var, List.getElem?_cons_zero, List.getElem?_cons_succ, ev_bR_ok, ev_op2, ev_c, mu, ev_addI, ev_nil, ec, ev_bS_ok, ev_gsub, B.t0, s1, ev_bN_next]
      simp only [ev_ifS, ev_cmp, ev_opA, ev_cons, ev_op2, ev_var, List.getElem?_cons_zero, List.getElem?_cons_succ, ev_bR_ok, ev_c, ev_addI, ev_nil, p1, ev_eqI, hz, decide_false, ev_asB, ev_bS_ok, Bool.false_eq_true, if_false, ev_pass]) (fin _ fun _ _ => trivial) bde
    rw [tk] at bn
    exact bn
theorem loop1 (B : Bs S ns) {keep : List (Nat × PO)} (hk : Kept keep S) (hb : ∀ p ∈ keep, 6 ≤ p.1) : ∀ (L : List Str) (i : Nat) {C : List (Str × List P2)} {Dd : List (Str × Int)} {m : Nat}, Gd C Dd F m → m + L.length ≤ 50 → i + L.length ≤ 100 → (∀ s ∈ L, nameB s = true) → ∃ C' Dd', Gd C' Dd' F (m + L.length) ∧
    forL (gT 2 (gsCons (gN 3) (gsCons (gN 4) gsNil))) [3, 4] l_law_1 keep (enumP i (L.map PV.str)) (some (.loc 0) :: some (.loc 1) :: some (.loc 5) :: none :: none :: e3) (stW S C Dd F) =
      some (.next (some (.loc 0) :: some (.loc 1) :: some (.loc 5) :: none :: none :: e3) (stW S C' Dd' F))
  | [], i, C, Dd, m, g, _, _, _ => ⟨C, Dd, g, by
    show forL _ _ _ _ [] _ _ = _
    rw [forL_nil fun p hp => by rw [stW_ne (by have := hb p hp; omega) (by have := hb p hp; omega) (by have := hb p hp; omega)]; exact hk p hp]⟩
  | s :: L, i, C, Dd, m, g, hm, hi, hs => by
    rw [List.length_cons] at hm hi
    obtain ⟨C1, D1, g1, bd⟩ := body1 B g (by omega) (k := (i : Int)) (by omega) (hs s List.mem_cons_self)
    obtain ⟨C2, D2, g2, ih⟩ := loop1 B hk hb L (i + 1) g1 (by omega) (by omega) fun x hx => hs x (List.mem_cons_of_mem _ hx)
    refine ⟨C2, D2, g2.mono (by rw [List.length_cons]; omega), ?_⟩
    show forL _ _ _ _ (.tup [.int (i : Int), .str s] :: enumP (i + 1) (L.map PV.str)) _ _ = _
    rw [forL_cons fun p hp => by rw [stW_ne (by have := hb p hp; omega) (by have := hb p hp; omega) (by have := hb p hp; omega)]; exact hk p hp]
    simp only [ev_gT, List.length_cons, List.length_nil, Nat.reduceAdd, if_true, ev_gsCons, ev_gN, ev_gsNil, List.set_cons_succ, List.set_cons_zero, bd, ev_killC, ev_killN]
    exact ih
theorem loop2 (B : Bs S ns) {keep : List (Nat × PO)} (hk : Kept keep S) (hb : ∀ p ∈ keep, 6 ≤ p.1) : ∀ (L : List Str) (i : Nat) {Dd : List (Str × Int)} {F : List (Str × Bool)} {m : Nat}, Gd C Dd F m → m + L.length ≤ 50 → i + L.length ≤ 100 → (∀ s ∈ L, nameB s = true) → ∃ Dd' F', Gd C Dd' F' (m + L.length) ∧
    forL (gT 2 (gsCons (gN 3) (gsCons (gN 4) gsNil))) [3, 4] l_law_2 keep (enumP i (L.map PV.str)) (some (.loc 0) :: some (.loc 1) :: some (.loc 5) :: none :: none :: e3) (stW S C Dd F) =
      some (.next (some (.loc 0) :: some (.loc 1) :: some (.loc 5) :: none :: none :: e3) (stW S C Dd' F'))
  | [], i, Dd, F, m, g, _, _, _ => ⟨Dd, F, g, by
    show forL _ _ _ _ [] _ _ = _
    rw [forL_nil fun p hp => by rw [stW_ne (by have := hb p hp; omega) (by have := hb p hp; omega) (by have := hb p hp; omega)]; exact hk p hp]⟩
  | s :: L, i, Dd, F, m, g, hm, hi, hs => by
    rw [List.length_cons] at hm hi
    have hl := B.le
    have hsn := hs s List.mem_cons_self
    have p1 := pick_spec (S := stW S C Dd F) (k := 1) (a := 32 + (i : Int)) B.w1 B.ne (show (0 : Int) < 1009 by omega)
    have b1 := pick_lt ns (32 + (i : Int)) (show (0 : Int) < 1009 by omega)
    generalize pick ns (32 + (i : Int)) 1009 = z at p1 b1
    have pw : CPowD 10 20 := by unfold CPowD; decide
    have pw := ev_pow (S := stW S C Dd F) pw
    obtain ⟨big, hbig⟩ : ∃ big : Int, (10 : Int) ^ (20 : Int).toNat = big := ⟨_, rfl⟩
    rw [hbig] at pw
    have mu := ev_mulL (S := stW S C Dd F) (i := z - 500) (j := big) (by omega)
    have s1 := ev_setDS (e := PV.int) (S := stW S C Dd F) (k := 3) (s := s) (v := (z - 500) * big) (stW_3 hl) (by have := g.ld; omega)
    rw [stW_s3] at s1
    have p2 := pick_spec (S := stW S C (putL Dd s ((z - 500) * big)) F) (k := 1) (a := 33 + (i : Int)) B.w1 B.ne (show (0 : Int) < 2 by omega)
    generalize pick ns (33 + (i : Int)) 2 = y at p2
    have s2 := ev_setDS (e := PV.bl) (S := stW S C (putL Dd s ((z - 500) * big)) F) (k := 4) (s := s) (v := decide (y = 0)) (stW_4 hl) (by have := g.lf; omega)
    rw [stW_s4] at s2
    have g1 := (g.putD (c := (z - 500) * big) hsn)
    have g2 := (g.putF (c := decide (y = 0)) hsn)
    have g3 : Gd C (putL Dd s ((z - 500) * big)) (putL F s (decide (y = 0))) (m + 1) := ⟨g1.nc, g1.nd, g2.nf, g1.kc, g1.kd, g2.kf, g1.fc, g1.lc, g1.ld, g2.lf⟩
    have bd : l_law_2 (some (.loc 0) :: some (.loc 1) :: some (.loc 5) :: some (.int (i : Int)) :: some (.str s) :: e3) (stW S C Dd F) = some (.next (some (.loc 0) :: some (.loc 1) :: some (.loc 5) :: some (.int (i : Int)) :: some (.str s) :: e3) (stW S C (putL Dd s ((z - 500) * big)) (putL F s (decide (y = 0))))) := by
      simp only [l_law_2, ev_seq, ev_asg, ev_op2, ev_opA, ev_cons, ev_var, List.getElem?_cons_zero, List.getElem?_cons_succ, ev_bR_ok, ev_c, ev_addI, ev_nil, p1, ev_sub, pw, mu, ev_bS_ok, ev_gsub, B.t1, s1, ev_bN_next, p2, ev_eqI, B.t2, s2]
    obtain ⟨D2, F2, g4, ih⟩ := loop2 B hk hb L (i + 1) g3 (by omega) (by omega) fun x hx => hs x (List.mem_cons_of_mem _ hx)
    refine ⟨D2, F2, g4.mono (by rw [List.length_cons]; omega), ?_⟩
    show forL _ _ _ _ (.tup [.int (i : Int), .str s] :: enumP (i + 1) (L.map PV.str)) _ _ = _
    rw [forL_cons fun p hp => by rw [stW_ne (by have := hb p hp; omega) (by have := hb p hp; omega) (by have := hb p hp; omega)]; exact hk p hp]
    simp only [ev_gT, List.length_cons, List.length_nil, Nat.reduceAdd, if_true, ev_gsCons, ev_gN, ev_gsNil, List.set_cons_succ, List.set_cons_zero, bd, ev_killC, ev_killN]
    exact ih
end
/-! ## _law_due -/
theorem due_body {α : Type} {e : α → PV} {W : Sto} {k : Nat} {l : List (Str × α)} {acc : List PV} (hk : W[k]? = some (.dct false (encD e l))) (hl : l.length < 64) (he : ∀ a, noLoc (e a) = true) (ha : noLocs acc = true) (hlen : acc.length ≤ 10) {q : Nat} (hq : q < W.length) :
    l__law_due_1 [some (.loc q), some (.loc W.length), some (.loc k), none] (W ++ [.lst acc]) = some (.next [some (.loc q), some (.loc W.length), none, none] (W ++ [.lst (acc ++ [.tup (wpairs e l)])])) := by
  obtain ⟨U, hU⟩ : ∃ U, U = W ++ [PO.lst acc] := ⟨_, rfl⟩
  have u1 : U[W.length]? = some (.lst acc) := by rw [hU]; exact at_0
  have cm := sorted_compJ (e := e) (S := U) (ρ := [some (.loc q), some (.loc W.length), some (.loc k), none]) (i := 2) (j := 3) (k := k) rfl (fun _ => rfl) (fun _ => rfl) (by rw [hU]; exact at_old hk) hl
  have tl := ev_tupleL (S := U ++ [.lst ((sortSt (l.map Prod.fst)).map PV.str)] ++ [.lst (wpairs e l)]) (k := U.length + 1) (l := wpairs e l) at_two
  have ty := ev_tyL u1
  obtain ⟨V, hV⟩ : ∃ V, V = U ++ [PO.lst ((sortSt (l.map Prod.fst)).map PV.str)] ++ [.lst (wpairs e l)] := ⟨_, rfl⟩
  rw [← hV] at cm tl
  have v1 : V[W.length]? = some (.lst acc) := by rw [hV]; exact at_old (at_old u1)
  have ap := ev_append (y := .tup (wpairs e l)) v1 (by omega)
  have bn := body_next (kill := [2]) (f := (dExpr (dMeth "list" gAppend (dVar 1) (dCons (dOpA gTuple (dCons (dComp (dSeqI (dOpA gSortD (dCons (dVar 2) dNil))) (nmOne 3) [3] dYes (dTup (dCons (dVar 3) (dCons (dOp2 gIxD (dVar 2) (dVar 3)) dNil)))) dNil)) dNil)))) (ρ := [some (.loc q), some (.loc W.length), some (.loc k), none]) (S := U) (ρ' := [some (.loc q), some (.loc W.length), some (.loc k), none]) (S' := V.set W.length (.lst (acc ++ [.tup (wpairs e l)]))) (by
    simp only [ev_expr, ev_meth, ev_var, List.getElem?_cons_zero, List.getElem?_cons_succ, ev_bR_ok, ty, if_true, ev_cons, ev_opA, cm, ev_nil, tl, ap, ev_bS_ok]) (by
    have c1 : Cl U V := by rw [hV, List.append_assoc]; exact Cl.app _
    refine c1.set (bds_noLoc _ _ ?_)
    have : noLocs (acc ++ [.tup (wpairs e l)]) = true := by
      clear cm tl ap v1 u1 hV hU ty
      induction acc with
      | nil =>
        show (noLocs (wpairs e l) && true) = true
        rw [wpairs_nl he]
        rfl
      | cons a acc ih =>
        have h2 : (noLoc a && noLocs acc) = true := ha
        rw [Bool.and_eq_true] at h2
        show (noLoc a && noLocs (acc ++ [.tup (wpairs e l)])) = true
        rw [h2.1, ih h2.2 (by rw [List.length_cons] at hlen; omega)]
        rfl
    exact this) (by
    show bdE U.length [some (.loc q), some (.loc W.length), none, none]
    exact ⟨(by show q < U.length; rw [hU]; simp; omega), lt_of_get u1, trivial⟩)
  have tk : (V.set W.length (.lst (acc ++ [.tup (wpairs e l)]))).take U.length = W ++ [.lst (acc ++ [.tup (wpairs e l)])] := by
    have lu : U.length = W.length + 1 := by rw [hU]; simp
    rw [lu, hV, hU]
    simp
  rw [tk, hU] at bn
  exact bn
section
variable {S : Sto} {C : List (Str × List P2)} {Dd : List (Str × Int)} {F : List (Str × Bool)} {m : Nat}
theorem due_ok (h2 : S[2]? = some (.dct false (encD clP C))) (h3 : S[3]? = some (.dct false (encD PV.int Dd))) (h4 : S[4]? = some (.dct false (encD PV.bl F))) (h5 : S[5]? = some (.lst [.loc 2, .loc 3, .loc 4])) (g : Gd C Dd F m) (hm : m < 60) : F__law_due [.loc 5] S = some (.ok (worldP C Dd F) S) := by
  have l5 := lt_of_get h5
  have n1 : noLoc (.tup (wpairs clP C)) = true := wpairs_nl (e := clP) (fun c => noLocs_pairs c) C
  have n2 : noLoc (.tup (wpairs PV.int Dd)) = true := wpairs_nl (e := PV.int) (fun c => rfl) Dd
  have b1 := due_body (e := clP) (W := S) (q := 5) (acc := []) h2 (by have := g.lc; omega) (fun c => noLocs_pairs c) rfl (by simp) l5
  have b2 := due_body (e := PV.int) (W := S) (q := 5) (acc := [.tup (wpairs clP C)]) h3 (by have := g.ld; omega) (fun c => rfl) (by show (noLoc _ && true) = true; rw [n1]; rfl) (by simp) l5
  have b3 := due_body (e := PV.bl) (W := S) (q := 5) (acc := [.tup (wpairs clP C), .tup (wpairs PV.int Dd)]) h4 (by have := g.lf; omega) (fun c => rfl) (by show (noLoc _ && (noLoc _ && true)) = true; rw [n1, n2]; rfl) (by simp) l5
  have h5' : ∀ x : PO, (S ++ [x])[5]? = some (.lst [.loc 2, .loc 3, .loc 4]) := fun x => at_old h5
  have lp : forL (gN 2) [2] l__law_due_1 [(5, .lst [.loc 2, .loc 3, .loc 4])] [.loc 2, .loc 3, .loc 4] [some (.loc 5), some (.loc S.length), none, none] (S ++ [.lst []]) = some (.next [some (.loc 5), some (.loc S.length), none, none] (S ++ [.lst [.tup (wpairs clP C), .tup (wpairs PV.int Dd), .tup (wpairs PV.bl F)]])) := by
    rw [forL_cons (by rw [kept_one]; exact h5' _)]
    simp only [ev_gN, List.set_cons_succ, List.set_cons_zero, b1, ev_killC, ev_killN, List.nil_append]
    rw [forL_cons (by rw [kept_one]; exact h5' _)]
    simp only [ev_gN, List.set_cons_succ, List.set_cons_zero, b2, ev_killC, ev_killN, List.cons_append, List.nil_append]
    rw [forL_cons (by rw [kept_one]; exact h5' _)]
    simp only [ev_gN, List.set_cons_succ, List.set_cons_zero, b3, ev_killC, ev_killN, List.cons_append, List.nil_append]
    rw [forL_nil (by rw [kept_one]; exact h5' _)]
  have tl := ev_tupleL (S := S ++ [.lst [.tup (wpairs clP C), .tup (wpairs PV.int Dd), .tup (wpairs PV.bl F)]]) (k := S.length) (l := [.tup (wpairs clP C), .tup (wpairs PV.int Dd), .tup (wpairs PV.bl F)]) at_0
  refine call_val (T := [.lst [.tup (wpairs clP C), .tup (wpairs PV.int Dd), .tup (wpairs PV.bl F)]]) ?_ (wP_nl _ _ _)
  show b__law_due [some (.loc 5), none, none, none] S = _
  simp only [b__law_due, b__law_due_t0, b__law_due_t1, b__law_due_t2, ev_seq, ev_set, ev_lst, ev_nil, ev_bR_ok, ev_lst0, ev_bS_ok, ev_bN_next, List.set_cons_succ, List.set_cons_zero, ev_for, ev_seqI, ev_var, List.getElem?_cons_zero, List.getElem?_cons_succ, h5', ev_killC, ev_killN, lp, ev_ret, ev_opA, ev_cons, tl]
  rfl
end
/-! ## what is refused -/
section
variable {α : Type} {e : α → PV} {S : Sto} {k : Nat}
theorem check_bad_loop {l0 : List (Str × α)} (hk : S[k]? = some (.fd (encD e l0))) : ∀ l : List (Str × α), (∀ p ∈ l, p.1.length ≤ 16777216) → (∃ p ∈ l, nameB p.1 = false) →
    ∃ ρ', forL (gN 1) [1] l__check_names_1 [(k, .fd (encD e l0))] ((l.map Prod.fst).map PV.str) [some (.loc k), none] S = some (.exc ⟨"NotAllowed", []⟩ ρ' S)
  | [], _, h => by obtain ⟨p, hp, _⟩ := h; cases hp
  | p :: l, h, hb => by
    have n := is_name_spec (S := S) (h p List.mem_cons_self)
    rw [List.map_cons, List.map_cons, forL_cons (by rw [kept_one]; exact hk)]
    cases h1 : nameB p.1 with
    | false =>
      rw [h1] at n
      have body := body_exc (kill := [1]) (f := (dIfS (dNotT (dTru (dOpA F_is_name (dCons (dVar 1) dNil)))) (dRaise "NotAllowed") dPass)) (ρ := [some (.loc k), some (.str p.1)]) (S := S) (e := ⟨"NotAllowed", []⟩) (ρ' := [some (.loc k), some (.str p.1)]) (S' := S) (by simp [n])
      have body : l__check_names_1 [some (.loc k), some (.str p.1)] S = _ := body
      refine ⟨[some (.loc k), some (.str p.1)], ?_⟩
      simp only [ev_gN, List.set_cons_succ, List.set_cons_zero, body]
    | true =>
      rw [h1] at n
      obtain ⟨q, hq, hq2⟩ := hb
      have hq : q ∈ l := by
        rcases List.mem_cons.mp hq with rfl | hq
        · rw [h1] at hq2; cases hq2
        · exact hq
      obtain ⟨ρ', ih⟩ := check_bad_loop hk l (fun x hx => h x (List.mem_cons_of_mem _ hx)) ⟨q, hq, hq2⟩
      have body := body_next (kill := [1]) (f := (dIfS (dNotT (dTru (dOpA F_is_name (dCons (dVar 1) dNil)))) (dRaise "NotAllowed") dPass)) (ρ := [some (.loc k), some (.str p.1)]) (S := S) (ρ' := [some (.loc k), some (.str p.1)]) (S' := S) (by simp [n]) Cl.refl ⟨lt_of_get hk, trivial⟩
      have body : l__check_names_1 [some (.loc k), some (.str p.1)] S = _ := body
      rw [List.take_length] at body
      refine ⟨ρ', ?_⟩
      simp only [ev_gN, List.set_cons_succ, List.set_cons_zero, body, ev_killC, ev_killN, killE]
      exact ih
theorem check_bad {l : List (Str × α)} (hk : S[k]? = some (.dct false (encD e l))) (h : ∀ p ∈ l, p.1.length ≤ 16777216) (hb : ∃ p ∈ l, nameB p.1 = false) : F__check_names [.loc k] S = some (.exc ⟨"NotAllowed", []⟩ S) := by
  have hf : (S.set k (.fd (encD e l)))[k]? = some (.fd (encD e l)) := List.getElem?_set_self (lt_of_get hk)
  obtain ⟨ρ', lp⟩ := check_bad_loop (e := e) hf l h hb
  refine call_exc_same (ρ := ρ') ?_
  unfold b__check_names
  show dLock 0 _ [some (.loc k), none] S = _
  rw [ev_lock rfl hk]
  simp only [ev_for, ev_keysI, ev_var, List.getElem?_cons_zero, ev_bR_ok, hf, ev_bS_ok, ev_killC, ev_killN, List.set_cons_succ, List.set_cons_zero, encD_keys, lp]
  show (unS k _).map _ = _
  rw [un_lock hk]
  rfl
end
theorem closed_bad_loop {S : Sto} {k : Nat} {v1 v2 : Option PV} {l0 : List (Str × List P2)} (hk : S[k]? = some (.fd (encD clP l0))) (hv : bdE S.length [some (.loc k), v1, v2, none]) : ∀ l : List (Str × List P2), (∀ p ∈ l, l0.lookup p.1 = some p.2) → (∃ p ∈ l, formB none p.2 = false) →
    ∃ ρ', forL (gN 3) [3] l_make_world_1 [(k, .fd (encD clP l0))] ((l.map Prod.fst).map PV.str) [some (.loc k), v1, v2, none] S = some (.exc ⟨"NotAllowed", []⟩ ρ' S)
  | [], _, h => by obtain ⟨p, hp, _⟩ := h; cases hp
  | p :: l, h, hb => by
    have ix := ev_ixDF (S := S) (s := p.1) (v := clP p.2) hk (by rw [encD_val, h p List.mem_cons_self]; rfl)
    have n := icd_spec (S := S) (l := p.2)
    rw [List.map_cons, List.map_cons, forL_cons (by rw [kept_one]; exact hk)]
    cases h1 : formB none p.2 with
    | false =>
      rw [h1] at n
      have body := body_exc (kill := [3]) (f := (dIfS (dNotT (dTru (dOpA F_is_closed_days (dCons (dOp2 gIxD (dVar 0) (dVar 3)) dNil)))) (dRaise "NotAllowed") dPass)) (ρ := [some (.loc k), v1, v2, some (.str p.1)]) (S := S) (e := ⟨"NotAllowed", []⟩) (ρ' := [some (.loc k), v1, v2, some (.str p.1)]) (S' := S) (by simp [ix, n])
      have body : l_make_world_1 [some (.loc k), v1, v2, some (.str p.1)] S = _ := body
      refine ⟨[some (.loc k), v1, v2, some (.str p.1)], ?_⟩
      simp only [ev_gN, List.set_cons_succ, List.set_cons_zero, body]
    | true =>
      rw [h1] at n
      obtain ⟨q, hq, hq2⟩ := hb
      have hq : q ∈ l := by
        rcases List.mem_cons.mp hq with rfl | hq
        · rw [h1] at hq2; cases hq2
        · exact hq
      obtain ⟨ρ', ih⟩ := closed_bad_loop hk hv l (fun x hx => h x (List.mem_cons_of_mem _ hx)) ⟨q, hq, hq2⟩
      have body := body_next (kill := [3]) (f := (dIfS (dNotT (dTru (dOpA F_is_closed_days (dCons (dOp2 gIxD (dVar 0) (dVar 3)) dNil)))) (dRaise "NotAllowed") dPass)) (ρ := [some (.loc k), v1, v2, some (.str p.1)]) (S := S) (ρ' := [some (.loc k), v1, v2, some (.str p.1)]) (S' := S) (by simp [ix, n]) Cl.refl hv
      have body : l_make_world_1 [some (.loc k), v1, v2, some (.str p.1)] S = _ := body
      rw [List.take_length] at body
      refine ⟨ρ', ?_⟩
      simp only [ev_gN, List.set_cons_succ, List.set_cons_zero, body, ev_killC, ev_killN, killE]
      exact ih
def badN {α : Type} (l : List (Str × α)) : Prop := ∃ p ∈ l, nameB p.1 = false
theorem make_bad {S : Sto} {kc kd kf : Nat} {C : List (Str × List P2)} {Dd : List (Str × Int)} {F : List (Str × Bool)} (hc : S[kc]? = some (.dct false (encD clP C))) (hd : S[kd]? = some (.dct false (encD PV.int Dd))) (hf : S[kf]? = some (.dct false (encD PV.bl F)))
    (nc : ∀ p ∈ C, p.1.length ≤ 16777216) (nd : ∀ p ∈ Dd, p.1.length ≤ 16777216) (nf : ∀ p ∈ F, p.1.length ≤ 16777216) (hn : (keysL C).Nodup)
    (h : badN C ∨ ((∀ p ∈ C, nameB p.1 = true) ∧ badN Dd) ∨ ((∀ p ∈ C, nameB p.1 = true) ∧ (∀ p ∈ Dd, nameB p.1 = true) ∧ badN F) ∨ ((∀ p ∈ C, nameB p.1 = true) ∧ (∀ p ∈ Dd, nameB p.1 = true) ∧ (∀ p ∈ F, nameB p.1 = true) ∧ ∃ p ∈ C, formB none p.2 = false)) :
    F_make_world [.loc kc, .loc kd, .loc kf] S = some (.exc ⟨"NotAllowed", []⟩ S) := by
  rcases h with h | ⟨h1, h⟩ | ⟨h1, h2, h⟩ | ⟨h1, h2, h3, h⟩
  · have c1 := check_bad hc nc h
    refine call_exc_same (ρ := [some (.loc kc), some (.loc kd), some (.loc kf), none]) ?_
    simp [b_make_world, b_make_world_t0, c1]
  · have c1 := check_spec hc fun p hp => ⟨h1 p hp, nc p hp⟩
    have c2 := check_bad hd nd h
    refine call_exc_same (ρ := [some (.loc kc), some (.loc kd), some (.loc kf), none]) ?_
    simp [b_make_world, b_make_world_t0, b_make_world_t1, c1, c2]
  · have c1 := check_spec hc fun p hp => ⟨h1 p hp, nc p hp⟩
    have c2 := check_spec hd fun p hp => ⟨h2 p hp, nd p hp⟩
    have c3 := check_bad hf nf h
    refine call_exc_same (ρ := [some (.loc kc), some (.loc kd), some (.loc kf), none]) ?_
    simp [b_make_world, b_make_world_t0, b_make_world_t1, b_make_world_t2, c1, c2, c3]
  · have c1 := check_spec hc fun p hp => ⟨h1 p hp, nc p hp⟩
    have c2 := check_spec hd fun p hp => ⟨h2 p hp, nd p hp⟩
    have c3 := check_spec hf fun p hp => ⟨h3 p hp, nf p hp⟩
    have hfz : (S.set kc (.fd (encD clP C)))[kc]? = some (.fd (encD clP C)) := List.getElem?_set_self (lt_of_get hc)
    obtain ⟨ρ', lp⟩ := closed_bad_loop (v1 := some (.loc kd)) (v2 := some (.loc kf)) hfz (by
      rw [List.length_set]
      exact ⟨lt_of_get hc, lt_of_get hd, lt_of_get hf, trivial⟩) C (fun p hp => lookup_self hn hp) h
    have lk : dLock 0 (dFor (dKeysI (dVar 0)) (gN 3) [3] l_make_world_1) [some (.loc kc), some (.loc kd), some (.loc kf), none] S = some (.exc ⟨"NotAllowed", []⟩ ρ' S) := by
      rw [ev_lock rfl hc]
      simp only [ev_for, ev_keysI, ev_var, List.getElem?_cons_zero, ev_bR_ok, hfz, ev_bS_ok, ev_killC, ev_killN, List.set_cons_succ, List.set_cons_zero, encD_keys, lp]
      show (unS kc _).map _ = _
      rw [un_lock hc]
      rfl
    refine call_exc_same (ρ := ρ') ?_
    show b_make_world [some (.loc kc), some (.loc kd), some (.loc kf), none] S = _
    simp only [b_make_world, b_make_world_t0, b_make_world_t1, b_make_world_t2, b_make_world_t3, ev_seq, ev_expr, ev_opA, ev_cons, ev_var, List.getElem?_cons_zero, List.getElem?_cons_succ, ev_bR_ok, ev_nil, c1, c2, c3, ev_bS_ok, ev_bN_next, lk, ev_bN_exc]
section
variable {S : Sto} {C : List (Str × List P2)} {Dd : List (Str × Int)} {F : List (Str × Bool)} {m : Nat}
theorem Gd.len {C : List (Str × List P2)} (h : ∀ p ∈ C, nameB p.1 = true) : ∀ p ∈ C, p.1.length ≤ 16777216 := fun p hp => by have := (name_pos (h p hp)).2; omega
theorem lenD {α : Type} {C : List (Str × α)} (h : ∀ p ∈ C, nameB p.1 = true) : ∀ p ∈ C, p.1.length ≤ 16777216 := fun p hp => by have := (name_pos (h p hp)).2; omega
theorem len_put {α : Type} {l : List (Str × α)} {s : Str} {v : α} (h : ∀ p ∈ l, p.1.length ≤ 16777216) (hs : s.length ≤ 16777216) : ∀ p ∈ putL l s v, p.1.length ≤ 16777216 := fun p hp => by
  rcases putL_mem hp with rfl | hp
  · exact hs
  · exact h p hp
theorem put_in {α : Type} {l : List (Str × α)} {s : Str} {v : α} : (s, v) ∈ putL l s v := look_in (by rw [putL_look, if_pos rfl])
theorem put_bad {α : Type} {l : List (Str × α)} {s : Str} {v : α} (hs : nameB s = false) : badN (putL l s v) := ⟨(s, v), put_in, hs⟩
/-- the three copies, one changed -/
theorem refused_ok (h2 : S[2]? = some (.dct false (encD clP C))) (h3 : S[3]? = some (.dct false (encD PV.int Dd))) (h4 : S[4]? = some (.dct false (encD PV.bl F))) (h5 : S[5]? = some (.lst [.loc 2, .loc 3, .loc 4])) (g : Gd C Dd F m) (hm : m < 60) {which : Int} (hw : which = 0 ∨ which = 1 ∨ which = 2) {s : Str} (hs : s.length ≤ 16777216) {c : List P2}
    (h : nameB s = false ∨ (which = 0 ∧ nameB s = true ∧ formB none c = false)) : F__law_refused [.loc 5, .int which, .str s, clP c] S = some (.ok (.bl true) S) := by
  obtain ⟨n, hn⟩ : ∃ n, n = S.length := ⟨_, rfl⟩
  have d1 : gDict [.loc 2] S = some (.ok (.loc n) (S ++ [.dct false (encD clP C)])) := by
    unfold gDict dctOf
    dsimp only
    rw [h2, hn]
  obtain ⟨S1, hS1⟩ : ∃ S1, S1 = S ++ [PO.dct false (encD clP C)] := ⟨_, rfl⟩
  rw [← hS1] at d1
  have l1 : S1.length = n + 1 := by rw [hS1, hn]; simp
  have d2 : gDict [.loc 3] S1 = some (.ok (.loc (n + 1)) (S1 ++ [.dct false (encD PV.int Dd)])) := by
    unfold gDict dctOf
    dsimp only
    rw [hS1, at_old h3, ← hS1, l1]
  obtain ⟨S2, hS2⟩ : ∃ S2, S2 = S1 ++ [PO.dct false (encD PV.int Dd)] := ⟨_, rfl⟩
  rw [← hS2] at d2
  have l2 : S2.length = n + 2 := by rw [hS2]; simp [l1]
  have d3 : gDict [.loc 4] S2 = some (.ok (.loc (n + 2)) (S2 ++ [.dct false (encD PV.bl F)])) := by
    unfold gDict dctOf
    dsimp only
    rw [hS2, hS1, at_old (at_old h4), ← hS1, ← hS2, l2]
  obtain ⟨S3, hS3⟩ : ∃ S3, S3 = S2 ++ [PO.dct false (encD PV.bl F)] := ⟨_, rfl⟩
  rw [← hS3] at d3
  have l3 : S3.length = n + 3 := by rw [hS3]; simp [l2]
  obtain ⟨U, hU⟩ : ∃ U, U = S3 ++ [PO.lst [.loc n, .loc (n + 1), .loc (n + 2)]] := ⟨_, rfl⟩
  have d4 : gLstP [.loc n, .loc (n + 1), .loc (n + 2)] S3 = some (.ok (.loc (n + 3)) U) := by rw [hU, ← l3]; rfl
  have ul : U.length = n + 4 := by rw [hU]; simp [l3]
  have i0 : gIx (.loc 5) (.int 0) S = some (.ok (.loc 2) S) := ev_ixL h5 rfl
  have i1 : gIx (.loc 5) (.int 1) S1 = some (.ok (.loc 3) S1) := ev_ixL (by rw [hS1]; exact at_old h5) rfl
  have i2 : gIx (.loc 5) (.int 2) S2 = some (.ok (.loc 4) S2) := ev_ixL (by rw [hS2, hS1]; exact at_old (at_old h5)) rfl
  obtain ⟨V, hV⟩ : ∃ V, V = U ++ [PO.lst [clP c, .int 7, .bl true]] := ⟨_, rfl⟩
  have d5 : gLstP [clP c, .int 7, .bl true] U = some (.ok (.loc (n + 4)) V) := by rw [hV, ← ul]; rfl
  have vl : V.length = n + 5 := by rw [hV]; simp [ul]
  have vs : V = S ++ [PO.dct false (encD clP C), .dct false (encD PV.int Dd), .dct false (encD PV.bl F), .lst [.loc n, .loc (n + 1), .loc (n + 2)], .lst [clP c, .int 7, .bl true]] := by rw [hV, hU, hS3, hS2, hS1]; simp
  have v0 : V[n]? = some (.dct false (encD clP C)) := by rw [vs, hn]; simp
  have v1 : V[n + 1]? = some (.dct false (encD PV.int Dd)) := by rw [vs, hn]; simp
  have v2 : V[n + 2]? = some (.dct false (encD PV.bl F)) := by rw [vs, hn]; simp
  have v3 : V[n + 3]? = some (.lst [.loc n, .loc (n + 1), .loc (n + 2)]) := by rw [vs, hn]; simp
  have v4 : V[n + 4]? = some (.lst [clP c, .int 7, .bl true]) := by rw [vs, hn]; simp
  -- what is set
  have hset : ∃ W C' Dd' F', W.take S.length = S ∧ W[n]? = some (.dct false (encD clP C')) ∧ W[n + 1]? = some (.dct false (encD PV.int Dd')) ∧ W[n + 2]? = some (.dct false (encD PV.bl F')) ∧ W[n + 3]? = some (.lst [.loc n, .loc (n + 1), .loc (n + 2)]) ∧
      (∀ p ∈ C', p.1.length ≤ 16777216) ∧ (∀ p ∈ Dd', p.1.length ≤ 16777216) ∧ (∀ p ∈ F', p.1.length ≤ 16777216) ∧ (keysL C').Nodup ∧
      (badN C' ∨ ((∀ p ∈ C', nameB p.1 = true) ∧ badN Dd') ∨ ((∀ p ∈ C', nameB p.1 = true) ∧ (∀ p ∈ Dd', nameB p.1 = true) ∧ badN F') ∨ ((∀ p ∈ C', nameB p.1 = true) ∧ (∀ p ∈ Dd', nameB p.1 = true) ∧ (∀ p ∈ F', nameB p.1 = true) ∧ ∃ p ∈ C', formB none p.2 = false)) ∧
      dAsg (gSubT gSetD (dOp2 gIx (dVar 4) (dVar 1)) (dVar 2)) (dOp2 gIx (dLst (dCons (dVar 3) (dCons (dC (.int 7)) (dCons (dC (.bl true)) dNil)))) (dVar 1)) [some (.loc 5), some (.int which), some (.str s), some (clP c), some (.loc (n + 3)), none] U = some (.next [some (.loc 5), some (.int which), some (.str s), some (clP c), some (.loc (n + 3)), none] W) := by
    have tk : ∀ (j : Nat) (o : PO), n ≤ j → (V.set j o).take S.length = S := fun j o hj => by
      rw [List.take_set_of_le (by omega), vs]
      simp
    rcases hw with rfl | rfl | rfl
    · have sd := ev_setDS (e := clP) (s := s) (v := c) v0 (by have := g.lc; omega)
      have x1 : gIx (.loc (n + 4)) (.int 0) V = some (.ok (clP c) V) := ev_ixL v4 rfl
      have x2 : gIx (.loc (n + 3)) (.int 0) V = some (.ok (.loc n) V) := ev_ixL v3 rfl
      refine ⟨V.set n (.dct false (encD clP (putL C s c))), putL C s c, Dd, F, tk _ _ (by omega), List.getElem?_set_self (by omega), by rw [List.getElem?_set_ne (by omega)]; exact v1, by rw [List.getElem?_set_ne (by omega)]; exact v2, by rw [List.getElem?_set_ne (by omega)]; exact v3, len_put (lenD g.kc) hs, lenD g.kd, lenD g.kf, putL_nodup g.nc, ?_, ?_⟩
      · rcases h with h | ⟨_, h1, h2⟩
        · exact .inl (put_bad h)
        · refine .inr (.inr (.inr ⟨fun p hp => ?_, g.kd, g.kf, (s, c), put_in, h2⟩))
          rcases putL_mem hp with rfl | hp
          · exact h1
          · exact g.kc p hp
      · simp only [ev_asg, ev_op2, ev_lst, ev_cons, ev_var, List.getElem?_cons_zero, List.getElem?_cons_succ, ev_bR_ok, ev_c, ev_nil, d5, x1, ev_bS_ok, ev_gsub, x2, sd]
    · have h : nameB s = false := by
        rcases h with h | ⟨h, _⟩
        · exact h
        · cases h
      have sd := ev_setDS (e := PV.int) (s := s) (v := 7) v1 (by have := g.ld; omega)
      have x1 : gIx (.loc (n + 4)) (.int 1) V = some (.ok (.int 7) V) := ev_ixL v4 rfl
      have x2 : gIx (.loc (n + 3)) (.int 1) V = some (.ok (.loc (n + 1)) V) := ev_ixL v3 rfl
      refine ⟨V.set (n + 1) (.dct false (encD PV.int (putL Dd s 7))), C, putL Dd s 7, F, tk _ _ (by omega), by rw [List.getElem?_set_ne (by omega)]; exact v0, List.getElem?_set_self (by omega), by rw [List.getElem?_set_ne (by omega)]; exact v2, by rw [List.getElem?_set_ne (by omega)]; exact v3, lenD g.kc, len_put (lenD g.kd) hs, lenD g.kf, g.nc, .inr (.inl ⟨g.kc, put_bad h⟩), ?_⟩
      simp only [ev_asg, ev_op2, ev_lst, ev_cons, ev_var, List.getElem?_cons_zero, List.getElem?_cons_succ, ev_bR_ok, ev_c, ev_nil, d5, x1, ev_bS_ok, ev_gsub, x2, sd]
    · have h : nameB s = false := by
        rcases h with h | ⟨h, _⟩
        · exact h
        · cases h
      have sd := ev_setDS (e := PV.bl) (s := s) (v := true) v2 (by have := g.lf; omega)
      have x1 : gIx (.loc (n + 4)) (.int 2) V = some (.ok (.bl true) V) := ev_ixL v4 rfl
      have x2 : gIx (.loc (n + 3)) (.int 2) V = some (.ok (.loc (n + 2)) V) := ev_ixL v3 rfl
      refine ⟨V.set (n + 2) (.dct false (encD PV.bl (putL F s true))), C, Dd, putL F s true, tk _ _ (by omega), by rw [List.getElem?_set_ne (by omega)]; exact v0, by rw [List.getElem?_set_ne (by omega)]; exact v1, List.getElem?_set_self (by omega), by rw [List.getElem?_set_ne (by omega)]; exact v3, lenD g.kc, lenD g.kd, len_put (lenD g.kf) hs, g.nc, .inr (.inr (.inl ⟨g.kc, g.kd, put_bad h⟩)), ?_⟩
      simp only [ev_asg, ev_op2, ev_lst, ev_cons, ev_var, List.getElem?_cons_zero, List.getElem?_cons_succ, ev_bR_ok, ev_c, ev_nil, d5, x1, ev_bS_ok, ev_gsub, x2, sd]
  obtain ⟨W, C', Dd', F', wt, w0, w1, w2, w3, n0, n1, n2, nn, hbad, hasg⟩ := hset
  have mk := make_bad w0 w1 w2 n0 n1 n2 nn hbad
  have y0 : gIx (.loc (n + 3)) (.int 0) W = some (.ok (.loc n) W) := ev_ixL w3 rfl
  have y1 : gIx (.loc (n + 3)) (.int 1) W = some (.ok (.loc (n + 1)) W) := ev_ixL w3 rfl
  have y2 : gIx (.loc (n + 3)) (.int 2) W = some (.ok (.loc (n + 2)) W) := ev_ixL w3 rfl
  have hd : hdAs 5 h__law_refused_1 ⟨"NotAllowed", []⟩ [some (.loc 5), some (.int which), some (.str s), some (clP c), some (.loc (n + 3)), none] W = some (.ret (.bl true) W) := by
    refine hdAs_eq rfl fun a d fv _ => ?_
    simp [h__law_refused_1, endE]
  have tr := ev_tryAs_exc (body := dExpr (dOpA F_make_world (dCons (dOp2 gIx (dVar 4) (dC (.int 0))) (dCons (dOp2 gIx (dVar 4) (dC (.int 1))) (dCons (dOp2 gIx (dVar 4) (dC (.int 2))) dNil))))) (i := 5) (su := h__law_refused_1) (cat := cat_NotAllowed) (ρ := [some (.loc 5), some (.int which), some (.str s), some (clP c), some (.loc (n + 3)), none]) (S := W) (e := ⟨"NotAllowed", []⟩) (ρ1 := [some (.loc 5), some (.int which), some (.str s), some (clP c), some (.loc (n + 3)), none]) (S1 := W) (by
    simp only [ev_expr, ev_opA, ev_cons, ev_op2, ev_var, List.getElem?_cons_zero, List.getElem?_cons_succ, ev_bR_ok, ev_c, y0, y1, y2, ev_nil, mk, ev_bS_exc]) (by show cat_NotAllowed "NotAllowed" = some true; decide +kernel)
  rw [hd] at tr
  obtain ⟨T, hT⟩ : ∃ T, W = S ++ T := ⟨W.drop S.length, by have := List.take_append_drop S.length W; rw [wt] at this; exact this.symm⟩
  refine call_val (T := T) ?_ rfl
  rw [← hT]
  show b__law_refused [some (.loc 5), some (.int which), some (.str s), some (clP c), none, none] S = _
  simp only [b__law_refused, b__law_refused_t0, ev_seq, ev_set, ev_lst, ev_cons, ev_opA, ev_op2, ev_var, List.getElem?_cons_zero, List.getElem?_cons_succ, ev_bR_ok, ev_c, i0, ev_nil, d1, i1, d2, i2, d3, d4, ev_bS_ok, ev_bN_next, List.set_cons_succ, List.set_cons_zero]
  unfold b__law_refused_t1
  rw [ev_seq, hasg]
  simp only [ev_bN_next, b__law_refused_t2, ev_seq, tr, ev_bN_ret]
theorem unset_ok {which : Int} (hw : which = 0 ∨ which = 1 ∨ which = 2) {s : Str} (hs : s.length ≤ 16777216) (h : nameB s = false) : F__law_unset [worldP C Dd F, .int which, .str s] S = some (.ok (.bl true) S) := by
  obtain ⟨b0, _, _⟩ := set_bad (S := S) (C := C) (Dd := Dd) (F := F) (v := .tup []) h hs
  obtain ⟨_, b1, _⟩ := set_bad (S := S) (C := C) (Dd := Dd) (F := F) (v := .int 3) h hs
  obtain ⟨_, _, b2⟩ := set_bad (S := S) (C := C) (Dd := Dd) (F := F) (v := .bl false) h hs
  have cat : cat_NotAllowed "NotAllowed" = some true := by decide +kernel
  generalize worldP C Dd F = w at b0 b1 b2
  refine call_val0 ?_ rfl
  rcases hw with rfl | rfl | rfl
  · simp [b__law_unset, dTryOnly, b0, cat, noX]
  · simp [b__law_unset, dTryOnly, b1, cat, noX]
  · simp [b__law_unset, dTryOnly, b2, cat, noX]
/-! ## reading -/
theorem missing5 {which : Int} (hw : which = 0 ∨ which = 1 ∨ which = 2) {s : Str} (h : (which = 0 ∧ s ∉ keysL C) ∨ (which = 1 ∧ s ∉ keysL Dd) ∨ (which = 2 ∧ s ∉ keysL F)) : F__law_missing [worldP C Dd F, .int which, .str s] S = some (.ok (.bl true) S) := by
  obtain ⟨w, hwd⟩ : ∃ w, w = worldP C Dd F := ⟨_, rfl⟩
  have hd : hdAs 3 h__law_missing_1 ⟨"Missing", [("name", .str s)]⟩ [some w, some (.int which), some (.str s), none] S = some (.ret (.bl true) S) := by
    refine hdAs_eq rfl fun ad d fv ok => ?_
    rcases ok with ⟨h, _⟩ | ⟨_, dd, rfl, hf⟩
    · cases h
    · have hf : some [(("name" : Str), V.str s)] = some fv := hf
      cases hf
      simp [h__law_missing_1, endE, dXf, litP]
  have body : (dIfS (dCmp gEq (dVar 1) (dC (.int 0))) (dExpr (dOpA F_calendar_of (dCons (dVar 0) (dCons (dVar 2) dNil)))) (dIfS (dCmp gEq (dVar 1) (dC (.int 1))) (dExpr (dOpA F_day_of (dCons (dVar 0) (dCons (dVar 2) dNil)))) (dExpr (dOpA F_flag_of (dCons (dVar 0) (dCons (dVar 2) dNil)))))) [some w, some (.int which), some (.str s), none] S = some (.exc ⟨"Missing", [("name", .str s)]⟩ [some w, some (.int which), some (.str s), none] S) := by
    rcases h with ⟨rfl, h⟩ | ⟨rfl, h⟩ | ⟨rfl, h⟩
    · have c := cal_not (S := S) (Dd := Dd) (F := F) h
      rw [← hwd] at c
      simp [c]
    · have c := day_not (S := S) (C := C) (F := F) h
      rw [← hwd] at c
      simp [c]
    · have c := flag_not (S := S) (C := C) (Dd := Dd) h
      rw [← hwd] at c
      simp [c]
  have tr := ev_tryAs_exc (i := 3) (su := h__law_missing_1) (cat := cat_Missing) body (by show cat_Missing "Missing" = some true; decide +kernel)
  rw [hd] at tr
  rw [← hwd]
  refine call_val0 ?_ rfl
  show b__law_missing [some w, some (.int which), some (.str s), none] S = _
  simp only [b__law_missing, ev_seq, tr, ev_bN_ret]
end
section
variable {α : Type} {e : α → PV}
theorem read_loop {S : Sto} {k : Nat} {w : Option PV} {which : Int} {l0 : List (Str × α)} (hk : S[k]? = some (.fd (encD e l0))) (hb : ∀ s v, l0.lookup s = some v → l__law_read_1 [w, some (.loc k), some (.int which), some (.str s), none] S = some (.next [w, some (.loc k), some (.int which), some (.str s), some (e v)] S)) :
    ∀ l : List (Str × α), (∀ p ∈ l, l0.lookup p.1 = some p.2) → forL (gN 3) [3, 4] l__law_read_1 [(k, .fd (encD e l0))] ((l.map Prod.fst).map PV.str) [w, some (.loc k), some (.int which), none, none] S = some (.next [w, some (.loc k), some (.int which), none, none] S)
  | [], _ => by rw [List.map_nil, List.map_nil, forL_nil (by rw [kept_one]; exact hk)]
  | p :: l, h => by
    have b := hb _ _ (h p List.mem_cons_self)
    have ih := read_loop hk hb l fun x hx => h x (List.mem_cons_of_mem _ hx)
    rw [List.map_cons, List.map_cons, forL_cons (by rw [kept_one]; exact hk)]
    simp only [ev_gN, List.set_cons_succ, List.set_cons_zero, b, ev_killC, ev_killN, ih]
theorem read_all {S : Sto} {k : Nat} {w : PV} {which : Int} {l0 : List (Str × α)} (hk : S[k]? = some (.dct false (encD e l0))) (hn : (keysL l0).Nodup) (hb : ∀ s v, l0.lookup s = some v → l__law_read_1 [some w, some (.loc k), some (.int which), some (.str s), none] (S.set k (.fd (encD e l0))) = some (.next [some w, some (.loc k), some (.int which), some (.str s), some (e v)] (S.set k (.fd (encD e l0))))) :
    F__law_read [w, .loc k, .int which] S = some (.ok (.bl true) S) := by
  have hf : (S.set k (.fd (encD e l0)))[k]? = some (.fd (encD e l0)) := List.getElem?_set_self (lt_of_get hk)
  have lp := read_loop (w := some w) hf hb l0 fun p hp => lookup_self hn hp
  have lk : dLock 1 (dFor (dKeysI (dVar 1)) (gN 3) [3, 4] l__law_read_1) [some w, some (.loc k), some (.int which), none, none] S = some (.next [some w, some (.loc k), some (.int which), none, none] S) := by
    rw [ev_lock rfl hk]
    simp only [ev_for, ev_keysI, ev_var, List.getElem?_cons_zero, List.getElem?_cons_succ, ev_bR_ok, hf, ev_bS_ok, ev_killC, ev_killN, List.set_cons_succ, List.set_cons_zero, encD_keys, lp]
    show (unS k _).map _ = _
    rw [un_lock hk]
    rfl
  refine call_val0 ?_ rfl
  show b__law_read [some w, some (.loc k), some (.int which), none, none] S = _
  simp only [b__law_read, ev_seq, lk, ev_bN_next, ev_ret, ev_c, ev_bS_ok]
end
section
variable {S : Sto} {C : List (Str × List P2)} {Dd : List (Str × Int)} {F : List (Str × Bool)} {m k : Nat}
theorem isaTB (l : List PV) : gIsa [.tup l, .ty "bool"] S = some (.ok (.bl false) S) := by unfold gIsa tyName isaP; simp
theorem read0 (hk : S[k]? = some (.dct false (encD clP C))) (hn : (keysL C).Nodup) : F__law_read [worldP C Dd F, .loc k, .int 0] S = some (.ok (.bl true) S) := by
  refine read_all (e := clP) hk hn fun s v hv => ?_
  have hf : (S.set k (.fd (encD clP C)))[k]? = some (.fd (encD clP C)) := List.getElem?_set_self (lt_of_get hk)
  generalize S.set k (.fd (encD clP C)) = U at hf
  have c := cal_at (S := U) (Dd := Dd) (F := F) hv
  have ix := ev_ixDF (S := U) (s := s) (v := clP v) hf (by rw [encD_val, hv]; rfl)
  have eq := ev_eqTP (S := U) true v v
  rw [if_pos rfl, decide_eq_true rfl] at eq
  have ia := isaTB (S := U) (pairsP v)
  generalize worldP C Dd F = w at c
  simp [l__law_read_1, c, ix, eq, ia]
theorem read1 (hk : S[k]? = some (.dct false (encD PV.int Dd))) (hn : (keysL Dd).Nodup) : F__law_read [worldP C Dd F, .loc k, .int 1] S = some (.ok (.bl true) S) := by
  refine read_all (e := PV.int) hk hn fun s v hv => ?_
  have hf : (S.set k (.fd (encD PV.int Dd)))[k]? = some (.fd (encD PV.int Dd)) := List.getElem?_set_self (lt_of_get hk)
  generalize S.set k (.fd (encD PV.int Dd)) = U at hf
  have c := day_at (S := U) (C := C) (F := F) hv
  have ix := ev_ixDF (S := U) (s := s) (v := .int v) hf (by rw [encD_val, hv]; rfl)
  generalize worldP C Dd F = w at c
  simp [l__law_read_1, c, ix]
theorem read2 (hk : S[k]? = some (.dct false (encD PV.bl F))) (hn : (keysL F).Nodup) : F__law_read [worldP C Dd F, .loc k, .int 2] S = some (.ok (.bl true) S) := by
  refine read_all (e := PV.bl) hk hn fun s v hv => ?_
  have hf : (S.set k (.fd (encD PV.bl F)))[k]? = some (.fd (encD PV.bl F)) := List.getElem?_set_self (lt_of_get hk)
  generalize S.set k (.fd (encD PV.bl F)) = U at hf
  have c := flag_at (S := U) (C := C) (Dd := Dd) hv
  have ix := ev_ixDF (S := U) (s := s) (v := .bl v) hf (by rw [encD_val, hv]; rfl)
  generalize worldP C Dd F = w at c
  simp [l__law_read_1, c, ix]
end
/-! ## worlds as data -/
structure Tr (α β γ : Type) where
  a : α
  b : β
  c : γ
  deriving DecidableEq
instance {α β γ : Type} [Dat α] [Dat β] [Dat γ] : Dat (Tr α β γ) where
  enc t := .tup [Dat.enc t.a, Dat.enc t.b, Dat.enc t.c]
  dat t := .tuple [Dat.dat t.a, Dat.dat t.b, Dat.dat t.c]
  dep := Dat.dep α + Dat.dep β + Dat.dep γ + 1
  td n S t := by
    rw [← Nat.add_assoc]
    refine toD_tup ?_
    simp only [mapO, Dat.td' (n + (Dat.dep α + Dat.dep β + Dat.dep γ)) (by omega) S t.a, Dat.td' (n + (Dat.dep α + Dat.dep β + Dat.dep γ)) (by omega) S t.b, Dat.td' (n + (Dat.dep α + Dat.dep β + Dat.dep γ)) (by omega) S t.c]
  eqv a b := by
    rw [eqv_tuple, eqvAll_cc, eqvAll_cc, eqvAll_cc, Bool.and_eq_true, Bool.and_eq_true, Bool.and_eq_true, Dat.eqv, Dat.eqv, Dat.eqv, eqvAll_nil]
    obtain ⟨a1, a2, a3⟩ := a; obtain ⟨b1, b2, b3⟩ := b; simp
  nl t := by
    show (noLoc _ && (noLoc _ && (noLoc _ && true))) = true
    rw [Dat.nl, Dat.nl, Dat.nl]
    rfl
abbrev WD := Tr (Tp (Str × Tp (Int × Int))) (Tp (Str × Int)) (Tp (Str × Bool))
def wD (C : List (Str × List P2)) (Dd : List (Str × Int)) (F : List (Str × Bool)) : WD := ⟨⟨(srtL C).map fun p => (p.1, ⟨p.2⟩)⟩, ⟨srtL Dd⟩, ⟨srtL F⟩⟩
theorem world_enc (C : List (Str × List P2)) (Dd : List (Str × Int)) (F : List (Str × Bool)) : worldP C Dd F = Dat.enc (wD C Dd F) := by
  unfold worldP
  rw [srt_wp, srt_wp, srt_wp]
  show _ = PV.tup [.tup (((srtL C).map fun p => (p.1, (⟨p.2⟩ : Tp (Int × Int)))).map Dat.enc), .tup ((srtL Dd).map Dat.enc), .tup ((srtL F).map Dat.enc)]
  rw [List.map_map]
  rfl
theorem ne_world {S : Sto} (C : List (Str × List P2)) (Dd : List (Str × Int)) (F : List (Str × Bool)) : gEqN true (worldP C Dd F) (worldP C Dd F) S = some (.ok (.bl false) S) := by
  rw [world_enc, eq_dat (neg := true) (wD C Dd F) (wD C Dd F)]
  simp
/-! ## is_world -/
section
variable {S : Sto} {C : List (Str × List P2)} {Dd : List (Str × Int)} {F : List (Str × Bool)} {m : Nat}
theorem keys_map {α β : Type} (l : List (Str × α)) (f : α → β) : keysL (l.map fun p => (p.1, f p.2)) = keysL l := by unfold keysL; rw [List.map_map]; rfl
theorem world_wv : worldP C Dd F = .tup [.tup ((srtL C).map fun p => pairS (p.1, clP p.2)), .tup (((srtL Dd).map fun p => (p.1, PV.int p.2)).map pairS), .tup (((srtL F).map fun p => (p.1, PV.bl p.2)).map pairS)] := by
  unfold worldP
  rw [srt_wp, srt_wp, srt_wp, List.map_map, List.map_map]
  rfl
theorem names_of {α : Type} {l : List (Str × α)} (h : ∀ p ∈ l, nameB p.1 = true) : ∀ n ∈ keysL l, nameB n = true := fun n hn => by
  obtain ⟨p, hp, rfl⟩ := List.mem_map.mp hn
  exact h p hp
theorem len_srt {α : Type} {l : List (Str × α)} (h : ∀ p ∈ l, nameB p.1 = true) : ∀ p ∈ srtL l, p.1.length ≤ 16777216 := fun p hp => lenD h p (srt_mem hp)
theorem len_map {α β : Type} {l : List (Str × α)} {f : α → β} (h : ∀ p ∈ l, p.1.length ≤ 16777216) : ∀ p ∈ l.map (fun p => (p.1, f p.2)), p.1.length ≤ 16777216 := fun p hp => by
  obtain ⟨q, hq, rfl⟩ := List.mem_map.mp hp
  exact h q hq
theorem is_world_yes (g : Gd C Dd F m) : F_is_world [worldP C Dd F] S = some (.ok (.bl true) S) := by
  rw [world_wv, is_world_ok (len_srt g.kc) (len_map (len_srt g.kd)) (len_map (len_srt g.kf))]
  have : wldB (srtL C) ((srtL Dd).map fun p => (p.1, PV.int p.2)) ((srtL F).map fun p => (p.1, PV.bl p.2)) = true := by
    unfold wldB
    rw [keys_map, keys_map, srt_keys, srt_keys, srt_keys, rise_sort g.nc (names_of g.kc), rise_sort g.nd (names_of g.kd), rise_sort g.nf (names_of g.kf)]
    rw [Bool.true_and, Bool.true_and, Bool.true_and, List.all_eq_true]
    exact fun p hp => g.fc p (srt_mem hp)
  rw [this]
def BadW (v : PV) : Prop := ∃ (A : List (Str × List P2)) (B D : List (Str × PV)), v = .tup [.tup (A.map fun p => pairS (p.1, clP p.2)), .tup (B.map pairS), .tup (D.map pairS)] ∧ wldB A B D = false ∧ (∀ p ∈ A, p.1.length ≤ 16777216) ∧ (∀ p ∈ B, p.1.length ≤ 16777216) ∧ (∀ p ∈ D, p.1.length ≤ 16777216)
theorem BadW.no {v : PV} (h : BadW v) : F_is_world [v] S = some (.ok (.bl false) S) := by
  obtain ⟨A, B, D, rfl, h, a, b, d⟩ := h
  rw [is_world_ok a b d, h]
theorem bad_loop {keep : List (Nat × PO)} (hk : Kept keep S) {a b c d e f g : Option PV} : ∀ vs : List PV, (∀ v ∈ vs, BadW v) → forL (gN 7) [7] l__law_spoilt_2 keep vs [a, b, c, d, e, f, g, none] S = some (.next [a, b, c, d, e, f, g, none] S)
  | [], _ => by rw [forL_nil hk]
  | v :: vs, h => by
    have n := (h v List.mem_cons_self).no (S := S)
    have ih := bad_loop hk (a := a) (b := b) (c := c) (d := d) (e := e) (f := f) (g := g) vs fun x hx => h x (List.mem_cons_of_mem _ hx)
    have body : l__law_spoilt_2 [a, b, c, d, e, f, g, some v] S = some (.next [a, b, c, d, e, f, g, some v] S) := by simp [l__law_spoilt_2, n]
    rw [forL_cons hk]
    simp only [ev_gN, List.set_cons_succ, List.set_cons_zero, body, ev_killC, ev_killN, ih]
/-! rows of names that do not rise -/
theorem not_rise {l : List Str} (h : ¬ (("" : Str) :: l).Pairwise ltT) : riseB "" l = false := by
  cases e : riseB "" l with
  | false => rfl
  | true => exact absurd (rise_pw e) h
theorem nr_twice (K : List Str) (s : Str) : riseB "" (K ++ [s, s]) = false := not_rise fun h => by
  rw [List.pairwise_cons] at h
  have := (List.pairwise_append.mp h.2).2.1
  rw [List.pairwise_cons] at this
  exact ltT_irr s (this.1 s (by simp))
theorem nr_ends (K : List Str) (s : Str) : riseB "" (s :: (K ++ [s])) = false := not_rise fun h => by
  rw [List.pairwise_cons, List.pairwise_cons] at h
  exact ltT_irr s (h.2.1 s (by simp))
theorem nr_capital (K : List Str) : riseB "" (K ++ [("a" : Str), "A"]) = false := by
  cases e : riseB "" (K ++ [("a" : Str), "A"]) with
  | false => rfl
  | true =>
    have := rise_names e "A" (by simp)
    rw [show nameB "A" = false by decide +kernel] at this
    cases this
theorem nr_turned {k0 : Str} {K : List Str} (h : riseB "" (k0 :: K) = true) (hK : K ≠ []) : riseB "" (K ++ [k0]) = false := not_rise fun h2 => by
  have h1 := rise_pw h
  rw [List.pairwise_cons, List.pairwise_cons] at h1
  rw [List.pairwise_cons] at h2
  obtain ⟨x, r, rfl⟩ : ∃ x r, K = x :: r := by
    cases K with
    | nil => exact absurd rfl hK
    | cons x r => exact ⟨x, r, rfl⟩
  have a := h1.2.1 x List.mem_cons_self
  have b := (List.pairwise_append.mp h2.2).2.2 x List.mem_cons_self k0 (by simp)
  exact ltT_irr x (ltT_trans b a)
end
/-! ## _law_spoilt -/
def rep3 (which : Int) (a b c p : PV) : PV := if which = 0 then .tup [p, b, c] else if which = 1 then .tup [a, p, c] else .tup [a, b, p]
theorem nls_app : ∀ l r : List PV, noLocs (l ++ r) = (noLocs l && noLocs r)
  | [], r => by rw [List.nil_append]; rfl
  | x :: l, r => by
    show (noLoc x && noLocs (l ++ r)) = ((noLoc x && noLocs l) && noLocs r)
    rw [nls_app l r, Bool.and_assoc]
theorem sl_rep {S : Sto} {ρ : En} {which : Int} (hw : which = 0 ∨ which = 1 ∨ which = 2) {a b c p : PV} {fe : DE} (h0 : ρ[0]? = some (some (.tup [a, b, c]))) (h1 : ρ[1]? = some (some (.int which))) (hf : fe ρ S = some (.ok p S)) :
    (dOp2 gAdd (dOp2 gAdd (dSl (dVar 0) dNoPart (dPart (dVar 1))) (dTup (dCons fe dNil))) (dSl (dVar 0) (dPart (dOp2 gAdd (dVar 1) (dC (.int 1)))) dNoPart)) ρ S = some (.ok (rep3 which a b c p) S) := by
  simp only [ev_op2, ev_sl, ev_noPart, ev_part, ev_var, h0, h1, ev_bR_ok, ev_gSlT, ev_tup, ev_cons, hf, ev_nil, ev_tup1, ev_c, ev_addI]
  rcases hw with rfl | rfl | rfl <;> rfl
theorem sp_body {V : Sto} {f : Nat} {acc : List PV} {which : Int} (hw : which = 0 ∨ which = 1 ∨ which = 2) {a b c p n bd0 en : PV} (hf : V[f]? = some (.lst acc)) (hl : acc.length ≤ 100) (na : noLocs acc = true) (nr : noLoc (rep3 which a b c p) = true) (nw : noLoc (.tup [a, b, c]) = true) (nn : noLoc n = true) (nb : noLoc bd0 = true) (ne : noLoc en = true) :
    l__law_spoilt_1 [some (.tup [a, b, c]), some (.int which), some n, some bd0, some en, some (.loc f), some p, none] V = some (.next [some (.tup [a, b, c]), some (.int which), some n, some bd0, some en, some (.loc f), none, none] (V.set f (.lst (acc ++ [rep3 which a b c p])))) := by
  have ty := ev_tyL hf
  have ap := ev_append (y := rep3 which a b c p) hf (by omega)
  have sl := sl_rep (S := V) (ρ := [some (.tup [a, b, c]), some (.int which), some n, some bd0, some en, some (.loc f), some p, none]) (fe := dVar 6) (p := p) hw rfl rfl rfl
  have bn := body_next (kill := [6]) (f := (dExpr (dMeth "list" gAppend (dVar 5) (dCons (dOp2 gAdd (dOp2 gAdd (dSl (dVar 0) dNoPart (dPart (dVar 1))) (dTup (dCons (dVar 6) dNil))) (dSl (dVar 0) (dPart (dOp2 gAdd (dVar 1) (dC (.int 1)))) dNoPart)) dNil)))) (ρ := [some (.tup [a, b, c]), some (.int which), some n, some bd0, some en, some (.loc f), some p, none]) (S := V) (ρ' := [some (.tup [a, b, c]), some (.int which), some n, some bd0, some en, some (.loc f), some p, none]) (S' := V.set f (.lst (acc ++ [rep3 which a b c p]))) (by
    rw [ev_expr, ev_meth, ev_var]
    simp only [List.getElem?_cons_zero, List.getElem?_cons_succ, ev_bR_ok, ty, if_true]
    rw [ev_cons, sl]
    simp only [ev_bR_ok, ev_nil, ap, ev_bS_ok]) (Cl.refl.set (bds_noLoc _ _ (by rw [nls_app, na]; show (true && (noLoc _ && true)) = true; rw [nr]; rfl))) (by
    show bdE V.length [some (.tup [a, b, c]), some (.int which), some n, some bd0, some en, some (.loc f), none, none]
    exact ⟨bd_noLoc _ _ nw, trivial, bd_noLoc _ _ nn, bd_noLoc _ _ nb, bd_noLoc _ _ ne, lt_of_get hf, trivial⟩)
  have tk : (V.set f (.lst (acc ++ [rep3 which a b c p]))).take V.length = V.set f (.lst (acc ++ [rep3 which a b c p])) := List.take_of_length_le (by simp)
  rw [tk] at bn
  exact bn
def zzS : Str := "zz" ++ repS "z" 18
def entP (s : Str) (v : PV) : PV := .tup [.str s, v]
def BadN (v : PV) : Prop := BadW v ∧ noLoc v = true
theorem spoilt_ok {S : Sto} {which : Int} (hw : which = 0 ∨ which = 1 ∨ which = 2) {a b c v : PV} {P0 P : List PV} {s : Str} {bad : List P2} (ha : a = .tup P0) (hP : gIx (.tup [a, b, c]) (.int which) = fun S => some (.ok (.tup P) S)) (hv : atI [.tup [], .int 5, .bl true] which = some v) (nv : noLoc v = true) (nw : noLoc (.tup [a, b, c]) = true) (hl0 : P0.length ≤ 100) (hl : P.length ≤ 100)
    (b1 : BadN (rep3 which a b c (.tup (P ++ [entP s v, entP s v])))) (b2 : BadN (rep3 which a b c (.tup (entP s v :: (P ++ [entP s v]))))) (b3 : BadN (rep3 which a b c (.tup (P ++ [entP "a" v, entP "A" v])))) (b4 : 1 < P.length → BadN (rep3 which a b c (.tup (P.drop 1 ++ P.take 1)))) (b5 : BadN (.tup [.tup (P0 ++ [entP zzS (clP bad)]), b, c])) :
    F__law_spoilt [.tup [a, b, c], .int which, .str s, clP bad] S = some (.ok (.bl true) S) := by
  have hP : ∀ S : Sto, gIx (.tup [a, b, c]) (.int which) S = some (.ok (.tup P) S) := fun S => congrFun hP S
  obtain ⟨n, hn⟩ : ∃ n, n = S.length := ⟨_, rfl⟩
  obtain ⟨A, hA⟩ : ∃ A, A = S ++ [PO.lst [.tup [], .int 5, .bl true]] := ⟨_, rfl⟩
  have al : A.length = n + 1 := by rw [hA, hn]; simp
  have d1 : gLstP [.tup [], .int 5, .bl true] S = some (.ok (.loc n) A) := by rw [hA, hn]; rfl
  have x1 : gIx (.loc n) (.int which) A = some (.ok v A) := ev_ixL (by rw [hA, hn]; exact at_0) hv
  obtain ⟨B, hB⟩ : ∃ B, B = A ++ [PO.lst []] := ⟨_, rfl⟩
  have bl : B.length = n + 2 := by rw [hB]; simp [al]
  have d2 : gLstP [] A = some (.ok (.loc (n + 1)) B) := by rw [hB, ← al]; rfl
  have e1 : gAdd (.tup P) (.tup [entP s v, entP s v]) B = some (.ok (.tup (P ++ [entP s v, entP s v])) B) := ev_addT (by simp; omega)
  have e2 : gAdd (.tup [entP s v]) (.tup P) B = some (.ok (.tup (entP s v :: P)) B) := ev_addT (by simp; omega)
  have e3 : gAdd (.tup (entP s v :: P)) (.tup [entP s v]) B = some (.ok (.tup (entP s v :: (P ++ [entP s v]))) B) := by rw [ev_addT (by simp; omega)]; rfl
  have e4 : gAdd (.tup P) (.tup [entP "a" v, entP "A" v]) B = some (.ok (.tup (P ++ [entP "a" v, entP "A" v])) B) := ev_addT (by simp; omega)
  have ix1 : ∀ S : Sto, gIx (entP s v) (.int 1) S = some (.ok v S) := fun _ => rfl
  obtain ⟨q1, hq1⟩ : ∃ q, q = PV.tup (P ++ [entP s v, entP s v]) := ⟨_, rfl⟩
  obtain ⟨q2, hq2⟩ : ∃ q, q = PV.tup (entP s v :: (P ++ [entP s v])) := ⟨_, rfl⟩
  obtain ⟨q3, hq3⟩ : ∃ q, q = PV.tup (P ++ [entP "a" v, entP "A" v]) := ⟨_, rfl⟩
  rw [← hq1] at e1 b1
  rw [← hq2] at e3 b2
  rw [← hq3] at e4 b3
  obtain ⟨D, hD⟩ : ∃ D, D = B ++ [PO.lst [q1, q2, q3]] := ⟨_, rfl⟩
  have d3 : gLstP [q1, q2, q3] B = some (.ok (.loc (n + 2)) D) := by rw [hD, ← bl]; rfl
  have dl : D.length = n + 3 := by rw [hD]; simp [bl]
  have ds : D = S ++ [PO.lst [.tup [], .int 5, .bl true], .lst [], .lst [q1, q2, q3]] := by rw [hD, hB, hA]; simp
  have df : D[n + 1]? = some (.lst []) := by rw [ds, hn]; simp
  have di : D[n + 2]? = some (.lst [q1, q2, q3]) := by rw [ds, hn]; simp
  have nen : noLoc (entP s v) = true := by show (true && (noLoc v && true)) = true; rw [nv]; rfl
  have nb : noLoc (clP bad) = true := noLocs_pairs bad
  obtain ⟨r1, hr1⟩ : ∃ r, r = rep3 which a b c q1 := ⟨_, rfl⟩
  obtain ⟨r2, hr2⟩ : ∃ r, r = rep3 which a b c q2 := ⟨_, rfl⟩
  obtain ⟨r3, hr3⟩ : ∃ r, r = rep3 which a b c q3 := ⟨_, rfl⟩
  have s1 := sp_body (V := D) (f := n + 1) (acc := []) (p := q1) (n := .str s) (bd0 := clP bad) (en := entP s v) hw df (by simp) rfl b1.2 nw rfl nb nen
  have f1 : (D.set (n + 1) (.lst ([] ++ [rep3 which a b c q1])))[n + 1]? = some (.lst [rep3 which a b c q1]) := List.getElem?_set_self (by omega)
  have s2 := sp_body (V := D.set (n + 1) (.lst ([] ++ [rep3 which a b c q1]))) (f := n + 1) (p := q2) (n := .str s) (bd0 := clP bad) (en := entP s v) hw f1 (by simp) (by show (noLoc _ && true) = true; rw [b1.2]; rfl) b2.2 nw rfl nb nen
  rw [List.set_set] at s2
  have f2 : (D.set (n + 1) (.lst ([rep3 which a b c q1] ++ [rep3 which a b c q2])))[n + 1]? = some (.lst [rep3 which a b c q1, rep3 which a b c q2]) := List.getElem?_set_self (by omega)
  have s3 := sp_body (V := D.set (n + 1) (.lst ([rep3 which a b c q1] ++ [rep3 which a b c q2]))) (f := n + 1) (p := q3) (n := .str s) (bd0 := clP bad) (en := entP s v) hw f2 (by simp) (by show (noLoc _ && (noLoc _ && true)) = true; rw [b1.2, b2.2]; rfl) b3.2 nw rfl nb nen
  rw [List.set_set] at s3
  rw [← hr1] at s1 s2 s3 b1
  rw [← hr2] at s2 s3 b2
  rw [← hr3] at s3 b3
  simp only [List.nil_append, List.cons_append] at s1 s2 s3
  have kp : ∀ o, Kept [(n + 2, PO.lst [q1, q2, q3])] (D.set (n + 1) o) := fun o => by
    rw [kept_one, List.getElem?_set_ne (by omega)]
    exact di
  obtain ⟨E, hE⟩ : ∃ E, E = D.set (n + 1) (.lst [r1, r2, r3]) := ⟨_, rfl⟩
  have lp : forL (gN 6) [6] l__law_spoilt_1 [(n + 2, .lst [q1, q2, q3])] [q1, q2, q3] [some (.tup [a, b, c]), some (.int which), some (.str s), some (clP bad), some (entP s v), some (.loc (n + 1)), none, none] D = some (.next [some (.tup [a, b, c]), some (.int which), some (.str s), some (clP bad), some (entP s v), some (.loc (n + 1)), none, none] E) := by
    rw [forL_cons (by rw [kept_one]; exact di)]
    simp only [ev_gN, List.set_cons_succ, List.set_cons_zero, s1, ev_killC, ev_killN]
    rw [forL_cons (kp _)]
    simp only [ev_gN, List.set_cons_succ, List.set_cons_zero, s2, ev_killC, ev_killN]
    rw [forL_cons (kp _)]
    simp only [ev_gN, List.set_cons_succ, List.set_cons_zero, s3, ev_killC, ev_killN]
    rw [forL_nil (kp _), hE]
  have ef : E[n + 1]? = some (.lst [r1, r2, r3]) := by rw [hE]; exact List.getElem?_set_self (by omega)
  have el : E.length = n + 3 := by rw [hE, List.length_set]; exact dl
  have et : E.take n = S := by
    rw [hE, List.take_set_of_le (by omega), ds, hn]
    simp
  -- the fourth one
  have h4 : ∃ G vs, G[n + 1]? = some (.lst vs) ∧ (∀ w ∈ vs, BadW w) ∧ vs.length ≤ 10 ∧ G.take n = S ∧ b__law_spoilt_t3 [some (.tup [a, b, c]), some (.int which), some (.str s), some (clP bad), some (entP s v), some (.loc (n + 1)), none, none] E = b__law_spoilt_t4 [some (.tup [a, b, c]), some (.int which), some (.str s), some (clP bad), some (entP s v), some (.loc (n + 1)), none, none] G := by
    have h3 : ∀ w ∈ [r1, r2, r3], BadW w := fun w hw => by
      simp only [List.mem_cons, List.not_mem_nil, or_false] at hw
      rcases hw with rfl | rfl | rfl
      · exact b1.1
      · exact b2.1
      · exact b3.1
    by_cases hp : 1 < P.length
    · have b4 := b4 hp
      have hp2 : (1 : Int) < (P.length : Int) := by omega
      have ap := ev_append (y := rep3 which a b c (.tup (P.drop 1 ++ P.take 1))) ef (by simp)
      have ty := ev_tyL ef
      have c1 : cutP P (some 1) none = P.drop 1 := cut_from (by omega)
      have c2 : cutP P none (some 1) = P.take 1 := cut_to (by omega)
      have ad : gAdd (.tup (P.drop 1)) (.tup (P.take 1)) E = some (.ok (.tup (P.drop 1 ++ P.take 1)) E) := ev_addT (by rw [List.length_drop, List.length_take]; omega)
      have fe : (dOp2 gAdd (dSl (dOp2 gIx (dVar 0) (dVar 1)) (dPart (dC (.int 1))) dNoPart) (dSl (dOp2 gIx (dVar 0) (dVar 1)) dNoPart (dPart (dC (.int 1))))) [some (.tup [a, b, c]), some (.int which), some (.str s), some (clP bad), some (entP s v), some (.loc (n + 1)), none, none] E = some (.ok (.tup (P.drop 1 ++ P.take 1)) E) := by
        simp only [ev_op2, ev_sl, ev_var, List.getElem?_cons_zero, List.getElem?_cons_succ, ev_bR_ok, hP, ev_part, ev_noPart, ev_c, ev_gSlT, c1, c2, ad]
      have sl := sl_rep (S := E) (ρ := [some (.tup [a, b, c]), some (.int which), some (.str s), some (clP bad), some (entP s v), some (.loc (n + 1)), none, none]) hw rfl rfl fe
      refine ⟨E.set (n + 1) (.lst ([r1, r2, r3] ++ [rep3 which a b c (.tup (P.drop 1 ++ P.take 1))])), _, List.getElem?_set_self (by omega), fun w hw => ?_, by simp, by rw [List.take_set_of_le (by omega)]; exact et, ?_⟩
      · rcases List.mem_append.mp hw with hw | hw
        · exact h3 w hw
        · rw [List.mem_singleton] at hw
          rw [hw]
          exact b4.1
      · unfold b__law_spoilt_t3
        rw [ev_seq, ev_ifS, ev_cmp]
        simp only [ev_opA, ev_cons, ev_op2, ev_var, List.getElem?_cons_zero, List.getElem?_cons_succ, ev_bR_ok, hP, ev_nil, ev_lenT, ev_c]
        simp only [ev_rel, ev_asB, ev_bS_ok]
        rw [if_pos (by simpa using hp2), ev_expr, ev_meth, ev_var]
        simp only [List.getElem?_cons_zero, List.getElem?_cons_succ, ev_bR_ok, ty, if_true]
        rw [ev_cons, sl]
        simp only [ev_bR_ok, ev_nil, ap, ev_bS_ok, ev_bN_next]
    · refine ⟨E, _, ef, h3, by simp, et, ?_⟩
      unfold b__law_spoilt_t3
      rw [ev_seq, ev_ifS, ev_cmp]
      simp only [ev_opA, ev_cons, ev_op2, ev_var, List.getElem?_cons_zero, List.getElem?_cons_succ, ev_bR_ok, hP, ev_nil, ev_lenT, ev_c]
      simp only [ev_rel, ev_asB, ev_bS_ok]
      rw [if_neg (by simp; omega), ev_pass, ev_bN_next]
  obtain ⟨G, vs, gf, gv, gl, gt, h4⟩ := h4
  have ms : gMulS (.str "z") (.int 18) G = some (.ok (.str (repS "z" 18)) G) := rfl
  have az : gAdd (.str "zz") (.str (repS "z" 18)) G = some (.ok (.str zzS) G) := rfl
  have w0 : gIx (.tup [a, b, c]) (.int 0) G = some (.ok (.tup P0) G) := by rw [ha]; rfl
  have w1 : gIx (.tup [a, b, c]) (.int 1) G = some (.ok b G) := rfl
  have w2 : gIx (.tup [a, b, c]) (.int 2) G = some (.ok c G) := rfl
  have a5 : gAdd (.tup P0) (.tup [entP zzS (clP bad)]) G = some (.ok (.tup (P0 ++ [entP zzS (clP bad)])) G) := ev_addT (by simp; omega)
  have ap5 := ev_append (y := .tup [.tup (P0 ++ [entP zzS (clP bad)]), b, c]) gf (by omega)
  have ty5 := ev_tyL gf
  have gl2 := lt_of_get gf
  obtain ⟨H, hH⟩ : ∃ H, H = G.set (n + 1) (.lst (vs ++ [.tup [.tup (P0 ++ [entP zzS (clP bad)]), b, c]])) := ⟨_, rfl⟩
  have hf : H[n + 1]? = some (.lst (vs ++ [.tup [.tup (P0 ++ [entP zzS (clP bad)]), b, c]])) := by rw [hH]; exact List.getElem?_set_self gl2
  rw [← hH] at ap5
  have lpb := bad_loop (S := H) (keep := [(n + 1, .lst (vs ++ [.tup [.tup (P0 ++ [entP zzS (clP bad)]), b, c]]))]) ((kept_one _ _).mpr hf) (a := some (.tup [a, b, c])) (b := some (.int which)) (c := some (.str s)) (d := some (clP bad)) (e := some (entP s v)) (f := some (.loc (n + 1))) (g := none) (vs ++ [.tup [.tup (P0 ++ [entP zzS (clP bad)]), b, c]]) (fun w hw => by
    rcases List.mem_append.mp hw with hw | hw
    · exact gv w hw
    · rw [List.mem_singleton] at hw
      rw [hw]
      exact b5.1)
  have ht : H.take n = S := by rw [hH, List.take_set_of_le (by omega)]; exact gt
  obtain ⟨T, hT⟩ : ∃ T, H = S ++ T := ⟨H.drop n, by have := List.take_append_drop n H; rw [ht] at this; exact this.symm⟩
  refine call_val (T := T) ?_ rfl
  rw [← hT]
  show b__law_spoilt [some (.tup [a, b, c]), some (.int which), some (.str s), some (clP bad), none, none, none, none] S = _
  have te : ∀ S : Sto, gTupP [.str s, v] S = some (.ok (entP s v) S) := fun _ => rfl
  have te2 : ∀ S : Sto, gTupP [.str "a", v] S = some (.ok (entP "a" v) S) := fun _ => rfl
  have te3 : ∀ S : Sto, gTupP [.str "A", v] S = some (.ok (entP "A" v) S) := fun _ => rfl
  have te4 : ∀ S : Sto, gTupP [.str zzS, clP bad] S = some (.ok (entP zzS (clP bad)) S) := fun _ => rfl
  simp only [b__law_spoilt, b__law_spoilt_t0, ev_seq, ev_set, ev_tup, ev_cons, ev_var, List.getElem?_cons_zero, List.getElem?_cons_succ, ev_bR_ok, ev_op2, ev_lst, ev_c, ev_nil, ev_tup0, d1, x1, te, ev_bS_ok, ev_bN_next, List.set_cons_succ, List.set_cons_zero]
  simp only [b__law_spoilt_t1, ev_seq, ev_set, ev_lst, ev_nil, ev_bR_ok, d2, ev_bS_ok, ev_bN_next, List.set_cons_succ, List.set_cons_zero]
  simp only [b__law_spoilt_t2, ev_seq, ev_for, ev_seqI, ev_lst, ev_cons, ev_op2, ev_var, List.getElem?_cons_zero, List.getElem?_cons_succ, ev_bR_ok, hP, ev_tup, ev_nil, ev_tup1, ev_tup2, e1, e2, e3, ev_c, ix1, te2, te3, e4, d3, di, ev_bS_ok, ev_killC, ev_killN, List.set_cons_succ, List.set_cons_zero, lp, ev_bN_next]
  rw [h4]
  simp only [b__law_spoilt_t4, ev_seq, ev_expr, ev_meth, ev_var, List.getElem?_cons_zero, List.getElem?_cons_succ, ev_bR_ok, ty5, if_true, ev_cons, ev_tup, ev_op2, ev_c, w0, w1, w2, ms, az, ev_nil, te4, ev_tup1, a5, ev_tup3, ap5, ev_bS_ok, ev_bN_next]
  simp only [b__law_spoilt_t5, b__law_spoilt_t6, ev_seq, ev_for, ev_seqI, ev_var, List.getElem?_cons_zero, List.getElem?_cons_succ, ev_bR_ok, hf, ev_bS_ok, ev_killC, ev_killN, List.set_cons_succ, List.set_cons_zero, lpb, ev_bN_next, ev_ret, ev_c]
section
variable {S : Sto} {C : List (Str × List P2)} {Dd : List (Str × Int)} {F : List (Str × Bool)} {m : Nat} {bad : List P2} {s : Str}
theorem ent_keys {α : Type} (l r : List (Str × α)) : keysL (l ++ r) = keysL l ++ keysL r := by unfold keysL; rw [List.map_append]
theorem zz_len : zzS.length ≤ 16777216 := by decide +kernel
theorem len_app {α : Type} {l r : List (Str × α)} (h1 : ∀ p ∈ l, p.1.length ≤ 16777216) (h2 : ∀ p ∈ r, p.1.length ≤ 16777216) : ∀ p ∈ l ++ r, p.1.length ≤ 16777216 := fun p hp => by
  rcases List.mem_append.mp hp with hp | hp
  · exact h1 p hp
  · exact h2 p hp
theorem len_one {α : Type} {v : α} (hs : s.length ≤ 16777216) : ∀ p ∈ [(s, v)], p.1.length ≤ 16777216 := fun p hp => by
  rw [List.mem_singleton] at hp
  rw [hp]
  exact hs
theorem len_two {α : Type} {t : Str} {v w : α} (hs : s.length ≤ 16777216) (ht : t.length ≤ 16777216) : ∀ p ∈ [(s, v), (t, w)], p.1.length ≤ 16777216 := fun p hp => by
  rcases List.mem_cons.mp hp with rfl | hp
  · exact hs
  · exact len_one ht p hp
/-- what is spoilt in a row of pairs -/
structure Sp {α : Type} (l : List (Str × α)) (s : Str) (v : α) (X : List (Str × α)) : Prop where
  no : riseB "" (keysL X) = false
  ln : ∀ p ∈ X, p.1.length ≤ 16777216
theorem sp1 {α : Type} {l : List (Str × α)} {v : α} (h : ∀ p ∈ l, p.1.length ≤ 16777216) (hs : s.length ≤ 16777216) : Sp l s v (l ++ [(s, v), (s, v)]) := ⟨by rw [ent_keys]; exact nr_twice _ _, len_app h (len_two hs hs)⟩
theorem sp2 {α : Type} {l : List (Str × α)} {v : α} (h : ∀ p ∈ l, p.1.length ≤ 16777216) (hs : s.length ≤ 16777216) : Sp l s v ((s, v) :: (l ++ [(s, v)])) := ⟨by
  have : keysL ((s, v) :: (l ++ [(s, v)])) = s :: (keysL l ++ [s]) := by unfold keysL; simp
  rw [this]
  exact nr_ends _ _, fun p hp => by
  rcases List.mem_cons.mp hp with rfl | hp
  · exact hs
  · exact len_app h (len_one hs) p hp⟩
theorem sp3 {α : Type} {l : List (Str × α)} {v : α} (h : ∀ p ∈ l, p.1.length ≤ 16777216) : Sp l s v (l ++ [(("a" : Str), v), ("A", v)]) := ⟨by rw [ent_keys]; exact nr_capital _, len_app h (len_two (by decide +kernel) (by decide +kernel))⟩
theorem sp4 {α : Type} {l : List (Str × α)} {v : α} (h : ∀ p ∈ l, p.1.length ≤ 16777216) (hr : riseB "" (keysL l) = true) (hl : 1 < l.length) : Sp l s v (l.drop 1 ++ l.take 1) := ⟨by
  cases l with
  | nil => simp at hl
  | cons p r =>
    have hr0 : r ≠ [] := fun z => by rw [z] at hl; simp at hl
    have e : keysL ((p :: r).drop 1 ++ (p :: r).take 1) = keysL r ++ [p.1] := by unfold keysL; simp
    rw [e]
    exact nr_turned hr fun z => hr0 (by unfold keysL at z; exact List.map_eq_nil_iff.mp z), fun p hp => by
  rcases List.mem_append.mp hp with hp | hp
  · exact h p (List.mem_of_mem_drop hp)
  · exact h p (List.mem_of_mem_take hp)⟩
def enC (l : List (Str × List P2)) : List PV := l.map fun p => pairS (p.1, clP p.2)
theorem nl_enC : ∀ l : List (Str × List P2), noLocs (enC l) = true
  | [] => rfl
  | p :: l => by
    show ((true && (noLocs (pairsP p.2) && true)) && noLocs (enC l)) = true
    rw [noLocs_pairs, nl_enC l]
    rfl
def enS (l : List (Str × PV)) : List PV := l.map pairS
theorem nl_enS : ∀ l : List (Str × PV), (∀ p ∈ l, noLoc p.2 = true) → noLocs (enS l) = true
  | [], _ => rfl
  | p :: l, h => by
    show ((true && (noLoc p.2 && true)) && noLocs (enS l)) = true
    rw [h p List.mem_cons_self, nl_enS l fun x hx => h x (List.mem_cons_of_mem _ hx)]
    rfl
theorem badn {A : List (Str × List P2)} {B D : List (Str × PV)} (h : wldB A B D = false) (ha : ∀ p ∈ A, p.1.length ≤ 16777216) (hb : ∀ p ∈ B, p.1.length ≤ 16777216) (hd : ∀ p ∈ D, p.1.length ≤ 16777216) (nb : ∀ p ∈ B, noLoc p.2 = true) (nd : ∀ p ∈ D, noLoc p.2 = true) : BadN (.tup [.tup (enC A), .tup (enS B), .tup (enS D)]) :=
  ⟨⟨A, B, D, rfl, h, ha, hb, hd⟩, by
    show (noLocs (enC A) && (noLocs (enS B) && (noLocs (enS D) && true))) = true
    rw [nl_enC, nl_enS B nb, nl_enS D nd]
    rfl⟩
theorem enC_len (l : List (Str × List P2)) : (enC l).length = l.length := List.length_map _
theorem enS_len (l : List (Str × PV)) : (enS l).length = l.length := List.length_map _
theorem spoilt_world (g : Gd C Dd F m) (hm : m < 60) {which : Int} (hw : which = 0 ∨ which = 1 ∨ which = 2) (hs : s.length ≤ 16777216) (hbad : formB none bad = false) : F__law_spoilt [worldP C Dd F, .int which, .str s, clP bad] S = some (.ok (.bl true) S) := by
  obtain ⟨A, hA⟩ : ∃ A, A = srtL C := ⟨_, rfl⟩
  obtain ⟨B, hB⟩ : ∃ B : List (Str × PV), B = (srtL Dd).map fun p => (p.1, PV.int p.2) := ⟨_, rfl⟩
  obtain ⟨D, hD⟩ : ∃ D : List (Str × PV), D = (srtL F).map fun p => (p.1, PV.bl p.2) := ⟨_, rfl⟩
  have la : ∀ p ∈ A, p.1.length ≤ 16777216 := by rw [hA]; exact len_srt g.kc
  have lb : ∀ p ∈ B, p.1.length ≤ 16777216 := by rw [hB]; exact len_map (len_srt g.kd)
  have ld : ∀ p ∈ D, p.1.length ≤ 16777216 := by rw [hD]; exact len_map (len_srt g.kf)
  have nb : ∀ p ∈ B, noLoc p.2 = true := fun p hp => by
    rw [hB] at hp
    obtain ⟨q, _, rfl⟩ := List.mem_map.mp hp
    rfl
  have nd : ∀ p ∈ D, noLoc p.2 = true := fun p hp => by
    rw [hD] at hp
    obtain ⟨q, _, rfl⟩ := List.mem_map.mp hp
    rfl
  have ra : riseB "" (keysL A) = true := by rw [hA, srt_keys]; exact rise_sort g.nc (names_of g.kc)
  have rb : riseB "" (keysL B) = true := by rw [hB, keys_map, srt_keys]; exact rise_sort g.nd (names_of g.kd)
  have rd : riseB "" (keysL D) = true := by rw [hD, keys_map, srt_keys]; exact rise_sort g.nf (names_of g.kf)
  have za : A.length ≤ 60 := by rw [hA, srt_len]; have := g.lc; omega
  have zb : B.length ≤ 60 := by rw [hB, List.length_map, srt_len]; have := g.ld; omega
  have zd : D.length ≤ 60 := by rw [hD, List.length_map, srt_len]; have := g.lf; omega
  have ew : worldP C Dd F = .tup [.tup (enC A), .tup (enS B), .tup (enS D)] := by rw [world_wv, hA, hB, hD]; rfl
  have nw : noLoc (.tup [.tup (enC A), .tup (enS B), .tup (enS D)]) = true := by rw [← ew]; exact wP_nl _ _ _
  rw [ew]
  have b5 : BadN (.tup [.tup (enC A ++ [entP zzS (clP bad)]), .tup (enS B), .tup (enS D)]) := by
    have : enC A ++ [entP zzS (clP bad)] = enC (A ++ [(zzS, bad)]) := by unfold enC; rw [List.map_append]; rfl
    rw [this]
    refine badn ?_ (len_app la (len_one zz_len)) lb ld nb nd
    unfold wldB
    rw [List.all_append]
    simp [hbad]
  have fA : ∀ X, riseB "" (keysL X) = false → wldB X B D = false := fun X h => by unfold wldB; rw [h]; rfl
  have fB : ∀ X, riseB "" (keysL X) = false → wldB A X D = false := fun X h => by unfold wldB; rw [h, Bool.and_false]; rfl
  have fD : ∀ X, riseB "" (keysL X) = false → wldB A B X = false := fun X h => by unfold wldB; rw [h, Bool.and_false]; rfl
  rcases hw with rfl | rfl | rfl
  · have mk : ∀ X, Sp A s ([] : List P2) X → BadN (rep3 0 (.tup (enC A)) (.tup (enS B)) (.tup (enS D)) (.tup (enC X))) := fun X h => badn (fA X h.no) h.ln lb ld nb nd
    have e1 : enC A ++ [entP s (.tup []), entP s (.tup [])] = enC (A ++ [(s, []), (s, [])]) := by unfold enC; rw [List.map_append]; rfl
    have e2 : entP s (.tup []) :: (enC A ++ [entP s (.tup [])]) = enC ((s, []) :: (A ++ [(s, [])])) := by unfold enC; rw [List.map_cons, List.map_append]; rfl
    have e3 : enC A ++ [entP "a" (.tup []), entP "A" (.tup [])] = enC (A ++ [(("a" : Str), []), ("A", [])]) := by unfold enC; rw [List.map_append]; rfl
    have e4 : (enC A).drop 1 ++ (enC A).take 1 = enC (A.drop 1 ++ A.take 1) := by unfold enC; rw [List.map_append, List.map_drop, List.map_take]
    refine spoilt_ok (P0 := enC A) (P := enC A) (v := .tup []) (.inl rfl) rfl rfl rfl rfl nw (by rw [enC_len]; omega) (by rw [enC_len]; omega) ?_ ?_ ?_ (fun h => ?_) b5
    · rw [e1]; exact mk _ (sp1 la hs)
    · rw [e2]; exact mk _ (sp2 la hs)
    · rw [e3]; exact mk _ (sp3 la)
    · rw [e4]; exact mk _ (sp4 la ra (by rw [enC_len] at h; exact h))
  · have mk : ∀ X, Sp B s (PV.int 5) X → (∀ p ∈ X, noLoc p.2 = true) → BadN (rep3 1 (.tup (enC A)) (.tup (enS B)) (.tup (enS D)) (.tup (enS X))) := fun X h n => badn (fB X h.no) la h.ln ld n nd
    have n5 : ∀ (t : Str), ∀ p ∈ [(t, PV.int 5)], noLoc p.2 = true := fun t p hp => by rw [List.mem_singleton] at hp; rw [hp]; rfl
    have e1 : enS B ++ [entP s (.int 5), entP s (.int 5)] = enS (B ++ [(s, .int 5), (s, .int 5)]) := by unfold enS; rw [List.map_append]; rfl
    have e2 : entP s (.int 5) :: (enS B ++ [entP s (.int 5)]) = enS ((s, .int 5) :: (B ++ [(s, .int 5)])) := by unfold enS; rw [List.map_cons, List.map_append]; rfl
    have e3 : enS B ++ [entP "a" (.int 5), entP "A" (.int 5)] = enS (B ++ [(("a" : Str), PV.int 5), ("A", PV.int 5)]) := by unfold enS; rw [List.map_append]; rfl
    have e4 : (enS B).drop 1 ++ (enS B).take 1 = enS (B.drop 1 ++ B.take 1) := by unfold enS; rw [List.map_append, List.map_drop, List.map_take]
    have nn : ∀ (X : List (Str × PV)), (∀ p ∈ X, p ∈ B ∨ p.2 = .int 5) → ∀ p ∈ X, noLoc p.2 = true := fun X h p hp => by
      rcases h p hp with h | h
      · exact nb p h
      · rw [h]; rfl
    refine spoilt_ok (P0 := enC A) (P := enS B) (v := .int 5) (.inr (.inl rfl)) rfl rfl rfl rfl nw (by rw [enC_len]; omega) (by rw [enS_len]; omega) ?_ ?_ ?_ (fun h => ?_) b5
    · rw [e1]; exact mk _ (sp1 lb hs) (nn _ fun p hp => by simp only [List.mem_append, List.mem_cons, List.not_mem_nil, or_false] at hp; rcases hp with h | rfl | rfl <;> first | exact .inl (by assumption) | exact .inr rfl)
    · rw [e2]; exact mk _ (sp2 lb hs) (nn _ fun p hp => by simp only [List.mem_append, List.mem_cons, List.not_mem_nil, or_false] at hp; rcases hp with rfl | h | rfl <;> first | exact .inl (by assumption) | exact .inr rfl)
    · rw [e3]; exact mk _ (sp3 lb) (nn _ fun p hp => by simp only [List.mem_append, List.mem_cons, List.not_mem_nil, or_false] at hp; rcases hp with h | rfl | rfl <;> first | exact .inl (by assumption) | exact .inr rfl)
    · rw [e4]; exact mk _ (sp4 lb rb (by rw [enS_len] at h; exact h)) (nn _ fun p hp => by
        rcases List.mem_append.mp hp with hp | hp
        · exact .inl (List.mem_of_mem_drop hp)
        · exact .inl (List.mem_of_mem_take hp))
  · have mk : ∀ X, Sp D s (PV.bl true) X → (∀ p ∈ X, noLoc p.2 = true) → BadN (rep3 2 (.tup (enC A)) (.tup (enS B)) (.tup (enS D)) (.tup (enS X))) := fun X h n => badn (fD X h.no) la lb h.ln nb n
    have e1 : enS D ++ [entP s (.bl true), entP s (.bl true)] = enS (D ++ [(s, .bl true), (s, .bl true)]) := by unfold enS; rw [List.map_append]; rfl
    have e2 : entP s (.bl true) :: (enS D ++ [entP s (.bl true)]) = enS ((s, .bl true) :: (D ++ [(s, .bl true)])) := by unfold enS; rw [List.map_cons, List.map_append]; rfl
    have e3 : enS D ++ [entP "a" (.bl true), entP "A" (.bl true)] = enS (D ++ [(("a" : Str), PV.bl true), ("A", PV.bl true)]) := by unfold enS; rw [List.map_append]; rfl
    have e4 : (enS D).drop 1 ++ (enS D).take 1 = enS (D.drop 1 ++ D.take 1) := by unfold enS; rw [List.map_append, List.map_drop, List.map_take]
    have nn : ∀ (X : List (Str × PV)), (∀ p ∈ X, p ∈ D ∨ p.2 = .bl true) → ∀ p ∈ X, noLoc p.2 = true := fun X h p hp => by
      rcases h p hp with h | h
      · exact nd p h
      · rw [h]; rfl
    refine spoilt_ok (P0 := enC A) (P := enS D) (v := .bl true) (.inr (.inr rfl)) rfl rfl rfl rfl nw (by rw [enC_len]; omega) (by rw [enS_len]; omega) ?_ ?_ ?_ (fun h => ?_) b5
    · rw [e1]; exact mk _ (sp1 ld hs) (nn _ fun p hp => by simp only [List.mem_append, List.mem_cons, List.not_mem_nil, or_false] at hp; rcases hp with h | rfl | rfl <;> first | exact .inl (by assumption) | exact .inr rfl)
    · rw [e2]; exact mk _ (sp2 ld hs) (nn _ fun p hp => by simp only [List.mem_append, List.mem_cons, List.not_mem_nil, or_false] at hp; rcases hp with rfl | h | rfl <;> first | exact .inl (by assumption) | exact .inr rfl)
    · rw [e3]; exact mk _ (sp3 ld) (nn _ fun p hp => by simp only [List.mem_append, List.mem_cons, List.not_mem_nil, or_false] at hp; rcases hp with h | rfl | rfl <;> first | exact .inl (by assumption) | exact .inr rfl)
    · rw [e4]; exact mk _ (sp4 ld rd (by rw [enS_len] at h; exact h)) (nn _ fun p hp => by
        rcases List.mem_append.mp hp with hp | hp
        · exact .inl (List.mem_of_mem_drop hp)
        · exact .inl (List.mem_of_mem_take hp))
end
/-! ## the law -/
theorem big_app {a b : Str} {S : Sto} (h : a.length + b.length ≤ 16777216) : gAdd (.str a) (.str b) S = some (.ok (.str (a ++ b)) S) := by
  unfold gAdd
  dsimp only
  rw [if_pos h]
theorem repS_len (c : Nat) (k : Int) : (repS ⟨#[c]⟩ k).length = k.toNat := by
  rw [len_cps, repS_cps]
  simp
theorem repS_mem {c : Nat} {k : Int} : ∀ x ∈ (repS ⟨#[c]⟩ k).cps.toList, x = c := fun x hx => by
  rw [repS_cps] at hx
  obtain ⟨l, hl, hx⟩ := List.mem_flatten.mp hx
  rw [(List.mem_replicate.mp hl).2] at hx
  simpa using hx
theorem no_x : ∀ w ∈ wordsL, w.cps.toList.head? ≠ some 120 := by decide +kernel
/-- the new name -/
theorem new_name {k : Int} (hk : 0 ≤ k ∧ k < 19) : nameB ((("x" : Str) ++ repS "y" k) ++ "9") = true ∧ ((("x" : Str) ++ repS "y" k) ++ "9").length ≤ 16777216 := by
  have hx : (("x" : Str)).cps.toList = [120] := by decide +kernel
  have hy : (("y" : Str)) = ⟨#[121]⟩ := by decide +kernel
  have h9 : (("9" : Str)) = ⟨#[57]⟩ := by decide +kernel
  have r120 : inStr ⟨#[120]⟩ smallS = true := by decide +kernel
  have s120 : inStr ⟨#[120]⟩ restS = true := by decide +kernel
  have s121 : inStr ⟨#[121]⟩ restS = true := by decide +kernel
  have s57 : inStr ⟨#[57]⟩ restS = true := by decide +kernel
  have l0 : Lts ("x" : Str) 1 := ⟨by decide +kernel, ⟨120, [], hx, r120⟩, fun c hc => by
    rw [hx, List.mem_singleton] at hc
    rw [hc]; exact s120⟩
  have l1 := l0.app (t := repS "y" k) (m := k.toNat) (by rw [hy, repS_len]) (fun c hc => by
    rw [hy] at hc
    rw [repS_mem c hc]; exact s121)
  have l2 := l1.app (t := "9") (m := 1) (by decide +kernel) (fun c hc => by
    rw [h9] at hc
    have : c = 57 := by simpa using hc
    rw [this]; exact s57)
  have hw : ((("x" : Str) ++ repS "y" k) ++ "9") ∉ wordsL := fun h => by
    refine no_x _ h ?_
    rw [app_cps, app_cps, hx]
    rfl
  refine ⟨l2.name (by omega) (by omega) hw, ?_⟩
  rw [l2.len]
  omega
section
variable {S : Sto} {ns : List Int} {C : List (Str × List P2)} {Dd : List (Str × Int)} {F : List (Str × Bool)} {m : Nat}
theorem keys_nls {α : Type} (l : List (Str × α)) : (keysL l).map PV.str = (keysL l).map Dat.enc := rfl
/-- the names of the table -/
theorem names_here (B : Bs S ns) (g : Gd C Dd F m) {which : Int} (hw : which = 0 ∨ which = 1 ∨ which = 2) : ∃ L : List Str, (∀ s ∈ L, nameB s = true) ∧ L.length ≤ m ∧ ∀ ρ : En, ρ[2]? = some (some (.loc 5)) → ρ[7]? = some (some (.int which)) → (dOpA gListD (dCons (dOp2 gIx (dVar 2) (dVar 7)) dNil)) ρ (stW S C Dd F) = some (.ok (.loc S.length) (stW S C Dd F ++ [.lst (L.map PV.str)])) := by
  have hl := B.le
  have ld : ∀ {α : Type} {e : α → PV} {k : Nat} {l : List (Str × α)}, (stW S C Dd F)[k]? = some (.dct false (encD e l)) → gListD [.loc k] (stW S C Dd F) = some (.ok (.loc S.length) (stW S C Dd F ++ [.lst ((keysL l).map PV.str)])) := fun {α e k l} h => by
    unfold gListD dctOf
    dsimp only
    rw [h]
    dsimp only
    rw [encD_keys, stW_len]
    rfl
  rcases hw with rfl | rfl | rfl
  · refine ⟨keysL C, names_of g.kc, by unfold keysL; rw [List.length_map]; exact g.lc, fun ρ h2 h7 => ?_⟩
    simp only [ev_opA, ev_cons, ev_op2, ev_var, h2, h7, ev_bR_ok, B.t0, ev_nil, ld (stW_2 hl)]
  · refine ⟨keysL Dd, names_of g.kd, by unfold keysL; rw [List.length_map]; exact g.ld, fun ρ h2 h7 => ?_⟩
    simp only [ev_opA, ev_cons, ev_op2, ev_var, h2, h7, ev_bR_ok, B.t1, ev_nil, ld (stW_3 hl)]
  · refine ⟨keysL F, names_of g.kf, by unfold keysL; rw [List.length_map]; exact g.lf, fun ρ h2 h7 => ?_⟩
    simp only [ev_opA, ev_cons, ev_op2, ev_var, h2, h7, ev_bR_ok, B.t2, ev_nil, ld (stW_4 hl)]
theorem dIn_ok {α : Type} {e : α → PV} {U : Sto} {k : Nat} {l : List (Str × α)} {s : Str} (h : U[k]? = some (.dct false (encD e l))) : gDIn true (.str s) (.loc k) U = some (.ok (.bl (!decide (s ∈ keysL l))) U) := by
  unfold gDIn
  dsimp only
  rw [h]
  have : kP (.str s) = some (.inr s) := rfl
  dsimp only
  rw [this]
  dsimp only
  rw [encD_val]
  by_cases hs : s ∈ keysL l
  · obtain ⟨v, hv⟩ := lookup_mem hs
    rw [hv]
    simp [hs]
  · rw [look_none hs]
    simp [hs]
/-- t_10 -/
theorem t10_ok {U : Sto} {n : Nat} {L : List Str} (hn : U[n]? = some (.lst (L.map PV.str))) (hl : n + 1 = U.length) {s : Str} {a b c e f h : Option PV} : ∃ L' : List Str, (∀ x ∈ L', x ∈ L) ∧ L'.length ≤ L.length ∧ t_10 [a, b, c, none, none, e, f, h, some (.loc n), some (.str s), none, none, none, none, none] U = t_11 [a, b, c, none, none, e, f, h, some (.loc n), some (.str s), none, none, none, none, none] (U.set n (.lst (L'.map PV.str))) := by
  have i := in_lst (S := U) (neg := false) (k := n) (l := L) (x := s) hn
  rw [show (Dat.enc s : PV) = .str s from rfl] at i
  simp only [Bool.false_eq_true, if_false] at i
  have ty := ev_tyL hn
  by_cases hs : s ∈ L
  · obtain ⟨j, _, r⟩ := rem_lst (S := U) (k := n) (l := L) (x := s) hn hs
    have r : gRemove (.loc n) [.str s] U = some (.ok .non (U.set n (.lst ((L.eraseIdx j).map PV.str)))) := r
    refine ⟨L.eraseIdx j, fun x hx => List.mem_of_mem_eraseIdx hx, List.length_eraseIdx_le _ _, ?_⟩
    simp only [hs, decide_true] at i
    simp only [t_10, ev_seq, ev_ifS, ev_cmp, ev_var, List.getElem?_cons_zero, List.getElem?_cons_succ, ev_bR_ok, i, ev_asB, ev_bS_ok, if_true, ev_expr, ev_meth, ty, ev_cons, ev_nil, r, ev_bN_next]
  · refine ⟨L, fun _ h => h, Nat.le_refl _, ?_⟩
    have : U.set n (.lst (L.map PV.str)) = U := by
      refine List.ext_getElem? fun i => ?_
      by_cases h : n = i
      · subst h; rw [List.getElem?_set_self (by omega), hn]
      · rw [List.getElem?_set_ne h]
    rw [this]
    simp only [hs, decide_false] at i
    simp only [t_10, ev_seq, ev_ifS, ev_cmp, ev_var, List.getElem?_cons_zero, List.getElem?_cons_succ, ev_bR_ok, i, ev_asB, ev_bS_ok, Bool.false_eq_true, if_false, ev_pass, ev_bN_next]
theorem l3_step {U : Sto} (B : Bs U ns) (g : Gd C Dd F m) {s : Str} {k : Int} (hk : k = 0 ∨ k = 1 ∨ k = 2) {a b e h n : Option PV} : l_law_3 [a, b, some (.loc 5), some (.int k), none, e, some (worldP C Dd F), h, n, some (.str s), none, none, none, none, none] (stW U C Dd F) = some (.next [a, b, some (.loc 5), some (.int k), none, e, some (worldP C Dd F), h, n, some (.str s), none, none, none, none, none] (stW U C Dd F)) := by
  have hl := B.le
  rcases hk with rfl | rfl | rfl
  · have r := read0 (S := stW U C Dd F) (Dd := Dd) (F := F) (stW_2 hl) g.nc
    have i := dIn_ok (e := clP) (U := stW U C Dd F) (s := s) (stW_2 hl)
    by_cases hs : s ∈ keysL C
    · generalize worldP C Dd F = w at r
      simp only [hs, decide_true, Bool.not_true] at i
      simp [l_law_3, B.t0, r, i]
    · have mi := missing5 (S := stW U C Dd F) (C := C) (Dd := Dd) (F := F) (which := 0) (s := s) (.inl rfl) (.inl ⟨rfl, hs⟩)
      generalize worldP C Dd F = w at r mi
      simp only [hs, decide_false, Bool.not_false] at i
      simp [l_law_3, B.t0, r, i, mi]
  · have r := read1 (S := stW U C Dd F) (C := C) (F := F) (stW_3 hl) g.nd
    have i := dIn_ok (e := PV.int) (U := stW U C Dd F) (s := s) (stW_3 hl)
    by_cases hs : s ∈ keysL Dd
    · generalize worldP C Dd F = w at r
      simp only [hs, decide_true, Bool.not_true] at i
      simp [l_law_3, B.t1, r, i]
    · have mi := missing5 (S := stW U C Dd F) (C := C) (Dd := Dd) (F := F) (which := 1) (s := s) (.inr (.inl rfl)) (.inr (.inl ⟨rfl, hs⟩))
      generalize worldP C Dd F = w at r mi
      simp only [hs, decide_false, Bool.not_false] at i
      simp [l_law_3, B.t1, r, i, mi]
  · have r := read2 (S := stW U C Dd F) (C := C) (Dd := Dd) (stW_4 hl) g.nf
    have i := dIn_ok (e := PV.bl) (U := stW U C Dd F) (s := s) (stW_4 hl)
    by_cases hs : s ∈ keysL F
    · generalize worldP C Dd F = w at r
      simp only [hs, decide_true, Bool.not_true] at i
      simp [l_law_3, B.t2, r, i]
    · have mi := missing5 (S := stW U C Dd F) (C := C) (Dd := Dd) (F := F) (which := 2) (s := s) (.inr (.inr rfl)) (.inr (.inr ⟨rfl, hs⟩))
      generalize worldP C Dd F = w at r mi
      simp only [hs, decide_false, Bool.not_false] at i
      simp [l_law_3, B.t2, r, i, mi]
theorem rg3 : rangeP 0 (3 : Int).toNat = [.int 0, .int 1, .int 2] := rfl
theorem l3_all {U : Sto} (B : Bs U ns) (g : Gd C Dd F m) {s : Str} {a b e h n : Option PV} : forL (gN 3) [3] l_law_3 [] [.int 0, .int 1, .int 2] [a, b, some (.loc 5), none, none, e, some (worldP C Dd F), h, n, some (.str s), none, none, none, none, none] (stW U C Dd F) = some (.next [a, b, some (.loc 5), none, none, e, some (worldP C Dd F), h, n, some (.str s), none, none, none, none, none] (stW U C Dd F)) := by
  have s0 := l3_step (U := U) B g (s := s) (k := 0) (.inl rfl) (a := a) (b := b) (e := e) (h := h) (n := n)
  have s1 := l3_step (U := U) B g (s := s) (k := 1) (.inr (.inl rfl)) (a := a) (b := b) (e := e) (h := h) (n := n)
  have s2 := l3_step (U := U) B g (s := s) (k := 2) (.inr (.inr rfl)) (a := a) (b := b) (e := e) (h := h) (n := n)
  rw [forL_cons (by simp)]
  simp only [ev_gN, List.set_cons_succ, List.set_cons_zero, s0, ev_killC, ev_killN]
  rw [forL_cons (by simp)]
  simp only [ev_gN, List.set_cons_succ, List.set_cons_zero, s1, ev_killC, ev_killN]
  rw [forL_cons (by simp)]
  simp only [ev_gN, List.set_cons_succ, List.set_cons_zero, s2, ev_killC, ev_killN]
  rw [forL_nil (by simp)]
/-- t_13 .. t_16 -/
theorem set_ok {U : Sto} (B : Bs U ns) (g : Gd C Dd F m) (hm : m < 50) {which : Int} (hw : which = 0 ∨ which = 1 ∨ which = 2) {s : Str} (hs : nameB s = true) {n : Option PV} : ∃ C' Dd' F' X u v, Gd C' Dd' F' (m + 1) ∧ t_13 [some (.loc 0), some (.loc 1), some (.loc 5), none, none, some (worldP C Dd F), some (worldP C Dd F), some (.int which), n, some (.str s), none, none, none, none, none] (stW U C Dd F) =
    t_17 [some (.loc 0), some (.loc 1), some (.loc 5), none, none, some (worldP C Dd F), some (worldP C Dd F), some (.int which), n, some (.str s), u, v, none, none, none] (stW (U ++ [X]) C' Dd' F') := by
  have hl := B.le
  have hsl : s.length ≤ 16777216 := by have := (name_pos hs).2; omega
  have pw : CPowD 10 9 := by unfold CPowD; decide
  have pw := ev_pow (S := stW U C Dd F) pw
  obtain ⟨big, hbig⟩ : ∃ big : Int, (10 : Int) ^ (9 : Int).toNat = big := ⟨_, rfl⟩
  rw [hbig] at pw
  obtain ⟨c, bc, ec⟩ := closed_made (S := stW U C Dd F) (k := 1) (at_ := 54) (sh := big) B.ne B.w1
  have p1 := pick_spec (S := stW U C Dd F) (k := 1) (a := 55) B.w1 B.ne (show (0 : Int) < 1009 by omega)
  generalize pick ns 55 1009 = d at p1
  have p2 := pick_spec (S := stW U C Dd F) (k := 1) (a := 56) B.w1 B.ne (show (0 : Int) < 2 by omega)
  generalize pick ns 56 2 = y at p2
  obtain ⟨X, hX⟩ : ∃ X, X = PO.lst [clP c, .int d, .bl (decide (y = 1))] := ⟨_, rfl⟩
  have g3 : gLstP [clP c, .int d, .bl (decide (y = 1))] (stW U C Dd F) = some (.ok (.loc U.length) (stW U C Dd F ++ [X])) := by rw [hX, ev_lst3, stW_len]
  have ea := stW_app (S := U) (T := [X]) (C := C) (Dd := Dd) (F := F) hl
  rw [← ea] at g3
  obtain ⟨U', hU'⟩ : ∃ U', U' = U ++ [X] := ⟨_, rfl⟩
  rw [← hU'] at g3
  have B' : Bs U' ns := by rw [hU']; exact B.app _
  have hl' := B'.le
  have kx : (stW U' C Dd F)[U.length]? = some (.lst [clP c, .int d, .bl (decide (y = 1))]) := by
    rw [stW_ne (by omega) (by omega) (by omega), hU', hX]
    exact at_0
  have front : ∀ v : PV, gIx (.loc U.length) (.int which) (stW U' C Dd F) = some (.ok v (stW U' C Dd F)) → t_13 [some (.loc 0), some (.loc 1), some (.loc 5), none, none, some (worldP C Dd F), some (worldP C Dd F), some (.int which), n, some (.str s), none, none, none, none, none] (stW U C Dd F) =
      t_14 [some (.loc 0), some (.loc 1), some (.loc 5), none, none, some (worldP C Dd F), some (worldP C Dd F), some (.int which), n, some (.str s), some v, none, none, none, none] (stW U' C Dd F) := fun v hv => by
    simp only [t_13, ev_seq, ev_set, ev_op2, ev_lst, ev_cons, ev_opA, ev_var, List.getElem?_cons_zero, List.getElem?_cons_succ, ev_bR_ok, ev_c, pw, ev_nil, ec, p1, p2, ev_eqI, g3, hv, ev_bS_ok, ev_bN_next, List.set_cons_succ, List.set_cons_zero]
  have fin : ∀ (C' : List (Str × List P2)) (Dd' : List (Str × Int)) (F' : List (Str × Bool)) (v : PV), Gd C' Dd' F' (m + 1) → t_16 [some (.loc 0), some (.loc 1), some (.loc 5), none, none, some (worldP C Dd F), some (worldP C Dd F), some (.int which), n, some (.str s), some v, some (worldP C' Dd' F'), none, none, none] (stW U' C' Dd' F') =
      t_17 [some (.loc 0), some (.loc 1), some (.loc 5), none, none, some (worldP C Dd F), some (worldP C Dd F), some (.int which), n, some (.str s), some v, some (worldP C' Dd' F'), none, none, none] (stW U' C' Dd' F') := fun C' Dd' F' v g' => by
    have du := due_ok (S := stW U' C' Dd' F') (stW_2 hl') (stW_3 hl') (stW_4 hl') B'.w5 g' (by omega)
    have n1 := ne_world (S := stW U' C' Dd' F') C' Dd' F'
    have n2 := ne_world (S := stW U' C' Dd' F') C Dd F
    simp only [t_16, ev_seq, ev_ifS, ev_orT, ev_cmp, ev_var, List.getElem?_cons_zero, List.getElem?_cons_succ, ev_bR_ok, ev_opA, ev_cons, ev_nil, du, n1, n2, ev_asB, Bool.false_eq_true, if_false, ev_bS_ok, ev_pass, ev_bN_next]
  rw [hU'] at front fin
  rw [hU'] at B' hl' kx
  rcases hw with rfl | rfl | rfl
  · have hv : gIx (.loc U.length) (.int 0) (stW (U ++ [X]) C Dd F) = some (.ok (clP c) (stW (U ++ [X]) C Dd F)) := ev_ixL kx rfl
    have sc := set_cal_ok (S := stW (U ++ [X]) C Dd F) (C := C) (Dd := Dd) (F := F) (c := c) hs hsl g.nc (by have := g.lc; omega)
    have sd := ev_setDS (e := clP) (S := stW (U ++ [X]) C Dd F) (k := 2) (s := s) (v := c) (stW_2 hl') (by have := g.lc; omega)
    rw [stW_s2] at sd
    have ls : F__law_set [worldP C Dd F, .int 0, .str s, clP c] (stW (U ++ [X]) C Dd F) = some (.ok (worldP (putL C s c) Dd F) (stW (U ++ [X]) C Dd F)) := by
      refine call_val0 ?_ (wP_nl _ _ _)
      show b__law_set [some (worldP C Dd F), some (.int 0), some (.str s), some (clP c)] _ = _
      simp only [b__law_set, b__law_set_t0, ev_seq, ev_ifS, ev_cmp, ev_var, List.getElem?_cons_zero, List.getElem?_cons_succ, ev_bR_ok, ev_c, ev_eqI, decide_true, ev_asB, ev_bS_ok, if_true, ev_ret, ev_opA, ev_cons, ev_nil, sc, ev_bN_ret]
    have g' := g.putC (c := c) hs bc.form
    refine ⟨_, _, _, X, some (clP c), some (worldP (putL C s c) Dd F), g', ?_⟩
    rw [front _ hv]
    have e14 : t_14 [some (.loc 0), some (.loc 1), some (.loc 5), none, none, some (worldP C Dd F), some (worldP C Dd F), some (.int 0), n, some (.str s), some (clP c), none, none, none, none] (stW (U ++ [X]) C Dd F) = t_16 [some (.loc 0), some (.loc 1), some (.loc 5), none, none, some (worldP C Dd F), some (worldP C Dd F), some (.int 0), n, some (.str s), some (clP c), some (worldP (putL C s c) Dd F), none, none, none] (stW (U ++ [X]) (putL C s c) Dd F) := by
      simp only [t_14, t_15, ev_seq, ev_set, ev_opA, ev_cons, ev_var, List.getElem?_cons_zero, List.getElem?_cons_succ, ev_bR_ok, ev_nil, ls, ev_bS_ok, ev_bN_next, List.set_cons_succ, List.set_cons_zero, ev_asg, ev_gsub, ev_op2, B'.t0, sd]
    rw [e14]
    exact fin _ _ _ _ g'
  · have hv : gIx (.loc U.length) (.int 1) (stW (U ++ [X]) C Dd F) = some (.ok (.int d) (stW (U ++ [X]) C Dd F)) := ev_ixL kx rfl
    have sc := set_day_ok (S := stW (U ++ [X]) C Dd F) (C := C) (Dd := Dd) (F := F) (c := d) hs hsl g.nd (by have := g.ld; omega)
    have sd := ev_setDS (e := PV.int) (S := stW (U ++ [X]) C Dd F) (k := 3) (s := s) (v := d) (stW_3 hl') (by have := g.ld; omega)
    rw [stW_s3] at sd
    have ls : F__law_set [worldP C Dd F, .int 1, .str s, .int d] (stW (U ++ [X]) C Dd F) = some (.ok (worldP C (putL Dd s d) F) (stW (U ++ [X]) C Dd F)) := by
      refine call_val0 ?_ (wP_nl _ _ _)
      show b__law_set [some (worldP C Dd F), some (.int 1), some (.str s), some (.int d)] _ = _
      simp only [b__law_set, b__law_set_t0, b__law_set_t1, ev_seq, ev_ifS, ev_cmp, ev_var, List.getElem?_cons_zero, List.getElem?_cons_succ, ev_bR_ok, ev_c, ev_eqI, show ¬ ((1 : Int) = 0) by omega, decide_false, decide_true, ev_asB, ev_bS_ok, Bool.false_eq_true, if_false, if_true, ev_pass, ev_bN_next, ev_ret, ev_opA, ev_cons, ev_nil, sc, ev_bN_ret]
    have g' := g.putD (c := d) hs
    refine ⟨_, _, _, X, some (.int d), some (worldP C (putL Dd s d) F), g', ?_⟩
    rw [front _ hv]
    have e14 : t_14 [some (.loc 0), some (.loc 1), some (.loc 5), none, none, some (worldP C Dd F), some (worldP C Dd F), some (.int 1), n, some (.str s), some (.int d), none, none, none, none] (stW (U ++ [X]) C Dd F) = t_16 [some (.loc 0), some (.loc 1), some (.loc 5), none, none, some (worldP C Dd F), some (worldP C Dd F), some (.int 1), n, some (.str s), some (.int d), some (worldP C (putL Dd s d) F), none, none, none] (stW (U ++ [X]) C (putL Dd s d) F) := by
      simp only [t_14, t_15, ev_seq, ev_set, ev_opA, ev_cons, ev_var, List.getElem?_cons_zero, List.getElem?_cons_succ, ev_bR_ok, ev_nil, ls, ev_bS_ok, ev_bN_next, List.set_cons_succ, List.set_cons_zero, ev_asg, ev_gsub, ev_op2, B'.t1, sd]
    rw [e14]
    exact fin _ _ _ _ g'
  · obtain ⟨fl, hfl⟩ : ∃ fl, fl = decide (y = 1) := ⟨_, rfl⟩
    rw [← hfl] at kx
    have hv : gIx (.loc U.length) (.int 2) (stW (U ++ [X]) C Dd F) = some (.ok (.bl fl) (stW (U ++ [X]) C Dd F)) := ev_ixL kx rfl
    have sc := set_flag_ok (S := stW (U ++ [X]) C Dd F) (C := C) (Dd := Dd) (F := F) (c := fl) hs hsl g.nf (by have := g.lf; omega)
    have sd := ev_setDS (e := PV.bl) (S := stW (U ++ [X]) C Dd F) (k := 4) (s := s) (v := fl) (stW_4 hl') (by have := g.lf; omega)
    rw [stW_s4] at sd
    have ls : F__law_set [worldP C Dd F, .int 2, .str s, .bl fl] (stW (U ++ [X]) C Dd F) = some (.ok (worldP C Dd (putL F s fl)) (stW (U ++ [X]) C Dd F)) := by
      refine call_val0 ?_ (wP_nl _ _ _)
      show b__law_set [some (worldP C Dd F), some (.int 2), some (.str s), some (.bl fl)] _ = _
      simp only [b__law_set, b__law_set_t0, b__law_set_t1, b__law_set_t2, ev_seq, ev_ifS, ev_cmp, ev_var, List.getElem?_cons_zero, List.getElem?_cons_succ, ev_bR_ok, ev_c, ev_eqI, show ¬ ((2 : Int) = 0) by omega, show ¬ ((2 : Int) = 1) by omega, decide_false, ev_asB, ev_bS_ok, Bool.false_eq_true, if_false, ev_pass, ev_bN_next, ev_ret, ev_opA, ev_cons, ev_nil, sc]
    have g' := g.putF (c := fl) hs
    refine ⟨_, _, _, X, some (.bl fl), some (worldP C Dd (putL F s fl)), g', ?_⟩
    rw [front _ hv]
    have e14 : t_14 [some (.loc 0), some (.loc 1), some (.loc 5), none, none, some (worldP C Dd F), some (worldP C Dd F), some (.int 2), n, some (.str s), some (.bl fl), none, none, none, none] (stW (U ++ [X]) C Dd F) = t_16 [some (.loc 0), some (.loc 1), some (.loc 5), none, none, some (worldP C Dd F), some (worldP C Dd F), some (.int 2), n, some (.str s), some (.bl fl), some (worldP C Dd (putL F s fl)), none, none, none] (stW (U ++ [X]) C Dd (putL F s fl)) := by
      simp only [t_14, t_15, ev_seq, ev_set, ev_opA, ev_cons, ev_var, List.getElem?_cons_zero, List.getElem?_cons_succ, ev_bR_ok, ev_nil, ls, ev_bS_ok, ev_bN_next, List.set_cons_succ, List.set_cons_zero, ev_asg, ev_gsub, ev_op2, B'.t2, sd]
    rw [e14]
    exact fin _ _ _ _ g'
end
def wrongs (w : Str) : List Str := ["", "A", "a_", "9a", "a b", repS "a" 21, "a.", w]
theorem wrong_no {w : Str} (hw : w ∈ wordsL) : ∀ s ∈ wrongs w, nameB s = false ∧ s.length ≤ 16777216 := by
  intro s hs
  have hwn : nameB w = false := by unfold nameB; rw [decide_eq_true hw]; simp
  have hwl : ∀ w ∈ wordsL, w.length ≤ 16777216 := by decide +kernel
  unfold wrongs at hs
  simp only [List.mem_cons, List.not_mem_nil, or_false] at hs
  rcases hs with rfl | rfl | rfl | rfl | rfl | rfl | rfl | rfl
  · exact ⟨by decide +kernel, by decide +kernel⟩
  · exact ⟨by decide +kernel, by decide +kernel⟩
  · exact ⟨by decide +kernel, by decide +kernel⟩
  · exact ⟨by decide +kernel, by decide +kernel⟩
  · exact ⟨by decide +kernel, by decide +kernel⟩
  · exact ⟨by decide +kernel, by decide +kernel⟩
  · exact ⟨by decide +kernel, by decide +kernel⟩
  · exact ⟨hwn, hwl _ hw⟩
section
variable {S : Sto} {ns : List Int} {C C' : List (Str × List P2)} {Dd Dd' : List (Str × Int)} {F F' : List (Str × Bool)} {m : Nat}
theorem l4_all {U : Sto} (B : Bs U ns) (g : Gd C' Dd' F' m) (hm : m < 60) {s : Str} (hs : nameB s = false) (hl : s.length ≤ 16777216) {a b e h n o p q r t : Option PV} : forL (gN 3) [3] l_law_4 [] [.int 0, .int 1, .int 2] [a, b, some (.loc 5), none, none, e, some (worldP C Dd F), h, n, o, p, q, r, t, some (.str s)] (stW U C' Dd' F') = some (.next [a, b, some (.loc 5), none, none, e, some (worldP C Dd F), h, n, o, p, q, r, t, some (.str s)] (stW U C' Dd' F')) := by
  have hl6 := B.le
  have st : ∀ k : Int, (k = 0 ∨ k = 1 ∨ k = 2) → l_law_4 [a, b, some (.loc 5), some (.int k), none, e, some (worldP C Dd F), h, n, o, p, q, r, t, some (.str s)] (stW U C' Dd' F') = some (.next [a, b, some (.loc 5), some (.int k), none, e, some (worldP C Dd F), h, n, o, p, q, r, t, some (.str s)] (stW U C' Dd' F')) := fun k hk => by
    have rf := refused_ok (S := stW U C' Dd' F') (stW_2 hl6) (stW_3 hl6) (stW_4 hl6) B.w5 g hm hk hl (c := []) (.inl hs)
    have rf : F__law_refused [.loc 5, .int k, .str s, .tup []] (stW U C' Dd' F') = some (.ok (.bl true) (stW U C' Dd' F')) := rf
    have un := unset_ok (S := stW U C' Dd' F') (C := C) (Dd := Dd) (F := F) hk hl hs
    generalize worldP C Dd F = w at un
    simp [l_law_4, rf, un]
  rw [forL_cons (by simp)]
  simp only [ev_gN, List.set_cons_succ, List.set_cons_zero, st 0 (.inl rfl), ev_killC, ev_killN]
  rw [forL_cons (by simp)]
  simp only [ev_gN, List.set_cons_succ, List.set_cons_zero, st 1 (.inr (.inl rfl)), ev_killC, ev_killN]
  rw [forL_cons (by simp)]
  simp only [ev_gN, List.set_cons_succ, List.set_cons_zero, st 2 (.inr (.inr rfl)), ev_killC, ev_killN]
  rw [forL_nil (by simp)]
/-- from t_17 on -/
theorem end_ok {U : Sto} (B : Bs U ns) (g : Gd C Dd F m) (g' : Gd C' Dd' F' (m + 1)) (hm : m < 50) {which : Int} (hw : which = 0 ∨ which = 1 ∨ which = 2) {n o p q : Option PV} : ∃ V, t_17 [some (.loc 0), some (.loc 1), some (.loc 5), none, none, some (worldP C Dd F), some (worldP C Dd F), some (.int which), n, o, p, q, none, none, none] (stW U C' Dd' F') = some (.ret (.bl true) V) := by
  have hl := B.le
  have p1 := pick_spec (S := stW U C' Dd' F') (k := 1) (a := 57) B.w1 B.ne (show (0 : Int) < 9 by omega)
  have b1 := pick_lt ns 57 (show (0 : Int) < 9 by omega)
  generalize pick ns 57 9 = x1 at p1 b1
  have p2 := pick_spec (S := stW U C' Dd' F') (k := 1) (a := 58) B.w1 B.ne (show (0 : Int) < 3 by omega)
  have b2 := pick_lt ns 58 (show (0 : Int) < 3 by omega)
  generalize pick ns 58 3 = x2 at p2 b2
  obtain ⟨bad, hbad⟩ : ∃ bad : List P2, bad = [(x1, 12), (13 - x2, 20)] := ⟨_, rfl⟩
  have fb : formB none bad = false := by
    rw [hbad]
    unfold formB formB
    have h1 : ¬ x1 > 12 := by omega
    have h2 : ¬ (13 - x2 > 20) := by omega
    have h3 : 13 - x2 < 12 + 2 := by omega
    simp [h1, h2]
    intro h
    omega
  have eb : (.tup [.tup [.int x1, .int 12], .tup [.int (13 - x2), .int 20]] : PV) = clP bad := by rw [hbad]; rfl
  -- the words
  have wo := words_ok (S := stW U C' Dd' F')
  rw [stW_len] at wo
  have ea := stW_app (S := U) (T := [.lst (wordsL.map PV.str)]) (C := C') (Dd := Dd') (F := F') hl
  rw [← ea] at wo
  obtain ⟨U1, hU1⟩ : ∃ U1, U1 = U ++ [PO.lst (wordsL.map PV.str)] := ⟨_, rfl⟩
  rw [← hU1] at wo
  have B1 : Bs U1 ns := by rw [hU1]; exact B.app _
  have hl1 := B1.le
  have kw : (stW U1 C' Dd' F')[U.length]? = some (.lst (wordsL.map PV.str)) := by
    rw [stW_ne (by omega) (by omega) (by omega), hU1]
    exact at_0
  have lw := ev_lenL kw
  have ew : (wordsL.map PV.str).length = 28 := rfl
  rw [ew] at lw
  have lw : gLen [.loc U.length] (stW U1 C' Dd' F') = some (.ok (.int 28) (stW U1 C' Dd' F')) := lw
  have p3 := pick_spec (S := stW U1 C' Dd' F') (k := 1) (a := 59) B1.w1 B1.ne (show (0 : Int) < 28 by omega)
  have b3 := pick_lt ns 59 (show (0 : Int) < 28 by omega)
  generalize pick ns 59 28 = x3 at p3 b3
  have hx3 : ∃ w ∈ wordsL, gIx (.loc U.length) (.int x3) (stW U1 C' Dd' F') = some (.ok (.str w) (stW U1 C' Dd' F')) := by
    obtain ⟨v, hv, e⟩ := atI_mem (l := wordsL.map PV.str) b3.1 (by rw [ew]; exact b3.2)
    obtain ⟨w, hw, rfl⟩ := List.mem_map.mp hv
    exact ⟨w, hw, ev_ixL kw e⟩
  obtain ⟨w, hw1, x3e⟩ := hx3
  have ms : gMulS (.str "a") (.int 21) (stW U1 C' Dd' F') = some (.ok (.str (repS "a" 21)) (stW U1 C' Dd' F')) := rfl
  obtain ⟨U2, hU2⟩ : ∃ U2, U2 = U1 ++ [PO.lst ((wrongs w).map PV.str)] := ⟨_, rfl⟩
  have g8 : gLstP [.str "", .str "A", .str "a_", .str "9a", .str "a b", .str (repS "a" 21), .str "a.", .str w] (stW U1 C' Dd' F') = some (.ok (.loc U1.length) (stW U2 C' Dd' F')) := by
    have : gLstP ((wrongs w).map PV.str) (stW U1 C' Dd' F') = some (.ok (.loc (stW U1 C' Dd' F').length) (stW U1 C' Dd' F' ++ [.lst ((wrongs w).map PV.str)])) := ev_gLstP (by simp [wrongs])
    rw [stW_len, ← stW_app hl1, ← hU2] at this
    exact this
  have B2 : Bs U2 ns := by rw [hU2]; exact B1.app _
  have kw2 : (stW U2 C' Dd' F')[U1.length]? = some (.lst ((wrongs w).map PV.str)) := by
    rw [stW_ne (by omega) (by omega) (by omega), hU2]
    exact at_0
  have p4 := pick_spec (S := stW U2 C' Dd' F') (k := 1) (a := 60) B2.w1 B2.ne (show (0 : Int) < 8 by omega)
  have b4 := pick_lt ns 60 (show (0 : Int) < 8 by omega)
  generalize pick ns 60 8 = x4 at p4 b4
  have hx4 : ∃ s ∈ wrongs w, gIx (.loc U1.length) (.int x4) (stW U2 C' Dd' F') = some (.ok (.str s) (stW U2 C' Dd' F')) := by
    obtain ⟨v, hv, e⟩ := atI_mem (l := (wrongs w).map PV.str) b4.1 (by simp [wrongs]; exact b4.2)
    obtain ⟨s, hs, rfl⟩ := List.mem_map.mp hv
    exact ⟨s, hs, ev_ixL kw2 e⟩
  obtain ⟨s, hs1, x4e⟩ := hx4
  obtain ⟨hs2, hs3⟩ := wrong_no hw1 s hs1
  have l4 := l4_all (U := U2) (C := C) (Dd := Dd) (F := F) B2 g' (by omega) hs2 hs3 (a := some (.loc 0)) (b := some (.loc 1)) (e := some (worldP C Dd F)) (h := some (.int which)) (n := n) (o := o) (p := p) (q := q) (r := some (clP bad)) (t := some (.loc U.length))
  have hl2 := B2.le
  have ms2 : gMulS (.str "v") (.int 19) (stW U2 C' Dd' F') = some (.ok (.str (repS "v" 19)) (stW U2 C' Dd' F')) := rfl
  have ad2 : gAdd (.str "w") (.str (repS "v" 19)) (stW U2 C' Dd' F') = some (.ok (.str ("w" ++ repS "v" 19)) (stW U2 C' Dd' F')) := rfl
  have wn : nameB ("w" ++ repS "v" 19) = true := by decide +kernel
  have rf := refused_ok (S := stW U2 C' Dd' F') (stW_2 hl2) (stW_3 hl2) (stW_4 hl2) B2.w5 g' (by omega) (which := 0) (.inl rfl) (s := "w" ++ repS "v" 19) (by decide +kernel) (c := bad) (.inr ⟨rfl, wn, fb⟩)
  have p5 := pick_spec (S := stW U2 C' Dd' F') (k := 1) (a := 61) B2.w1 B2.ne (show (0 : Int) < 20 by omega)
  have b5 := pick_lt ns 61 (show (0 : Int) < 20 by omega)
  generalize pick ns 61 20 = x5 at p5 b5
  have ms3 : gMulS (.str "z") (.int (1 + x5)) (stW U2 C' Dd' F') = some (.ok (.str (repS "z" (1 + x5))) (stW U2 C' Dd' F')) := by
    unfold gMulS
    dsimp only
    rw [if_pos ⟨by omega, by omega, by decide +kernel⟩]
  have zl : (repS "z" (1 + x5)).length ≤ 16777216 := by
    have hz : (("z" : Str)) = ⟨#[122]⟩ := by decide +kernel
    rw [hz, repS_len]
    omega
  have sp := spoilt_world (S := stW U2 C' Dd' F') g (by omega) hw zl fb
  refine ⟨stW U2 C' Dd' F', ?_⟩
  have t17 : t_17 [some (.loc 0), some (.loc 1), some (.loc 5), none, none, some (worldP C Dd F), some (worldP C Dd F), some (.int which), n, o, p, q, none, none, none] (stW U C' Dd' F') = t_18 [some (.loc 0), some (.loc 1), some (.loc 5), none, none, some (worldP C Dd F), some (worldP C Dd F), some (.int which), n, o, p, q, some (clP bad), none, none] (stW U C' Dd' F') := by
    simp only [t_17, ev_seq, ev_set, ev_tup, ev_cons, ev_opA, ev_var, List.getElem?_cons_zero, List.getElem?_cons_succ, ev_bR_ok, ev_c, ev_nil, p1, ev_tup2, ev_op2, p2, ev_sub, eb, ev_bS_ok, ev_bN_next, List.set_cons_succ, List.set_cons_zero]
  rw [t17]
  generalize worldP C Dd F = wd at l4 sp
  simp only [t_18, ev_seq, ev_set, ev_opA, ev_nil, ev_bR_ok, wo, ev_bS_ok, ev_bN_next, List.set_cons_succ, List.set_cons_zero]
  simp only [t_19, ev_seq, ev_set, ev_op2, ev_lst, ev_cons, ev_c, ev_bR_ok, ms, ev_opA, ev_var, List.getElem?_cons_zero, List.getElem?_cons_succ, ev_nil, lw, p3, x3e, g8, p4, x4e, ev_bS_ok, ev_bN_next, List.set_cons_succ, List.set_cons_zero]
  simp only [t_20, ev_seq, ev_for, ev_rng1, ev_cons, ev_c, ev_bR_ok, ev_nil, rg3, ev_bS_ok, ev_killC, ev_killN, List.set_cons_succ, List.set_cons_zero, l4, ev_bN_next]
  simp only [t_21, ev_seq, ev_ifS, ev_notT, ev_tru, ev_opA, ev_cons, ev_var, List.getElem?_cons_zero, List.getElem?_cons_succ, ev_bR_ok, ev_c, ev_op2, ms2, ad2, ev_nil, rf, ev_gTru_bl, Bool.not_true, ev_bS_ok, Bool.false_eq_true, if_false, ev_pass, ev_bN_next]
  simp only [t_22, ev_ret, ev_opA, ev_cons, ev_var, List.getElem?_cons_zero, List.getElem?_cons_succ, ev_bR_ok, ev_op2, ev_c, ev_nil, p5, ev_addI, ms3, sp, ev_bS_ok]
end
theorem law_d : LawD F_law := by
  intro ns0 hl0
  obtain ⟨ns, hn, hg, hl, e0⟩ := stream_spec (S := [.fz (ns0.map PV.int)]) (k := 0) (ns := ns0) rfl
  have e0 : F__law_stream [.loc 0] [.fz (ns0.map PV.int)] = some (.ok (.loc 1) [.fz (ns0.map PV.int), .lst (intsP ns)]) := e0
  obtain ⟨A, hA⟩ : ∃ A : Sto, A = [.fz (ns0.map PV.int), .lst (intsP ns), .dct false [], .dct false [], .dct false [], .lst [.loc 2, .loc 3, .loc 4]] := ⟨_, rfl⟩
  have BA : Bs A ns := ⟨by rw [hA]; simp, by rw [hA]; rfl, by rw [hA]; rfl, hn⟩
  have sA : stW A [] [] [] = A := by rw [hA]; rfl
  have gA : Gd ([] : List (Str × List P2)) ([] : List (Str × Int)) ([] : List (Str × Bool)) 0 := ⟨List.nodup_nil, List.nodup_nil, List.nodup_nil, (fun p h => by cases h), (fun p h => by cases h), (fun p h => by cases h), (fun p h => by cases h), Nat.le_refl _, Nat.le_refl _, Nat.le_refl _⟩
  have al : A.length = 6 := by rw [hA]; rfl
  obtain ⟨L1, o1, z1, n1⟩ := names_made (S := A) (at_ := 1) BA.nb hn
  obtain ⟨P, hP⟩ : ∃ P, P = A ++ [PO.lst (L1.map PV.str)] := ⟨_, rfl⟩
  have BP : Bs P ns := by rw [hP]; exact BA.app _
  have sP : stW P [] [] [] = P := by rw [hP, stW_app BA.le, sA]
  have pl : P.length = 7 := by rw [hP]; simp [al]
  have p6 : P[6]? = some (.lst (L1.map PV.str)) := by rw [hP, ← al]; exact at_0
  rw [← hP, al] at n1
  obtain ⟨C1, D1, g1, lp1⟩ := loop1 BP (keep := [(6, .lst (L1.map PV.str))]) ((kept_one _ _).mpr p6) (fun p hp => by rw [List.mem_singleton] at hp; rw [hp]; exact Nat.le_refl _) L1 0 gA (by omega) (by omega) o1.2
  rw [sP] at lp1
  obtain ⟨L2, o2, z2, n2⟩ := names_made (S := stW P C1 D1 []) (at_ := 31) BP.w1 hn
  obtain ⟨Q, hQ⟩ : ∃ Q, Q = P ++ [PO.lst (L2.map PV.str)] := ⟨_, rfl⟩
  have BQ : Bs Q ns := by rw [hQ]; exact BP.app _
  have ql : Q.length = 8 := by rw [hQ]; simp [pl]
  have q7 : Q[7]? = some (.lst (L2.map PV.str)) := by rw [hQ, ← pl]; exact at_0
  rw [← stW_app BP.le, ← hQ, stW_len, pl] at n2
  obtain ⟨D2, F2, g2, lp2⟩ := loop2 BQ (keep := [(7, .lst (L2.map PV.str))]) ((kept_one _ _).mpr q7) (fun p hp => by rw [List.mem_singleton] at hp; rw [hp]; exact (by omega)) L2 0 (C := C1) g1 (by omega) (by omega) o2.2
  have hlq := BQ.le
  generalize hm : 0 + L1.length + L2.length = m at g2
  have m10 : m ≤ 10 := by omega
  generalize hZ : C1 = C at g2 lp1 lp2
  have du := due_ok (S := stW Q C D2 F2) (stW_2 hlq) (stW_3 hlq) (stW_4 hlq) BQ.w5 g2 (by omega)
  have mw := make_world_spec (S := stW Q C D2 F2) (C := C) (Dd := D2) (F := F2) (stW_2 hlq) (stW_3 hlq) (stW_4 hlq) (fun p hp => ⟨g2.kc p hp, lenD g2.kc p hp⟩) (fun p hp => ⟨g2.kd p hp, lenD g2.kd p hp⟩) (fun p hp => ⟨g2.kf p hp, lenD g2.kf p hp⟩) g2.fc g2.nc (by have := g2.lc; omega) (by have := g2.ld; omega) (by have := g2.lf; omega)
  have iw := is_world_yes (S := stW Q C D2 F2) g2
  have nw := ne_world (S := stW Q C D2 F2) C D2 F2
  have p50 := pick_spec (S := stW Q C D2 F2) (k := 1) (a := 50) BQ.w1 hn (show (0 : Int) < 3 by omega)
  have b50 := pick_lt ns 50 (show (0 : Int) < 3 by omega)
  generalize pick ns 50 3 = which at p50 b50
  have hw : which = 0 ∨ which = 1 ∨ which = 2 := by omega
  obtain ⟨L, nL, zL, eL⟩ := names_here BQ g2 hw
  obtain ⟨R, hR⟩ : ∃ R, R = Q ++ [PO.lst (L.map PV.str)] := ⟨_, rfl⟩
  have BR : Bs R ns := by rw [hR]; exact BQ.app _
  have rl : R.length = 9 := by rw [hR]; simp [ql]
  rw [ql, ← stW_app hlq, ← hR] at eL
  have p51 := pick_spec (S := stW R C D2 F2) (k := 1) (a := 51) BR.w1 hn (show (0 : Int) < 19 by omega)
  have b51 := pick_lt ns 51 (show (0 : Int) < 19 by omega)
  generalize pick ns 51 19 = ky at p51 b51
  obtain ⟨nn1, nn2⟩ := new_name b51
  have my : gMulS (.str "y") (.int ky) (stW R C D2 F2) = some (.ok (.str (repS "y" ky)) (stW R C D2 F2)) := by
    unfold gMulS
    dsimp only
    rw [if_pos ⟨by omega, by omega, by decide +kernel⟩]
  have ly : (repS "y" ky).length = ky.toNat := by
    have hy : (("y" : Str)) = ⟨#[121]⟩ := by decide +kernel
    rw [hy, repS_len]
  have lx : (("x" : Str)).length = 1 := by decide +kernel
  have l9 : (("9" : Str)).length = 1 := by decide +kernel
  have ax : gAdd (.str "x") (.str (repS "y" ky)) (stW R C D2 F2) = some (.ok (.str ("x" ++ repS "y" ky)) (stW R C D2 F2)) := big_app (by rw [lx, ly]; omega)
  have lxy : (("x" : Str) ++ repS "y" ky).length = 1 + ky.toNat := by rw [len_cps, app_cps, List.length_append, ← len_cps, ← len_cps, lx, ly]
  have a9 : gAdd (.str ("x" ++ repS "y" ky)) (.str "9") (stW R C D2 F2) = some (.ok (.str ("x" ++ repS "y" ky ++ "9")) (stW R C D2 F2)) := big_app (by rw [lxy, l9]; omega)
  generalize ("x" : Str) ++ repS "y" ky ++ "9" = s0 at nn1 nn2 a9
  have r8 : (stW R C D2 F2)[8]? = some (.lst (L.map PV.str)) := by
    rw [stW_ne (by omega) (by omega) (by omega), hR, ← ql]
    exact at_0
  obtain ⟨L3, i3, z3, e10⟩ := t10_ok (U := stW R C D2 F2) (n := 8) (L := L) (s := s0) r8 (by rw [stW_len, rl]) (a := some (.loc 0)) (b := some (.loc 1)) (c := some (.loc 5)) (e := some (worldP C D2 F2)) (f := some (worldP C D2 F2)) (h := some (.int which))
  obtain ⟨T, hT⟩ : ∃ T, T = R.set 8 (.lst (L3.map PV.str)) := ⟨_, rfl⟩
  have tR : (stW R C D2 F2).set 8 (.lst (L3.map PV.str)) = stW T C D2 F2 := by
    rw [hT]
    unfold stW
    rw [List.set_comm _ _ (show (4 : Nat) ≠ 8 by omega), List.set_comm _ _ (show (3 : Nat) ≠ 8 by omega), List.set_comm _ _ (show (2 : Nat) ≠ 8 by omega)]
  rw [tR] at e10
  have BT : Bs T ns := ⟨by rw [hT, List.length_set]; omega, by rw [hT, List.getElem?_set_ne (by omega)]; exact BR.nb, by rw [hT, List.getElem?_set_ne (by omega)]; exact BR.tb, hn⟩
  have l3 := l3_all (U := T) BT g2 (s := s0) (a := some (.loc 0)) (b := some (.loc 1)) (e := some (worldP C D2 F2)) (h := some (.int which)) (n := some (.loc 8))
  have t8 : (stW T C D2 F2)[8]? = some (.lst (L3.map PV.str)) := by
    rw [stW_ne (by omega) (by omega) (by omega), hT]
    exact List.getElem?_set_self (by omega)
  have lL := ev_lenL t8
  rw [List.length_map] at lL
  have p52 := pick_spec (S := stW T C D2 F2) (k := 1) (a := 52) BT.w1 hn (show (0 : Int) < 2 by omega)
  generalize pick ns 52 2 = y52 at p52
  have h12 : ∃ s, nameB s = true ∧ t_12 [some (.loc 0), some (.loc 1), some (.loc 5), none, none, some (worldP C D2 F2), some (worldP C D2 F2), some (.int which), some (.loc 8), some (.str s0), none, none, none, none, none] (stW T C D2 F2) = t_13 [some (.loc 0), some (.loc 1), some (.loc 5), none, none, some (worldP C D2 F2), some (worldP C D2 F2), some (.int which), some (.loc 8), some (.str s), none, none, none, none, none] (stW T C D2 F2) := by
    generalize worldP C D2 F2 = wd
    by_cases c1 : 0 < L3.length
    · by_cases c2 : y52 = 0
      · have c3 : (0 : Int) < (L3.length : Int) := by omega
        have p53 := pick_spec (S := stW T C D2 F2) (k := 1) (a := 53) BT.w1 hn c3
        have b53 := pick_lt ns 53 c3
        generalize pick ns 53 (L3.length : Int) = y53 at p53 b53
        obtain ⟨v, hv, e⟩ := atI_mem (l := L3.map PV.str) b53.1 (by rw [List.length_map]; exact b53.2)
        obtain ⟨s, hs, rfl⟩ := List.mem_map.mp hv
        have ix := ev_ixL t8 e
        refine ⟨s, nL s (i3 s hs), ?_⟩
        simp [t_12, lL, c1, p52, c2, p53, ix]
      · refine ⟨s0, nn1, ?_⟩
        simp [t_12, lL, c1, p52, c2]
    · refine ⟨s0, nn1, ?_⟩
      simp [t_12, lL, c1]
  obtain ⟨s, hs, e12⟩ := h12
  obtain ⟨C', D', F', X, u, v, g3, e13⟩ := set_ok BT g2 (by omega) hw hs (n := some (.loc 8))
  obtain ⟨V, e17⟩ := end_ok (BT.app [X]) g2 g3 (by omega) hw (n := some (.loc 8)) (o := some (.str s)) (p := u) (q := v)
  refine law_ret (S' := V) ?_
  have f2 : b_law ([PV.loc 0].map some ++ List.replicate (15 - 1) none) [.fz (ns0.map PV.int)] = t_2 [some (.loc 0), some (.loc 1), some (.loc 5), none, none, none, none, none, none, none, none, none, none, none, none] A := by
    have d0 : dLst (dCons dNewD (dCons dNewD (dCons dNewD dNil))) [some (.loc 0), some (.loc 1), none, none, none, none, none, none, none, none, none, none, none, none, none] [.fz (ns0.map PV.int), .lst (intsP ns)] = some (.ok (.loc 5) A) := by rw [hA]; rfl
    simp only [b_law, t_0, List.map_cons, List.map_nil, List.replicate, Nat.reduceSub, List.cons_append, List.nil_append, ev_seq, ev_set, ev_opA, ev_cons, ev_var, ev_c, List.getElem?_cons_zero, List.getElem?_cons_succ, ev_bR_ok, ev_nil, e0, ev_bS_ok, ev_bN_next, List.set_cons_succ, List.set_cons_zero]
    unfold t_1
    rw [ev_seq, ev_set, d0]
    simp only [ev_bS_ok, ev_bN_next, List.set_cons_succ, List.set_cons_zero]
  refine f2.trans ?_
  have en1 : dEnumI (dCons (dOpA F__law_names (dCons (dVar 1) (dCons (dC (.int 1)) dNil))) dNil) [some (.loc 0), some (.loc 1), some (.loc 5), none, none, none, none, none, none, none, none, none, none, none, none] A = some (.ok ⟨enumP 0 (L1.map PV.str), [(6, .lst (L1.map PV.str))]⟩ P) := by
    unfold dEnumI
    simp only [ev_cons, ev_opA, ev_var, List.getElem?_cons_zero, List.getElem?_cons_succ, ev_bR_ok, ev_c, ev_nil, n1, p6]
  have en2 : dEnumI (dCons (dOpA F__law_names (dCons (dVar 1) (dCons (dC (.int 31)) dNil))) dNil) [some (.loc 0), some (.loc 1), some (.loc 5), none, none, none, none, none, none, none, none, none, none, none, none] (stW P C D1 []) = some (.ok ⟨enumP 0 (L2.map PV.str), [(7, .lst (L2.map PV.str))]⟩ (stW Q C D1 [])) := by
    have q7' : (stW Q C D1 [])[7]? = some (.lst (L2.map PV.str)) := by rw [stW_ne (by omega) (by omega) (by omega)]; exact q7
    rw [hZ] at n2
    unfold dEnumI
    simp only [ev_cons, ev_opA, ev_var, List.getElem?_cons_zero, List.getElem?_cons_succ, ev_bR_ok, ev_c, ev_nil, n2, q7']
  unfold t_2
  rw [ev_seq, ev_for, en1]
  simp only [ev_bS_ok, ev_killC, ev_killN, List.set_cons_succ, List.set_cons_zero]
  rw [lp1, ev_bN_next]
  unfold t_3
  rw [ev_seq, ev_for, en2]
  simp only [ev_bS_ok, ev_killC, ev_killN, List.set_cons_succ, List.set_cons_zero]
  rw [lp2, ev_bN_next]
  simp only [t_4, t_5, ev_seq, ev_set, ev_opA, ev_cons, ev_var, List.getElem?_cons_zero, List.getElem?_cons_succ, ev_bR_ok, ev_nil, du, ev_bS_ok, ev_bN_next, List.set_cons_succ, List.set_cons_zero, ev_op2, ev_c, BQ.t0, BQ.t1, BQ.t2, mw]
  simp only [t_6, ev_seq, ev_ifS, ev_orT, ev_cmp, ev_var, List.getElem?_cons_zero, List.getElem?_cons_succ, ev_bR_ok, nw, ev_asB, Bool.false_eq_true, if_false, ev_opA, ev_cons, ev_nil, du, iw, ev_c, ev_isBB, decide_true, Bool.not_true, if_true, ev_bS_ok, ev_pass, ev_bN_next]
  simp only [t_7, ev_seq, ev_set, ev_opA, ev_cons, ev_var, List.getElem?_cons_zero, List.getElem?_cons_succ, ev_bR_ok, ev_c, ev_nil, p50, ev_bS_ok, ev_bN_next, List.set_cons_succ, List.set_cons_zero]
  unfold t_8
  rw [ev_seq, ev_set, eL _ rfl rfl]
  simp only [ev_bS_ok, ev_bN_next, List.set_cons_succ, List.set_cons_zero]
  simp only [t_9, ev_seq, ev_set, ev_op2, ev_c, ev_bR_ok, ev_opA, ev_cons, ev_var, List.getElem?_cons_zero, List.getElem?_cons_succ, ev_nil, p51, my, ax, a9, ev_bS_ok, ev_bN_next, List.set_cons_succ, List.set_cons_zero]
  rw [e10]
  simp only [t_11, ev_seq, ev_for, ev_rng1, ev_cons, ev_c, ev_bR_ok, ev_nil, rg3, ev_bS_ok, ev_killC, ev_killN, List.set_cons_succ, List.set_cons_zero, l3, ev_bN_next]
  rw [e12, e13, e17]
end Lk05
open PySem PySem.W PyProof.Rows in
set_option maxHeartbeats 0 in
theorem PySem.Challenge.cw_diesnon_k05_worlds_made_and_changed_holds : PySem.Challenge.rw_diesnon_k05_worlds_made_and_changed.Holds := by
  w_on; o_law; k_head; (case hw => w_witness2)
  k_fill
  refine D.law_walk (l := PySem.Challenge.rw_diesnon_k05_worlds_made_and_changed) (k := 6) (x := "_law_script") (F := Lk05.F_law) Lk05.law_d rfl rfl ⟨rfl, by decide, by decide⟩ (fun w h Y => PySem.W.kIn_of Y) ?F
  case F =>
    intro w mg fa h KX G hmg
    refine' Lk05.all_mk KX G hmg ?a__law_pick ?l__law_pick ?c__law_pick ?k__law_pick ?a__law_closed ?l__law_closed ?c__law_closed ?k__law_closed ?a__law_due ?l__law_due ?c__law_due ?k__law_due ?a__found ?l__found ?c__found ?k__found ?a_calendar_of ?l_calendar_of ?c_calendar_of ?k_calendar_of ?a_day_of ?l_day_of ?c_day_of ?k_day_of ?a_flag_of ?l_flag_of ?c_flag_of ?k_flag_of ?a__law_missing ?l__law_missing ?c__law_missing ?k__law_missing ?a__law_words ?l__law_words ?c__law_words ?k__law_words ?a__law_word ?l__law_word ?c__law_word ?k__law_word ?a__law_names ?l__law_names ?c__law_names ?k__law_names ?a__law_read ?l__law_read ?c__law_read ?k__law_read ?a_is_name ?l_is_name ?c_is_name ?k_is_name ?a__check_names ?l__check_names ?c__check_names ?k__check_names ?a_is_closed_days ?l_is_closed_days ?c_is_closed_days ?k_is_closed_days ?a_make_world ?l_make_world ?c_make_world ?k_make_world ?a__law_refused ?l__law_refused ?c__law_refused ?k__law_refused ?a__changed ?l__changed ?c__changed ?k__changed ?a_set_calendar ?l_set_calendar ?c_set_calendar ?k_set_calendar ?a_set_day ?l_set_day ?c_set_day ?k_set_day ?a_set_flag ?l_set_flag ?c_set_flag ?k_set_flag ?a__law_set ?l__law_set ?c__law_set ?k__law_set ?a__names_rise ?l__names_rise ?c__names_rise ?k__names_rise ?a_is_world ?l_is_world ?c_is_world ?k_is_world ?a__law_spoilt ?l__law_spoilt ?c__law_spoilt ?k__law_spoilt ?a__law_stream ?l__law_stream ?c__law_stream ?k__law_stream ?a__law_unset ?l__law_unset ?c__law_unset ?k__law_unset ?a_law ?l_law ?c_law ?k_law ?xa_DiesError ?xk_DiesError ?xb_DiesError ?xt_DiesError ?xd_DiesError ?xe_DiesError ?y1_DiesError ?y2_DiesError ?y3_DiesError ?y4_DiesError ?xa_NotAllowed ?xk_NotAllowed ?xb_NotAllowed ?xt_NotAllowed ?xd_NotAllowed ?xe_NotAllowed ?y1_NotAllowed ?y2_NotAllowed ?y3_NotAllowed ?y4_NotAllowed ?xa_TooLarge ?xk_TooLarge ?xb_TooLarge ?xt_TooLarge ?xd_TooLarge ?xe_TooLarge ?y1_TooLarge ?y2_TooLarge ?y3_TooLarge ?y4_TooLarge ?xa_Never ?xk_Never ?xb_Never ?xt_Never ?xd_Never ?xe_Never ?y1_Never ?y2_Never ?y3_Never ?y4_Never ?xa_Missing ?xk_Missing ?xb_Missing ?xt_Missing ?xd_Missing ?y1_Missing ?y2_Missing ?y3_Missing ?y4_Missing ?nf_Missing ?xL_Missing ?xsa_Missing ?xI_Missing ?xT_Missing ?li_Missing ?ci_Missing ?ki_Missing ?z1 ?z2 ?u_DiesError_DiesError ?u_DiesError_Missing ?u_DiesError_Never ?u_DiesError_NotAllowed ?u_DiesError_TooLarge ?u_Missing_DiesError ?u_Missing_Missing ?u_Missing_Never ?u_Missing_NotAllowed ?u_Missing_TooLarge ?u_Never_DiesError ?u_Never_Missing ?u_Never_Never ?u_Never_NotAllowed ?u_Never_TooLarge ?u_NotAllowed_DiesError ?u_NotAllowed_Missing ?u_NotAllowed_Never ?u_NotAllowed_NotAllowed ?u_NotAllowed_TooLarge ?u_TooLarge_DiesError ?u_TooLarge_Missing ?u_TooLarge_Never ?u_TooLarge_NotAllowed ?u_TooLarge_TooLarge ?g_MAX_NAME ?g_REST ?g_SMALL ?g_WORDS ?gl_WORDS ?g_all ?g_bool ?g_dict ?g_enumerate ?g_int ?g_isinstance ?g_len ?g_list ?g_range ?g_sorted ?g_tuple
    (case a__law_pick => k_is)
    (case l__law_pick => k_is)
    (case c__law_pick => k_is)
    (case k__law_pick => k_is)
    (case a__law_closed => k_is)
    (case l__law_closed => k_is)
    (case c__law_closed => k_is)
    (case k__law_closed => k_is)
    (case a__law_due => k_is)
    (case l__law_due => k_is)
    (case c__law_due => k_is)
    (case k__law_due => k_is)
    (case a__found => k_is)
    (case l__found => k_is)
    (case c__found => k_is)
    (case k__found => k_is)
    (case a_calendar_of => k_is)
    (case l_calendar_of => k_is)
    (case c_calendar_of => k_is)
    (case k_calendar_of => k_is)
    (case a_day_of => k_is)
    (case l_day_of => k_is)
    (case c_day_of => k_is)
    (case k_day_of => k_is)
    (case a_flag_of => k_is)
    (case l_flag_of => k_is)
    (case c_flag_of => k_is)
    (case k_flag_of => k_is)
    (case a__law_missing => k_is)
    (case l__law_missing => k_is)
    (case c__law_missing => k_is)
    (case k__law_missing => k_is)
    (case a__law_words => k_is)
    (case l__law_words => k_is)
    (case c__law_words => k_is)
    (case k__law_words => k_is)
    (case a__law_word => k_is)
    (case l__law_word => k_is)
    (case c__law_word => k_is)
    (case k__law_word => k_is)
    (case a__law_names => k_is)
    (case l__law_names => k_is)
    (case c__law_names => k_is)
    (case k__law_names => k_is)
    (case a__law_read => k_is)
    (case l__law_read => k_is)
    (case c__law_read => k_is)
    (case k__law_read => k_is)
    (case a_is_name => k_is)
    (case l_is_name => k_is)
    (case c_is_name => k_is)
    (case k_is_name => k_is)
    (case a__check_names => k_is)
    (case l__check_names => k_is)
    (case c__check_names => k_is)
    (case k__check_names => k_is)
    (case a_is_closed_days => k_is)
    (case l_is_closed_days => k_is)
    (case c_is_closed_days => k_is)
    (case k_is_closed_days => k_is)
    (case a_make_world => k_is)
    (case l_make_world => k_is)
    (case c_make_world => k_is)
    (case k_make_world => k_is)
    (case a__law_refused => k_is)
    (case l__law_refused => k_is)
    (case c__law_refused => k_is)
    (case k__law_refused => k_is)
    (case a__changed => k_is)
    (case l__changed => k_is)
    (case c__changed => k_is)
    (case k__changed => k_is)
    (case a_set_calendar => k_is)
    (case l_set_calendar => k_is)
    (case c_set_calendar => k_is)
    (case k_set_calendar => k_is)
    (case a_set_day => k_is)
    (case l_set_day => k_is)
    (case c_set_day => k_is)
    (case k_set_day => k_is)
    (case a_set_flag => k_is)
    (case l_set_flag => k_is)
    (case c_set_flag => k_is)
    (case k_set_flag => k_is)
    (case a__law_set => k_is)
    (case l__law_set => k_is)
    (case c__law_set => k_is)
    (case k__law_set => k_is)
    (case a__names_rise => k_is)
    (case l__names_rise => k_is)
    (case c__names_rise => k_is)
    (case k__names_rise => k_is)
    (case a_is_world => k_is)
    (case l_is_world => k_is)
    (case c_is_world => k_is)
    (case k_is_world => k_is)
    (case a__law_spoilt => k_is)
    (case l__law_spoilt => k_is)
    (case c__law_spoilt => k_is)
    (case k__law_spoilt => k_is)
    (case a__law_stream => k_is)
    (case l__law_stream => k_is)
    (case c__law_stream => k_is)
    (case k__law_stream => k_is)
    (case a__law_unset => k_is)
    (case l__law_unset => k_is)
    (case c__law_unset => k_is)
    (case k__law_unset => k_is)
    (case a_law => k_is)
    (case l_law => k_is)
    (case c_law => k_is)
    (case k_law => k_is)
    (case xa_DiesError => k_is)
    (case xk_DiesError => k_is)
    (case xb_DiesError => k_is)
    (case xt_DiesError => k_is)
    (case xd_DiesError => k_is)
    (case xe_DiesError => k_exc)
    (case y1_DiesError => k_is)
    (case y2_DiesError => k_is)
    (case y3_DiesError => k_is)
    (case y4_DiesError => k_is)
    (case xa_NotAllowed => k_is)
    (case xk_NotAllowed => k_is)
    (case xb_NotAllowed => k_is)
    (case xt_NotAllowed => k_is)
    (case xd_NotAllowed => k_is)
    (case xe_NotAllowed => k_exc)
    (case y1_NotAllowed => k_is)
    (case y2_NotAllowed => k_is)
    (case y3_NotAllowed => k_is)
    (case y4_NotAllowed => k_is)
    (case xa_TooLarge => k_is)
    (case xk_TooLarge => k_is)
    (case xb_TooLarge => k_is)
    (case xt_TooLarge => k_is)
    (case xd_TooLarge => k_is)
    (case xe_TooLarge => k_exc)
    (case y1_TooLarge => k_is)
    (case y2_TooLarge => k_is)
    (case y3_TooLarge => k_is)
    (case y4_TooLarge => k_is)
    (case xa_Never => k_is)
    (case xk_Never => k_is)
    (case xb_Never => k_is)
    (case xt_Never => k_is)
    (case xd_Never => k_is)
    (case xe_Never => k_exc)
    (case y1_Never => k_is)
    (case y2_Never => k_is)
    (case y3_Never => k_is)
    (case y4_Never => k_is)
    (case xa_Missing => k_is)
    (case xk_Missing => k_is)
    (case xb_Missing => k_is)
    (case xt_Missing => k_is)
    (case xd_Missing => k_is)
    (case y1_Missing => k_is)
    (case y2_Missing => k_is)
    (case y3_Missing => k_is)
    (case y4_Missing => k_is)
    (case nf_Missing => k_is)
    (case xL_Missing => k_is)
    (case xsa_Missing => k_is)
    (case xI_Missing => k_is)
    (case xT_Missing => k_is)
    (case li_Missing => k_is)
    (case ci_Missing => k_is)
    (case ki_Missing => k_is)
    (case z1 => k_is)
    (case z2 => k_is)
    (case u_DiesError_DiesError => k_is)
    (case u_DiesError_Missing => k_is)
    (case u_DiesError_Never => k_is)
    (case u_DiesError_NotAllowed => k_is)
    (case u_DiesError_TooLarge => k_is)
    (case u_Missing_DiesError => k_is)
    (case u_Missing_Missing => k_is)
    (case u_Missing_Never => k_is)
    (case u_Missing_NotAllowed => k_is)
    (case u_Missing_TooLarge => k_is)
    (case u_Never_DiesError => k_is)
    (case u_Never_Missing => k_is)
    (case u_Never_Never => k_is)
    (case u_Never_NotAllowed => k_is)
    (case u_Never_TooLarge => k_is)
    (case u_NotAllowed_DiesError => k_is)
    (case u_NotAllowed_Missing => k_is)
    (case u_NotAllowed_Never => k_is)
    (case u_NotAllowed_NotAllowed => k_is)
    (case u_NotAllowed_TooLarge => k_is)
    (case u_TooLarge_DiesError => k_is)
    (case u_TooLarge_Missing => k_is)
    (case u_TooLarge_Never => k_is)
    (case u_TooLarge_NotAllowed => k_is)
    (case u_TooLarge_TooLarge => k_is)
    (case g_MAX_NAME => k_is)
    (case g_REST => k_is)
    (case g_SMALL => k_is)
    (case g_WORDS => k_is)
    (case gl_WORDS => k_is)
    (case g_all => k_is)
    (case g_bool => k_is)
    (case g_dict => k_is)
    (case g_enumerate => k_is)
    (case g_int => k_is)
    (case g_isinstance => k_is)
    (case g_len => k_is)
    (case g_list => k_is)
    (case g_range => k_is)
    (case g_sorted => k_is)
    (case g_tuple => k_is)
#print axioms PySem.Challenge.cw_diesnon_k05_worlds_made_and_changed_holds
