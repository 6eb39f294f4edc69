import PyProof.Rows.All
import Wide.All
import OpenK.AllK
import Wide.FinOn
import HandS.ForMost
import HandS.ForExc
import HandS.Walk
import HandS.CallSlots
import HandS.Style
import HandS.Wide
import HandS.TupAny
import KE.DataEq
import HandS.IsInst
import KE.SortData
import HandS.Zip
import HandS.Rev
import HandS.TupLen
import PyProof.LongRange
import HandS.ExcIs
import HandS.TryMany
import HandS.TryOnly
import HandS.ExcOwn
import HandS.ExcField
import HandS.SortKw
import KE.GoesMore
import KE.DataMinMax
import HandS.More
import HandS.Dict
import HandS.Small
import HandS.Call
import HandS.Conv
import KE.KExcIs
import HandS.ExcInit
import HandS.List
import KE.KRevSl
import HandS.Iter
import HandS.Text
import HandS.SetFor
import KE.DataFind
import HandS.Steps
import HandS.Deep
import HandS.Replace
import HandS.TupMul
import PyProof.StrOps2
import KE.SortCalls
import PySem.Challenge.RW_diesnon_k56_sets_that_meet_sets
set_option Elab.async false
set_option linter.all false
set_option maxRecDepth 100000
set_option maxHeartbeats 4000000
set_option autoImplicit false
/-! D0: values by value, a store, what stands for them in the abstract heap. -/
namespace D
open PySem L2

inductive PV where
  | non | bl (b : Bool) | int (i : Int) | str (s : Str) | tup (l : List PV) | loc (n : Nat) | ty (n : String) | xc (a : Addr) (d : Option Addr) (fv : List (Str × V))
  deriving Inhabited
inductive PO where
  | lst (l : List PV) | fz (l : List PV) | dct (t : Bool) (l : List (PV × PV)) | fd (l : List (PV × PV)) | ins (c : Str) (fs : List (Str × PV))
  deriving Inhabited
abbrev Sto := List PO
abbrev En := List (Option PV)
structure Xn where
  c : Str
  fs : List (Str × PV)
inductive R (α : Type) where
  | ok (v : α) (S : Sto) | exc (e : Xn) (S : Sto)
abbrev RE := R PV
abbrev RA := R (List PV)
abbrev RB := R Bool
def bR {α β : Type} (r : Option (R α)) (k : α → Sto → Option (R β)) : Option (R β) :=
  match r with
  | some (.ok v S) => k v S
  | some (.exc e S) => some (.exc e S)
  | none => none
inductive RS where
  | next (ρ : En) (S : Sto) | ret (v : PV) (S : Sto) | brk (ρ : En) (S : Sto) | ctn (ρ : En) (S : Sto) | exc (e : Xn) (ρ : En) (S : Sto)
abbrev DE := En → Sto → Option RE
abbrev DA := En → Sto → Option RA
abbrev DB := En → Sto → Option RB
abbrev DS := En → Sto → Option RS
abbrev DF := List PV → Sto → Option RE

/-! ### what stands for what -/
section
variable (K : PySem.W.Frag) (H : Hp) (m : Nat → Addr) (n : Nat)
mutual
inductive Rp : PV → V → Prop
  | non : Rp .non .non
  | bl (b : Bool) : Rp (.bl b) (.bl b)
  | int (i : Int) : Rp (.int i) (.int i)
  | str (s : Str) : Rp (.str s) (.str s)
  | ty (s : String) : Rp (.ty s) (.ty s)
  | tup {l : List PV} {a : Addr} {xs : List V} : SqT K H a xs → RpL l xs → Rp (.tup l) (.ref a)
  | loc {k : Nat} : k < n → Rp (.loc k) (.ref (m k))
  | xc {a : Addr} {d : Option Addr} {fv : List (Str × V)} : (∀ dd, d = some dd → H dd = some (.xd fv)) → Rp (.xc a d fv) (.ref a)
inductive RpL : List PV → List V → Prop
  | nil : RpL [] []
  | cons {d : PV} {v : V} {ds : List PV} {vs : List V} : Rp d v → RpL ds vs → RpL (d :: ds) (v :: vs)
end
end

def FzL (K : PySem.W.Frag) (H : Hp) (a : Addr) (xs : List V) : Prop :=
  (∃ o, H a = some (.frz o (.lst xs))) ∨
    ∃ (o : Obj) (its : Array Value) (n : Nat), K.lookup a = some o ∧ o.cls = .type "list" ∧ o.dict = none ∧ o.data = .seq its n ∧ its.size ≤ sizeLine ∧ Vals xs its.toList
theorem FzL.sq {K : PySem.W.Frag} {H : Hp} {a : Addr} {xs : List V} (h : FzL K H a xs) : SqL K H a xs := by
  rcases h with ⟨o, h⟩ | h
  · exact .inl (.inr ⟨o, h⟩)
  · exact .inr h

def kP : PV → Option Key
  | .int i => some (.inl i)
  | .str s => some (.inr s)
  | _ => none
def kPs : List PV → Option (List Key)
  | [] => some []
  | d :: ds => match kP d, kPs ds with
    | some k, some ks => some (k :: ks)
    | _, _ => none
def kT : PV → Option (List Key)
  | .tup l => kPs l
  | _ => none

section
variable (K : PySem.W.Frag) (mg : Str → Option Value) (H : Hp) (m : Nat → Addr) (n : Nat)
def RpK : List (PV × PV) → List (Key × V) → Prop := Paired fun p q => kP p.1 = some q.1 ∧ Rp K H m n p.2 q.2
def RpT : List (PV × PV) → List (List Key × V) → Prop := Paired fun p q => kT p.1 = some q.1 ∧ Rp K H m n p.2 q.2
def RpF : List (Str × PV) → List (Str × V) → Prop := Paired fun p q => p.1 = q.1 ∧ Rp K H m n p.2 q.2
def Ro : PO → Addr → Prop
  | .lst l, a => ∃ xs, H a = some (.lst xs) ∧ RpL K H m n l xs
  | .fz l, a => ∃ xs, FzL K H a xs ∧ RpL K H m n l xs
  | .dct t kvs, a => (t = false ∧ ∃ kv, H a = some (.dK kv) ∧ RpK K H m n kvs kv) ∨ (t = true ∧ ∃ kv, H a = some (.dT kv) ∧ RpT K H m n kvs kv)
  | .fd kvs, a => ∃ o kv, H a = some (.frz o (.dK kv)) ∧ RpK K H m n kvs kv
  | .ins c fs, a => ∃ C dx fv, H a = some (.ins C dx fv) ∧ mg c = some (.ref C) ∧ RpF K H m n fs fv
end
/-- has a place of its own -/
def isMut : PO → Bool
  | .fz _ => false
  | _ => true
/-- can be written -/
def isW : PO → Bool
  | .fz _ => false
  | .fd _ => false
  | _ => true
theorem isW.mut : ∀ {o : PO}, isW o = true → isMut o = true
  | .lst _, _ => rfl
  | .dct _ _, _ => rfl
  | .ins _ _, _ => rfl

structure StS (K : PySem.W.Frag) (mg : Str → Option Value) (m : Nat → Addr) (S : Sto) (H : Hp) : Prop where
  obj : ∀ (k : Nat) (o : PO), S[k]? = some o → Ro K mg H m S.length o (m k)
  inj : ∀ (j k : Nat) (oj ok : PO), S[j]? = some oj → S[k]? = some ok → isMut oj = true → isMut ok = true → m j = m k → j = k

structure EnR (K : PySem.W.Frag) (H : Hp) (m : Nat → Addr) (n : Nat) (ρ : En) (σ : L2.St) : Prop where
  len : ρ.length = σ.length
  at_ : ∀ (i : Nat) (v : PV), ρ[i]? = some (some v) → ∃ x, σ[i]? = some (some x) ∧ Rp K H m n v x

structure Ext0 (K : PySem.W.Frag) (n : Nat) (m : Nat → Addr) (H : Hp) (m' : Nat → Addr) (H' : Hp) : Prop where
  mp : ∀ k, k < n → m' k = m k
  tp : ∀ a xs, SqT K H a xs → SqT K H' a xs
  xd : ∀ d fv, H d = some (.xd fv) → H' d = some (.xd fv)
structure Ext (K : PySem.W.Frag) (n : Nat) (m : Nat → Addr) (H : Hp) (m' : Nat → Addr) (H' : Hp) : Prop extends Ext0 K n m H m' H' where
  fz : ∀ a o u, H a = some (.frz o u) → H' a = some (.frz o u)

section
variable {K : PySem.W.Frag} {mg : Str → Option Value} {H H' H'' : Hp} {m m' m'' : Nat → Addr} {n n' : Nat}
theorem Ext.refl : Ext K n m H m H := ⟨⟨fun _ _ => rfl, fun _ _ h => h, fun _ _ h => h⟩, fun _ _ _ h => h⟩
theorem Ext.trans (a : Ext K n m H m' H') (b : Ext K n' m' H' m'' H'') (h : n ≤ n') : Ext K n m H m'' H'' :=
  ⟨⟨fun k hk => (b.mp k (Nat.lt_of_lt_of_le hk h)).trans (a.mp k hk), fun _ _ q => b.tp _ _ (a.tp _ _ q), fun _ _ q => b.xd _ _ (a.xd _ _ q)⟩, fun _ _ _ q => b.fz _ _ _ (a.fz _ _ _ q)⟩
theorem Ext.less (a : Ext K n' m H m' H') (h : n ≤ n') : Ext K n m H m' H' := ⟨⟨fun k hk => a.mp k (Nat.lt_of_lt_of_le hk h), a.tp, a.xd⟩, a.fz⟩

mutual
theorem Rp.mono0 (e : Ext0 K n m H m' H') (hn : n ≤ n') : ∀ {d : PV} {v : V}, Rp K H m n d v → Rp K H' m' n' d v
  | _, _, .non => .non
  | _, _, .bl b => .bl b
  | _, _, .int i => .int i
  | _, _, .str s => .str s
  | _, _, .ty s => .ty s
  | _, _, .tup h r => .tup (e.tp _ _ h) (RpL.mono0 e hn r)
  | _, _, .loc h => by
    rw [← e.mp _ h]
    exact .loc (Nat.lt_of_lt_of_le h hn)
  | _, _, .xc h => .xc fun dd q => e.xd _ _ (h dd q)
theorem RpL.mono0 (e : Ext0 K n m H m' H') (hn : n ≤ n') : ∀ {d : List PV} {v : List V}, RpL K H m n d v → RpL K H' m' n' d v
  | _, _, .nil => .nil
  | _, _, .cons h r => .cons (Rp.mono0 e hn h) (RpL.mono0 e hn r)
end
theorem Rp.mono (e : Ext K n m H m' H') (hn : n ≤ n') {d : PV} {v : V} (h : Rp K H m n d v) : Rp K H' m' n' d v := h.mono0 e.toExt0 hn
theorem RpL.mono (e : Ext K n m H m' H') (hn : n ≤ n') {d : List PV} {v : List V} (h : RpL K H m n d v) : RpL K H' m' n' d v := h.mono0 e.toExt0 hn
theorem paired_imp {α β : Type} {F G : α → β → Prop} (f : ∀ a b, F a b → G a b) : ∀ {l₁ : List α} {l₂ : List β}, Paired F l₁ l₂ → Paired G l₁ l₂
  | _, _, .nil => .nil
  | _, _, .cons r t => .cons (f _ _ r) (paired_imp f t)
theorem RpK.mono0 (e : Ext0 K n m H m' H') (hn : n ≤ n') {d : List (PV × PV)} {v : List (Key × V)} (h : RpK K H m n d v) : RpK K H' m' n' d v := paired_imp (fun _ _ q => ⟨q.1, q.2.mono0 e hn⟩) h
theorem RpT.mono0 (e : Ext0 K n m H m' H') (hn : n ≤ n') {d : List (PV × PV)} {v : List (List Key × V)} (h : RpT K H m n d v) : RpT K H' m' n' d v := paired_imp (fun _ _ q => ⟨q.1, q.2.mono0 e hn⟩) h
theorem RpF.mono0 (e : Ext0 K n m H m' H') (hn : n ≤ n') {d : List (Str × PV)} {v : List (Str × V)} (h : RpF K H m n d v) : RpF K H' m' n' d v := paired_imp (fun _ _ q => ⟨q.1, q.2.mono0 e hn⟩) h
theorem EnR.mono0 (e : Ext0 K n m H m' H') (hn : n ≤ n') {ρ : En} {σ : L2.St} (h : EnR K H m n ρ σ) : EnR K H' m' n' ρ σ :=
  ⟨h.len, fun i v q => let ⟨x, a, b⟩ := h.at_ i v q; ⟨x, a, b.mono0 e hn⟩⟩
theorem RpK.mono (e : Ext K n m H m' H') (hn : n ≤ n') {d : List (PV × PV)} {v : List (Key × V)} (h : RpK K H m n d v) : RpK K H' m' n' d v := paired_imp (fun _ _ q => ⟨q.1, q.2.mono e hn⟩) h
theorem RpT.mono (e : Ext K n m H m' H') (hn : n ≤ n') {d : List (PV × PV)} {v : List (List Key × V)} (h : RpT K H m n d v) : RpT K H' m' n' d v := paired_imp (fun _ _ q => ⟨q.1, q.2.mono e hn⟩) h
theorem RpF.mono (e : Ext K n m H m' H') (hn : n ≤ n') {d : List (Str × PV)} {v : List (Str × V)} (h : RpF K H m n d v) : RpF K H' m' n' d v := paired_imp (fun _ _ q => ⟨q.1, q.2.mono e hn⟩) h
theorem EnR.mono (e : Ext K n m H m' H') (hn : n ≤ n') {ρ : En} {σ : L2.St} (h : EnR K H m n ρ σ) : EnR K H' m' n' ρ σ :=
  ⟨h.len, fun i v q => let ⟨x, a, b⟩ := h.at_ i v q; ⟨x, a, b.mono e hn⟩⟩

/-! ### lists of values -/
theorem RpL.length : ∀ {l : List PV} {xs : List V}, RpL K H m n l xs → l.length = xs.length
  | _, _, .nil => rfl
  | _, _, .cons _ r => by rw [List.length_cons, List.length_cons, RpL.length r]
theorem RpL.append : ∀ {l l' : List PV} {xs ys : List V}, RpL K H m n l xs → RpL K H m n l' ys → RpL K H m n (l ++ l') (xs ++ ys)
  | _, _, _, _, .nil, s => s
  | _, _, _, _, .cons a r, s => .cons a (RpL.append r s)
theorem RpL.get : ∀ {l : List PV} {xs : List V} {i : Nat} {d : PV}, RpL K H m n l xs → l[i]? = some d → ∃ x, xs[i]? = some x ∧ Rp K H m n d x
  | _, _, _, _, .nil, e => by simp at e
  | _, _, 0, _, .cons a _, e => by
    simp at e; subst e; exact ⟨_, rfl, a⟩
  | _, _, i + 1, _, .cons _ r, e => by
    obtain ⟨x, h1, h2⟩ := RpL.get (i := i) r (by simpa using e)
    exact ⟨x, by simpa using h1, h2⟩
theorem RpL.drop : ∀ {l : List PV} {xs : List V} (i : Nat), RpL K H m n l xs → RpL K H m n (l.drop i) (xs.drop i)
  | _, _, 0, r => r
  | _, _, _ + 1, .nil => .nil
  | _, _, i + 1, .cons _ r => RpL.drop i r
theorem RpL.take : ∀ {l : List PV} {xs : List V} (i : Nat), RpL K H m n l xs → RpL K H m n (l.take i) (xs.take i)
  | _, _, 0, _ => .nil
  | _, _, _ + 1, .nil => .nil
  | _, _, i + 1, .cons a r => .cons a (RpL.take i r)
theorem RpL.set {d : PV} {x : V} (a : Rp K H m n d x) : ∀ {l : List PV} {xs : List V} (i : Nat), RpL K H m n l xs → RpL K H m n (l.set i d) (xs.set i x)
  | _, _, _, .nil => .nil
  | _, _, 0, .cons _ r => .cons a r
  | _, _, i + 1, .cons b r => .cons b (RpL.set a i r)
theorem RpL.eraseIdx : ∀ {l : List PV} {xs : List V} (i : Nat), RpL K H m n l xs → RpL K H m n (l.eraseIdx i) (xs.eraseIdx i)
  | _, _, _, .nil => .nil
  | _, _, 0, .cons _ r => r
  | _, _, i + 1, .cons b r => .cons b (RpL.eraseIdx i r)
theorem RpL.reverse : ∀ {l : List PV} {xs : List V}, RpL K H m n l xs → RpL K H m n l.reverse xs.reverse
  | _, _, .nil => .nil
  | _, _, .cons b r => by
    rw [List.reverse_cons, List.reverse_cons]
    exact RpL.append (RpL.reverse r) (.cons b .nil)
theorem RpL.dropLast {l : List PV} {xs : List V} (r : RpL K H m n l xs) : RpL K H m n l.dropLast xs.dropLast := by
  rw [List.dropLast_eq_take, List.dropLast_eq_take, r.length]
  exact r.take _
theorem RpL.flat_rep {l : List PV} {xs : List V} (r : RpL K H m n l xs) : ∀ k : Nat, RpL K H m n (List.replicate k l).flatten (List.replicate k xs).flatten
  | 0 => .nil
  | k + 1 => by
    rw [List.replicate_succ, List.replicate_succ, List.flatten_cons, List.flatten_cons]
    exact r.append (flat_rep r k)
theorem RpL.one {d : PV} {x : V} (h : Rp K H m n d x) : RpL K H m n [d] [x] := .cons h .nil
theorem RpL.ints : ∀ {ns : List Int} {xs : List V}, RpL K H m n (ns.map PV.int) xs → xs = ns.map V.int
  | [], _, .nil => rfl
  | _ :: _, _, .cons (.int _) r => by rw [List.map_cons, RpL.ints r]
theorem RpL.of_ints : ∀ {ns : List Int}, RpL K H m n (ns.map PV.int) (ns.map V.int)
  | [] => .nil
  | i :: _ => .cons (.int i) RpL.of_ints
theorem RpL.bls : ∀ {ns : List Bool} {xs : List V}, RpL K H m n (ns.map PV.bl) xs → xs = ns.map V.bl
  | [], _, .nil => rfl
  | _ :: _, _, .cons (.bl _) r => by rw [List.map_cons, RpL.bls r]
theorem RpL.strs : ∀ {ns : List Str} {xs : List V}, RpL K H m n (ns.map PV.str) xs → xs = ns.map V.str
  | [], _, .nil => rfl
  | _ :: _, _, .cons (.str _) r => by rw [List.map_cons, RpL.strs r]

/-! ### heaps -/
theorem sqT_upd {p a : Addr} {o : HO} {xs : List V} (hp : H p = none ∨ Mut (H p)) (h : SqT K H a xs) : SqT K (upd H p o) a xs := by
  have ne : ∀ u, H a = some u → ¬ Mut (some u) → a ≠ p := by
    intro u e nm q
    subst q
    rcases hp with hp | hp
    · rw [hp] at e; cases e
    · rw [e] at hp; exact nm hp
  rcases h with (h | ⟨ob, h⟩) | h
  · exact .inl (.inl (by rw [upd_ne (ne _ h (fun z => z))]; exact h))
  · exact .inl (.inr ⟨ob, by rw [upd_ne (ne _ h (fun z => z))]; exact h⟩)
  · exact .inr h
theorem fzL_upd {p a : Addr} {o : HO} {xs : List V} (hp : H p = none ∨ Mut (H p)) (h : FzL K H a xs) : FzL K (upd H p o) a xs := by
  rcases h with ⟨ob, h⟩ | h
  · have ne : a ≠ p := by
      intro q; subst q
      rcases hp with hp | hp
      · rw [hp] at h; cases h
      · rw [h] at hp; exact hp
    exact .inl ⟨ob, by rw [upd_ne ne]; exact h⟩
  · exact .inr h
theorem ext_upd {p : Addr} {o : HO} (hp : H p = none ∨ Mut (H p)) : Ext K n m H m (upd H p o) :=
  ⟨⟨fun _ _ => rfl, fun _ _ h => sqT_upd hp h, fun d fv h => by
    have ne : d ≠ p := by
      intro q; subst q
      rcases hp with hp | hp
      · rw [hp] at h; cases h
      · rw [h] at hp; exact hp
    rw [upd_ne ne]; exact h⟩, fun d o u h => by
    have ne : d ≠ p := by
      intro q; subst q
      rcases hp with hp | hp
      · rw [hp] at h; cases h
      · rw [h] at hp; exact hp
    rw [upd_ne ne]; exact h⟩

/-- an object elsewhere stays what it is -/
theorem Ro.upd {p a : Addr} {o : HO} {po : PO} (hp : H p = none ∨ Mut (H p)) (ha : isMut po = true → a ≠ p) (h : Ro K mg H m n po a) : Ro K mg (upd H p o) m n po a := by
  have e : Ext K n m H m (L2.upd H p o) := ext_upd hp
  cases po with
  | lst l =>
    obtain ⟨xs, h1, h2⟩ := h
    exact ⟨xs, by rw [upd_ne (ha rfl)]; exact h1, h2.mono e (Nat.le_refl _)⟩
  | fz l =>
    obtain ⟨xs, h1, h2⟩ := h
    exact ⟨xs, fzL_upd hp h1, h2.mono e (Nat.le_refl _)⟩
  | dct t l =>
    rcases h with ⟨ht, xs, h1, h2⟩ | ⟨ht, xs, h1, h2⟩
    · exact .inl ⟨ht, xs, by rw [upd_ne (ha rfl)]; exact h1, h2.mono e (Nat.le_refl _)⟩
    · exact .inr ⟨ht, xs, by rw [upd_ne (ha rfl)]; exact h1, h2.mono e (Nat.le_refl _)⟩
  | fd l =>
    obtain ⟨o, kv, h1, h2⟩ := h
    exact ⟨o, kv, by rw [upd_ne (ha rfl)]; exact h1, h2.mono e (Nat.le_refl _)⟩
  | ins c fs =>
    obtain ⟨C, dx, fv, h1, h2, h3⟩ := h
    exact ⟨C, dx, fv, by rw [upd_ne (ha rfl)]; exact h1, h2, h3.mono e (Nat.le_refl _)⟩
theorem Ro.mono (e : Ext K n m H m' H) (hn : n ≤ n') {po : PO} {a : Addr} (h : Ro K mg H m n po a) : Ro K mg H m' n' po a := by
  cases po with
  | lst l =>
    obtain ⟨xs, h1, h2⟩ := h
    exact ⟨xs, h1, h2.mono e hn⟩
  | fz l =>
    obtain ⟨xs, h1, h2⟩ := h
    exact ⟨xs, h1, h2.mono e hn⟩
  | dct t l =>
    rcases h with ⟨ht, xs, h1, h2⟩ | ⟨ht, xs, h1, h2⟩
    · exact .inl ⟨ht, xs, h1, h2.mono e hn⟩
    · exact .inr ⟨ht, xs, h1, h2.mono e hn⟩
  | fd l =>
    obtain ⟨o, kv, h1, h2⟩ := h
    exact ⟨o, kv, h1, h2.mono e hn⟩
  | ins c fs =>
    obtain ⟨C, dx, fv, h1, h2, h3⟩ := h
    exact ⟨C, dx, fv, h1, h2, h3.mono e hn⟩
theorem Ro.there {po : PO} {a : Addr} (h : Ro K mg H m n po a) (hm : isW po = true) : Mut (H a) ∧ H a ≠ none := by
  cases po with
  | fz l => cases hm
  | fd l => cases hm
  | lst l => obtain ⟨xs, h1, _⟩ := h; rw [h1]; exact ⟨trivial, by simp⟩
  | dct t l =>
    rcases h with ⟨_, xs, h1, _⟩ | ⟨_, xs, h1, _⟩ <;> (rw [h1]; exact ⟨trivial, by simp⟩)
  | ins c fs => obtain ⟨C, dx, fv, h1, _⟩ := h; rw [h1]; exact ⟨trivial, by simp⟩
theorem Ro.thereN {po : PO} {a : Addr} (h : Ro K mg H m n po a) (hm : isMut po = true) : H a ≠ none := by
  cases po with
  | fz l => cases hm
  | fd l => obtain ⟨o, kv, h1, _⟩ := h; rw [h1]; simp
  | lst l => exact (h.there rfl).2
  | dct t l => exact (h.there rfl).2
  | ins c fs => exact (h.there rfl).2

/-- the map with one more place -/
def mext (m : Nat → Addr) (n : Nat) (p : Addr) : Nat → Addr := fun k => if k = n then p else m k
theorem mext_same {p : Addr} : mext m n p n = p := if_pos rfl
theorem mext_lt {p : Addr} {k : Nat} (h : k < n) : mext m n p k = m k := if_neg (Nat.ne_of_lt h)
theorem ext_mext {p : Addr} : Ext K n m H (mext m n p) H := ⟨⟨fun _ hk => mext_lt hk, fun _ _ h => h, fun _ _ h => h⟩, fun _ _ _ h => h⟩

theorem get_snoc {α : Type} {S : List α} {o x : α} {k : Nat} (h : (S ++ [o])[k]? = some x) : (k < S.length ∧ S[k]? = some x) ∨ (k = S.length ∧ x = o) := by
  by_cases hk : k < S.length
  · rw [List.getElem?_append_left hk] at h
    exact .inl ⟨hk, h⟩
  · rw [List.getElem?_append_right (by omega)] at h
    have h2 : k - S.length = 0 := by
      cases q : k - S.length with
      | zero => rfl
      | succ j => rw [q] at h; simp at h
    rw [h2] at h
    simp at h
    exact .inr ⟨by omega, h.symm⟩
theorem lt_of_get {α : Type} {S : List α} {x : α} {k : Nat} (h : S[k]? = some x) : k < S.length := (List.getElem?_eq_some_iff.mp h).1

/-- a new object joins the store -/
theorem StS.push {S : Sto} {p : Addr} {ho : HO} {po : PO} (st : StS K mg m S H) (hp : H p = none) (hm : isMut po = true)
    (new : Ro K mg (upd H p ho) (mext m S.length p) (S.length + 1) po p) : StS K mg (mext m S.length p) (S ++ [po]) (upd H p ho) := by
  have nep : ∀ (k : Nat) (o : PO), S[k]? = some o → isMut o = true → m k ≠ p := fun k o e hmu q => by
    have := (st.obj k o e).thereN hmu
    rw [q, hp] at this; exact this rfl
  refine ⟨fun k o e => ?_, fun j k oj ok ej ek mj mk q => ?_⟩
  · rw [List.length_append, List.length_singleton]
    rcases get_snoc e with ⟨hk, eo⟩ | ⟨hk, eo⟩
    · rw [mext_lt hk]
      exact ((st.obj k o eo).upd (o := ho) (.inl hp) (fun hmu => nep k o eo hmu)).mono ext_mext (Nat.le_succ _)
    · subst hk; subst eo
      rw [mext_same]; exact new
  · rcases get_snoc ej with ⟨hj, ej⟩ | ⟨hj, ej⟩ <;> rcases get_snoc ek with ⟨hk, ek⟩ | ⟨hk, ek⟩
    · rw [mext_lt hj, mext_lt hk] at q
      exact st.inj j k oj ok ej ek mj mk q
    · subst hk
      rw [mext_lt hj, mext_same] at q
      exact absurd q (nep j oj ej mj)
    · subst hj
      rw [mext_same, mext_lt hk] at q
      exact absurd q.symm (nep k ok ek mk)
    · rw [hj, hk]
theorem ext_push {p : Addr} {ho : HO} (hp : H p = none) : Ext K n m H (mext m n p) (upd H p ho) :=
  (ext_upd (m := m) (.inl hp)).trans ext_mext (Nat.le_refl _)
/-- an object of the store is written -/
theorem StS.write {S : Sto} {k : Nat} {ho : HO} {po po' : PO} (st : StS K mg m S H) (hk : S[k]? = some po) (hm : isW po = true) (hm' : isMut po' = true)
    (new : Ro K mg (upd H (m k) ho) m S.length po' (m k)) : StS K mg m (S.set k po') (upd H (m k) ho) := by
  have mu := ((st.obj k po hk).there hm).1
  have hlt := lt_of_get hk
  refine ⟨fun j o e => ?_, fun i j oi oj ei ej mi mj q => ?_⟩
  · rw [List.length_set]
    by_cases hj : j = k
    · subst hj
      rw [List.getElem?_set_self hlt] at e
      cases e; exact new
    · rw [List.getElem?_set_ne (Ne.symm hj)] at e
      exact (st.obj j o e).upd (.inr mu) fun hmo q => hj (st.inj j k o po e hk hmo (isW.mut hm) q)
  · have old : ∀ (i : Nat) (oi : PO), (S.set k po')[i]? = some oi → isMut oi = true → ∃ o, S[i]? = some o ∧ isMut o = true := fun i oi e mi => by
      by_cases hi : i = k
      · subst hi; exact ⟨po, hk, isW.mut hm⟩
      · rw [List.getElem?_set_ne (Ne.symm hi)] at e
        exact ⟨oi, e, mi⟩
    obtain ⟨o1, e1, m1⟩ := old i oi ei mi
    obtain ⟨o2, e2, m2⟩ := old j oj ej mj
    exact st.inj i j o1 o2 e1 e2 m1 m2 q
theorem StS.mut {S : Sto} {k : Nat} {po : PO} (st : StS K mg m S H) (hk : S[k]? = some po) (hm : isW po = true) : Mut (H (m k)) := ((st.obj k po hk).there hm).1
end

/-! ### what is wanted behind an expression -/
section
variable (K : PySem.W.Frag) (mg : Str → Option Value)
def RX (H : Hp) (m : Nat → Addr) (n : Nat) (e : Xn) (cls : Value) (dd : Option Addr) : Prop :=
  ∃ C, cls = .ref C ∧ mg e.c = some (.ref C) ∧ ((e.fs = [] ∧ dd = none) ∨ (e.fs ≠ [] ∧ ∃ d fv, dd = some d ∧ H d = some (.xd fv) ∧ RpF K H m n e.fs fv))
def PostX (W : WX) (σ : L2.St) (m : Nat → Addr) (S : Sto) (H : Hp) (e : Xn) (S' : Sto) : Prop :=
  ∀ cls dd m' H', S.length ≤ S'.length → Ext K S.length m H m' H' → StS K mg m' S' H' → RX K mg H' m' S'.length e cls dd → W cls dd σ H'
/-- how a result stands in the heap -/
abbrev Rel (α β : Type) := Hp → (Nat → Addr) → Nat → α → β → Prop
def rE : Rel PV V := fun H m n d v => Rp K H m n d v
def rA : Rel (List PV) (List V) := fun H m n d v => RpL K H m n d v
def rB : Rel Bool Bool := fun _ _ _ d v => d = v
def PostG {α β : Type} (rel : Rel α β) (W : WX) (σ : L2.St) (m : Nat → Addr) (S : Sto) (H : Hp) (r : R α) (Q : β → Hp → Prop) : Prop :=
  match r with
  | .ok d S' => ∀ v m' H', S.length ≤ S'.length → Ext K S.length m H m' H' → StS K mg m' S' H' → rel H' m' S'.length d v → Q v H'
  | .exc e S' => PostX K mg W σ m S H e S'
def PostS (W : WX) (m : Nat → Addr) (S : Sto) (H : Hp) (r : RS) (D : Ends) : Prop :=
  match r with
  | .next ρ' S' => ∀ σ' m' H', S.length ≤ S'.length → Ext K S.length m H m' H' → StS K mg m' S' H' → EnR K H' m' S'.length ρ' σ' → D.nx σ' H'
  | .ret d S' => ∀ v m' H', S.length ≤ S'.length → Ext K S.length m H m' H' → StS K mg m' S' H' → Rp K H' m' S'.length d v → D.rt v H'
  | .brk ρ' S' => ∀ σ' m' H', S.length ≤ S'.length → Ext K S.length m H m' H' → StS K mg m' S' H' → EnR K H' m' S'.length ρ' σ' → D.bk σ' H'
  | .ctn ρ' S' => ∀ σ' m' H', S.length ≤ S'.length → Ext K S.length m H m' H' → StS K mg m' S' H' → EnR K H' m' S'.length ρ' σ' → D.ct σ' H'
  | .exc e ρ' S' => ∀ cls dd σ' m' H', S.length ≤ S'.length → Ext K S.length m H m' H' → StS K mg m' S' H' → EnR K H' m' S'.length ρ' σ' → RX K mg H' m' S'.length e cls dd → W cls dd σ' H'
def tG {α β : Type} (rel : Rel α β) (W : WX) (f : En → Sto → Option (R α)) : L2.St → Hp → (β → Hp → Prop) → Prop :=
  fun σ H Q => ∃ m ρ S r, StS K mg m S H ∧ EnR K H m S.length ρ σ ∧ f ρ S = some r ∧ PostG K mg rel W σ m S H r Q
abbrev tD (W : WX) (f : DE) : TE := tG K mg (rE K) W f
abbrev tA (W : WX) (f : DA) : TA := tG K mg (rA K) W f
abbrev tT (W : WX) (f : DB) : TT := tG K mg rB W f
def tS (W : WX) (f : DS) : TS := fun D σ H => ∃ m ρ S r, StS K mg m S H ∧ EnR K H m S.length ρ σ ∧ f ρ S = some r ∧ PostS K mg W m S H r D
end

section
variable {K : PySem.W.Frag} {mg : Str → Option Value} {W : WX} {σ : L2.St} {m m' : Nat → Addr} {S S' : Sto} {H H' : Hp}
/-- seen from further on -/
theorem PostX.on {e : Xn} {T : Sto} (le : S.length ≤ S'.length) (x : Ext K S.length m H m' H') (h : PostX K mg W σ m S H e T) : PostX K mg W σ m' S' H' e T :=
  fun cls dd m2 H2 l e2 s r => h cls dd m2 H2 (Nat.le_trans le l) (x.trans e2 le) s r
theorem PostG.on {α β : Type} {rel : Rel α β} {r : R α} {Q : β → Hp → Prop} (le : S.length ≤ S'.length) (x : Ext K S.length m H m' H') (h : PostG K mg rel W σ m S H r Q) : PostG K mg rel W σ m' S' H' r Q := by
  cases r with
  | ok d T => exact fun v m2 H2 l e2 s r => h v m2 H2 (Nat.le_trans le l) (x.trans e2 le) s r
  | exc e T => exact PostX.on le x h
theorem PostS.on {r : RS} {D : Ends} (le : S.length ≤ S'.length) (x : Ext K S.length m H m' H') (h : PostS K mg W m S H r D) : PostS K mg W m' S' H' r D := by
  cases r with
  | next ρ T => exact fun s2 m2 H2 l e2 s => h s2 m2 H2 (Nat.le_trans le l) (x.trans e2 le) s
  | ret v T => exact fun v m2 H2 l e2 s => h v m2 H2 (Nat.le_trans le l) (x.trans e2 le) s
  | brk ρ T => exact fun s2 m2 H2 l e2 s => h s2 m2 H2 (Nat.le_trans le l) (x.trans e2 le) s
  | ctn ρ T => exact fun s2 m2 H2 l e2 s => h s2 m2 H2 (Nat.le_trans le l) (x.trans e2 le) s
  | exc e ρ T => exact fun cls dd s2 m2 H2 l e2 s => h cls dd s2 m2 H2 (Nat.le_trans le l) (x.trans e2 le) s
end
/-- a relation that later heaps keep -/
def Keeps (K : PySem.W.Frag) {α β : Type} (rel : Rel α β) : Prop := ∀ H m n H' m' n' d v, Ext K n m H m' H' → n ≤ n' → rel H m n d v → rel H' m' n' d v
theorem keeps_E {K : PySem.W.Frag} : Keeps K (rE K) := fun _ _ _ _ _ _ _ _ e h r => Rp.mono e h r
theorem keeps_A {K : PySem.W.Frag} : Keeps K (rA K) := fun _ _ _ _ _ _ _ _ e h r => RpL.mono e h r
theorem keeps_B {K : PySem.W.Frag} : Keeps K rB := fun _ _ _ _ _ _ _ _ _ _ r => r
section
variable {K : PySem.W.Frag} {mg : Str → Option Value} {W : WX} {σ : L2.St} {H : Hp} {α β γ α' β' γ' : Type} {ra : Rel α α'} {rb : Rel β β'} {rc : Rel γ γ'}
/-- one part, then the rest -/
theorem bind1 {f : En → Sto → Option (R α)} {k : En → α → Sto → Option (R γ)} {Q : γ' → Hp → Prop} (h : tG K mg rc W (fun ρ S => bR (f ρ S) (k ρ)) σ H Q) :
    tG K mg ra W f σ H fun v H1 => ∃ m ρ S d r, StS K mg m S H1 ∧ EnR K H1 m S.length ρ σ ∧ ra H1 m S.length d v ∧ k ρ d S = some r ∧ PostG K mg rc W σ m S H1 r Q := by
  obtain ⟨m, ρ, S, r, s, e, hf, p⟩ := h
  have hf : bR (f ρ S) (k ρ) = some r := hf
  cases q : f ρ S with
  | none => rw [q] at hf; cases hf
  | some z =>
    rw [q] at hf
    cases z with
    | exc x T =>
      cases hf
      exact ⟨m, ρ, S, .exc x T, s, e, q, p⟩
    | ok d T => exact ⟨m, ρ, S, .ok d T, s, e, q, fun v m' H' le x s' rv => ⟨m', ρ, T, d, r, s', e.mono x le, rv, hf, p.on le x⟩⟩
/-- two parts -/
theorem bind2 (ka : Keeps K ra) {f : En → Sto → Option (R α)} {g : En → Sto → Option (R β)} {k : En → α → β → Sto → Option (R γ)} {Q : γ' → Hp → Prop}
    (h : tG K mg rc W (fun ρ S => bR (f ρ S) fun x S1 => bR (g ρ S1) fun y S2 => k ρ x y S2) σ H Q) :
    tG K mg ra W f σ H fun v H1 => tG K mg rb W g σ H1 fun u H2 => ∃ m ρ S d d' r, StS K mg m S H2 ∧ EnR K H2 m S.length ρ σ ∧ ra H2 m S.length d v ∧ rb H2 m S.length d' u ∧ k ρ d d' S = some r ∧ PostG K mg rc W σ m S H2 r Q := by
  obtain ⟨m, ρ, S, r, s, e, hf, p⟩ := bind1 (ra := ra) h
  refine ⟨m, ρ, S, r, s, e, hf, ?_⟩
  cases r with
  | exc x T => exact p
  | ok d T =>
    intro v m1 H1 le x s1 rv
    obtain ⟨m2, ρ2, S2, d2, r2, s2, e2, rv2, hk, p2⟩ := p v m1 H1 le x s1 rv
    have hk : bR (g ρ2 S2) (fun y S3 => k ρ2 d2 y S3) = some r2 := hk
    cases q : g ρ2 S2 with
    | none => rw [q] at hk; cases hk
    | some z =>
      rw [q] at hk
      cases z with
      | exc x T =>
        cases hk
        exact ⟨m2, ρ2, S2, .exc x T, s2, e2, q, p2⟩
      | ok d' T' => exact ⟨m2, ρ2, S2, .ok d' T', s2, e2, q, fun u m' H' le' x' s' ru => ⟨m', ρ2, T', d2, d', r2, s', e2.mono x' le', ka _ _ _ _ _ _ _ _ x' le' rv2, ru, hk, p2.on le' x'⟩⟩
end
theorem _root_.L2.PE.imp {X : Cx} {e : Expr} {t t' : TE} (h : PE X e t) (i : ∀ σ H Q, t' σ H Q → t σ H Q) : PE X e t' := ⟨fun pins s σ H Q I q => h.run pins s σ H Q I (i _ _ _ q)⟩
theorem _root_.L2.PT.imp {X : Cx} {e : Expr} {t t' : TT} (h : PT X e t) (i : ∀ σ H Q, t' σ H Q → t σ H Q) : PT X e t' := ⟨fun pins s σ H Q I q => h.run pins s σ H Q I (i _ _ _ q)⟩
theorem _root_.L2.PW.imp {X : Cx} {e : Expr} {t t' : TT} (h : PW X e t) (i : ∀ σ H Q, t' σ H Q → t σ H Q) : PW X e t' := ⟨fun whole pins s σ H Q I q => h.run whole pins s σ H Q I (i _ _ _ q)⟩
theorem _root_.L2.PA.imp {X : Cx} {e : List Expr} {t t' : TA} (h : PA X e t) (i : ∀ σ H Q, t' σ H Q → t σ H Q) : PA X e t' := ⟨fun pos pins s σ H Q I q => h.run pos pins s σ H Q I (i _ _ _ q)⟩
theorem _root_.L2.PS.imp {X : Cx} {e : Stmt} {t t' : TS} (h : PS X e t) (i : ∀ D σ H, t' D σ H → t D σ H) : PS X e t' := ⟨fun pins s σ H Q I q => h.run pins s σ H Q I (i _ _ _ q)⟩
theorem _root_.L2.PSs.imp {X : Cx} {e : List Stmt} {t t' : TS} (h : PSs X e t) (i : ∀ D σ H, t' D σ H → t D σ H) : PSs X e t' := ⟨fun pins s σ H Q I q => h.run pins s σ H Q I (i _ _ _ q)⟩
end D

/-! D1: expressions: their denotations. -/
namespace D
open PySem L2

abbrev PEd (X : Cx) (W : WX) (e : Expr) (f : DE) : Prop := PE X e (tD X.K X.mg W f)
abbrev PTd (X : Cx) (W : WX) (e : Expr) (f : DB) : Prop := PT X e (tT X.K X.mg W f)
abbrev PWd (X : Cx) (W : WX) (e : Expr) (f : DB) : Prop := PW X e (tT X.K X.mg W f)
abbrev PAd (X : Cx) (W : WX) (es : List Expr) (f : DA) : Prop := PA X es (tA X.K X.mg W f)

theorem tG.mono {K : PySem.W.Frag} {mg : Str → Option Value} {W : WX} {α β : Type} {rel : Rel α β} {f : En → Sto → Option (R α)} {σ : L2.St} {H : Hp} {Q Q' : β → Hp → Prop} (h : tG K mg rel W f σ H Q) (q : ∀ v H, Q v H → Q' v H) :
    tG K mg rel W f σ H Q' := by
  obtain ⟨m, ρ, S, r, s, e, hf, p⟩ := h
  refine ⟨m, ρ, S, r, s, e, hf, ?_⟩
  cases r with
  | ok d T => exact fun v m' H' a b c d => q _ _ (p v m' H' a b c d)
  | exc x T => exact p

/-! ### names, constants -/
def dVar (i : Nat) : DE := fun ρ S => match ρ[i]? with
  | some (some v) => some (.ok v S)
  | _ => none
def dC (v : PV) : DE := fun _ S => some (.ok v S)
section
variable {X : Cx} {W : WX} {pos : Pos}
theorem de_var (i : Nat) {x : Str} (hN : X.N[i]? = some x := by rfl) (hv : Vis X.env.scope x := by first | exact Or.inl rfl | exact Or.inr (Or.inl rfl) | exact Or.inr (Or.inr rfl)) (hd : (x == ("__debug__" : Str)) = false := by decide)
    (hcd : (x == ("__classdict__" : Str)) = false := by decide) : PEd X W (.Name x pos) (dVar i) := by
  refine (pe_var hN hv hd hcd).imp fun σ H Q h => ?_
  obtain ⟨m, ρ, S, r, s, e, hf, p⟩ := h
  unfold dVar at hf
  split at hf
  · rename_i v hv
    cases hf
    obtain ⟨x, hx, rx⟩ := e.at_ i v hv
    exact ⟨x, hx, p x m H (Nat.le_refl _) Ext.refl s rx⟩
  · cases hf
theorem de_c {e : Expr} {v : V} {d : PV} (h : PE X e (tC v)) (hr : ∀ K H m n, Rp K H m n d v) : PEd X W e (dC d) := by
  refine h.imp fun σ H Q h => ?_
  obtain ⟨m, ρ, S, r, s, e, hf, p⟩ := h
  cases hf
  exact p v m H (Nat.le_refl _) Ext.refl s (hr _ _ _ _)
theorem de_int {i : Int} {j : Nat} : PEd X W (.Constant (.int i) j pos) (dC (.int i)) := de_c pe_int fun _ _ _ _ => .int i
theorem de_bl {i : Bool} {j : Nat} : PEd X W (.Constant (.bool i) j pos) (dC (.bl i)) := de_c pe_bl fun _ _ _ _ => .bl i
theorem de_str {i : Str} {j : Nat} : PEd X W (.Constant (.str i) j pos) (dC (.str i)) := de_c pe_str fun _ _ _ _ => .str i
theorem de_non {j : Nat} : PEd X W (.Constant .none j pos) (dC .non) := de_c pe_non fun _ _ _ _ => .non
/-- a module's constant -/
theorem de_gint {x : Str} {i : Int} {t : Tok} (hg : Gl X x) (hm : X.mg x = some (.int i t)) (hd : (x == ("__debug__" : Str)) = false := by decide) : PEd X W (.Name x pos) (dC (.int i)) :=
  de_c (pe_glob (v := .int i) hg hm ⟨_, rfl⟩ hd) fun _ _ _ _ => .int i
theorem de_gstr {x : Str} {i : Str} {t : Tok} (hg : Gl X x) (hm : X.mg x = some (.str i t)) (hd : (x == ("__debug__" : Str)) = false := by decide) : PEd X W (.Name x pos) (dC (.str i)) :=
  de_c (pe_glob (v := .str i) hg hm ⟨_, rfl⟩ hd) fun _ _ _ _ => .str i
end

/-! ### operators by values -/
abbrev G2 := PV → PV → Sto → Option (R PV)
abbrev G1 := PV → Sto → Option (R PV)
abbrev GA := List PV → Sto → Option (R PV)
def OkG2 (K : PySem.W.Frag) (mg : Str → Option Value) (r : R2) (g : G2) : Prop :=
  ∀ (W : WX) (σ : L2.St) (m : Nat → Addr) (S : Sto) (H : Hp) (x y : V) (d d' : PV) (z : R PV) (Q : VK), StS K mg m S H → Rp K H m S.length d x → Rp K H m S.length d' y → g d d' S = some z → PostG K mg (rE K) W σ m S H z Q → r x y H Q
def OkG1 (K : PySem.W.Frag) (mg : Str → Option Value) (r : V → Hp → VK → Prop) (g : G1) : Prop :=
  ∀ (W : WX) (σ : L2.St) (m : Nat → Addr) (S : Sto) (H : Hp) (x : V) (d : PV) (z : R PV) (Q : VK), StS K mg m S H → Rp K H m S.length d x → g d S = some z → PostG K mg (rE K) W σ m S H z Q → r x H Q
def OkGA (K : PySem.W.Frag) (mg : Str → Option Value) (r : List V → Hp → VK → Prop) (g : GA) : Prop :=
  ∀ (W : WX) (σ : L2.St) (m : Nat → Addr) (S : Sto) (H : Hp) (x : List V) (d : List PV) (z : R PV) (Q : VK), StS K mg m S H → RpL K H m S.length d x → g d S = some z → PostG K mg (rE K) W σ m S H z Q → r x H Q
def dOp2 (g : G2) (a b : DE) : DE := fun ρ S => bR (a ρ S) fun x S1 => bR (b ρ S1) fun y S2 => g x y S2
def dOp1 (g : G1) (a : DE) : DE := fun ρ S => bR (a ρ S) fun x S1 => g x S1
def dOpA (g : GA) (a : DA) : DE := fun ρ S => bR (a ρ S) fun x S1 => g x S1
/-- one way or the other -/
def gOr2 (g h : G2) : G2 := fun x y S => match g x y S with
  | some z => some z
  | none => h x y S
def gOr1 (g h : G1) : G1 := fun x S => match g x S with
  | some z => some z
  | none => h x S
def gOrA (g h : GA) : GA := fun x S => match g x S with
  | some z => some z
  | none => h x S
section
variable {K : PySem.W.Frag} {mg : Str → Option Value} {W : WX} {σ : L2.St} {H : Hp}
theorem OkG2.or {r r' : R2} {g h : G2} (a : OkG2 K mg r g) (b : OkG2 K mg r' h) : OkG2 K mg (fun x y H Q => r x y H Q ∨ r' x y H Q) (gOr2 g h) := fun W σ m S H x y d d' z Q s r1 r2 e p => by
  unfold gOr2 at e
  cases q : g d d' S with
  | some z' =>
    rw [q] at e
    cases e
    exact .inl (a W σ m S H x y d d' _ Q s r1 r2 q p)
  | none =>
    rw [q] at e
    exact .inr (b W σ m S H x y d d' _ Q s r1 r2 e p)
theorem OkG1.or {r r' : V → Hp → VK → Prop} {g h : G1} (a : OkG1 K mg r g) (b : OkG1 K mg r' h) : OkG1 K mg (fun x H Q => r x H Q ∨ r' x H Q) (gOr1 g h) := fun W σ m S H x d z Q s r1 e p => by
  unfold gOr1 at e
  cases q : g d S with
  | some z' =>
    rw [q] at e
    cases e
    exact .inl (a W σ m S H x d _ Q s r1 q p)
  | none =>
    rw [q] at e
    exact .inr (b W σ m S H x d _ Q s r1 e p)
theorem OkGA.or {r r' : List V → Hp → VK → Prop} {g h : GA} (a : OkGA K mg r g) (b : OkGA K mg r' h) : OkGA K mg (fun x H Q => r x H Q ∨ r' x H Q) (gOrA g h) := fun W σ m S H x d z Q s r1 e p => by
  unfold gOrA at e
  cases q : g d S with
  | some z' =>
    rw [q] at e
    cases e
    exact .inl (a W σ m S H x d _ Q s r1 q p)
  | none =>
    rw [q] at e
    exact .inr (b W σ m S H x d _ Q s r1 e p)
theorem lift2 {r : R2} {g : G2} (hg : OkG2 K mg r g) {fa fb : DE} {Q : VK} (h : tD K mg W (dOp2 g fa fb) σ H Q) : tOp r (tD K mg W fa) (tD K mg W fb) σ H Q :=
  (bind2 (ra := rE K) (rb := rE K) keeps_E h).mono fun v H1 h1 => h1.mono fun u H2 ⟨m, ρ, S, d, d', z, s, e, r1, r2, hk, p⟩ => hg W σ m S H2 v u d d' z Q s r1 r2 hk p
theorem lift1 {r : V → Hp → VK → Prop} {g : G1} (hg : OkG1 K mg r g) {fa : DE} {Q : VK} (h : tD K mg W (dOp1 g fa) σ H Q) : tUn r (tD K mg W fa) σ H Q :=
  (bind1 (ra := rE K) h).mono fun v H1 ⟨m, ρ, S, d, z, s, e, r1, hk, p⟩ => hg W σ m S H1 v d z Q s r1 hk p
theorem liftA {r : List V → Hp → VK → Prop} {g : GA} (hg : OkGA K mg r g) {fa : DA} {Q : VK} (h : tD K mg W (dOpA g fa) σ H Q) : tCB r (tA K mg W fa) σ H Q :=
  (bind1 (ra := rA K) h).mono fun v H1 ⟨m, ρ, S, d, z, s, e, r1, hk, p⟩ => hg W σ m S H1 v d z Q s r1 hk p
/-- the answer changes nothing -/
theorem post_here {m : Nat → Addr} {S : Sto} {d : PV} {v : V} {Q : VK} (s : StS K mg m S H) (r : Rp K H m S.length d v) (p : PostG K mg (rE K) W σ m S H (.ok d S) Q) : Q v H := p v m H (Nat.le_refl _) Ext.refl s r
end
section
variable {X : Cx} {W : WX} {pos : Pos} {a b c : Expr} {fa fb fc : DE}
theorem de_op {op : Operator} {r : R2} {g : G2} (ho : OpR X (binaryOp op) r) (hg : OkG2 X.K X.mg r g) (ha : PEd X W a fa) (hb : PEd X W b fb) : PEd X W (.BinOp a op b pos) (dOp2 g fa fb) := (pe_op ho ha hb).imp fun _ _ _ h => lift2 hg h
theorem de_un {op : UnaryOp} {r : V → Hp → VK → Prop} {g : G1} (ho : UnR X (unaryOp op) r) (hg : OkG1 X.K X.mg r g) (ha : PEd X W a fa) : PEd X W (.UnaryOp op a pos) (dOp1 g fa) := (pe_un ho ha).imp fun _ _ _ h => lift1 hg h
theorem de_cmp {op : CmpOp} {r : R2} {g : G2} (ho : OpR X (compareOp op) r) (hg : OkG2 X.K X.mg r g) (ha : PEd X W a fa) (hb : PEd X W b fb) (hm : behindInMarks op b = false := by with_unfolding_all rfl) : PEd X W (.Compare a [op] [b] pos) (dOp2 g fa fb) :=
  (pe_cmpR ho ha hb hm).imp fun _ _ _ h => lift2 hg h
theorem de_ix {r : R2} {g : G2} (ho : IxR X r) (hg : OkG2 X.K X.mg r g) (ha : PEd X W a fa) (hb : PEd X W b fb) (hs : PlainIx b := by intro _ _; rfl) : PEd X W (.Subscript a b pos) (dOp2 g fa fb) := (pe_ix ho ha hb hs).imp fun _ _ _ h => lift2 hg h

/-! ### tests -/
def asB (r : Option (R PV)) : Option (R Bool) := bR r fun x S => match x with
  | .bl b => some (.ok b S)
  | _ => none
theorem tT_of_test {r : R2} {g : G2} (hg : OkG2 X.K X.mg r g) {σ : L2.St} {H : Hp} {Q : Bool → Hp → Prop} (h : tT X.K X.mg W (fun ρ S => asB (dOp2 g fa fb ρ S)) σ H Q) :
    tTest (tOp r (tD X.K X.mg W fa) (tD X.K X.mg W fb)) σ H Q := by
  refine lift2 hg ((bind1 (ra := rE X.K) h).mono fun v H1 ⟨m, ρ, S, d, z, s, e, r1, hk, p⟩ => ?_)
  cases d <;> try cases hk
  cases r1
  exact ⟨_, rfl, p _ m H1 (Nat.le_refl _) Ext.refl s rfl⟩
/-- a comparison as a test -/
def dCmp (g : G2) (a b : DE) : DB := fun ρ S => asB (dOp2 g a b ρ S)
theorem dt_cmp {op : CmpOp} {r : R2} {g : G2} (ho : OpR X (compareOp op) r) (hg : OkG2 X.K X.mg r g) (ha : PEd X W a fa) (hb : PEd X W b fb) (hm : behindInMarks op b = false := by with_unfolding_all rfl) : PTd X W (.Compare a [op] [b] pos) (dCmp g fa fb) :=
  (pt_cmpR ho ha hb hm).imp fun _ _ _ h => tT_of_test hg h
/-- the truth of a value -/
def truP (x : PV) (S : Sto) : Option Bool := match x with
  | .non => some false
  | .bl b => some b
  | .int i => some (i != 0)
  | .str y => if y.length ≤ 16777216 then some ((y.length : Int) != 0) else none
  | .tup l => some (!l.isEmpty)
  | .ty _ => none
  | .xc _ _ _ => none
  | .loc k => match S[k]? with
    | some (.lst l) => some (!l.isEmpty)
    | some (.fz l) => some (!l.isEmpty)
    | _ => none
def gTru (x : PV) (S : Sto) : Option (R Bool) := match truP x S with
  | some b => some (.ok b S)
  | none => none
theorem isEmpty_rp {K : PySem.W.Frag} {H : Hp} {m : Nat → Addr} {n : Nat} {l : List PV} {xs : List V} (r : RpL K H m n l xs) : (!l.isEmpty) = !xs.isEmpty := by cases r <;> rfl
theorem tru_ok {K : PySem.W.Frag} {mg : Str → Option Value} {H : Hp} {m : Nat → Addr} {S : Sto} {x : PV} {v : V} {b : Bool} (s : StS K mg m S H) (r : Rp K H m S.length x v) (h : truP x S = some b) : TruV K v H b := by
  cases r with
  | non => cases h; rfl
  | bl b => cases h; rfl
  | int i => cases h; rfl
  | ty i => cases h
  | xc _ => cases h
  | str y =>
    unfold truP at h
    dsimp only at h
    split at h
    · rename_i hy
      cases h
      exact ⟨Nat.le_trans hy (by decide), rfl⟩
    · cases h
  | tup hs hl =>
    cases h
    exact .inr (.inl ⟨_, hs, isEmpty_rp hl⟩)
  | @loc k hk =>
    unfold truP at h
    dsimp only at h
    split at h
    · rename_i l e
      cases h
      obtain ⟨xs, h1, h2⟩ := s.obj _ _ e
      exact .inl ⟨xs, .inl (.inl h1), isEmpty_rp h2⟩
    · rename_i l e
      cases h
      obtain ⟨xs, h1, h2⟩ := s.obj _ _ e
      exact .inl ⟨xs, h1.sq, isEmpty_rp h2⟩
    · cases h
def dTru (f : DE) : DB := fun ρ S => bR (f ρ S) fun x S1 => gTru x S1
theorem dt_tru (ha : PEd X W a fa) (he : ∀ whole, isTrue a X.env whole = (do let v ← whole; standAt a.pos; holding [v] (truthy v)) := by intro _; rfl) : PTd X W a (dTru fa) := by
  refine (pt_truth ha he).imp fun σ H Q h => ?_
  refine (bind1 (ra := rE X.K) h).mono fun v H1 ⟨m, ρ, S, d, z, s, e, r1, hk, p⟩ => ?_
  unfold gTru at hk
  split at hk
  · rename_i bb hb
    cases hk
    exact ⟨bb, tru_ok s r1 hb, p _ m H1 (Nat.le_refl _) Ext.refl s rfl⟩
  · cases hk
def dNotT (f : DB) : DB := fun ρ S => bR (f ρ S) fun x S1 => some (.ok (!x) S1)
def dAndT (f g : DB) : DB := fun ρ S => bR (f ρ S) fun x S1 => if x = true then g ρ S1 else some (.ok false S1)
def dOrT (f g : DB) : DB := fun ρ S => bR (f ρ S) fun x S1 => if x = true then some (.ok true S1) else g ρ S1
theorem dt_not {f : DB} (h : PTd X W a f) : PTd X W (.UnaryOp .Not a pos) (dNotT f) := by
  refine (pt_not h).imp fun σ H Q h => ?_
  refine (bind1 (ra := rB) h).mono fun v H1 ⟨m, ρ, S, d, z, s, e, r1, hk, p⟩ => ?_
  cases hk
  cases r1
  exact p _ m H1 (Nat.le_refl _) Ext.refl s rfl
theorem dw_and1 {f : DB} (ha : PTd X W a f) : PWd X W (.BoolOp .And [a] pos) f := pw_and1 ha
theorem dw_or1 {f : DB} (ha : PTd X W a f) : PWd X W (.BoolOp .Or [a] pos) f := pw_or1 ha
theorem dw_and {f g : DB} {rest : List Expr} (ha : PTd X W a f) (hb : PWd X W (.BoolOp .And (b :: rest) pos) g) : PWd X W (.BoolOp .And (a :: b :: rest) pos) (dAndT f g) := by
  refine (pw_and ha hb).imp fun σ H Q h => ?_
  refine (bind1 (ra := rB) h).mono fun v H1 ⟨m, ρ, S, d, z, s, e, r1, hk, p⟩ => ?_
  cases r1
  cases v with
  | true => exact ⟨m, ρ, S, z, s, e, hk, p⟩
  | false =>
    cases hk
    exact p _ m H1 (Nat.le_refl _) Ext.refl s rfl
theorem dw_or {f g : DB} {rest : List Expr} (ha : PTd X W a f) (hb : PWd X W (.BoolOp .Or (b :: rest) pos) g) : PWd X W (.BoolOp .Or (a :: b :: rest) pos) (dOrT f g) := by
  refine (pw_or ha hb).imp fun σ H Q h => ?_
  refine (bind1 (ra := rB) h).mono fun v H1 ⟨m, ρ, S, d, z, s, e, r1, hk, p⟩ => ?_
  cases r1
  cases v with
  | false => exact ⟨m, ρ, S, z, s, e, hk, p⟩
  | true =>
    cases hk
    exact p _ m H1 (Nat.le_refl _) Ext.refl s rfl
theorem PWd.pt {f : DB} (h : PWd X W a f) : PTd X W a f := PW.pt h

/-! ### values of and, or, not, if -/
def dAndV (f g : DE) : DE := fun ρ S => bR (f ρ S) fun x S1 => match truP x S1 with
  | some true => g ρ S1
  | some false => some (.ok x S1)
  | none => none
def dOrV (f g : DE) : DE := fun ρ S => bR (f ρ S) fun x S1 => match truP x S1 with
  | some false => g ρ S1
  | some true => some (.ok x S1)
  | none => none
def dNotV (f : DE) : DE := fun ρ S => bR (f ρ S) fun x S1 => match truP x S1 with
  | some b => some (.ok (.bl (!b)) S1)
  | none => none
def dIf (c : DB) (f g : DE) : DE := fun ρ S => bR (c ρ S) fun x S1 => if x = true then f ρ S1 else g ρ S1
theorem de_if {f : DB} (hc : PTd X W c f) (ha : PEd X W a fa) (hb : PEd X W b fb) : PEd X W (.IfExp c a b pos) (dIf f fa fb) := by
  refine (pe_ifExp hc ha hb).imp fun σ H Q h => ?_
  refine (bind1 (ra := rB) h).mono fun v H1 ⟨m, ρ, S, d, z, s, e, r1, hk, p⟩ => ?_
  cases r1
  cases v with
  | false => exact ⟨m, ρ, S, z, s, e, hk, p⟩
  | true => exact ⟨m, ρ, S, z, s, e, hk, p⟩

/-! ### argument lists, displays -/
def dNil : DA := fun _ S => some (.ok [] S)
def dCons (f : DE) (g : DA) : DA := fun ρ S => bR (f ρ S) fun x S1 => bR (g ρ S1) fun xs S2 => some (.ok (x :: xs) S2)
theorem da_nil : PAd X W [] dNil := by
  refine pa_nil.imp fun σ H Q h => ?_
  obtain ⟨m, ρ, S, r, s, e, hf, p⟩ := h
  cases hf
  exact p _ m H (Nat.le_refl _) Ext.refl s .nil
theorem da_cons {es : List Expr} {g : DA} (ha : PEd X W a fa) (hb : PAd X W es g) (hs : starEach (a :: es) X.env = (false, eval a X.env) :: starEach es X.env := by rfl) : PAd X W (a :: es) (dCons fa g) := by
  refine (pa_cons ha hb hs).imp fun σ H Q h => ?_
  refine (bind2 (ra := rE X.K) (rb := rA X.K) keeps_E h).mono fun v H1 h1 => h1.mono fun u H2 ⟨m, ρ, S, d, d', z, s, e, r1, r2, hk, p⟩ => ?_
  cases hk
  exact p _ m H2 (Nat.le_refl _) Ext.refl s (.cons r1 r2)
def gTupP : GA := fun l S => if l.length ≤ 16777216 then some (.ok (.tup l) S) else none
def gLstP : GA := fun l S => if l.length ≤ 16777216 then some (.ok (.loc S.length) (S ++ [.lst l])) else none
theorem new_list {K : PySem.W.Frag} {mg : Str → Option Value} {σ : L2.St} {H : Hp} {m : Nat → Addr} {S : Sto} {l : List PV} {xs : List V} {Q : VK} (s : StS K mg m S H) (r : RpL K H m S.length l xs)
    (p : PostG K mg (rE K) W σ m S H (.ok (.loc S.length) (S ++ [.lst l])) Q) (q : Addr) (hq : H q = none) : Q (.ref q) (upd H q (.lst xs)) := by
  have st := s.push (p := q) (ho := .lst xs) (po := .lst l) hq rfl ⟨xs, upd_same, r.mono (ext_push hq) (Nat.le_succ _)⟩
  have rp : Rp K (upd H q (.lst xs)) (mext m S.length q) (S ++ [PO.lst l]).length (.loc S.length) (.ref (mext m S.length q S.length)) := .loc (by simp)
  rw [mext_same] at rp
  exact p _ (mext m S.length q) _ (by simp) (ext_push hq) st rp
theorem new_tup {K : PySem.W.Frag} {mg : Str → Option Value} {σ : L2.St} {H : Hp} {m : Nat → Addr} {S : Sto} {l : List PV} {xs : List V} {Q : VK} (s : StS K mg m S H) (r : RpL K H m S.length l xs)
    (p : PostG K mg (rE K) W σ m S H (.ok (.tup l) S) Q) (q : Addr) (hq : H q = none) : Q (.ref q) (upd H q (.tup xs)) := by
  have ex : Ext K S.length m H m (upd H q (.tup xs)) := ext_upd (.inl hq)
  refine p _ m _ (Nat.le_refl _) ex ⟨fun k o e => (s.obj k o e).upd (.inl hq) (fun hm z => ?_), s.inj⟩ (.tup (.inl (.inl upd_same)) (r.mono ex (Nat.le_refl _)))
  have := (s.obj k o e).thereN hm
  rw [z, hq] at this
  exact this rfl
def dTup (f : DA) : DE := dOpA gTupP f
def dLst (f : DA) : DE := dOpA gLstP f
theorem de_tup {es : List Expr} {f : DA} {x1 : Nat} (h : PAd X W es f) : PEd X W (.Tuple es x1 pos) (dTup f) := by
  refine (pe_tup h).imp fun σ H Q h => ?_
  refine (bind1 (ra := rA X.K) h).mono fun v H1 ⟨m, ρ, S, d, z, s, e, r1, hk, p⟩ => ?_
  unfold gTupP at hk
  split at hk
  · rename_i hl
    cases hk
    exact ⟨by rw [← r1.length]; exact Nat.le_trans hl (by decide), fun q hq => new_tup s r1 p q hq⟩
  · cases hk
theorem de_lst {es : List Expr} {f : DA} (h : PAd X W es f) : PEd X W (.List es pos) (dLst f) := by
  refine (pe_lst h).imp fun σ H Q h => ?_
  refine (bind1 (ra := rA X.K) h).mono fun v H1 ⟨m, ρ, S, d, z, s, e, r1, hk, p⟩ => ?_
  unfold gLstP at hk
  split at hk
  · rename_i hl
    cases hk
    exact ⟨by rw [← r1.length]; exact Nat.le_trans hl (by decide), fun q hq => new_list s r1 p q hq⟩
  · cases hk
end
end D

/-! D2: statements, loops, defs. -/
namespace D
open PySem L2

abbrev PSd (X : Cx) (W : WX) (st : Stmt) (f : DS) : Prop := PS X st (tS X.K X.mg W f)
abbrev PSsd (X : Cx) (W : WX) (sts : List Stmt) (f : DS) : Prop := PSs X sts (tS X.K X.mg W f)
def bS {α : Type} (ρ : En) (r : Option (R α)) (k : α → Sto → Option RS) : Option RS :=
  match r with
  | some (.ok v S) => k v S
  | some (.exc e S) => some (.exc e ρ S)
  | none => none
/-- a statement, then the next -/
def bN (r : Option RS) (k : En → Sto → Option RS) : Option RS :=
  match r with
  | some (.next ρ S) => k ρ S
  | r => r
section
variable {K : PySem.W.Frag} {mg : Str → Option Value} {W : WX} {σ : L2.St} {H : Hp} {α α' : Type} {ra : Rel α α'}
theorem post_exc {m : Nat → Addr} {S S' : Sto} {e : Xn} {ρ : En} {D : Ends} (en : EnR K H m S.length ρ σ) (p : PostS K mg W m S H (.exc e ρ S') D) : PostX K mg W σ m S H e S' :=
  fun cls dd m' H' le x s r => p cls dd σ m' H' le x s (en.mono x le) r
theorem bindS {f : En → Sto → Option (R α)} {k : En → α → Sto → Option RS} {D : Ends} (h : tS K mg W (fun ρ S => bS ρ (f ρ S) (k ρ)) D σ H) :
    tG K mg ra W f σ H fun v H1 => ∃ m ρ S d r, StS K mg m S H1 ∧ EnR K H1 m S.length ρ σ ∧ ra H1 m S.length d v ∧ k ρ d S = some r ∧ PostS K mg W m S H1 r D := by
  obtain ⟨m, ρ, S, r, s, e, hf, p⟩ := h
  have hf : bS ρ (f ρ S) (k ρ) = some r := hf
  cases q : f ρ S with
  | none => rw [q] at hf; cases hf
  | some z =>
    rw [q] at hf
    cases z with
    | exc x T =>
      cases hf
      exact ⟨m, ρ, S, .exc x T, s, e, q, post_exc e p⟩
    | ok d T => exact ⟨m, ρ, S, .ok d T, s, e, q, fun v m' H' le x s' rv => ⟨m', ρ, T, d, r, s', e.mono x le, rv, hf, p.on le x⟩⟩
end

/-! ### simple statements -/
def dPass : DS := fun ρ S => some (.next ρ S)
def dBrk : DS := fun ρ S => some (.brk ρ S)
def dCtn : DS := fun ρ S => some (.ctn ρ S)
def dSeq (f g : DS) : DS := fun ρ S => bN (f ρ S) g
def dRet (f : DE) : DS := fun ρ S => bS ρ (f ρ S) fun v S1 => some (.ret v S1)
def dRetN : DS := fun _ S => some (.ret .non S)
def dExpr (f : DE) : DS := fun ρ S => bS ρ (f ρ S) fun _ S1 => some (.next ρ S1)
def dIfS (c : DB) (f g : DS) : DS := fun ρ S => bS ρ (c ρ S) fun b S1 => if b = true then f ρ S1 else g ρ S1
def dSet (i : Nat) (f : DE) : DS := fun ρ S => bS ρ (f ρ S) fun v S1 => some (.next (ρ.set i (some v)) S1)
section
variable {X : Cx} {W : WX} {pos : Pos} {e : Expr} {fe : DE} {f g : DS} {st : Stmt} {sts : List Stmt}
theorem EnR.set {K : PySem.W.Frag} {H : Hp} {m : Nat → Addr} {n i : Nat} {ρ : En} {σ : L2.St} {d : PV} {v : V} (h : EnR K H m n ρ σ) (r : Rp K H m n d v) : EnR K H m n (ρ.set i (some d)) (σ.set i (some v)) := by
  refine ⟨by rw [List.length_set, List.length_set]; exact h.len, fun j w e => ?_⟩
  by_cases hj : i = j
  · subst hj
    by_cases hl : i < ρ.length
    · rw [List.getElem?_set_self hl] at e
      cases e
      exact ⟨v, by rw [List.getElem?_set_self (h.len ▸ hl)], r⟩
    · rw [List.set_eq_of_length_le (by omega)] at e
      exact absurd (List.getElem?_eq_some_iff.mp e).1 hl
  · rw [List.getElem?_set_ne hj] at e
    rw [List.getElem?_set_ne hj]
    exact h.at_ j w e
theorem EnR.unset {K : PySem.W.Frag} {H : Hp} {m : Nat → Addr} {n : Nat} {ρ : En} {σ : L2.St} {o : Option V} (i : Nat) (h : EnR K H m n ρ σ) (ho : o = none ∨ σ.set i o = σ ∨ True) : EnR K H m n (ρ.set i none) σ := by
  refine ⟨by rw [List.length_set]; exact h.len, fun j w e => ?_⟩
  by_cases hj : i = j
  · subst hj
    by_cases hl : i < ρ.length
    · rw [List.getElem?_set_self hl] at e
      cases e
    · rw [List.set_eq_of_length_le (by omega)] at e
      exact h.at_ i w e
  · rw [List.getElem?_set_ne hj] at e
    exact h.at_ j w e
def killE (l : List Nat) (ρ : En) : En := l.foldl (fun ρ i => ρ.set i none) ρ
theorem EnR.kill {K : PySem.W.Frag} {H : Hp} {m : Nat → Addr} {n : Nat} {σ : L2.St} : ∀ (l : List Nat) {ρ : En}, EnR K H m n ρ σ → EnR K H m n (killE l ρ) σ
  | [], _, h => h
  | i :: l, ρ, h => EnR.kill l (ρ := ρ.set i none) (h.unset (o := none) i (.inl rfl))
theorem ds_pass : PSd X W (.Pass pos) dPass := ps_pass.imp fun D σ H h => by
  obtain ⟨m, ρ, S, r, s, e, hf, p⟩ := h
  cases hf
  exact p σ m H (Nat.le_refl _) Ext.refl s e
theorem ds_brk : PSd X W (.Break pos) dBrk := ps_break.imp fun D σ H h => by
  obtain ⟨m, ρ, S, r, s, e, hf, p⟩ := h
  cases hf
  exact p σ m H (Nat.le_refl _) Ext.refl s e
theorem ds_ctn : PSd X W (.Continue pos) dCtn := ps_continue.imp fun D σ H h => by
  obtain ⟨m, ρ, S, r, s, e, hf, p⟩ := h
  cases hf
  exact p σ m H (Nat.le_refl _) Ext.refl s e
theorem ds_expr (h : PEd X W e fe) (hs : swapsWith e none pos.line X.env = pure false := by rfl) : PSd X W (.Expr e pos) (dExpr fe) := (ps_expr h hs).imp fun D σ H h =>
  (bindS (ra := rE X.K) h).mono fun v H1 ⟨m, ρ, S, d, r, s, en, r1, hk, p⟩ => by
    cases hk
    exact p σ m H1 (Nat.le_refl _) Ext.refl s en
theorem ds_ret (h : PEd X W e fe) : PSd X W (.Return (some e) pos) (dRet fe) := (ps_ret h).imp fun D σ H h =>
  (bindS (ra := rE X.K) h).mono fun v H1 ⟨m, ρ, S, d, r, s, en, r1, hk, p⟩ => by
    cases hk
    exact p v m H1 (Nat.le_refl _) Ext.refl s r1
theorem ds_retN : PSd X W (.Return none pos) dRetN := ps_retN.imp fun D σ H h => by
  obtain ⟨m, ρ, S, r, s, e, hf, p⟩ := h
  cases hf
  exact p .non m H (Nat.le_refl _) Ext.refl s .non
theorem ds_if {c : Expr} {a b : List Stmt} {fc : DB} (hc : PTd X W c fc) (ha : PSsd X W a f) (hb : PSsd X W b g) : PSd X W (.If c a b pos) (dIfS fc f g) := (ps_if hc ha hb).imp fun D σ H h =>
  (bindS (ra := rB) h).mono fun v H1 ⟨m, ρ, S, d, r, s, en, r1, hk, p⟩ => by
    cases r1
    cases v with
    | true => exact ⟨m, ρ, S, r, s, en, hk, p⟩
    | false => exact ⟨m, ρ, S, r, s, en, hk, p⟩
theorem dss_nil : PSsd X W [] dPass := pss_nil.imp fun D σ H h => by
  obtain ⟨m, ρ, S, r, s, e, hf, p⟩ := h
  cases hf
  exact p σ m H (Nat.le_refl _) Ext.refl s e
theorem dss_one (h : PSd X W st f) : PSsd X W [st] f := pss_one h
theorem dss_cons (h : PSd X W st f) (h2 : PSsd X W sts g) : PSsd X W (st :: sts) (dSeq f g) := (pss_cons h h2).imp fun D σ H h => by
  obtain ⟨m, ρ, S, r, s, e, hf, p⟩ := h
  have hf : bN (f ρ S) g = some r := hf
  show tS X.K X.mg W f { D with nx := tS X.K X.mg W g D } σ H
  cases q : f ρ S with
  | none => rw [q] at hf; cases hf
  | some z =>
    rw [q] at hf
    refine ⟨m, ρ, S, z, s, e, q, ?_⟩
    cases z with
    | next ρ' S' => exact fun σ' m' H' le x s' e' => ⟨m', ρ', S', r, s', e', hf, p.on le x⟩
    | ret v S' => cases hf; exact p
    | brk ρ' S' => cases hf; exact p
    | ctn ρ' S' => cases hf; exact p
    | exc x ρ' S' => cases hf; exact p
theorem ds_set (i : Nat) {x : Str} {pos' : Pos} (hN : X.N.Nodup) (hi : X.N[i]? = some x) (hx : Loc X.env.scope x) (he : PEd X W e fe) (hs : swapsWith e (some (.Name x pos')) pos.line X.env = pure false := by rfl)
    (hf : X.fn x = true ∨ X.env.scope.names.lookup x = some .local := by first | exact .inl rfl | exact .inr rfl | assumption) : PSd X W (.Assign [.Name x pos'] e pos) (dSet i fe) := (ps_set hN hi hx he hs hf).imp fun D σ H h =>
  (bindS (ra := rE X.K) h).mono fun v H1 ⟨m, ρ, S, d, r, s, en, r1, hk, p⟩ => by
    cases hk
    exact p _ m H1 (Nat.le_refl _) Ext.refl s (en.set r1)
end

/-! ### targets -/
abbrev DG := PV → En → Sto → Option (En × Sto)
abbrev DGs := List PV → En → Sto → Option (En × Sto)
def tGt (K : PySem.W.Frag) (mg : Str → Option Value) (g : DG) : TG := fun v σ H Q => ∃ m ρ S d ρ' S', StS K mg m S H ∧ EnR K H m S.length ρ σ ∧ Rp K H m S.length d v ∧ g d ρ S = some (ρ', S') ∧
  ∀ σ' m' H', S.length ≤ S'.length → Ext K S.length m H m' H' → StS K mg m' S' H' → EnR K H' m' S'.length ρ' σ' → Q σ' H'
def tGts (K : PySem.W.Frag) (mg : Str → Option Value) (g : DGs) : TGs := fun v σ H Q => ∃ m ρ S d ρ' S', StS K mg m S H ∧ EnR K H m S.length ρ σ ∧ RpL K H m S.length d v ∧ g d ρ S = some (ρ', S') ∧
  ∀ σ' m' H', S.length ≤ S'.length → Ext K S.length m H m' H' → StS K mg m' S' H' → EnR K H' m' S'.length ρ' σ' → Q σ' H'
theorem _root_.L2.PG.imp {X : Cx} {e : Expr} {t t' : TG} (h : PG X e t) (i : ∀ v σ H Q, t' v σ H Q → t v σ H Q) : PG X e t' := ⟨fun pins s σ H v u Q I r q => h.run pins s σ H v u Q I r (i _ _ _ _ q)⟩
theorem _root_.L2.PGs.imp {X : Cx} {e : List Expr} {t t' : TGs} (h : PGs X e t) (i : ∀ v σ H Q, t' v σ H Q → t v σ H Q) : PGs X e t' := ⟨fun pins s σ H v u Q I r q => h.run pins s σ H v u Q I r (i _ _ _ _ q)⟩
abbrev PGd (X : Cx) (e : Expr) (g : DG) : Prop := PG X e (tGt X.K X.mg g)
abbrev PGsd (X : Cx) (e : List Expr) (g : DGs) : Prop := PGs X e (tGts X.K X.mg g)
def gN (i : Nat) : DG := fun v ρ S => some (ρ.set i (some v), S)
def gsNil : DGs := fun l ρ S => match l with
  | [] => some (ρ, S)
  | _ => none
def gsCons (g : DG) (h : DGs) : DGs := fun l ρ S => match l with
  | v :: r => match g v ρ S with
    | some (ρ1, S1) => h r ρ1 S1
    | none => none
  | [] => none
/-- a tuple's or a list's items -/
def itemsP (v : PV) (S : Sto) : Option (List PV) := match v with
  | .tup l => some l
  | .loc k => match S[k]? with
    | some (.lst l) => some l
    | some (.fz l) => some l
    | _ => none
  | _ => none
def gT (n : Nat) (h : DGs) : DG := fun v ρ S => match v with
  | .tup l => if l.length = n then h l ρ S else none
  | _ => none
section
variable {X : Cx} {W : WX} {pos : Pos} {e : Expr} {es : List Expr} {g : DG} {h : DGs}
theorem dg_n (i : Nat) {x : Str} (hN : X.N.Nodup) (hi : X.N[i]? = some x) (hx : Loc X.env.scope x) (hf : X.fn x = true ∨ X.env.scope.names.lookup x = some .local := by first | exact .inl rfl | exact .inr rfl | assumption) : PGd X (.Name x pos) (gN i) :=
  (pg_name hN hi hx hf).imp fun v σ H Q h => by
    obtain ⟨m, ρ, S, d, ρ', S', s, e, r, hk, p⟩ := h
    cases hk
    exact p _ m H (Nat.le_refl _) Ext.refl s (e.set r)
theorem dgs_nil : PGsd X [] gsNil := pgs_nil.imp fun v σ H Q h => by
  obtain ⟨m, ρ, S, d, ρ', S', s, e, r, hk, p⟩ := h
  cases r with
  | nil =>
    cases hk
    exact ⟨rfl, p _ m H (Nat.le_refl _) Ext.refl s e⟩
  | cons a b => cases hk
theorem dgs_cons (h1 : PGd X e g) (h2 : PGsd X es h) (hs : (assignEach (e :: es) X.env).map (·.2) = assign e X.env :: (assignEach es X.env).map (·.2) := by rfl) : PGsd X (e :: es) (gsCons g h) := (pgs_cons h1 h2 hs).imp fun v σ H Q h => by
  obtain ⟨m, ρ, S, d, ρ', S', s, e, r, hk, p⟩ := h
  cases r with
  | nil => cases hk
  | @cons d v ds vs a b =>
    unfold gsCons at hk
    dsimp only at hk
    split at hk
    · rename_i ρ1 S1 q
      refine ⟨v, vs, rfl, m, ρ, S, d, ρ1, S1, s, e, a, q, fun σ' m' H' le x s' e' => ?_⟩
      exact ⟨m', ρ1, S1, ds, ρ', S', s', e', b.mono x le, hk, fun σ2 m2 H2 le2 x2 s2 e2 => p σ2 m2 H2 (Nat.le_trans le le2) (x.trans x2 le) s2 e2⟩
    · cases hk
theorem dg_t {k n : Nat} (hc : X.calm = true) (h1 : PGsd X es h) (hn : (assignEach es X.env).length = n := by rfl) (hst : (assignEach es X.env).findIdx? (·.1) = none := by rfl) : PGd X (.Tuple es k pos) (gT n h) := (pg_tup hc h1 hn hst).imp fun v σ H Q h => by
  obtain ⟨m, ρ, S, d, ρ', S', s, e, r, hk, p⟩ := h
  unfold gT at hk
  cases r <;> dsimp only at hk <;> try cases hk
  rename_i l a xs hs hl
  split at hk
  · rename_i hn
    exact ⟨a, xs, rfl, hs, by rw [← hl.length]; exact hn, m, ρ, S, l, ρ', S', s, e, hl, hk, p⟩
  · cases hk
/-- a target is given a value -/
def dAsg (g : DG) (f : DE) : DS := fun ρ S => bS ρ (f ρ S) fun v S1 => match g v ρ S1 with
  | some (ρ', S') => some (.next ρ' S')
  | none => none
theorem ds_asg {tg : Expr} {fe : DE} (he : PEd X W e fe) (hg : PGd X tg g) (hs : swapsWithSole [tg] e pos.line X.env = pure false := by rfl) (hw : swappedStores [tg] e X.env = pure none := by rfl) (h1 : (assignEach [tg] X.env).map (·.2) = [assign tg X.env] := by rfl) : PSd X W (.Assign [tg] e pos) (dAsg g fe) :=
  (ps_asg he hg hs hw h1).imp fun D σ H h => (bindS (ra := rE X.K) h).mono fun v H1 ⟨m, ρ, S, d, r, s, en, r1, hk, p⟩ => by
    split at hk
    · rename_i ρ' S' q
      cases hk
      exact ⟨m, ρ, S, d, ρ', S', s, en, r1, q, p⟩
    · cases hk
end

/-! ### what a for walks -/
structure Src where
  items : List PV
  keep : List (Nat × PO)
def Kept (l : List (Nat × PO)) (S : Sto) : Prop := ∀ p ∈ l, S[p.1]? = some p.2
structure ItOk (K : PySem.W.Frag) (mg : Str → Option Value) (J : It) (src : Src) (n : Nat) (m : Nat → Addr) (H : Hp) : Prop where
  go : ∀ (i : Nat) (d : PV) (m' : Nat → Addr) (S : Sto) (H' : Hp), n ≤ S.length → Ext K n m H m' H' → StS K mg m' S H' → Kept src.keep S → src.items[i]? = some d →
    J.go i H' ∧ ∀ x H2, J.yld i H' x H2 → ∃ m2, Ext K S.length m' H' m2 H2 ∧ StS K mg m2 S H2 ∧ Rp K H2 m2 S.length d x
  stop : ∀ (m' : Nat → Addr) (S : Sto) (H' : Hp), n ≤ S.length → Ext K n m H m' H' → StS K mg m' S H' → Kept src.keep S → J.stop src.items.length H'
def rItr (K : PySem.W.Frag) (mg : Str → Option Value) : Rel Src It := fun H m n d J => ItOk K mg J d n m H
theorem keeps_I {K : PySem.W.Frag} {mg : Str → Option Value} : Keeps K (rItr K mg) := fun H m n H' m' n' d v e h r =>
  ⟨fun i d' m2 S H2 le x => r.go i d' m2 S H2 (Nat.le_trans h le) (e.trans x h), fun m2 S H2 le x => r.stop m2 S H2 (Nat.le_trans h le) (e.trans x h)⟩
abbrev DI := En → Sto → Option (R Src)
abbrev PId (X : Cx) (W : WX) (tg iter : Expr) (f : DI) : Prop := PI X tg iter (tG X.K X.mg (rItr X.K X.mg) W f)
theorem _root_.L2.PI.imp {X : Cx} {tg e : Expr} {t t' : TI} (h : PI X tg e t) (i : ∀ σ H Q, t' σ H Q → t σ H Q) : PI X tg e t' := ⟨fun pins s σ H Q I q => h.run pins s σ H Q I (i _ _ _ q)⟩

open Classical in
noncomputable def forL (g : DG) (kill : List Nat) (body : DS) (keep : List (Nat × PO)) : List PV → DS
  | [], ρ, S => if Kept keep S then some (.next ρ S) else none
  | x :: xs, ρ, S => if Kept keep S then match g x ρ S with
    | some (ρ1, S1) => match body ρ1 S1 with
      | some (.next ρ2 S2) => forL g kill body keep xs (killE kill ρ2) S2
      | some (.ctn ρ2 S2) => forL g kill body keep xs (killE kill ρ2) S2
      | some (.brk ρ2 S2) => some (.next (killE kill ρ2) S2)
      | r => r
    | none => none else none
noncomputable def dFor (it : DI) (g : DG) (kill : List Nat) (body : DS) : DS := fun ρ S => bS ρ (it ρ S) fun src S1 => forL g kill body src.keep src.items (killE kill ρ) S1
theorem ds_for {X : Cx} {W : WX} {pos : Pos} {tg iter : Expr} {body : List Stmt} {it : DI} {g : DG} {f : DS} (kill : List Nat) (hp : PassesOwn (model X.prog X.w) X.A X.env X.xe) (hc : X.calm = true) (hi : PId X W tg iter it) (hg : PGd X tg g) (hb : PSsd X W body f)
    (hs : ∀ x, foldedSetIterable iter X.env x = pure x := by intro _; rfl) : PSd X W (.For tg iter body [] pos) (dFor it g kill f) := (ps_for hp hc hi hg hb hs).imp fun D σ H h => by
  refine (bindS (ra := rItr X.K X.mg) h).mono fun J H0 ⟨m0, ρ0, S0, src, r0, s0, e0, ok, hk, p0⟩ => ?_
  refine ⟨fun i c σ H => c = src.items.length - i ∧ i ≤ src.items.length ∧ ∃ m ρ S r, StS X.K X.mg m S H ∧ EnR X.K H m S.length ρ σ ∧ S0.length ≤ S.length ∧ Ext X.K S0.length m0 H0 m H ∧ forL g kill f src.keep (src.items.drop i) ρ S = some r ∧ PostS X.K X.mg W m S H r D,
    ⟨src.items.length, rfl, Nat.zero_le _, m0, _, S0, r0, s0, e0.kill kill, Nat.le_refl _, Ext.refl, hk, p0⟩, ?_⟩
  rintro i c σ H ⟨rfl, hi, m, ρ, S, r, s, e, le, x, hf, p⟩
  by_cases hlt : i < src.items.length
  · have ed : src.items.drop i = src.items[i] :: src.items.drop (i + 1) := List.drop_eq_getElem_cons hlt
    rw [ed] at hf
    unfold forL at hf
    split at hf
    · rename_i kp
      obtain ⟨go, yl⟩ := ok.go i src.items[i] m S H le x s kp (List.getElem?_eq_getElem hlt)
      split at hf
      · rename_i ρ1 S1 hg1
        refine .inr ⟨go, fun σ' H' => ∃ m' ρ' S', StS X.K X.mg m' S' H' ∧ EnR X.K H' m' S'.length ρ' σ' ∧ S0.length ≤ S'.length ∧ Ext X.K S0.length m0 H0 m' H' ∧ forL g kill f src.keep (src.items.drop (i + 1)) ρ' S' = some r ∧ PostS X.K X.mg W m' S' H' r D, ?_, fun y H2 hy => ?_⟩
        · rintro σ' H' ⟨m', ρ', S', s', e', le', x', hf', p'⟩
          exact ⟨src.items.length - (i + 1), by omega, rfl, hlt, m', ρ', S', r, s', e', le', x', hf', p'⟩
        · obtain ⟨m2, x2, s2, r2⟩ := yl y H2 hy
          refine ⟨m2, ρ, S, _, ρ1, S1, s2, e.mono x2 (Nat.le_refl _), r2, hg1, fun σ3 m3 H3 le3 x3 s3 e3 => ?_⟩
          have le03 : S0.length ≤ S1.length := Nat.le_trans le le3
          have x03 : Ext X.K S.length m H m3 H3 := x2.trans x3 (Nat.le_refl _)
          cases q : f ρ1 S1 with
          | none => rw [q] at hf; cases hf
          | some z =>
            rw [q] at hf
            refine ⟨m3, ρ1, S1, z, s3, e3, q, ?_⟩
            cases z with
            | next ρ4 S4 =>
              intro σ4 m4 H4 le4 x4 s4 e4
              have x04 := x03.trans x4 le3
              exact ⟨m4, killE kill ρ4, S4, s4, e4.kill kill, Nat.le_trans le03 le4, x.trans x04 le, hf, p.on (Nat.le_trans le3 le4) x04⟩
            | ctn ρ4 S4 =>
              intro σ4 m4 H4 le4 x4 s4 e4
              have x04 := x03.trans x4 le3
              exact ⟨m4, killE kill ρ4, S4, s4, e4.kill kill, Nat.le_trans le03 le4, x.trans x04 le, hf, p.on (Nat.le_trans le3 le4) x04⟩
            | brk ρ4 S4 =>
              cases hf
              exact fun σ4 m4 H4 le4 x4 s4 e4 => p σ4 m4 H4 (Nat.le_trans le3 le4) (x03.trans x4 le3) s4 (e4.kill kill)
            | ret v S4 =>
              cases hf
              exact fun v m4 H4 le4 x4 => p v m4 H4 (Nat.le_trans le3 le4) (x03.trans x4 le3)
            | exc ex ρ4 S4 =>
              cases hf
              exact fun cls dd σ4 m4 H4 le4 x4 => p cls dd σ4 m4 H4 (Nat.le_trans le3 le4) (x03.trans x4 le3)
      · cases hf
    · cases hf
  · have ei : i = src.items.length := by omega
    subst ei
    rw [List.drop_length] at hf
    unfold forL at hf
    split at hf
    · rename_i kp
      cases hf
      exact .inl ⟨ok.stop m S H le x s kp, p σ m H (Nat.le_refl _) Ext.refl s e⟩
    · cases hf

/-! ### while -/
def whN (c : DB) (kill : List Nat) (body : DS) : Nat → DS
  | 0, _, _ => none
  | n + 1, ρ, S => bS ρ (c ρ S) fun b S1 => if b = true then match body ρ S1 with
      | some (.next ρ2 S2) => whN c kill body n (killE kill ρ2) S2
      | some (.ctn ρ2 S2) => whN c kill body n (killE kill ρ2) S2
      | some (.brk ρ2 S2) => some (.next (killE kill ρ2) S2)
      | r => r
    else some (.next ρ S1)
open Classical in
noncomputable def dWhile (c : DB) (kill : List Nat) (body : DS) : DS := fun ρ S =>
  if h : ∃ n, (whN c kill body n (killE kill ρ) S).isSome = true then whN c kill body h.choose (killE kill ρ) S else none
theorem whN_mono {c : DB} {kill : List Nat} {body : DS} : ∀ {n k : Nat} {ρ : En} {S : Sto} {r : RS}, n ≤ k → whN c kill body n ρ S = some r → whN c kill body k ρ S = some r := by
  intro n
  induction n with
  | zero => intro k ρ S r _ h; cases h
  | succ n ih =>
    intro k ρ S r hk h
    obtain ⟨k, rfl⟩ : ∃ k', k = k' + 1 := ⟨k - 1, by omega⟩
    have hk : n ≤ k := by omega
    unfold whN at h ⊢
    cases q : c ρ S with
    | none => rw [q] at h; cases h
    | some z =>
      rw [q] at h
      cases z with
      | exc e T => exact h
      | ok b T =>
        unfold bS at h ⊢
        dsimp only at h ⊢
        cases b with
        | false => exact h
        | true =>
          rw [if_pos rfl] at h ⊢
          cases q2 : body ρ T with
          | none => rw [q2] at h; cases h
          | some z2 =>
            rw [q2] at h
            cases z2 with
            | next ρ2 S2 => exact ih hk h
            | ctn ρ2 S2 => exact ih hk h
            | brk ρ2 S2 => exact h
            | ret v S2 => exact h
            | exc e ρ2 S2 => exact h
theorem dWhile_eq {c : DB} {kill : List Nat} {body : DS} {n : Nat} {ρ : En} {S : Sto} {r : RS} (h : whN c kill body n (killE kill ρ) S = some r) : dWhile c kill body ρ S = some r := by
  unfold dWhile
  have hx : ∃ n, (whN c kill body n (killE kill ρ) S).isSome = true := ⟨n, by rw [h]; rfl⟩
  rw [dif_pos hx]
  have h2 := hx.choose_spec
  cases q : whN c kill body hx.choose (killE kill ρ) S with
  | none => rw [q] at h2; cases h2
  | some z =>
    rcases Nat.le_total n hx.choose with hl | hl
    · rw [whN_mono hl h] at q; exact q.symm
    · rw [whN_mono hl q] at h; exact h
theorem ds_while {X : Cx} {W : WX} {pos : Pos} {c : Expr} {body : List Stmt} {fc : DB} {f : DS} (kill : List Nat) (hp : PassesOwn (model X.prog X.w) X.A X.env X.xe) (hc : PTd X W c fc) (hb : PSsd X W body f) : PSd X W (.While c body [] pos) (dWhile fc kill f) :=
  (ps_while hp hc hb).imp fun D σ H h => by
  obtain ⟨m0, ρ0, S0, r0, s0, e0, hf0, p0⟩ := h
  unfold dWhile at hf0
  split at hf0
  · refine ⟨fun n σ H => ∃ m ρ S r, StS X.K X.mg m S H ∧ EnR X.K H m S.length ρ σ ∧ whN fc kill f n ρ S = some r ∧ PostS X.K X.mg W m S H r D, ⟨_, m0, _, S0, r0, s0, e0.kill kill, hf0, p0⟩, ?_⟩
    rintro n σ H ⟨m, ρ, S, r, s, e, hf, p⟩
    cases n with
    | zero => cases hf
    | succ n =>
      refine (bindS (ra := rB) (f := fc) (k := fun ρ b S1 => if b = true then match f ρ S1 with
        | some (.next ρ2 S2) => whN fc kill f n (killE kill ρ2) S2
        | some (.ctn ρ2 S2) => whN fc kill f n (killE kill ρ2) S2
        | some (.brk ρ2 S2) => some (.next (killE kill ρ2) S2)
        | r => r
        else some (.next ρ S1)) ⟨m, ρ, S, r, s, e, hf, p⟩).mono fun b H1 ⟨m1, ρ1, S1, d, r1, s1, e1, rb, hk, p1⟩ => ?_
      cases rb
      cases b with
      | false =>
        cases hk
        exact p1 σ m1 H1 (Nat.le_refl _) Ext.refl s1 e1
      | true =>
        rw [if_pos rfl] at hk ⊢
        refine ⟨fun σ' H' => ∃ m' ρ' S', StS X.K X.mg m' S' H' ∧ EnR X.K H' m' S'.length ρ' σ' ∧ whN fc kill f n ρ' S' = some r1 ∧ PostS X.K X.mg W m' S' H' r1 D, fun σ' H' ⟨m', ρ', S', s', e', h', p'⟩ => ⟨n, Nat.lt_succ_self n, m', ρ', S', r1, s', e', h', p'⟩, ?_⟩
        cases q : f ρ1 S1 with
        | none => rw [q] at hk; cases hk
        | some z =>
          rw [q] at hk
          refine ⟨m1, ρ1, S1, z, s1, e1, q, ?_⟩
          cases z with
          | next ρ4 S4 => exact fun σ4 m4 H4 le4 x4 s4 e4 => ⟨m4, killE kill ρ4, S4, s4, e4.kill kill, hk, p1.on le4 x4⟩
          | ctn ρ4 S4 => exact fun σ4 m4 H4 le4 x4 s4 e4 => ⟨m4, killE kill ρ4, S4, s4, e4.kill kill, hk, p1.on le4 x4⟩
          | brk ρ4 S4 =>
            cases hk
            exact fun σ4 m4 H4 le4 x4 s4 e4 => p1 σ4 m4 H4 le4 x4 s4 (e4.kill kill)
          | ret v S4 =>
            cases hk
            exact p1
          | exc ex ρ4 S4 =>
            cases hk
            exact p1
  · cases hf0
end D

/-! D3: defs, calls, what is let go behind a call. -/
namespace D
open PySem PySem.Spec PyProof.Rows L2

mutual
def noLoc : PV → Bool
  | .tup l => noLocs l
  | .loc _ => false
  | .non => true
  | .bl _ => true
  | .int _ => true
  | .str _ => true
  | .ty _ => true
  | .xc _ _ _ => true
def noLocs : List PV → Bool
  | [] => true
  | d :: ds => noLoc d && noLocs ds
end
mutual
def bd (n : Nat) : PV → Prop
  | .tup l => bds n l
  | .loc k => k < n
  | .non => True
  | .bl _ => True
  | .int _ => True
  | .str _ => True
  | .ty _ => True
  | .xc _ _ _ => True
def bds (n : Nat) : List PV → Prop
  | [] => True
  | d :: ds => bd n d ∧ bds n ds
end
mutual
theorem bd_noLoc (n : Nat) : ∀ d : PV, noLoc d = true → bd n d
  | .tup l, h => bds_noLoc n l h
  | .loc _, h => nomatch h
  | .non, _ => trivial
  | .bl _, _ => trivial
  | .int _, _ => trivial
  | .str _, _ => trivial
  | .ty _, _ => trivial
  | .xc _ _ _, _ => trivial
theorem bds_noLoc (n : Nat) : ∀ d : List PV, noLocs d = true → bds n d
  | [], _ => trivial
  | d :: ds, h => by
    have h2 : (noLoc d && noLocs ds) = true := h
    rw [Bool.and_eq_true] at h2
    exact ⟨bd_noLoc n d h2.1, bds_noLoc n ds h2.2⟩
end
section
variable {K : PySem.W.Frag} {mg : Str → Option Value} {H H' : Hp} {m m' : Nat → Addr} {n n' : Nat}
mutual
theorem Rp.bd : ∀ {d : PV} {v : V}, Rp K H m n d v → bd n d
  | _, _, .non => trivial
  | _, _, .bl _ => trivial
  | _, _, .int _ => trivial
  | _, _, .str _ => trivial
  | _, _, .ty _ => trivial
  | _, _, .xc _ => trivial
  | _, _, .tup _ r => RpL.bd r
  | _, _, .loc h => h
theorem RpL.bd : ∀ {d : List PV} {v : List V}, RpL K H m n d v → bds n d
  | _, _, .nil => trivial
  | _, _, .cons a r => ⟨Rp.bd a, RpL.bd r⟩
end
mutual
theorem Rp.cut : ∀ {d : PV} {v : V}, Rp K H m n' d v → D.bd n d → Rp K H m n d v
  | _, _, .non, _ => .non
  | _, _, .bl b, _ => .bl b
  | _, _, .int i, _ => .int i
  | _, _, .str s, _ => .str s
  | _, _, .ty s, _ => .ty s
  | _, _, .xc h, _ => .xc h
  | _, _, .tup s r, h => .tup s (RpL.cut r h)
  | _, _, .loc _, h => .loc h
theorem RpL.cut : ∀ {d : List PV} {v : List V}, RpL K H m n' d v → bds n d → RpL K H m n d v
  | _, _, .nil, _ => .nil
  | _, _, .cons a r, h => .cons (Rp.cut a h.1) (RpL.cut r h.2)
end
def bdO (n : Nat) : PO → Prop
  | .lst l => bds n l
  | .fz l => bds n l
  | .dct _ kvs => ∀ p ∈ kvs, D.bd n p.2
  | .fd kvs => ∀ p ∈ kvs, D.bd n p.2
  | .ins _ fs => ∀ p ∈ fs, D.bd n p.2
theorem paired_mem {α β : Type} {F : α → β → Prop} : ∀ {l₁ : List α} {l₂ : List β} {a : α}, Paired F l₁ l₂ → a ∈ l₁ → ∃ b, F a b
  | _, _, a, .cons r t, h => by
    rcases List.mem_cons.mp h with rfl | h
    · exact ⟨_, r⟩
    · exact paired_mem t h
theorem paired_impM {α β : Type} {F G : α → β → Prop} : ∀ {l₁ : List α} {l₂ : List β}, (∀ a ∈ l₁, ∀ b, F a b → G a b) → Paired F l₁ l₂ → Paired G l₁ l₂
  | _, _, _, .nil => .nil
  | _, _, f, .cons r t => .cons (f _ List.mem_cons_self _ r) (paired_impM (fun a h b => f a (List.mem_cons_of_mem _ h) b) t)
theorem Ro.bd {po : PO} {a : Addr} (h : Ro K mg H m n po a) : bdO n po := by
  cases po with
  | lst l => obtain ⟨xs, _, r⟩ := h; exact r.bd
  | fz l => obtain ⟨xs, _, r⟩ := h; exact r.bd
  | dct t l =>
    rcases h with ⟨_, xs, _, r⟩ | ⟨_, xs, _, r⟩
    · exact fun p hp => let ⟨b, q⟩ := paired_mem r hp; q.2.bd
    · exact fun p hp => let ⟨b, q⟩ := paired_mem r hp; q.2.bd
  | fd l => obtain ⟨o, kv, _, r⟩ := h; exact fun p hp => let ⟨b, q⟩ := paired_mem r hp; q.2.bd
  | ins c fs => obtain ⟨C, dx, fv, _, _, r⟩ := h; exact fun p hp => let ⟨b, q⟩ := paired_mem r hp; q.2.bd
theorem Ro.cut {po : PO} {a : Addr} (h : Ro K mg H m n' po a) (b : bdO n po) : Ro K mg H m n po a := by
  cases po with
  | lst l => obtain ⟨xs, h1, r⟩ := h; exact ⟨xs, h1, r.cut b⟩
  | fz l => obtain ⟨xs, h1, r⟩ := h; exact ⟨xs, h1, r.cut b⟩
  | dct t l =>
    rcases h with ⟨ht, xs, h1, r⟩ | ⟨ht, xs, h1, r⟩
    · exact .inl ⟨ht, xs, h1, paired_impM (fun p hp q z => ⟨z.1, z.2.cut (b p hp)⟩) r⟩
    · exact .inr ⟨ht, xs, h1, paired_impM (fun p hp q z => ⟨z.1, z.2.cut (b p hp)⟩) r⟩
  | fd l => obtain ⟨o, kv, h1, r⟩ := h; exact ⟨o, kv, h1, paired_impM (fun p hp q z => ⟨z.1, z.2.cut (b p hp)⟩) r⟩
  | ins c fs => obtain ⟨C, dx, fv, h1, h2, r⟩ := h; exact ⟨C, dx, fv, h1, h2, paired_impM (fun p hp q z => ⟨z.1, z.2.cut (b p hp)⟩) r⟩
theorem Ro.to {po : PO} {a : Addr} (e : Ext K n m H m' H') (h : Ro K mg H' m n po a) : Ro K mg H' m' n po a :=
  h.mono ⟨⟨e.mp, fun _ _ q => q, fun _ _ q => q⟩, fun _ _ _ q => q⟩ (Nat.le_refl _)
end

/-! ### what a call leaves -/
/-- of S: what is other than in S speaks of what was in S alone -/
def Cl (S S' : Sto) : Prop := ∀ k o, k < S.length → S'[k]? = some o → S[k]? = some o ∨ bdO S.length o
open Classical in
noncomputable def gc2 (S S' : Sto) : Sto := if Cl S S' then S'.take S.length else S'
open Classical in
noncomputable def gcE (S : Sto) : RE → RE
  | .ok v S' => if S'.take S.length = S then (if noLoc v = true then .ok v S else match v with
    | .loc k => match S'[k]? with
      | some (.lst l) => if S.length ≤ k ∧ noLocs l = true then .ok (.loc S.length) (S ++ [.lst l]) else .ok v S'
      | _ => .ok v S'
    | _ => .ok v S') else if noLoc v = true then .ok v (gc2 S S') else .ok v S'
  | .exc e S' => if S'.take S.length = S ∧ e.fs.all (fun p => noLoc p.2) = true then .exc e S else .exc e S'

section
variable {K : PySem.W.Frag} {mg : Str → Option Value} {H H' : Hp} {m m' : Nat → Addr} {S S' : Sto} {W : WX} {σ : L2.St} {Q : VK}
theorem take_get {k : Nat} {o : PO} (ht : S'.take S.length = S) (h : S[k]? = some o) : S'[k]? = some o := by
  have q : (S'.take S.length)[k]? = some o := by rw [ht]; exact h
  rw [List.getElem?_take] at q
  split at q
  · exact q
  · cases q
/-- the store of the beginning, at the end -/
theorem StS.back (s : StS K mg m S H) (s' : StS K mg m' S' H') (x : Ext K S.length m H m' H') (ht : S'.take S.length = S) : StS K mg m' S H' := by
  refine ⟨fun k o e => (s'.obj k o (take_get ht e)).cut (s.obj k o e).bd, fun j k oj ok ej ek => s'.inj j k oj ok (take_get ht ej) (take_get ht ek)⟩
theorem StS.cutT (s : StS K mg m S H) (s' : StS K mg m' S' H') (le : S.length ≤ S'.length) (hb : Cl S S') : StS K mg m' (S'.take S.length) H' := by
  have hl : (S'.take S.length).length = S.length := by rw [List.length_take]; exact Nat.min_eq_left le
  have old : ∀ (k : Nat) (o : PO), (S'.take S.length)[k]? = some o → k < S.length ∧ S'[k]? = some o := fun k o e => by
    rw [List.getElem?_take] at e
    split at e
    · rename_i h; exact ⟨h, e⟩
    · cases e
  refine ⟨fun k o e => ?_, fun j k oj ok ej ek => s'.inj j k oj ok (old _ _ ej).2 (old _ _ ek).2⟩
  rw [hl]
  obtain ⟨h1, h2⟩ := old k o e
  rcases hb k o h1 h2 with h | h
  · exact (s'.obj k o h2).cut (s.obj k o h).bd
  · exact (s'.obj k o h2).cut h
theorem gc_ok {r : RE} (s : StS K mg m S H) (p : PostG K mg (rE K) W σ m S H (gcE S r) Q) : PostG K mg (rE K) W σ m S H r Q := by
  cases r with
  | ok v S' =>
    intro x m' H' le ex s' rx
    have hpl : ∀ {r : RE}, gcE S (.ok v S') = r → PostG K mg (rE K) W σ m S H r Q := fun e => e ▸ p
    by_cases ht : S'.take S.length = S
    · have sb := s.back s' ex ht
      by_cases hn : noLoc v = true
      · exact (hpl (by unfold gcE; (try dsimp only); rw [if_pos ht, if_pos hn]) : PostG K mg (rE K) W σ m S H (.ok v S) Q) x m' H' (Nat.le_refl _) ex sb (Rp.cut rx (bd_noLoc _ _ hn))
      · cases rx with
        | @loc k hk =>
          cases q : S'[k]? with
          | none => exact (hpl (by unfold gcE; (try dsimp only); rw [if_pos ht, if_neg hn]; (try dsimp only); rw [q]) : PostG K mg (rE K) W σ m S H (.ok (.loc k) S') Q) _ m' H' le ex s' (.loc hk)
          | some o =>
            cases o with
            | lst l =>
              by_cases hc : S.length ≤ k ∧ noLocs l = true
              · have hp : PostG K mg (rE K) W σ m S H (.ok (.loc S.length) (S ++ [.lst l])) Q := hpl (by unfold gcE; (try dsimp only); rw [if_pos ht, if_neg hn]; (try dsimp only); rw [q]; (try dsimp only); rw [if_pos hc])
                obtain ⟨xs, h1, h2⟩ := s'.obj k _ q
                have em : Ext K S.length m' H' (mext m' S.length (m' k)) H' := ext_mext
                have st : StS K mg (mext m' S.length (m' k)) (S ++ [PO.lst l]) H' := by
                  refine ⟨fun j o e => ?_, fun i j oi oj ei ej mi mj e => ?_⟩
                  · rw [List.length_append, List.length_singleton]
                    rcases get_snoc e with ⟨hj, eo⟩ | ⟨hj, eo⟩
                    · rw [mext_lt hj]
                      exact (sb.obj j o eo).mono em (Nat.le_succ _)
                    · subst hj; subst eo
                      rw [mext_same]
                      exact ⟨xs, h1, (RpL.cut h2 (bds_noLoc S.length _ hc.2)).mono em (Nat.le_succ _)⟩
                  · rcases get_snoc ei with ⟨hi, fi⟩ | ⟨hi, fi⟩ <;> rcases get_snoc ej with ⟨hj, fj⟩ | ⟨hj, fj⟩
                    · rw [mext_lt hi, mext_lt hj] at e
                      exact sb.inj i j oi oj fi fj mi mj e
                    · subst hj; subst fj
                      rw [mext_lt hi, mext_same] at e
                      have := s'.inj i k oi _ (take_get ht fi) q mi mj e
                      omega
                    · subst hi; subst fi
                      rw [mext_same, mext_lt hj] at e
                      have := s'.inj k j _ oj q (take_get ht fj) mi mj e
                      omega
                    · omega
                have rr : Rp K H' (mext m' S.length (m' k)) (S ++ [PO.lst l]).length (.loc S.length) (.ref (mext m' S.length (m' k) S.length)) := .loc (by simp)
                rw [mext_same] at rr
                exact hp _ _ H' (by simp) (ex.trans em (Nat.le_refl _)) st rr
              · exact (hpl (by unfold gcE; (try dsimp only); rw [if_pos ht, if_neg hn]; (try dsimp only); rw [q]; (try dsimp only); rw [if_neg hc]) : PostG K mg (rE K) W σ m S H (.ok (.loc k) S') Q) _ m' H' le ex s' (.loc hk)
            | fz l => exact (hpl (by unfold gcE; (try dsimp only); rw [if_pos ht, if_neg hn]; (try dsimp only); rw [q]) : PostG K mg (rE K) W σ m S H (.ok (.loc k) S') Q) _ m' H' le ex s' (.loc hk)
            | dct t l => exact (hpl (by unfold gcE; (try dsimp only); rw [if_pos ht, if_neg hn]; (try dsimp only); rw [q]) : PostG K mg (rE K) W σ m S H (.ok (.loc k) S') Q) _ m' H' le ex s' (.loc hk)
            | ins c l => exact (hpl (by unfold gcE; (try dsimp only); rw [if_pos ht, if_neg hn]; (try dsimp only); rw [q]) : PostG K mg (rE K) W σ m S H (.ok (.loc k) S') Q) _ m' H' le ex s' (.loc hk)
            | fd l => exact (hpl (by unfold gcE; (try dsimp only); rw [if_pos ht, if_neg hn]; (try dsimp only); rw [q]) : PostG K mg (rE K) W σ m S H (.ok (.loc k) S') Q) _ m' H' le ex s' (.loc hk)
        | tup h1 h2 => exact (hpl (by unfold gcE; (try dsimp only); rw [if_pos ht, if_neg hn]) : PostG K mg (rE K) W σ m S H (.ok _ S') Q) _ m' H' le ex s' (.tup h1 h2)
        | non => exact absurd rfl hn
        | bl _ => exact absurd rfl hn
        | int _ => exact absurd rfl hn
        | str _ => exact absurd rfl hn
        | ty _ => exact absurd rfl hn
        | xc _ => exact absurd rfl hn
    · by_cases hn : noLoc v = true
      · have hp : PostG K mg (rE K) W σ m S H (.ok v (gc2 S S')) Q := hpl (by unfold gcE; (try dsimp only); rw [if_neg ht, if_pos hn])
        unfold gc2 at hp
        split at hp
        · rename_i hb
          have hl : (S'.take S.length).length = S.length := by rw [List.length_take]; exact Nat.min_eq_left le
          have st := s.cutT s' le hb
          refine hp x m' H' (by rw [hl]; exact Nat.le_refl _) ex st ?_
          rw [hl]
          exact Rp.cut rx (bd_noLoc _ _ hn)
        · exact hp x m' H' le ex s' rx
      · exact (hpl (by unfold gcE; (try dsimp only); rw [if_neg ht, if_neg hn]) : PostG K mg (rE K) W σ m S H (.ok v S') Q) x m' H' le ex s' rx
  | exc e S' =>
    intro cls dd m' H' le ex s' rx
    by_cases hc : S'.take S.length = S ∧ e.fs.all (fun p => noLoc p.2) = true
    · have hp : PostG K mg (rE K) W σ m S H (.exc e S) Q := by
        have : gcE S (.exc e S') = .exc e S := by unfold gcE; dsimp only; rw [if_pos hc]
        exact this ▸ p
      refine hp cls dd m' H' (Nat.le_refl _) ex (s.back s' ex hc.1) ?_
      obtain ⟨C, h1, h2, h3⟩ := rx
      refine ⟨C, h1, h2, ?_⟩
      rcases h3 with h3 | ⟨hne, d, fv, h3, h4, h5⟩
      · exact .inl h3
      · exact .inr ⟨hne, d, fv, h3, h4, paired_impM (fun p hp q z => ⟨z.1, z.2.cut (bd_noLoc _ _ (List.all_eq_true.mp hc.2 p hp))⟩) h5⟩
    · have hp : PostG K mg (rE K) W σ m S H (.exc e S') Q := by
        have : gcE S (.exc e S') = .exc e S' := by unfold gcE; (try dsimp only); rw [if_neg hc]
        exact this ▸ p
      exact hp cls dd m' H' le ex s' rx
end
/-- .. of an expression, at any place -/
noncomputable def dGc (f : DE) : DE := fun ρ S => (f ρ S).map (gcE S)
theorem de_gc {X : Cx} {W : WX} {e : Expr} {f : DE} (h : PEd X W e f) : PEd X W e (dGc f) := h.imp fun σ H Q h => by
  obtain ⟨m, ρ, S, r, s, e, hf, p⟩ := h
  have hf : (f ρ S).map (gcE S) = some r := hf
  cases q : f ρ S with
  | none => rw [q] at hf; cases hf
  | some z =>
    rw [q] at hf
    cases hf
    exact ⟨m, ρ, S, z, s, e, q, gc_ok s p⟩

/-! ### a def -/
noncomputable def dDef (k n : Nat) (body : DS) : DF := fun args S => if args.length = k then (match body (args.map some ++ List.replicate (n - k) none) S with
    | some (.ret v S') => some (gcE S (.ok v S'))
    | some (.next _ S') => some (gcE S (.ok .non S'))
    | some (.exc e _ S') => some (gcE S (.exc e S'))
    | _ => none) else none
/-- a def's promise -/
def spD (K : PySem.W.Frag) (mg : Str → Option Value) (k : Nat) (F : DF) : Sp := fun vs H Q E => vs.length = k ∧ ∃ m S args r, StS K mg m S H ∧ RpL K H m S.length args vs ∧ F args S = some r ∧ PostG K mg (rE K) (fun c d _ H => E c d H) [] m S H r Q
theorem envStart {K : PySem.W.Frag} {H : Hp} {m : Nat → Addr} {n : Nat} {N : List Str} {args : List PV} {vs : List V} (r : RpL K H m n args vs) (k : Nat) (hk : vs.length = k) : EnR K H m n (args.map some ++ List.replicate (N.length - k) none) (L2.start N vs) := by
  subst hk
  refine ⟨by simp [L2.start, r.length], fun i v e => ?_⟩
  have hl := r.length
  by_cases hi : i < args.length
  · rw [List.getElem?_append_left (by simpa using hi), List.getElem?_map] at e
    cases q : args[i]? with
    | none => rw [q] at e; cases e
    | some d =>
      rw [q] at e
      cases e
      obtain ⟨x, hx, rx⟩ := r.get q
      refine ⟨x, ?_, rx⟩
      unfold L2.start
      rw [List.getElem?_append_left (by rw [List.length_map]; omega), List.getElem?_map, hx]
      rfl
  · rw [List.getElem?_append_right (by simpa using hi), List.getElem?_replicate] at e
    split at e <;> cases e
section
variable {P : Program} {w : World} {K : PySem.W.Frag} {mg : Str → Option Value} {base : Heap}
theorem fn_d {x qual : Str} {st : Stmt} {f : Addr} {fd : FuncData} {N ps : List Str} {k : Nat} {body : DS} (F : Fun K x qual st f fd) (S : FnScope N ps (defScope st))
    (hb : ∀ (cdv : Value) (A : Around) (outer : List Env) (s : Shared) (H : Hp) (E : XK), Room k (A.deeper (envOfC qual (defScope st) s.heap.objs.size f cdv)) →
      PSsd (cxOf (L2.CX P w) P w K mg base N qual (defScope st) f cdv A outer s H E) (fun c d _ H => E c d H) (defBody st) body) :
    FnOk P w K mg base (L2.CX P w) (k + 1) f fd ps (spD K mg ps.length (dDef ps.length N.length body)) := by
  refine F.okX S (fun vs H Q E h => h.1) (fun cdv A outer s H vs Q E hr h => ⟨_, hb cdv A outer s H E hr, ?_⟩)
  obtain ⟨hl, m, S0, args, r, st, ra, hF, p⟩ := h
  unfold dDef at hF
  split at hF
  · rename_i ha
    have en := envStart (N := N) ra ps.length hl
    cases q : body (args.map some ++ List.replicate (N.length - ps.length) none) S0 with
    | none => rw [q] at hF; cases hF
    | some z =>
      rw [q] at hF
      refine ⟨m, _, S0, z, st, en, q, ?_⟩
      cases z with
      | next ρ S1 =>
        cases hF
        have p' := gc_ok st p
        exact fun σ' m' H' le x s' e' => p' .non m' H' le x s' .non
      | ret v S1 =>
        cases hF
        have p' := gc_ok st p
        exact fun v m' H' le x s' r' => p' v m' H' le x s' r'
      | brk ρ S1 => cases hF
      | ctn ρ S1 => cases hF
      | exc e ρ S1 =>
        cases hF
        have p' := gc_ok st p
        exact fun cls dd σ' m' H' le x s' e' r' => p' cls dd m' H' le x s' r'
  · cases hF
end
/-! ### a call of a def -/
theorem post_sw {K : PySem.W.Frag} {mg : Str → Option Value} {W : WX} {σ : L2.St} {m : Nat → Addr} {S : Sto} {H : Hp} {r : RE} {Q : VK} (p : PostG K mg (rE K) W σ m S H r Q) : PostG K mg (rE K) (fun c d _ H => WE W σ c d H) [] m S H r Q := by
  cases r with
  | ok v S' => exact p
  | exc e S' => exact fun cls dd m' H' le x s' r' => p cls dd m' H' le x s' r'
section
variable {X : Cx} {W : WX} {k n : Nat} {f : Addr} {fd : FuncData} {ps : List Str} {F : DF} {x : Str} {p pos : Pos} {e : Expr} {es : List Expr} {fa : DA}
theorem de_call (G : FnOk X.prog X.w X.K X.mg X.base (L2.CX X.prog X.w) k f fd ps (spD X.K X.mg n F)) (hr : Room k X.A) (hg : Gl X x) (hm : X.mg x = some (.ref f)) (hk : PySem.W.keepIn X.K (.ref f) = true) (hb : Binds X.K fd ps []) (tk : Takes X W)
    (ha : PAd X W (e :: es) fa) (hl : (e :: es).length = n := by rfl) (hF : ∀ args S r, F args S = some r → args.length = n) (hdb : (x == ("__debug__" : Str)) = false := by decide) (he : starEach (e :: es) X.env = (false, eval e X.env) :: starEach es X.env := by rfl) (hpl : (backTo pos (starEach es X.env)).any (·.1) = false := by rfl) :
    PEd X W (.Call (.Name x p) (e :: es) [] pos) (dOpA F fa) := (pe_callS G hr hg hm hk hb (fun σ => passAt tk σ) ha hdb he hpl).imp fun σ H Q h =>
  (bind1 (ra := rA X.K) h).mono fun v H1 ⟨m, ρ, S, d, z, s, e, r1, hk, p⟩ => ⟨by rw [← r1.length]; exact hF _ _ _ hk, m, S, d, z, s, r1, hk, post_sw p⟩
end
theorem dDef_len {k n : Nat} {body : DS} (args : List PV) (S : Sto) (r : RE) (h : dDef k n body args S = some r) : args.length = k := by
  unfold dDef at h
  split at h
  · assumption
  · cases h
end D

/-! D4: what operators and built-ins do to values. -/
namespace D
open PySem PySem.Spec PyProof.Rows L2

/-! ### arithmetic -/
def gAdd : G2 := fun x y S => match x, y with
  | .int i, .int j => some (.ok (.int (i + j)) S)
  | .str i, .str j => if i.length + j.length ≤ 16777216 then some (.ok (.str (i ++ j)) S) else none
  | .tup l, .tup r => if l.length + r.length ≤ 16777216 then some (.ok (.tup (l ++ r)) S) else none
  | .loc j, .loc k => match S[j]?, S[k]? with
    | some (.lst l), some (.lst r) => if l.length + r.length ≤ 16777216 then some (.ok (.loc S.length) (S ++ [.lst (l ++ r)])) else none
    | _, _ => none
  | _, _ => none
def rAdd4 (K : PySem.W.Frag) : R2 := fun x y H Q => (rI0 fun i j => .int (i + j)) x y H Q ∨ ((∃ i j, x = .str i ∧ y = .str j ∧ i.length + j.length ≤ sizeLine ∧ Q (.str (i ++ j)) H) ∨ (rCatA K x y H Q ∨ rCat x y H Q))
theorem op_add4 {X : Cx} : OpR X (binaryOp .Add) (rAdd4 X.K) := op_add.or (op_add_str.or (op_catA.or op_cat))
theorem nil_iff {K : PySem.W.Frag} {H : Hp} {m : Nat → Addr} {n : Nat} {l : List PV} {xs : List V} (r : RpL K H m n l xs) : l = [] ↔ xs = [] := by cases r <;> simp
theorem ok_add {K : PySem.W.Frag} {mg : Str → Option Value} : OkG2 K mg (rAdd4 K) gAdd := fun W σ m S H x y d d' z Q s r1 r2 e p => by
  unfold gAdd at e
  split at e
  · cases e; cases r1; cases r2
    exact .inl ⟨_, _, rfl, rfl, post_here s (.int _) p⟩
  · cases r1; cases r2
    split at e
    · rename_i h
      cases e
      exact .inr (.inl ⟨_, _, rfl, rfl, Nat.le_trans h (by decide), post_here s (.str _) p⟩)
    · cases e
  · rename_i l r
    cases r1 with
    | @tup _ a xs h1 q1 => cases r2 with
      | @tup _ b ys h2 q2 =>
        split at e
        · rename_i h
          cases e
          refine .inr (.inr (.inl ⟨a, b, xs, ys, rfl, rfl, h1, h2, by rw [← q1.length, ← q2.length]; exact Nat.le_trans h (by decide), fun e1 => ?_, fun n1 e2 => ?_, fun _ _ => ?_⟩))
          · have := (nil_iff q1).mpr e1
            subst this
            exact post_here s (.tup h2 q2) p
          · have := (nil_iff q2).mpr e2
            subst this
            rw [List.append_nil] at p
            exact post_here s (.tup h1 q1) p
          · exact new_tup s (q1.append q2) p
        · cases e
  · cases r1 with
    | loc k1 => cases r2 with
      | loc k2 =>
        split at e
        · rename_i l r e1 e2
          split at e
          · rename_i h
            cases e
            obtain ⟨xs, h1, q1⟩ := s.obj _ _ e1
            obtain ⟨ys, h2, q2⟩ := s.obj _ _ e2
            exact .inr (.inr (.inr ⟨_, _, xs, ys, rfl, rfl, h1, h2, by rw [← q1.length, ← q2.length]; exact Nat.le_trans h (by decide), new_list s (q1.append q2) p⟩))
          · cases e
        · cases e
  · cases e
/-- two ints -/
def gI2 (C : Int → Int → Prop) [∀ i j, Decidable (C i j)] (g : Int → Int → PV) : G2 := fun x y S => match x, y with
  | .int i, .int j => if C i j then some (.ok (g i j) S) else none
  | _, _ => none
theorem ok_I2 {K : PySem.W.Frag} {mg : Str → Option Value} {C : Int → Int → Prop} [∀ i j, Decidable (C i j)] {g : Int → Int → PV} {r : R2} {gv : Int → Int → V} (hr : ∀ i j H Q, C i j → Q (gv i j) H → r (.int i) (.int j) H Q)
    (hg : ∀ i j K H m n, Rp K H m n (g i j) (gv i j)) : OkG2 K mg r (gI2 C g) := fun W σ m S H x y d d' z Q s r1 r2 e p => by
  unfold gI2 at e
  split at e
  · cases r1; cases r2
    split at e
    · rename_i h
      cases e
      exact hr _ _ _ _ h (post_here s (hg _ _ _ _ _ _) p)
    · cases e
  · cases e
def gSub : G2 := gI2 (fun _ _ => True) fun i j => .int (i - j)
theorem ok_sub {K : PySem.W.Frag} {mg : Str → Option Value} : OkG2 K mg (rI0 fun i j => .int (i - j)) gSub := ok_I2 (gv := fun i j => .int (i - j)) (fun i j H Q _ q => ⟨i, j, rfl, rfl, q⟩) fun _ _ _ _ _ _ => .int _
def CMulD (i j : Int) : Prop := (-(2 ^ 64) < i ∧ i < 2 ^ 64) ∨ (-(2 ^ 64) < j ∧ j < 2 ^ 64)
instance (i j : Int) : Decidable (CMulD i j) := by unfold CMulD; infer_instance
def gMulI : G2 := gI2 CMulD fun i j => .int (i * j)
def gMulL : G2 := fun x y S => match x, y with
  | .loc k, .int i => match S[k]? with
    | some (.lst l) => if -(2 ^ 63) ≤ i ∧ i < 2 ^ 63 ∧ l.length * i.toNat ≤ 16777216 then some (.ok (.loc S.length) (S ++ [.lst (List.replicate i.toNat l).flatten])) else none
    | _ => none
  | _, _ => none
def gMul : G2 := gOr2 gMulI gMulL
theorem ok_mulL {K : PySem.W.Frag} {mg : Str → Option Value} : OkG2 K mg rRep gMulL := fun W σ m S H x y d d' z Q s r1 r2 e p => by
  unfold gMulL at e
  split at e
  · cases r1 with
    | loc k1 => cases r2 with
      | int i =>
        split at e
        · rename_i l e1
          split at e
          · rename_i h
            cases e
            obtain ⟨xs, h1, q1⟩ := s.obj _ _ e1
            exact ⟨_, _, xs, rfl, rfl, h1, h.1, h.2.1, by rw [← q1.length]; exact Nat.le_trans h.2.2 (by decide), new_list s (q1.flat_rep _) p⟩
          · cases e
        · cases e
  · cases e
theorem ok_mul {K : PySem.W.Frag} {mg : Str → Option Value} : OkG2 K mg (fun x y H Q => rI CMul (fun i j => .int (i * j)) x y H Q ∨ rRep x y H Q) gMul :=
  OkG2.or (ok_I2 (gv := fun i j => .int (i * j)) (fun i j H Q c q => ⟨i, j, rfl, rfl, c, q⟩) fun _ _ _ _ _ _ => .int _) ok_mulL
theorem op_mul4 {X : Cx} : OpR X (binaryOp .Mult) (fun x y H Q => rI CMul (fun i j => .int (i * j)) x y H Q ∨ rRep x y H Q) := op_mul.or op_rep
def CDivD (i j : Int) : Prop := 0 < j ∧ j < 1073741824
instance (i j : Int) : Decidable (CDivD i j) := by unfold CDivD; infer_instance
def gDiv : G2 := gI2 CDivD fun i j => .int (i / j)
theorem ok_div {K : PySem.W.Frag} {mg : Str → Option Value} : OkG2 K mg (rI CDiv fun i j => .int (i / j)) gDiv := ok_I2 (gv := fun i j => .int (i / j)) (fun i j H Q c q => ⟨i, j, rfl, rfl, c, q⟩) fun _ _ _ _ _ _ => .int _
def gMod : G2 := gI2 (fun _ j => 0 < j) fun i j => .int (i % j)
theorem ok_mod {K : PySem.W.Frag} {mg : Str → Option Value} : OkG2 K mg (rI (fun _ j => 0 < j) fun i j => .int (i % j)) gMod := ok_I2 (gv := fun i j => .int (i % j)) (fun i j H Q c q => ⟨i, j, rfl, rfl, c, q⟩) fun _ _ _ _ _ _ => .int _
def CPowD (i j : Int) : Prop := 0 ≤ j ∧ j ≤ 1000000 ∧ i.natAbs < 2 ^ 64
instance (i j : Int) : Decidable (CPowD i j) := by unfold CPowD; infer_instance
def gPow : G2 := gI2 CPowD fun i j => .int (i ^ j.toNat)
theorem ok_pow {K : PySem.W.Frag} {mg : Str → Option Value} : OkG2 K mg (rI CPow fun i j => .int (i ^ j.toNat)) gPow := ok_I2 (gv := fun i j => .int (i ^ j.toNat)) (fun i j H Q c q => ⟨i, j, rfl, rfl, c, q⟩) fun _ _ _ _ _ _ => .int _
def gNeg : G1 := fun x S => match x with
  | .int i => some (.ok (.int (-i)) S)
  | _ => none
theorem ok_neg {K : PySem.W.Frag} {mg : Str → Option Value} : OkG1 K mg (rU fun i => .int (-i)) gNeg := fun W σ m S H x d z Q s r e p => by
  unfold gNeg at e
  split at e
  · cases e; cases r
    exact ⟨_, rfl, post_here s (.int _) p⟩
  · cases e

/-! ### order -/
def gRel (f : Int → Int → Bool) : G2 := gI2 (fun _ _ => True) fun i j => .bl (f i j)
theorem ok_rel {K : PySem.W.Frag} {mg : Str → Option Value} {f : Int → Int → Bool} : OkG2 K mg (rI0 fun i j => .bl (f i j)) (gRel f) := ok_I2 (gv := fun i j => .bl (f i j)) (fun i j H Q _ q => ⟨i, j, rfl, rfl, q⟩) fun _ _ _ _ _ _ => .bl _
abbrev gLt : G2 := gRel fun i j => decide (i < j)
abbrev gLe : G2 := gRel fun i j => decide (i ≤ j)
abbrev gGt : G2 := gRel fun i j => decide (j < i)
abbrev gGe : G2 := gRel fun i j => decide (j ≤ i)

/-! ### data: ==, in -/
def mapO {α β : Type} (f : α → Option β) : List α → Option (List β)
  | [] => some []
  | x :: xs => match f x, mapO f xs with
    | some y, some ys => some (y :: ys)
    | _, _ => none
def toD : Nat → Sto → PV → Option PyData
  | _, _, .non => some .none
  | _, _, .bl b => some (.bool b)
  | _, _, .int i => some (.int i)
  | _, _, .str s => some (.str s)
  | n + 1, S, .tup l => (mapO (toD n S) l).map .tuple
  | n + 1, S, .loc k => match S[k]? with
    | some (.lst l) => (mapO (toD n S) l).map .list
    | some (.fz l) => (mapO (toD n S) l).map .list
    | _ => none
  | _, _, _ => none
theorem mapO_dp {K : PySem.W.Frag} {H : Hp} {m : Nat → Addr} {N c : Nat} {f : PV → Option PyData} (hf : ∀ d q x, f d = some q → Rp K H m N d x → L2.Dp K H x q ∧ q.plain = true ∧ q.depth ≤ c) :
    ∀ {l : List PV} {qs : List PyData} {xs : List V}, mapO f l = some qs → RpL K H m N l xs → L2.DpAll K H xs qs ∧ PyData.plainAll qs = true ∧ PyData.depthAll qs ≤ c
  | [], _, _, h, .nil => by
    cases h
    exact ⟨.nil, by simp [PyData.plainAll], by simp [PyData.depthAll]⟩
  | d :: ds, qs, _, h, .cons r rs => by
    unfold mapO at h
    split at h
    · rename_i y ys e1 e2
      cases h
      obtain ⟨a1, a2, a3⟩ := hf _ _ _ e1 r
      obtain ⟨b1, b2, b3⟩ := mapO_dp hf e2 rs
      exact ⟨.cons a1 b1, by rw [PyData.plainAll, a2, b2]; rfl, by rw [PyData.depthAll]; omega⟩
    · cases h
theorem toD_dp {K : PySem.W.Frag} {mg : Str → Option Value} {H : Hp} {m : Nat → Addr} {S : Sto} (s : StS K mg m S H) : ∀ (n : Nat) (d : PV) (q : PyData) (x : V), toD n S d = some q → Rp K H m S.length d x → L2.Dp K H x q ∧ q.plain = true ∧ q.depth ≤ n
  | n, .non, q, x, h, r => by
    cases r; unfold toD at h; cases h
    exact ⟨.non, by simp [PyData.plain], by simp [PyData.depth]⟩
  | n, .bl b, q, x, h, r => by
    cases r; unfold toD at h; cases h
    exact ⟨.bl _, by simp [PyData.plain], by simp [PyData.depth]⟩
  | n, .int b, q, x, h, r => by
    cases r; unfold toD at h; cases h
    exact ⟨.int _, by simp [PyData.plain], by simp [PyData.depth]⟩
  | n, .str b, q, x, h, r => by
    cases r; unfold toD at h; cases h
    exact ⟨.str _, by simp [PyData.plain], by simp [PyData.depth]⟩
  | 0, .tup l, q, x, h, r => by unfold toD at h; cases h
  | 0, .loc l, q, x, h, r => by unfold toD at h; cases h
  | n, .ty l, q, x, h, r => by cases n <;> (unfold toD at h; cases h)
  | n, .xc _ _ _, q, x, h, r => by cases n <;> (unfold toD at h; cases h)
  | n + 1, .tup l, q, x, h, r => by
    cases r with
    | tup hs hl =>
      unfold toD at h
      cases e : mapO (toD n S) l with
      | none => rw [e] at h; cases h
      | some qs =>
        rw [e] at h
        cases h
        obtain ⟨a1, a2, a3⟩ := mapO_dp (toD_dp s n) e hl
        exact ⟨.tup hs a1, by rw [PyData.plain]; exact a2, by rw [PyData.depth]; omega⟩
  | n + 1, .loc k, q, x, h, r => by
    cases r with
    | loc hk =>
      unfold toD at h
      split at h
      · rename_i l e1
        obtain ⟨xs, h1, hl⟩ := s.obj _ _ e1
        cases e : mapO (toD n S) l with
        | none => rw [e] at h; cases h
        | some qs =>
          rw [e] at h
          cases h
          obtain ⟨a1, a2, a3⟩ := mapO_dp (toD_dp s n) e hl
          exact ⟨.lst (SqL.of h1) a1, by rw [PyData.plain]; exact a2, by rw [PyData.depth]; omega⟩
      · rename_i l e1
        obtain ⟨xs, h1, hl⟩ := s.obj _ _ e1
        cases e : mapO (toD n S) l with
        | none => rw [e] at h; cases h
        | some qs =>
          rw [e] at h
          cases h
          obtain ⟨a1, a2, a3⟩ := mapO_dp (toD_dp s n) e hl
          exact ⟨.lst h1.sq a1, by rw [PyData.plain]; exact a2, by rw [PyData.depth]; omega⟩
      · cases h
def rEqP (K : PySem.W.Frag) (neg : Bool) : R2 := fun x y H Q => ∃ d e, L2.Dp K H x d ∧ L2.Dp K H y e ∧ d.plain = true ∧ e.plain = true ∧ d.depth ≤ 60 ∧ Q (.bl (if neg then !PyData.eqv d e else PyData.eqv d e)) H
theorem op_eqP {X : Cx} (hu : X.A.units + 64 < cLine) : OpR X (compareOp .Eq) (rEqP X.K false) := by
  intro pins s σ H x y v u Q I rx ry h
  obtain ⟨d, e, hd, he, pd, pe, dd, q⟩ := h
  obtain ⟨as, r1⟩ := Dp.reads I d x v hd rx
  obtain ⟨bs, r2⟩ := Dp.reads I e y u he ry
  exact SeqAt.eq_plain r1 r2 pd pe (by omega) ⟨.bl _, H, I, rfl, q⟩
theorem op_neP {X : Cx} (hu : X.A.units + 64 < cLine) : OpR X (compareOp .NotEq) (rEqP X.K true) := by
  intro pins s σ H x y v u Q I rx ry h
  obtain ⟨d, e, hd, he, pd, pe, dd, q⟩ := h
  obtain ⟨as, r1⟩ := Dp.reads I d x v hd rx
  obtain ⟨bs, r2⟩ := Dp.reads I e y u he ry
  exact SeqAt.rcNe_plain r1 r2 pd pe (by omega) X.prog X.w X.xe _ ⟨.bl _, H, I, rfl, q⟩
def eqP (x y : PV) (S : Sto) : Option Bool := match toD 60 S x, toD 60 S y with
  | some d, some e => some (PyData.eqv d e)
  | _, _ => none
def gEqN (neg : Bool) : G2 := fun x y S => match eqP x y S with
  | some b => some (.ok (.bl (if neg then !b else b)) S)
  | none => none
abbrev gEq : G2 := gEqN false
abbrev gNe : G2 := gEqN true
theorem ok_eq {K : PySem.W.Frag} {mg : Str → Option Value} {neg : Bool} : OkG2 K mg (rEqP K neg) (gEqN neg) := fun W σ m S H x y d d' z Q s r1 r2 e p => by
  unfold gEqN at e
  split at e
  · rename_i b hb
    cases e
    unfold eqP at hb
    split at hb
    · rename_i q1 q2 e1 e2
      cases hb
      obtain ⟨a1, a2, a3⟩ := toD_dp s 60 _ _ _ e1 r1
      obtain ⟨b1, b2, b3⟩ := toD_dp s 60 _ _ _ e2 r2
      exact ⟨q1, q2, a1, b1, a2, b2, a3, post_here s (.bl _) p⟩
    · cases hb
  · cases e
/-- is, is not: None, and truth values -/
def gIsN (neg : Bool) : G2 := fun x y S => match x, y with
  | .bl a, .bl b => some (.ok (.bl (if neg then !decide (a = b) else decide (a = b))) S)
  | .non, .non => some (.ok (.bl (!neg)) S)
  | _, .non => some (.ok (.bl neg) S)
  | _, _ => none
abbrev gIs : G2 := gIsN false
abbrev gIsNot : G2 := gIsN true
theorem rp_non {K : PySem.W.Frag} {H : Hp} {m : Nat → Addr} {n : Nat} {d : PV} {v : V} (r : Rp K H m n d v) (h : d ≠ .non) : v ≠ .non := by cases r <;> simp at h ⊢
theorem op_is4 {X : Cx} : OpR X (compareOp .Is) (fun x y H Q => (y = .non ∧ Q (.bl (decide (x = .non))) H) ∨ rIsB x y H Q) := op_isN.or op_isBl
theorem op_isnot4 {X : Cx} : OpR X (compareOp .IsNot) (fun x y H Q => (y = .non ∧ Q (.bl (!decide (x = .non))) H) ∨ rNotB x y H Q) := op_notN.or op_notBl
theorem ok_is {K : PySem.W.Frag} {mg : Str → Option Value} : OkG2 K mg (fun x y H Q => (y = .non ∧ Q (.bl (decide (x = .non))) H) ∨ rIsB x y H Q) gIs := fun W σ m S H x y d d' z Q s r1 r2 e p => by
  unfold gIs gIsN at e
  split at e
  · cases e; cases r1; cases r2
    exact .inr ⟨_, _, rfl, rfl, post_here s (.bl _) p⟩
  · cases e; cases r1; cases r2
    exact .inl ⟨rfl, post_here s (.bl _) p⟩
  · rename_i h1 h2
    cases e; cases r2
    refine .inl ⟨rfl, ?_⟩
    rw [decide_eq_false (rp_non r1 fun z => h2 z)]
    exact post_here s (.bl _) p
  · cases e
theorem ok_isnot {K : PySem.W.Frag} {mg : Str → Option Value} : OkG2 K mg (fun x y H Q => (y = .non ∧ Q (.bl (!decide (x = .non))) H) ∨ rNotB x y H Q) gIsNot := fun W σ m S H x y d d' z Q s r1 r2 e p => by
  unfold gIsNot gIsN at e
  split at e
  · cases e; cases r1; cases r2
    exact .inr ⟨_, _, rfl, rfl, post_here s (.bl _) p⟩
  · cases e; cases r1; cases r2
    exact .inl ⟨rfl, post_here s (.bl _) p⟩
  · rename_i h1 h2
    cases e; cases r2
    refine .inl ⟨rfl, ?_⟩
    rw [decide_eq_false (rp_non r1 fun z => h2 z)]
    exact post_here s (.bl _) p
  · cases e

/-! ### subscripts -/
def gIx : G2 := fun x y S => match x, y with
  | .tup l, .int i => match atI l i with
    | some v => some (.ok v S)
    | none => none
  | .loc k, .int i => match S[k]? with
    | some (.lst l) => match atI l i with
      | some v => some (.ok v S)
      | none => none
    | some (.fz l) => match atI l i with
      | some v => some (.ok v S)
      | none => none
    | _ => none
  | .str z, .int i => if z.length ≤ 16777216 then match atI z.cps.toList i with
      | some c => some (.ok (.str ⟨#[c]⟩) S)
      | none => none else none
  | _, _ => none
theorem atI_rp {K : PySem.W.Frag} {H : Hp} {m : Nat → Addr} {n : Nat} {l : List PV} {xs : List V} {i : Int} {d : PV} (r : RpL K H m n l xs) (h : atI l i = some d) : ∃ x, atI xs i = some x ∧ Rp K H m n d x := by
  unfold atI at h ⊢
  rw [r.length] at h
  cases q : ixN xs.length i with
  | none => rw [q] at h; cases h
  | some j =>
    rw [q] at h
    obtain ⟨x, h1, h2⟩ := r.get (show l[j]? = some d from h)
    exact ⟨x, h1, h2⟩
theorem ok_ix {K : PySem.W.Frag} {mg : Str → Option Value} : OkG2 K mg (rIx K) gIx := fun W σ m S H x y d d' z Q s r1 r2 e p => by
  unfold gIx at e
  split at e
  · cases r1 with
    | tup hs hl =>
      cases r2
      split at e
      · rename_i v hv
        cases e
        obtain ⟨x, h1, h2⟩ := atI_rp hl hv
        exact .inr (.inl ⟨_, _, _, _, rfl, rfl, hs, h1, post_here s h2 p⟩)
      · cases e
  · cases r1 with
    | loc hk =>
      cases r2
      split at e
      · rename_i l e1
        obtain ⟨xs, hs, hl⟩ := s.obj _ _ e1
        split at e
        · rename_i v hv
          cases e
          obtain ⟨x, h1, h2⟩ := atI_rp hl hv
          exact .inl ⟨_, _, _, _, rfl, rfl, SqL.of hs, h1, post_here s h2 p⟩
        · cases e
      · rename_i l e1
        obtain ⟨xs, hs, hl⟩ := s.obj _ _ e1
        split at e
        · rename_i v hv
          cases e
          obtain ⟨x, h1, h2⟩ := atI_rp hl hv
          exact .inl ⟨_, _, _, _, rfl, rfl, hs.sq, h1, post_here s h2 p⟩
        · cases e
      · cases e
  · cases r1; cases r2
    split at e
    · rename_i hz
      split at e
      · rename_i v hv
        cases e
        exact .inr (.inr ⟨_, _, _, rfl, rfl, Nat.le_trans hz (by decide), hv, post_here s (.str _) p⟩)
      · cases e
    · cases e
  · cases e

/-! ### slices -/
abbrev DO := En → Sto → Option (R (Option Int))
def rO : Rel (Option Int) (Option Int) := fun _ _ _ d v => d = v
abbrev POd (X : Cx) (W : WX) (e : Option Expr) (f : DO) : Prop := L2.PO X e (tG X.K X.mg rO W f)
theorem _root_.L2.PO.imp {X : Cx} {e : Option Expr} {t t' : TO} (h : L2.PO X e t) (i : ∀ σ H Q, t' σ H Q → t σ H Q) : L2.PO X e t' := ⟨fun pins s σ H Q I q => h.run pins s σ H Q I (i _ _ _ q)⟩
def dNoPart : DO := fun _ S => some (.ok none S)
def dPart (f : DE) : DO := fun ρ S => bR (f ρ S) fun x S1 => match x with
  | .int i => some (.ok (some i) S1)
  | _ => none
section
variable {X : Cx} {W : WX} {e : Expr} {f : DE}
theorem do_none : POd X W none dNoPart := po_none.imp fun σ H Q h => by
  obtain ⟨m, ρ, S, r, s, e, hf, p⟩ := h
  cases hf
  exact p _ m H (Nat.le_refl _) Ext.refl s rfl
theorem do_some (h : PEd X W e f) : POd X W (some e) (dPart f) := (po_some h).imp fun σ H Q h => by
  refine (bind1 (ra := rE X.K) h).mono fun v H1 ⟨m, ρ, S, d, z, s, e, r1, hk, p⟩ => ?_
  split at hk
  · cases hk; cases r1
    exact ⟨_, rfl, p _ m H1 (Nat.le_refl _) Ext.refl s rfl⟩
  · cases hk
end
def cutP (l : List PV) (lo hi : Option Int) : List PV := (l.drop (HT.sIx l.length 0 lo)).take (HT.sIx l.length l.length hi - HT.sIx l.length 0 lo)
theorem cut_rp {K : PySem.W.Frag} {H : Hp} {m : Nat → Addr} {n : Nat} {l : List PV} {xs : List V} (r : RpL K H m n l xs) (lo hi : Option Int) : RpL K H m n (cutP l lo hi) (cutV xs lo hi) := by
  unfold cutP cutV
  rw [r.length]
  exact (r.drop _).take _
abbrev G3 := PV → Option Int → Option Int → Sto → Option (R PV)
def gSl : G3 := fun x lo hi S => match x with
  | .tup l => some (.ok (.tup (cutP l lo hi)) S)
  | .loc k => match S[k]? with
    | some (.lst l) => some (.ok (.loc S.length) (S ++ [.lst (cutP l lo hi)]))
    | some (.fz l) => some (.ok (.loc S.length) (S ++ [.lst (cutP l lo hi)]))
    | _ => none
  | _ => none
def dSl (a : DE) (lo hi : DO) : DE := fun ρ S => bR (a ρ S) fun x S1 => bR (lo ρ S1) fun l S2 => bR (hi ρ S2) fun h S3 => gSl x l h S3
def rSl4 (K : PySem.W.Frag) : V → Option Int → Option Int → Hp → VK → Prop := fun x lo hi H Q => rSlL K x lo hi H Q ∨ rSlA K x lo hi H Q
theorem cut_whole (l : List PV) (lo hi : Option Int) (h : HT.sIx l.length 0 lo = 0 ∧ HT.sIx l.length l.length hi = l.length) : cutP l lo hi = l := by
  unfold cutP
  rw [h.1, h.2]
  simp
theorem ok_sl {K : PySem.W.Frag} {mg : Str → Option Value} {W : WX} {σ : L2.St} {m : Nat → Addr} {S : Sto} {H : Hp} {x : V} {d : PV} {lo hi : Option Int} {z : R PV} {Q : VK} (s : StS K mg m S H) (r : Rp K H m S.length d x) (e : gSl d lo hi S = some z)
    (p : PostG K mg (rE K) W σ m S H z Q) : rSl4 K x lo hi H Q := by
  unfold gSl at e
  split at e
  · cases r with
    | tup hs hl =>
      cases e
      refine .inr ⟨_, _, rfl, hs, fun h => ?_, fun _ => ?_⟩
      · rw [← hl.length] at h
        rw [cut_whole _ _ _ h] at p
        exact post_here s (.tup hs hl) p
      · exact new_tup s (cut_rp hl lo hi) p
  · cases r with
    | loc hk =>
      split at e
      · rename_i l e1
        obtain ⟨xs, hs, hl⟩ := s.obj _ _ e1
        cases e
        exact .inl ⟨_, _, rfl, SqL.of hs, new_list s (cut_rp hl lo hi) p⟩
      · rename_i l e1
        obtain ⟨xs, hs, hl⟩ := s.obj _ _ e1
        cases e
        exact .inl ⟨_, _, rfl, hs.sq, new_list s (cut_rp hl lo hi) p⟩
      · cases e
  · cases e
theorem keeps_O {K : PySem.W.Frag} : Keeps K rO := fun _ _ _ _ _ _ _ _ _ _ r => r
theorem de_sl {X : Cx} {W : WX} {e : Expr} {lo hi : Option Expr} {p2 pos : Pos} {fa : DE} {fl fh : DO} (ha : PEd X W e fa) (hl : POd X W lo fl) (hh : POd X W hi fh) : PEd X W (.Subscript e (.Slice lo hi none p2) pos) (dSl fa fl fh) :=
  (pe_slice (sl_list.or sl_tupA) ha hl hh).imp fun σ H Q h => by
  refine (bind1 (ra := rE X.K) (k := fun ρ x S1 => bR (fl ρ S1) fun l S2 => bR (fh ρ S2) fun h S3 => gSl x l h S3) h).mono fun v H1 ⟨m, ρ, S, d, z, s, e, r1, hk, p⟩ => ?_
  have h2 : tG X.K X.mg (rE X.K) W (fun ρ S => bR (fl ρ S) fun l S2 => bR (fh ρ S2) fun h S3 => gSl d l h S3) σ H1 Q := ⟨m, ρ, S, z, s, e, hk, p⟩
  -- the value stays what it is: keep it beside
  have h3 : tG X.K X.mg rO W fl σ H1 fun l H2 => tG X.K X.mg rO W fh σ H2 fun h H3 => ∃ m S z, StS X.K X.mg m S H3 ∧ Rp X.K H3 m S.length d v ∧ gSl d l h S = some z ∧ PostG X.K X.mg (rE X.K) W σ m S H3 z Q := by
    have hk : bR (fl ρ S) (fun l S2 => bR (fh ρ S2) fun h S3 => gSl d l h S3) = some z := hk
    cases q : fl ρ S with
    | none => rw [q] at hk; cases hk
    | some z1 =>
      rw [q] at hk
      cases z1 with
      | exc x T =>
        cases hk
        exact ⟨m, ρ, S, .exc x T, s, e, q, p⟩
      | ok l T =>
        refine ⟨m, ρ, S, .ok l T, s, e, q, fun l' m2 H2 le x s2 rl => ?_⟩
        cases rl
        have hk : bR (fh ρ T) (fun h S3 => gSl d l h S3) = some z := hk
        cases q2 : fh ρ T with
        | none => rw [q2] at hk; cases hk
        | some z2 =>
          rw [q2] at hk
          cases z2 with
          | exc x2 T2 =>
            cases hk
            exact ⟨m2, ρ, T, .exc x2 T2, s2, e.mono x le, q2, p.on le x⟩
          | ok h T2 =>
            refine ⟨m2, ρ, T, .ok h T2, s2, e.mono x le, q2, fun h' m3 H3 le3 x3 s3 rh => ?_⟩
            cases rh
            exact ⟨m3, T2, z, s3, r1.mono (x.trans x3 le) (Nat.le_trans le le3), hk, p.on (Nat.le_trans le le3) (x.trans x3 le)⟩
  exact h3.mono fun l H2 h4 => h4.mono fun h H3 ⟨m, S, z, s, r, hk, p⟩ => ok_sl s r hk p
end D

/-! D5: calls of built-ins, methods, what is walked, comprehensions. -/
namespace D
open PySem PySem.Spec PyProof.Rows L2

/-! ### calls of built-ins -/
section
variable {X : Cx} {W : WX} {pos p : Pos} {x : Str} {e : Expr} {es : List Expr} {fa : DA} {id T : String} {r : List V → Hp → VK → Prop} {g : GA}
theorem de_bi (hc : CallR X (.builtin id) r) (hr : OkGA X.K X.mg r g) (hg : Gl X x) (hm : X.mg x = none) (hv : bootBuiltins x = some (.builtin id)) (ha : PAd X W (e :: es) fa) (hn : x ≠ "__name__" := by decide) (hdb : (x == ("__debug__" : Str)) = false := by decide)
    (he : starEach (e :: es) X.env = (false, eval e X.env) :: starEach es X.env := by rfl) (hpl : (backTo pos (starEach es X.env)).any (·.1) = false := by rfl) : PEd X W (.Call (.Name x p) (e :: es) [] pos) (dOpA g fa) :=
  (pe_callB hc hg hm hv ha hn hdb he hpl).imp fun σ H Q h => liftA hr h
theorem de_bty (hc : CallR X (.type T) r) (hr : OkGA X.K X.mg r g) (hg : Gl X x) (hm : X.mg x = none) (hv : bootBuiltins x = some (.type T)) (ha : PAd X W (e :: es) fa) (hn : x ≠ "__name__" := by decide) (hdb : (x == ("__debug__" : Str)) = false := by decide)
    (he : starEach (e :: es) X.env = (false, eval e X.env) :: starEach es X.env := by rfl) (hpl : (backTo pos (starEach es X.env)).any (·.1) = false := by rfl) : PEd X W (.Call (.Name x p) (e :: es) [] pos) (dOpA g fa) :=
  (pe_callTy hc hg hm hv ha hn hdb he hpl).imp fun σ H Q h => liftA hr h
end
section
variable {K : PySem.W.Frag} {mg : Str → Option Value}
def gLen : GA := fun l S => match l with
  | [.tup l] => some (.ok (.int l.length) S)
  | [.str z] => if z.length ≤ 16777216 then some (.ok (.int z.length) S) else none
  | [.loc k] => match S[k]? with
    | some (.lst l) => some (.ok (.int l.length) S)
    | some (.fz l) => some (.ok (.int l.length) S)
    | some (.dct _ l) => some (.ok (.int l.length) S)
    | _ => none
  | _ => none
def rLen4 (K : PySem.W.Frag) : List V → Hp → VK → Prop := fun xs H Q => (∃ p ys, xs = [.ref p] ∧ (SqL K H p ys ∨ SqT K H p ys) ∧ Q (.int ys.length) H) ∨ ((∃ z, xs = [.str z] ∧ z.length ≤ sizeLine ∧ Q (.int z.length) H) ∨
  ((∃ a kvs, xs = [V.ref a] ∧ H a = some (.dK kvs) ∧ Q (.int kvs.length) H) ∨ rLenT xs H Q))
theorem call_len4 {X : Cx} : CallR X (.builtin "len") (rLen4 X.K) := call_len_seq.or (call_len_str.or (call_lenD.or call_len_dT))
theorem paired_len {α β : Type} {F : α → β → Prop} : ∀ {l₁ : List α} {l₂ : List β}, Paired F l₁ l₂ → l₁.length = l₂.length
  | _, _, .nil => rfl
  | _, _, .cons _ t => by rw [List.length_cons, List.length_cons, paired_len t]
theorem ok_len : OkGA K mg (rLen4 K) gLen := fun W σ m S H x d z Q s r e p => by
  unfold gLen at e
  split at e
  · cases e
    cases r with
    | cons a b =>
      cases b
      cases a with
      | tup h1 h2 => exact .inl ⟨_, _, rfl, .inr h1, by rw [← h2.length]; exact post_here s (.int _) p⟩
  · split at e
    · rename_i hz
      cases e
      cases r with
      | cons a b =>
        cases b; cases a
        exact .inr (.inl ⟨_, rfl, Nat.le_trans hz (by decide), post_here s (.int _) p⟩)
    · cases e
  · cases r with
    | cons a b =>
      cases b; cases a
      split at e
      · rename_i l e1
        cases e
        obtain ⟨xs, h1, h2⟩ := s.obj _ _ e1
        exact .inl ⟨_, _, rfl, .inl (SqL.of h1), by rw [← h2.length]; exact post_here s (.int _) p⟩
      · rename_i l e1
        cases e
        obtain ⟨xs, h1, h2⟩ := s.obj _ _ e1
        exact .inl ⟨_, _, rfl, .inl h1.sq, by rw [← h2.length]; exact post_here s (.int _) p⟩
      · rename_i l e1
        cases e
        rcases s.obj _ _ e1 with ⟨_, kv, h1, h2⟩ | ⟨_, kv, h1, h2⟩
        · exact .inr (.inr (.inl ⟨_, kv, rfl, h1, by rw [← paired_len h2]; exact post_here s (.int _) p⟩))
        · exact .inr (.inr (.inr ⟨_, kv, rfl, h1, by rw [← paired_len h2]; exact post_here s (.int _) p⟩))
      · cases e
  · cases e
/-- int(x) of a number or a truth value -/
def gInt : GA := fun l S => match l with
  | [.int i] => some (.ok (.int i) S)
  | [.bl b] => some (.ok (.int (if b then 1 else 0)) S)
  | _ => none
theorem ok_int : OkGA K mg (fun xs H Q => (∃ i, xs = [.int i] ∧ Q (.int i) H) ∨ ∃ k, xs = [.bl k] ∧ Q (.int (if k then 1 else 0)) H) gInt := fun W σ m S H x d z Q s r e p => by
  unfold gInt at e
  split at e
  · cases e
    cases r with
    | cons a b =>
      cases b; cases a
      exact .inl ⟨_, rfl, post_here s (.int _) p⟩
  · cases e
    cases r with
    | cons a b =>
      cases b; cases a
      exact .inr ⟨_, rfl, post_here s (.int _) p⟩
  · cases e
def gAbs : GA := fun l S => match l with
  | [.int i] => some (.ok (.int (if i < 0 then -i else i)) S)
  | _ => none
theorem ok_abs : OkGA K mg (fun xs H Q => ∃ i, xs = [.int i] ∧ Q (.int (if i < 0 then -i else i)) H) gAbs := fun W σ m S H x d z Q s r e p => by
  unfold gAbs at e
  split at e
  · cases e
    cases r with
    | cons a b =>
      cases b; cases a
      exact ⟨_, rfl, post_here s (.int _) p⟩
  · cases e
def gMax2 : GA := fun l S => match l with
  | [.int i, .int j] => some (.ok (.int (if j > i then j else i)) S)
  | _ => none
theorem ok_max2 : OkGA K mg (fun xs H Q => ∃ i j, xs = [.int i, .int j] ∧ Q (.int (if j > i then j else i)) H) gMax2 := fun W σ m S H x d z Q s r e p => by
  unfold gMax2 at e
  split at e
  · cases e
    cases r with
    | cons a b => cases b with
      | cons b c =>
        cases a; cases b; cases c
        exact ⟨_, _, rfl, post_here s (.int _) p⟩
  · cases e
def gMin2 : GA := fun l S => match l with
  | [.int i, .int j] => some (.ok (.int (if j < i then j else i)) S)
  | _ => none
theorem ok_min2 : OkGA K mg (fun xs H Q => ∃ i j, xs = [.int i, .int j] ∧ Q (.int (if j < i then j else i)) H) gMin2 := fun W σ m S H x d z Q s r e p => by
  unfold gMin2 at e
  split at e
  · cases e
    cases r with
    | cons a b => cases b with
      | cons b c =>
        cases a; cases b; cases c
        exact ⟨_, _, rfl, post_here s (.int _) p⟩
  · cases e
/-- list(x) of a list or tuple -/
def gList : GA := fun l S => match l with
  | [d] => match itemsP d S with
    | some l => some (.ok (.loc S.length) (S ++ [.lst l]))
    | none => none
  | _ => none
theorem items_rp {H : Hp} {m : Nat → Addr} {S : Sto} {d : PV} {v : V} {l : List PV} (s : StS K mg m S H) (r : Rp K H m S.length d v) (e : itemsP d S = some l) : ∃ a xs, v = .ref a ∧ (SqL K H a xs ∨ SqT K H a xs) ∧ RpL K H m S.length l xs := by
  unfold itemsP at e
  split at e
  · cases e
    cases r with
    | tup h1 h2 => exact ⟨_, _, rfl, .inr h1, h2⟩
  · cases r
    split at e
    · rename_i e1
      cases e
      obtain ⟨xs, h1, h2⟩ := s.obj _ _ e1
      exact ⟨_, _, rfl, .inl (SqL.of h1), h2⟩
    · rename_i e1
      cases e
      obtain ⟨xs, h1, h2⟩ := s.obj _ _ e1
      exact ⟨_, _, rfl, .inl h1.sq, h2⟩
    · cases e
  · cases e
theorem ok_list : OkGA K mg (fun xs H Q => ∃ p ys, xs = [.ref p] ∧ (SqL K H p ys ∨ SqT K H p ys) ∧ ∀ l, H l = none → Q (.ref l) (upd H l (.lst ys))) gList := fun W σ m S H x d z Q s r e p => by
  unfold gList at e
  split at e
  · split at e
    · rename_i hl
      cases e
      cases r with
      | cons a b =>
        cases b
        obtain ⟨q, xs, rfl, hs, rl⟩ := items_rp s a hl
        exact ⟨q, xs, rfl, hs, new_list s rl p⟩
    · cases e
  · cases e
def gTuple : GA := fun l S => match l with
  | [d] => match itemsP d S with
    | some l => some (.ok (.tup l) S)
    | none => none
  | _ => none
theorem ok_tuple : OkGA K mg (fun xs H Q => ∃ p ys, xs = [.ref p] ∧ ((SqL K H p ys ∧ ∀ l, H l = none → Q (.ref l) (upd H l (.tup ys))) ∨ (SqT K H p ys ∧ Q (.ref p) H))) gTuple := fun W σ m S H x d z Q s r e p => by
  unfold gTuple at e
  split at e
  · split at e
    · rename_i hl
      cases e
      cases r with
      | cons a b =>
        cases b
        obtain ⟨q, xs, rfl, hs, rl⟩ := items_rp s a hl
        rcases hs with hs | hs
        · exact ⟨q, xs, rfl, .inl ⟨hs, new_tup s rl p⟩⟩
        · exact ⟨q, xs, rfl, .inr ⟨hs, post_here s (.tup hs rl) p⟩⟩
    · cases e
  · cases e
/-- a stored list -/
def lstOf (k : Nat) (S : Sto) : Option (List PV) := match S[k]? with
  | some (.lst l) => some l
  | some (.fz l) => some l
  | _ => none
theorem lst_rp {H : Hp} {m : Nat → Addr} {S : Sto} {k : Nat} {l : List PV} (s : StS K mg m S H) (e : lstOf k S = some l) : ∃ xs, SqL K H (m k) xs ∧ RpL K H m S.length l xs := by
  unfold lstOf at e
  split at e
  · rename_i e1
    cases e
    obtain ⟨xs, h1, h2⟩ := s.obj _ _ e1
    exact ⟨_, SqL.of h1, h2⟩
  · rename_i e1
    cases e
    obtain ⟨xs, h1, h2⟩ := s.obj _ _ e1
    exact ⟨_, h1.sq, h2⟩
  · cases e
/-! ### sorted -/
def rSortD (K : PySem.W.Frag) : List V → Hp → VK → Prop := fun vs H Q => ∃ (a : Addr) (xs : List V) (ds : List PyData), vs = [V.ref a] ∧ SqL K H a xs ∧ L2.DpAll K H xs ds ∧ PySem.W.AllAlike ds ∧ PySem.W.Sortable ds ∧ (∀ d ∈ ds, d.depth ≤ 40) ∧
  ∀ p, H p = none → Q (.ref p) (upd H p (.lst (((xs.zip ds).mergeSort (PySem.W.dataLe false Prod.snd)).map Prod.fst)))
theorem dpAll_len {H : Hp} : ∀ {xs : List V} {ds : List PyData}, L2.DpAll K H xs ds → xs.length = ds.length
  | _, _, .nil => rfl
  | _, _, .cons _ t => by rw [List.length_cons, List.length_cons, dpAll_len t]
theorem each_vals : ∀ {xs : List V} {ds : List PyData} {us : List Value}, xs.length = ds.length → Vals xs us → PySem.W.EachIs (fun u (b : V × PyData) => RelV b.1 u) us (xs.zip ds)
  | [], [], _, _, .nil => .nil
  | [], _ :: _, _, h, _ => by simp at h
  | _ :: _, [], _, h, _ => by simp at h
  | x :: xs, d :: ds, _, h, .cons r t => .cons r (each_vals (by simpa using h) t)
theorem vals_each : ∀ {bs : List (V × PyData)} {us : List Value}, PySem.W.EachIs (fun u (b : V × PyData) => RelV b.1 u) us bs → Vals (bs.map Prod.fst) us
  | _, _, .nil => .nil
  | _, _, .cons r t => .cons r (vals_each t)
theorem each_reads {X : Cx} {pins : List (Addr × Obj)} {σ : L2.St} {H : Hp} {s : Shared} (I : Inv X pins σ H s) : ∀ {xs : List V} {ds : List PyData} {us : List Value}, L2.DpAll X.K H xs ds → Vals xs us → PySem.W.EachIs (fun u (b : V × PyData) => ∃ as, Reads s.heap u b.2 as) us (xs.zip ds)
  | _, _, _, .nil, .nil => .nil
  | _, _, _, .cons a b, .cons r t => .cons (Dp.reads I _ _ _ a r) (each_reads I b t)
theorem zip_snd : ∀ {xs : List V} {ds : List PyData}, xs.length = ds.length → (xs.zip ds).map Prod.snd = ds
  | [], [], _ => rfl
  | [], _ :: _, h => by simp at h
  | _ :: _, [], h => by simp at h
  | x :: xs, d :: ds, h => by
    rw [List.zip_cons_cons, List.map_cons, zip_snd (by simpa using h)]
theorem cr_sortD {X : Cx} (hu : X.A.units + 64 < cLine) : CallR X (.builtin "sorted") (rSortD X.K) := by
  intro pins s σ H vs us Q I r h
  obtain ⟨a, xs, ds, rfl, hs, hd, hal, hk, hdep, q⟩ := h
  obtain ⟨its, rv, hl, hz⟩ := I.list hs
  rw [Vals.ref1 r]
  have hlen := dpAll_len hd
  have e1 := each_vals hlen rv
  have e2 := each_reads I hd rv
  have hzip : (xs.zip ds).map Prod.snd = ds := zip_snd hlen
  refine PySem.W.sorted_data (enc := Prod.snd) hl.isList e1 e2 (by rw [hzip]; exact hal) (by rw [hzip]; exact hk) (by rw [List.length_zip]; omega) (fun b hb => ?_) fun out h1 h2 => ?_
  · have := hdep b.2 (List.of_mem_zip hb).2
    omega
  · obtain ⟨ep, he'⟩ := PyProof.Rows.sortedAll_at s.heap its out.toArray
    have rv2 := vals_each h2
    have hlen2 : (((xs.zip ds).mergeSort (PySem.W.dataLe false Prod.snd)).map Prod.fst).length ≤ sizeLine := by
      rw [List.length_map, List.length_mergeSort, List.length_zip]
      omega
    exact ⟨.ref _, upd H (s.heap.objs.size + 1) (.lst _), I.laid (t' := s.toks) (fun _ _ => PyProof.Rows.sortedAll_old) (Nat.le_succ _) ⟨hlen2, out, ep, rv2, he'⟩, rfl, q _ (I.hok.fresh (Nat.le_succ _))⟩
def alikeB (ds : List PyData) : Bool := ds.all fun d => ds.all fun d' => PySem.W.alike d d'
def sortableB (ds : List PyData) : Bool := ds.all (fun d => match d with | .tuple (_ :: _) => true | _ => false) || ds.all (fun d => match d with | .none => false | .tuple _ => false | _ => true)
theorem alike_of {ds : List PyData} (h : alikeB ds = true) : PySem.W.AllAlike ds := fun d hd d' hd' => List.all_eq_true.mp (List.all_eq_true.mp h d hd) d' hd'
theorem sortable_of {ds : List PyData} (h : sortableB ds = true) : PySem.W.Sortable ds := by
  unfold sortableB at h
  rw [Bool.or_eq_true] at h
  rcases h with h | h
  · refine .inl fun d hd => ?_
    have := List.all_eq_true.mp h d hd
    split at this
    · exact ⟨_, _, rfl⟩
    · cases this
  · refine .inr fun d hd => ?_
    have := List.all_eq_true.mp h d hd
    split at this
    · cases this
    · cases this
    · rename_i h1 h2
      exact ⟨h1, h2⟩
def sortP (l : List PV) (ds : List PyData) : List PV := ((l.zip ds).mergeSort (PySem.W.dataLe false Prod.snd)).map Prod.fst
def gSorted : GA := fun l S => match l with
  | [.loc k] => match lstOf k S with
    | some l => match mapO (toD 40 S) l with
      | some ds => if alikeB ds = true ∧ sortableB ds = true then some (.ok (.loc S.length) (S ++ [.lst (sortP l ds)])) else none
      | none => none
    | none => none
  | _ => none
theorem rpl_of_mem {H : Hp} {m : Nat → Addr} {n : Nat} : ∀ {T : List (PV × V)}, (∀ t ∈ T, Rp K H m n t.1 t.2) → RpL K H m n (T.map Prod.fst) (T.map Prod.snd)
  | [], _ => .nil
  | t :: T, h => .cons (h t List.mem_cons_self) (rpl_of_mem fun u hu => h u (List.mem_cons_of_mem _ hu))
theorem sort_rp {H : Hp} {m : Nat → Addr} {n : Nat} {l : List PV} {xs : List V} {ds : List PyData} (r : RpL K H m n l xs) (hl : xs.length = ds.length) : RpL K H m n (sortP l ds) (((xs.zip ds).mergeSort (PySem.W.dataLe false Prod.snd)).map Prod.fst) := by
  have T : List ((PV × V) × PyData) := (l.zip xs).zip ds
  have h1 : (((l.zip xs).zip ds).map fun t => (t.1.1, t.2)) = l.zip ds := by
    have : ∀ (l : List PV) (xs : List V) (ds : List PyData), l.length = xs.length → xs.length = ds.length → (((l.zip xs).zip ds).map fun t => (t.1.1, t.2)) = l.zip ds := by
      intro l
      induction l with
      | nil => intro xs ds _ _; simp
      | cons a l ih =>
        intro xs ds h1 h2
        cases xs with
        | nil => simp at h1
        | cons b xs => cases ds with
          | nil => simp at h2
          | cons c ds => simp [ih xs ds (by simpa using h1) (by simpa using h2)]
    exact this l xs ds r.length hl
  have h2 : (((l.zip xs).zip ds).map fun t => (t.1.2, t.2)) = xs.zip ds := by
    have : ∀ (l : List PV) (xs : List V) (ds : List PyData), l.length = xs.length → xs.length = ds.length → (((l.zip xs).zip ds).map fun t => (t.1.2, t.2)) = xs.zip ds := by
      intro l
      induction l with
      | nil => intro xs ds h1 _; cases xs with
        | nil => simp
        | cons b xs => simp at h1
      | cons a l ih =>
        intro xs ds h1 h2
        cases xs with
        | nil => simp at h1
        | cons b xs => cases ds with
          | nil => simp at h2
          | cons c ds => simp [ih xs ds (by simpa using h1) (by simpa using h2)]
    exact this l xs ds r.length hl
  have hm : ∀ t ∈ (l.zip xs).zip ds, Rp K H m n t.1.1 t.1.2 := by
    have hz : ∀ (l : List PV) (xs : List V), RpL K H m n l xs → ∀ t ∈ l.zip xs, Rp K H m n t.1 t.2 := by
      intro l xs r
      induction l generalizing xs with
      | nil => intro t ht; simp at ht
      | cons a l ih =>
        cases r with
        | cons q r =>
          intro t ht
          rw [List.zip_cons_cons] at ht
          rcases List.mem_cons.mp ht with rfl | ht
          · exact q
          · exact ih _ r t ht
    exact fun t ht => hz l xs r t.1 (List.of_mem_zip ht).1
  unfold sortP
  rw [← h1, ← h2]
  rw [← List.map_mergeSort (f := fun t : (PV × V) × PyData => (t.1.1, t.2)) (r := PySem.W.dataLe false Prod.snd) (s := PySem.W.dataLe false Prod.snd) (fun a _ b _ => rfl), ← List.map_mergeSort (f := fun t : (PV × V) × PyData => (t.1.2, t.2)) (r := PySem.W.dataLe false Prod.snd) (s := PySem.W.dataLe false Prod.snd) (fun a _ b _ => rfl)]
  rw [List.map_map, List.map_map]
  have hm2 : ∀ t ∈ ((l.zip xs).zip ds).mergeSort (PySem.W.dataLe false Prod.snd), Rp K H m n t.1.1 t.1.2 := fun t ht => hm t (List.mem_mergeSort.mp ht)
  have q := rpl_of_mem (K := K) (H := H) (m := m) (n := n) (T := (((l.zip xs).zip ds).mergeSort (PySem.W.dataLe false Prod.snd)).map Prod.fst) (fun t ht => by
    obtain ⟨u, hu, rfl⟩ := List.mem_map.mp ht
    exact hm2 u hu)
  rw [List.map_map, List.map_map] at q
  exact q
theorem mapO_len {α β : Type} {f : α → Option β} : ∀ {l : List α} {r : List β}, mapO f l = some r → l.length = r.length
  | [], _, h => by cases h; rfl
  | x :: xs, r, h => by
    unfold mapO at h
    split at h
    · rename_i y ys _ e2
      cases h
      rw [List.length_cons, List.length_cons, mapO_len e2]
    · cases h
theorem depthAll_mem : ∀ {ds : List PyData} {c : Nat}, PyData.depthAll ds ≤ c → ∀ d ∈ ds, d.depth ≤ c
  | _ :: _, _, h, d, hd => by
    rw [PyData.depthAll] at h
    rcases List.mem_cons.mp hd with rfl | hd
    · omega
    · exact depthAll_mem (by omega) d hd
theorem ok_sorted : OkGA K mg (rSortD K) gSorted := fun W σ m S H x d z Q s r e p => by
  unfold gSorted at e
  split at e
  · rename_i k
    split at e
    · rename_i l hl
      split at e
      · rename_i ds hds
        split at e
        · rename_i hc
          cases e
          cases r with
          | cons a b =>
            cases b; cases a
            obtain ⟨xs, h1, h2⟩ := lst_rp s hl
            obtain ⟨a1, a2, a3⟩ := mapO_dp (c := 40) (toD_dp s 40) hds h2
            exact ⟨_, xs, ds, rfl, h1, a1, alike_of hc.1, sortable_of hc.2, depthAll_mem a3, new_list s (sort_rp h2 (dpAll_len a1)) p⟩
        · cases e
      · cases e
    · cases e
  · cases e
end
end D

/-! D6: what is walked; comprehensions; methods of lists; stores. -/
namespace D
open PySem PySem.Spec PyProof.Rows L2

/-! ### ranges of any size -/
theorem turn_long {P : Program} {w : World} {K : PySem.W.Frag} {tg : Expr} (it : Addr) (lo : Int) (n : Nat) : Turn P w K tg (Itr lo n) [it] it (fun i h => IsLongIter h it (lo + (i : Nat) * 1) ((n : Int) - (i : Nat)) 1) where
  mem := by simp
  obj := fun i h st b hb => by
    have e : b = it := by simpa using hb
    subst e
    exact ⟨_, st, fun v z => by
      have z' : Data.fields _ = Data.cell v := z
      cases z'⟩
  keep := fun i h h' st k => k it (by simp) _ st
  item := by
    intro X hP hw hK hc i pins s σ H E I hf st hg
    subst hP hw hK
    obtain ⟨f0, f1, f2, f3, f4, f5⟩ := hf it (by simp)
    have W := Walks.longrange (prog := X.prog) (w := X.w) (I.ok.hd hc) it lo 1 n
    refine W.item i s _ _ hg st fun v h' tk hv st' kk => ?_
    obtain ⟨t, rfl⟩ := hv
    have I1 : Inv X pins σ H { s with heap := h', toks := tk } := I.turned (fun b o hb e => kk b o (by simpa using hb) e) f0 f1 f3 f4 f5
    refine ⟨_, rfl, go_of (s := { s with heap := h', toks := tk }) (n := "longrange_iterator") st' rfl rfl (by decide) ⟨.int (lo + i), H, I1, ⟨t, ?_⟩, ⟨rfl, rfl⟩, st', fun b hb => (hf b hb).1⟩⟩
    rw [Int.mul_one]
  done := by
    intro X hP hw hK hc i pins s σ H E I hf st hg
    subst hP hw hK
    obtain ⟨f0, f1, f2, f3, f4, f5⟩ := hf it (by simp)
    exact wpAny_pyNext_long_end (I.ok.hd hc) st (by have : n ≤ i := hg; omega) fun h' eb => ⟨rfl, I.turned (t' := s.toks) (fun b o hb e => eb b o hb e) f0 f1 f3 f4 f5⟩
  self := fun _ _ _ _ _ st h => wpAny_pyIter_longiter st h
section
variable {X : Cx} {tg : Expr}
theorem range_itA {pins : List (Addr × Obj)} {σ : L2.St} {H : Hp} {s : Shared} {R : It → Hp → Prop} {E : Value → Shared → Prop} {lo hi : Int} {t u v : Tok} {tk : Nat} (I : Inv X pins σ H s)
    (q : R (Itr lo (hi - lo).toNat) H) : wpAny (model X.prog X.w) X.A (pyIter (.ref s.heap.objs.size)) (PIE X pins σ tg R) E { s with heap := s.heap.push { cls := .type "range", data := .fields #[.int lo t, .int hi u, .int 1 v] }, toks := tk } := by
  have I1 : Inv X pins σ H { s with heap := s.heap.push { cls := .type "range", data := .fields #[.int lo t, .int hi u, .int 1 v] }, toks := tk } := I.kept fun b o e => Heap.get?_push_of_some _ e
  have e1 : lo + ((0 : Nat) : Int) * 1 = lo := by simp
  have e2 : (((hi - lo).toNat : Nat) : Int) - ((0 : Nat) : Int) = Builtin.Range.rangeSize lo hi 1 := by rw [rangeSize_one]; split <;> omega
  cases hs : Builtin.Range.small lo hi 1 with
  | true =>
    refine wpAny_pyIter_range (IsRange.new ..) hs ?_
    refine ⟨(s.heap.push { cls := .type "range", data := .fields #[.int lo t, .int hi u, .int 1 v] }).objs.size, [(s.heap.push { cls := .type "range", data := .fields #[.int lo t, .int hi u, .int 1 v] }).objs.size], _, _, H, rfl,
      I1.kept (t' := tk) fun b o e => Heap.get?_push_of_some _ e, turn_range _ lo (hi - lo).toNat, ?_, fun b hb => ?_, q⟩
    · show IsRangeIter _ _ (lo + ((0 : Nat) : Int) * 1) ((((hi - lo).toNat : Nat) : Int) - ((0 : Nat) : Int)) 1
      rw [e1, e2]
      exact Heap.get?_push_size _ rfl
    · have e : b = (s.heap.push { cls := .type "range", data := .fields #[.int lo t, .int hi u, .int 1 v] }).objs.size := by simpa using hb
      subst e
      exact I1.fpOk (Nat.le_refl _) (I1.hok.fresh (Nat.le_refl _))
  | false =>
    refine wpAny_pyIter_longrange (IsRange.new ..) hs ?_
    refine ⟨(s.heap.push { cls := .type "range", data := .fields #[.int lo t, .int hi u, .int 1 v] }).objs.size, [(s.heap.push { cls := .type "range", data := .fields #[.int lo t, .int hi u, .int 1 v] }).objs.size], _, _, H, rfl,
      I1.kept (t' := tk) fun b o e => Heap.get?_push_of_some _ e, turn_long _ lo (hi - lo).toNat, ?_, fun b hb => ?_, q⟩
    · show IsLongIter _ _ (lo + ((0 : Nat) : Int) * 1) ((((hi - lo).toNat : Nat) : Int) - ((0 : Nat) : Int)) 1
      rw [e1, e2]
      exact Heap.get?_push_size _ rfl
    · have e : b = (s.heap.push { cls := .type "range", data := .fields #[.int lo t, .int hi u, .int 1 v] }).objs.size := by simpa using hb
      subst e
      exact I1.fpOk (Nat.le_refl _) (I1.hok.fresh (Nat.le_refl _))
def iRngA1 (ta : TA) : TI := fun σ H R => ta σ H fun vs H1 => ∃ j : Int, vs = [.int j] ∧ R (Itr 0 j.toNat) H1
def iRngA2 (ta : TA) : TI := fun σ H R => ta σ H fun vs H1 => ∃ i j : Int, vs = [.int i, .int j] ∧ R (Itr i (j - i).toNat) H1
theorem pi_rangeA1 {a : Expr} {ta : TA} {p pos : Pos} (hg : Gl X "range") (hm : X.mg "range" = none) (ha : PA X [a] ta) (hs : starEach [a] X.env = [(false, eval a X.env)] := by rfl) : PI X tg (.Call (.Name "range" p) [a] [] pos) (iRngA1 ta) := by
  refine ⟨fun pins s σ H R I h => ?_⟩
  refine Call_ (ld_blt I hg hm boot_range (PyProof.Rows.callWith_type1 (thn (ha.run pos pins s σ H _ I h) fun us s1 ⟨vs, H1, I1, r1, q1⟩ => ?_) hs rfl))
  obtain ⟨j, e, q⟩ := q1
  subst e
  cases r1 with
  | cons r rr =>
    cases rr
    obtain ⟨t, rfl⟩ := r
    exact call_range_1 (range_itA I1 (by simpa using q))
theorem pi_rangeA2 {a b : Expr} {ta : TA} {p pos : Pos} (hg : Gl X "range") (hm : X.mg "range" = none) (ha : PA X [a, b] ta) (hs : starEach [a, b] X.env = [(false, eval a X.env), (false, eval b X.env)] := by rfl) (hs2 : starEach [b] X.env = [(false, eval b X.env)] := by rfl) :
    PI X tg (.Call (.Name "range" p) [a, b] [] pos) (iRngA2 ta) := by
  refine ⟨fun pins s σ H R I h => ?_⟩
  refine Call_ (ld_blt I hg hm boot_range (PyProof.Rows.callWith_type1 (thn (ha.run pos pins s σ H _ I h) fun us s1 ⟨vs, H1, I1, r1, q1⟩ => ?_) (by rw [hs, hs2]) (by rw [hs2]; rfl)))
  obtain ⟨i, j, e, q⟩ := q1
  subst e
  cases r1 with
  | cons r rr =>
    cases rr with
    | cons r' rr =>
      cases rr
      obtain ⟨t, rfl⟩ := r
      obtain ⟨t', rfl⟩ := r'
      exact call_range_2 (range_itA I1 q)
/-- a list or a tuple -/
def iSeq (K : PySem.W.Frag) (tl : TE) : TI := fun σ H R => tl σ H fun x H1 => ∃ a, x = .ref a ∧ (((∃ xs, SqL K H1 a xs) ∧ R (Itl K a) H1) ∨ ((∃ xs, SqT K H1 a xs) ∧ R (Itt K a) H1))
theorem pi_seq {l : Expr} {tl : TE} (hl : PE X l tl) : PI X tg l (iSeq X.K tl) := by
  refine ⟨fun pins s σ H R I h => ?_⟩
  refine thn (hl.run pins s σ H _ I h) fun v s1 ⟨x, H1, I1, r1, q1⟩ => ?_
  obtain ⟨a, e, q1⟩ := q1
  subst e
  cases r1
  rcases q1 with ⟨⟨xs, hq⟩, q⟩ | ⟨⟨xs, hq⟩, q⟩
  · obtain ⟨its, rv, p, hz⟩ := I1.list hq
    refine wpAny_pyIter_list p.isList ?_
    refine ⟨s1.heap.objs.size, [s1.heap.objs.size], _, _, H1, rfl, I1.kept (t' := s1.toks) fun b o e => Heap.get?_push_of_some _ e, turn_list a _, ⟨_, Heap.get?_push_size _ rfl, rfl, rfl⟩, fun b hb => ?_, q⟩
    have e : b = s1.heap.objs.size := by simpa using hb
    subst e
    exact I1.fpOk (Nat.le_refl _) (I1.hok.fresh (Nat.le_refl _))
  · obtain ⟨its, rv, p, hz⟩ := I1.tuple hq
    refine wpAny_pyIter_tuple (show s1.heap.IsTuple a its.toArray from p) ?_
    refine ⟨s1.heap.objs.size, [s1.heap.objs.size], _, _, H1, rfl, I1.kept (t' := s1.toks) fun b o e => Heap.get?_push_of_some _ e, turn_tuple a _, ⟨_, Heap.get?_push_size _ rfl, rfl, rfl⟩, fun b hb => ?_, q⟩
    have e : b = s1.heap.objs.size := by simpa using hb
    subst e
    exact I1.fpOk (Nat.le_refl _) (I1.hok.fresh (Nat.le_refl _))
end

/-! ### sources -/
section
variable {K : PySem.W.Frag} {mg : Str → Option Value} {m : Nat → Addr} {n : Nat} {H : Hp} {S : Sto}
theorem itOk_tup {a : Addr} {xs : List V} {l : List PV} (hs : SqT K H a xs) (r : RpL K H m n l xs) : ItOk K mg (Itt K a) ⟨l, []⟩ n m H where
  go := fun i d m' S H' le x s _ e => by
    have hs' := x.tp _ _ hs
    obtain ⟨v, h1, h2⟩ := (r.mono x le).get e
    refine ⟨⟨xs, v, hs', h1⟩, fun y H2 hy => ?_⟩
    obtain ⟨e1, e2⟩ := hy
    subst e1
    have : xs[i]? = some y := e2 xs hs'
    rw [h1] at this
    cases this
    exact ⟨m', Ext.refl, s, h2⟩
  stop := fun m' S H' le x s _ => ⟨xs, x.tp _ _ hs, by rw [← r.length]; exact Nat.le_refl _⟩
theorem itOk_lst {k : Nat} {l : List PV} {po : PO} (s0 : StS K mg m S H) (e0 : S[k]? = some po) (hl : lstOf k S = some l) : ItOk K mg (Itl K (m k)) ⟨l, [(k, po)]⟩ S.length m H where
  go := fun i d m' S' H' le x s kp e => by
    have e1 : S'[k]? = some po := kp (k, po) (by simp)
    have hl' : lstOf k S' = some l := by
      unfold lstOf at hl ⊢
      rw [e0] at hl
      rw [e1]; exact hl
    obtain ⟨xs, h1, h2⟩ := lst_rp s hl'
    obtain ⟨v, h3, h4⟩ := h2.get e
    rw [x.mp k (lt_of_get e0)] at h1
    refine ⟨⟨xs, v, h1, h3⟩, fun y H2 hy => ?_⟩
    obtain ⟨e1, e2⟩ := hy
    subst e1
    have : xs[i]? = some y := e2 xs h1
    rw [h3] at this
    cases this
    exact ⟨m', Ext.refl, s, h4⟩
  stop := fun m' S' H' le x s kp => by
    have e1 : S'[k]? = some po := kp (k, po) (by simp)
    have hl' : lstOf k S' = some l := by
      unfold lstOf at hl ⊢
      rw [e0] at hl
      rw [e1]; exact hl
    obtain ⟨xs, h1, h2⟩ := lst_rp s hl'
    rw [x.mp k (lt_of_get e0)] at h1
    exact ⟨xs, h1, by rw [← h2.length]; exact Nat.le_refl _⟩
def rangeP (lo : Int) (n : Nat) : List PV := (List.range n).map fun i : Nat => PV.int (lo + (i : Int))
theorem itOk_rng {lo : Int} {c : Nat} : ItOk K mg (Itr lo c) ⟨rangeP lo c, []⟩ n m H where
  go := fun i d m' S' H' le x s kp e => by
    have hi : i < c := by
      have := lt_of_get e
      simpa [rangeP] using this
    have e' : d = .int (lo + i) := by
      have e' : (rangeP lo c)[i]? = some d := e
      unfold rangeP at e'
      rw [List.getElem?_map, List.getElem?_range hi] at e'
      cases e'; rfl
    subst e'
    refine ⟨hi, fun y H2 hy => ?_⟩
    obtain ⟨e1, e2⟩ := hy
    subst e1; subst e2
    exact ⟨m', Ext.refl, s, .int _⟩
  stop := fun m' S' H' le x s kp => by
    show c ≤ (rangeP lo c).length
    simp [rangeP]
theorem itOk_str {z : Str} : ItOk K mg (Its z) ⟨z.cps.toList.map fun c => .str ⟨#[c]⟩, []⟩ n m H where
  go := fun i d m' S' H' le x s kp e => by
    have e' : (z.cps.toList.map fun c => PV.str ⟨#[c]⟩)[i]? = some d := e
    rw [List.getElem?_map] at e'
    cases q : z.cps.toList[i]? with
    | none => rw [q] at e'; cases e'
    | some c =>
      rw [q] at e'
      cases e'
      have hi : i < z.cps.size := by simpa using lt_of_get q
      refine ⟨hi, fun y H2 hy => ?_⟩
      obtain ⟨e1, c', e2, e3⟩ := hy
      subst e1; subst e3
      have : c' = c := by
        rw [Array.getElem?_toList] at q
        rw [q] at e2; cases e2; rfl
      subst this
      exact ⟨m', Ext.refl, s, .str _⟩
  stop := fun m' S' H' le x s kp => by
    show z.cps.size ≤ _
    simp
end
section
variable {X : Cx} {W : WX} {tg e : Expr} {fe : DE}
theorem lstOf1 {S : Sto} {k : Nat} {l : List PV} (e : S[k]? = some (.lst l)) : lstOf k S = some l := by unfold lstOf; rw [e]
theorem lstOf2 {S : Sto} {k : Nat} {l : List PV} (e : S[k]? = some (.fz l)) : lstOf k S = some l := by unfold lstOf; rw [e]
/-- a list or a tuple -/
def dSeqI (f : DE) : DI := fun ρ S => bR (f ρ S) fun x S1 => match x with
  | .tup l => some (.ok ⟨l, []⟩ S1)
  | .loc k => match S1[k]? with
    | some (.lst l) => some (.ok ⟨l, [(k, .lst l)]⟩ S1)
    | some (.fz l) => some (.ok ⟨l, [(k, .fz l)]⟩ S1)
    | _ => none
  | _ => none
theorem di_seq (h : PEd X W e fe) : PId X W tg e (dSeqI fe) := (pi_seq h).imp fun σ H Q h => by
  refine (bind1 (ra := rE X.K) h).mono fun v H1 ⟨m, ρ, S, d, z, s, en, r1, hk, p⟩ => ?_
  split at hk
  · cases r1 with
    | @tup l a xs h1 h2 =>
      cases hk
      exact ⟨a, rfl, .inr ⟨⟨xs, h1⟩, p _ m H1 (Nat.le_refl _) Ext.refl s (itOk_tup h1 h2)⟩⟩
  · cases r1 with
    | loc hk' =>
      split at hk
      · rename_i e1
        cases hk
        have hl := lstOf1 e1
        obtain ⟨xs, h1, h2⟩ := lst_rp s hl
        exact ⟨_, rfl, .inl ⟨⟨xs, h1⟩, p _ m H1 (Nat.le_refl _) Ext.refl s (itOk_lst s e1 hl)⟩⟩
      · rename_i e1
        cases hk
        have hl := lstOf2 e1
        obtain ⟨xs, h1, h2⟩ := lst_rp s hl
        exact ⟨_, rfl, .inl ⟨⟨xs, h1⟩, p _ m H1 (Nat.le_refl _) Ext.refl s (itOk_lst s e1 hl)⟩⟩
      · cases hk
  · cases hk
def dStrI (f : DE) : DI := fun ρ S => bR (f ρ S) fun x S1 => match x with
  | .str z => some (.ok ⟨z.cps.toList.map fun c => .str ⟨#[c]⟩, []⟩ S1)
  | _ => none
theorem di_str (h : PEd X W e fe) : PId X W tg e (dStrI fe) := (pi_str h).imp fun σ H Q h => by
  refine (bind1 (ra := rE X.K) h).mono fun v H1 ⟨m, ρ, S, d, z, s, en, r1, hk, p⟩ => ?_
  split at hk
  · cases hk; cases r1
    exact ⟨_, rfl, p _ m H1 (Nat.le_refl _) Ext.refl s itOk_str⟩
  · cases hk
def dRng1 (f : DA) : DI := fun ρ S => bR (f ρ S) fun x S1 => match x with
  | [.int j] => some (.ok ⟨rangeP 0 j.toNat, []⟩ S1)
  | _ => none
def dRng2 (f : DA) : DI := fun ρ S => bR (f ρ S) fun x S1 => match x with
  | [.int i, .int j] => some (.ok ⟨rangeP i (j - i).toNat, []⟩ S1)
  | _ => none
theorem di_rng1 {a : Expr} {f : DA} {p pos : Pos} (hg : Gl X "range") (hm : X.mg "range" = none) (ha : PAd X W [a] f) (hs : starEach [a] X.env = [(false, eval a X.env)] := by rfl) : PId X W tg (.Call (.Name "range" p) [a] [] pos) (dRng1 f) :=
  (pi_rangeA1 hg hm ha hs).imp fun σ H Q h => by
  refine (bind1 (ra := rA X.K) h).mono fun v H1 ⟨m, ρ, S, d, z, s, en, r1, hk, p⟩ => ?_
  split at hk
  · cases hk
    cases r1 with
    | cons a b =>
      cases a; cases b
      exact ⟨_, rfl, p _ m H1 (Nat.le_refl _) Ext.refl s itOk_rng⟩
  · cases hk
theorem di_rng2 {a b : Expr} {f : DA} {p pos : Pos} (hg : Gl X "range") (hm : X.mg "range" = none) (ha : PAd X W [a, b] f) (hs : starEach [a, b] X.env = [(false, eval a X.env), (false, eval b X.env)] := by rfl) (hs2 : starEach [b] X.env = [(false, eval b X.env)] := by rfl) :
    PId X W tg (.Call (.Name "range" p) [a, b] [] pos) (dRng2 f) :=
  (pi_rangeA2 hg hm ha hs hs2).imp fun σ H Q h => by
  refine (bind1 (ra := rA X.K) h).mono fun v H1 ⟨m, ρ, S, d, z, s, en, r1, hk, p⟩ => ?_
  split at hk
  · cases hk
    cases r1 with
    | cons a b => cases b with
      | cons b c =>
        cases a; cases b; cases c
        exact ⟨_, _, rfl, p _ m H1 (Nat.le_refl _) Ext.refl s itOk_rng⟩
  · cases hk
end

/-! ### comprehensions -/
abbrev PTsd (X : Cx) (W : WX) (ifs : List Expr) (f : DB) : Prop := PTs X ifs (tT X.K X.mg W f)
theorem _root_.L2.PTs.imp {X : Cx} {e : List Expr} {t t' : TT} (h : PTs X e t) (i : ∀ σ H Q, t' σ H Q → t σ H Q) : PTs X e t' := ⟨fun pins s σ H Q I q => h.run pins s σ H Q I (i _ _ _ q)⟩
def dYes : DB := fun _ S => some (.ok true S)
theorem dts_nil {X : Cx} {W : WX} : PTsd X W [] dYes := pts_nil.imp fun σ H Q h => by
  obtain ⟨m, ρ, S, r, s, e, hf, p⟩ := h
  cases hf
  exact p _ m H (Nat.le_refl _) Ext.refl s rfl
theorem dts_one {X : Cx} {W : WX} {c : Expr} {f : DB} (h : PTd X W c f) : PTsd X W [c] f := pts_one h
abbrev W0 : WX := fun _ _ _ _ => False

/-- names that are set -/
def setsE : List Nat → List PV → En → En
  | i :: is, v :: vs, ρ => setsE is vs (ρ.set i (some v))
  | _, _, ρ => ρ
def setsV : List Nat → List V → L2.St → L2.St
  | i :: is, v :: vs, σ => setsV is vs (σ.set i (some v))
  | _, _, σ => σ
theorem wipe_set (σ : L2.St) (i : Nat) (o : Option V) : ∀ vs : List Nat, i ∈ vs → wipe (σ.set i o) vs = wipe σ vs
  | [], h => absurd h (by simp)
  | v :: vs, h => by
    unfold wipe
    by_cases hm : i ∈ vs
    · rw [wipe_set σ i o vs hm]
    · have hv : i = v := by
        rcases List.mem_cons.mp h with e | e
        · exact e
        · exact absurd e hm
      subst hv
      have : ∀ (vs : List Nat) (σ : L2.St), i ∉ vs → wipe (σ.set i o) vs = (wipe σ vs).set i o := by
        intro vs
        induction vs with
        | nil => intro σ _; rfl
        | cons u us ih =>
          intro σ hn
          unfold wipe
          rw [ih σ (fun q => hn (List.mem_cons_of_mem _ q)), List.set_comm _ _ (fun q => hn (by rw [q]; exact List.mem_cons_self))]
      rw [this vs σ hm, List.set_set]
theorem wipe_wipe (σ : L2.St) : ∀ vs ws : List Nat, (∀ i ∈ vs, i ∈ ws) → wipe (wipe σ vs) ws = wipe σ ws
  | [], _, _ => rfl
  | v :: vs, ws, h => by
    show wipe ((wipe σ vs).set v none) ws = _
    rw [wipe_set _ _ _ ws (h v List.mem_cons_self), wipe_wipe σ vs ws fun i hi => h i (List.mem_cons_of_mem _ hi)]
theorem wipe_sets : ∀ (is : List Nat) (xs : List V) (σ : L2.St) (vs : List Nat), (∀ i ∈ is, i ∈ vs) → wipe (setsV is xs σ) vs = wipe σ vs
  | [], _, _, _, _ => rfl
  | _ :: _, [], _, _, _ => rfl
  | i :: is, x :: xs, σ, vs, h => by
    show wipe (setsV is xs (σ.set i (some x))) vs = _
    rw [wipe_sets is xs _ vs fun j hj => h j (List.mem_cons_of_mem _ hj), wipe_set _ _ _ vs (h i List.mem_cons_self)]
theorem EnR.sets {K : PySem.W.Frag} {H : Hp} {m : Nat → Addr} {n : Nat} : ∀ (is : List Nat) {l : List PV} {xs : List V} {ρ : En} {σ : L2.St}, RpL K H m n l xs → EnR K H m n ρ σ → EnR K H m n (setsE is l ρ) (setsV is xs σ)
  | [], _, _, _, _, _, h => by
    unfold setsE setsV; exact h
  | i :: is, _, _, _, _, .nil, h => h
  | i :: is, _, _, _, _, .cons a r, h => EnR.sets is r (h.set a)
theorem EnR.wipe {K : PySem.W.Frag} {H : Hp} {m : Nat → Addr} {n : Nat} {ρ : En} {σ : L2.St} (h : EnR K H m n ρ σ) : ∀ vs : List Nat, EnR K H m n (killE vs ρ) (L2.wipe σ vs) := fun vs => by
  refine ⟨?_, fun i v e => ?_⟩
  · have : ∀ (vs : List Nat) (ρ : En), (killE vs ρ).length = ρ.length := by
      intro vs
      induction vs with
      | nil => intro ρ; rfl
      | cons v vs ih => intro ρ; show (killE vs (ρ.set v none)).length = _; rw [ih, List.length_set]
    rw [this, wipe_length, h.len]
  · have key : ∀ (vs : List Nat) (ρ : En), (killE vs ρ)[i]? = some (some v) → ρ[i]? = some (some v) ∧ i ∉ vs := by
      intro vs
      induction vs with
      | nil => intro ρ e; exact ⟨e, by simp⟩
      | cons u us ih =>
        intro ρ e
        obtain ⟨e1, e2⟩ := ih (ρ.set u none) e
        by_cases hu : u = i
        · subst hu
          by_cases hl : u < ρ.length
          · rw [List.getElem?_set_self hl] at e1; cases e1
          · rw [List.set_eq_of_length_le (by omega)] at e1
            exact absurd (lt_of_get e1) hl
        · rw [List.getElem?_set_ne hu] at e1
          exact ⟨e1, fun q => (List.mem_cons.mp q).elim (fun z => hu z.symm) e2⟩
    obtain ⟨e1, e2⟩ := key vs ρ e
    obtain ⟨x, h1, h2⟩ := h.at_ i v e1
    refine ⟨x, ?_, h2⟩
    have : ∀ vs : List Nat, i ∉ vs → (L2.wipe σ vs)[i]? = σ[i]? := by
      intro vs
      induction vs with
      | nil => intro _; rfl
      | cons u us ih =>
        intro hn
        show ((L2.wipe σ us).set u none)[i]? = _
        rw [List.getElem?_set_ne (fun q => hn (by rw [← q]; exact List.mem_cons_self)), ih fun q => hn (List.mem_cons_of_mem _ q)]
    rw [this vs e2]; exact h1
/-- a target of names alone: one name, or a tuple of names -/
structure NmT (K : PySem.W.Frag) (mg : Str → Option Value) (g : TG) (f : PV → Option (List Nat × List PV)) (own : List Nat) : Prop where
  run : ∀ (m : Nat → Addr) (S : Sto) (H : Hp) (d : PV) (v : V) (is : List Nat) (l : List PV) (σ : L2.St) (Q : L2.St → Hp → Prop), StS K mg m S H → Rp K H m S.length d v → f d = some (is, l) →
    (∀ i ∈ is, i ∈ own) ∧ ((∀ xs, RpL K H m S.length l xs → Q (setsV is xs σ) H) → g v σ H Q)
def nmOne (i : Nat) : PV → Option (List Nat × List PV) := fun d => some ([i], [d])
def nmTup (is : List Nat) : PV → Option (List Nat × List PV) := fun d => match d with
  | .tup l => if l.length = is.length then some (is, l) else none
  | _ => none
theorem nm_one {K : PySem.W.Frag} {mg : Str → Option Value} (i : Nat) : NmT K mg (gName i) (nmOne i) [i] := ⟨fun m S H d v is l σ Q s r e => by
  cases e
  exact ⟨by simp, fun q => q [v] (.cons r .nil)⟩⟩
def gNames : List Nat → TGs
  | [] => gNil
  | i :: is => gCons (gName i) (gNames is)
theorem names_run : ∀ (is : List Nat) (xs : List V) (σ : L2.St) (H : Hp) (Q : L2.St → Hp → Prop), xs.length = is.length → Q (setsV is xs σ) H → gNames is xs σ H Q
  | [], [], _, _, _, _, q => ⟨rfl, q⟩
  | [], _ :: _, _, _, _, h, _ => by simp at h
  | _ :: _, [], _, _, _, h, _ => by simp at h
  | i :: is, x :: xs, σ, H, Q, h, q => ⟨x, xs, rfl, names_run is xs _ H Q (by simpa using h) q⟩
theorem nm_tup {K : PySem.W.Frag} {mg : Str → Option Value} (is : List Nat) {c : Nat} (hc : c = is.length := by rfl) : NmT K mg (gTup K c (gNames is)) (nmTup is) is := ⟨fun m S H d v is' l σ Q s r e => by
  unfold nmTup at e
  split at e
  · split at e
    · rename_i hl
      cases e
      cases r with
      | @tup _ a xs h1 h2 =>
        refine ⟨fun _ h => h, fun q => ⟨a, xs, rfl, h1, by rw [hc, ← hl]; exact h2.length.symm, names_run _ _ _ _ _ (by rw [← h2.length]; exact hl) (q xs h2)⟩⟩
    · cases e
  · cases e⟩
open Classical in
noncomputable def compL (c : Nat) (f : PV → Option (List Nat × List PV)) (own : List Nat) (tt : DB) (elt : DE) (keep : List (Nat × PO)) : List PV → En → Sto → Option (R PV)
  | [], ρ, S => if Kept keep S then some (.ok (.loc c) S) else none
  | x :: xs, ρ, S => if Kept keep S then match f x with
    | some (is, l) => match tt (setsE is l (killE own ρ)) S with
      | some (.ok true S2) => match elt (setsE is l (killE own ρ)) S2 with
        | some (.ok v S3) => match S3[c]? with
          | some (.lst acc) => if acc.length < 16777216 then compL c f own tt elt keep xs ρ (S3.set c (.lst (acc ++ [v]))) else none
          | _ => none
        | _ => none
      | some (.ok false S2) => compL c f own tt elt keep xs ρ S2
      | _ => none
    | none => none else none
noncomputable def dComp (it : DI) (f : PV → Option (List Nat × List PV)) (own : List Nat) (tt : DB) (elt : DE) : DE := fun ρ S => bR (it ρ S) fun src S1 => compL S1.length f own tt elt src.keep src.items ρ (S1 ++ [.lst []])
theorem lift_comp {K : PySem.W.Frag} {mg : Str → Option Value} {W : WX} {it : DI} {g : TG} {f : PV → Option (List Nat × List PV)} {own ownG : List Nat} {tt : DB} {elt : DE} {σ : L2.St} {H : Hp} {Q : VK} (hg : NmT K mg g f ownG) (ho : ∀ i ∈ ownG, i ∈ own)
    (h : tD K mg W (dComp it f own tt elt) σ H Q) : tLc (tG K mg (rItr K mg) W it) g (tT K mg W0 tt) (tD K mg W0 elt) own σ H Q := by
  refine (bind1 (ra := rItr K mg) h).mono fun J H0 ⟨m0, ρ, S0, src, r, s0, e0, ok, hk, p0⟩ => ?_
  intro D hD
  have st0 := s0.push (p := D) (ho := .lst []) (po := .lst []) hD rfl ⟨[], upd_same, .nil⟩
  have x0 : Ext K S0.length m0 H0 (mext m0 S0.length D) (upd H0 D (.lst [])) := ext_push hD
  have hlen0 : (S0 ++ [PO.lst []]).length = S0.length + 1 := by simp
  refine ⟨fun i c H => c = src.items.length - i ∧ i ≤ src.items.length ∧ ∃ m S, StS K mg m S H ∧ S0.length + 1 ≤ S.length ∧ Ext K (S0.length + 1) (mext m0 S0.length D) (upd H0 D (.lst [])) m H ∧ compL S0.length f own tt elt src.keep (src.items.drop i) ρ S = some r,
    ⟨src.items.length, rfl, Nat.zero_le _, _, _, st0, by simp, Ext.refl, hk⟩, ?_⟩
  rintro i c H ⟨rfl, hi, m, S, s, le, x, hf⟩
  have x1 : Ext K S0.length m0 H0 m H := x0.trans x (Nat.le_succ _)
  have le1 : S0.length ≤ S.length := by omega
  have hmD : m S0.length = D := by
    rw [x.mp _ (Nat.lt_succ_self _), mext_same]
  by_cases hlt : i < src.items.length
  · have ed : src.items.drop i = src.items[i] :: src.items.drop (i + 1) := List.drop_eq_getElem_cons hlt
    rw [ed] at hf
    unfold compL at hf
    split at hf
    · rename_i kp
      obtain ⟨go, yl⟩ := ok.go i src.items[i] m S H le1 x1 s kp (List.getElem?_eq_getElem hlt)
      split at hf
      · rename_i is l hfl
        refine .inr ⟨go, fun H' => ∃ m' S', StS K mg m' S' H' ∧ S0.length + 1 ≤ S'.length ∧ Ext K (S0.length + 1) (mext m0 S0.length D) (upd H0 D (.lst [])) m' H' ∧ compL S0.length f own tt elt src.keep (src.items.drop (i + 1)) ρ S' = some r, ?_, fun y H2 hy => ?_⟩
        · rintro H' ⟨m', S', s', le', x', hf'⟩
          exact ⟨src.items.length - (i + 1), by omega, rfl, hlt, m', S', s', le', x', hf'⟩
        · obtain ⟨m2, x2, s2, r2⟩ := yl y H2 hy
          have x02 : Ext K (S0.length + 1) (mext m0 S0.length D) (upd H0 D (.lst [])) m2 H2 := x.trans x2 le
          obtain ⟨hin, hrun⟩ := hg.run m2 S H2 src.items[i] y is l (wipe σ own) (fun σ2 H2 => wipe σ2 own = wipe σ own ∧ tT K mg W0 tt σ2 H2 fun b H3 =>
            if b = true then tD K mg W0 elt σ2 H3 fun y H4 => ∃ acc, H4 D = some (.lst acc) ∧ acc.length < sizeLine ∧ ∃ m' S', StS K mg m' S' (upd H4 D (.lst (acc ++ [y]))) ∧ S0.length + 1 ≤ S'.length ∧ Ext K (S0.length + 1) (mext m0 S0.length D) (upd H0 D (.lst [])) m' (upd H4 D (.lst (acc ++ [y]))) ∧ compL S0.length f own tt elt src.keep (src.items.drop (i + 1)) ρ S' = some r
            else ∃ m' S', StS K mg m' S' H3 ∧ S0.length + 1 ≤ S'.length ∧ Ext K (S0.length + 1) (mext m0 S0.length D) (upd H0 D (.lst [])) m' H3 ∧ compL S0.length f own tt elt src.keep (src.items.drop (i + 1)) ρ S' = some r) s2 r2 hfl
          refine hrun fun xs rxs => ⟨?_, ?_⟩
          · rw [wipe_sets is xs _ own fun i hi => ho i (hin i hi), wipe_wipe σ own own fun _ h => h]
          · have en2 : EnR K H2 m2 S.length (setsE is l (killE own ρ)) (setsV is xs (wipe σ own)) := EnR.sets is rxs ((e0.mono (x1.trans x2 le1) le1).wipe own)
            cases q : tt (setsE is l (killE own ρ)) S with
            | none => rw [q] at hf; cases hf
            | some z =>
              rw [q] at hf
              cases z with
              | exc ex T => cases hf
              | ok b S2 =>
                refine ⟨m2, _, S, .ok b S2, s2, en2, q, fun b' m3 H3 le3 x3 s3 rb => ?_⟩
                cases rb
                have x03 := x02.trans x3 le
                have le03 : S0.length + 1 ≤ S2.length := Nat.le_trans le le3
                cases b with
                | false =>
                  rw [if_neg Bool.false_ne_true]
                  exact ⟨m3, S2, s3, le03, x03, hf⟩
                | true =>
                  rw [if_pos rfl]
                  dsimp only at hf
                  have en3 := en2.mono x3 le3
                  cases q2 : elt (setsE is l (killE own ρ)) S2 with
                  | none => rw [q2] at hf; cases hf
                  | some z2 =>
                    rw [q2] at hf
                    cases z2 with
                    | exc ex T => cases hf
                    | ok v S3 =>
                      refine ⟨m3, _, S2, .ok v S3, s3, en3, q2, fun v' m4 H4 le4 x4 s4 rv => ?_⟩
                      have x04 := x03.trans x4 le03
                      have le04 : S0.length + 1 ≤ S3.length := Nat.le_trans le03 le4
                      dsimp only at hf
                      split at hf
                      · rename_i acc hacc
                        split at hf
                        · rename_i hz
                          have hm4 : m4 S0.length = D := by rw [x04.mp _ (Nat.lt_succ_self _), mext_same]
                          obtain ⟨ys, h1, h2⟩ := s4.obj _ _ hacc
                          rw [hm4] at h1
                          have mu : Mut (H4 D) := by rw [h1]; trivial
                          have ex5 : Ext K S3.length m4 H4 m4 (upd H4 D (.lst (ys ++ [v']))) := ext_upd (.inr mu)
                          refine ⟨ys, h1, by rw [← h2.length]; exact Nat.lt_of_lt_of_le hz (by decide), m4, S3.set S0.length (.lst (acc ++ [v])), ?_, by rw [List.length_set]; exact le04, x04.trans ex5 le04, hf⟩
                          have := s4.write (k := S0.length) (ho := .lst (ys ++ [v'])) (po' := .lst (acc ++ [v])) hacc rfl rfl ⟨ys ++ [v'], by rw [hm4]; exact upd_same, by
                            rw [hm4]
                            exact (h2.mono ex5 (Nat.le_refl _)).append (.cons (Rp.mono ex5 (Nat.le_refl _) rv) .nil)⟩
                          rw [hm4] at this
                          exact this
                        · cases hf
                      · cases hf
      · cases hf
    · cases hf
  · have ei : i = src.items.length := by omega
    subst ei
    rw [List.drop_length] at hf
    unfold compL at hf
    split at hf
    · rename_i kp
      cases hf
      refine .inl ⟨ok.stop m S H le1 x1 s kp, ?_⟩
      have rp : Rp K H m S.length (.loc S0.length) (.ref (m S0.length)) := .loc (by omega)
      rw [hmD] at rp
      exact p0 _ m H le1 x1 s rp
    · cases hf
section
variable {X : Cx} {W : WX} {elt tg iter : Expr} {ifs : List Expr} {scope : Scope} {own : List (Str × Nat)} {pos : Pos} {it : DI} {g : TG} {f : PV → Option (List Nat × List PV)} {ownG : List Nat} {tt : DB} {te : DE}
theorem de_comp (hc : X.calm = true) (hN : X.N.Nodup) (hi : PId X W tg iter it) (ok : BlkOk X.N X.env.scope scope own) (hn : NmT X.K X.mg g f ownG)
    (hg : ∀ (s : Shared) (H : Hp) (C : Addr) (cl : List (Str × Addr)) (fp : List Addr), PG (X.blk s H scope (compEnvC scope cl C X.env) fp) tg g)
    (ht : ∀ (s : Shared) (H : Hp) (C : Addr) (cl : List (Str × Addr)) (fp : List Addr), PTsd (X.blk s H scope (compEnvC scope cl C X.env) fp) W0 ifs tt)
    (he : ∀ (s : Shared) (H : Hp) (C : Addr) (cl : List (Str × Addr)) (fp : List Addr), PEd (X.blk s H scope (compEnvC scope cl C X.env) fp) W0 elt te) (ho : ∀ i ∈ ownG, i ∈ own.map (·.2) := by decide) (hs : ∀ x, foldedSetIterable iter X.env x = pure x := by intro _; rfl) :
    PEd X W (.ListComp elt [⟨tg, iter, ifs, 0⟩] scope pos) (dComp it f (own.map (·.2)) tt te) :=
  (pe_lc hc hN hi ok hg ht he hs).imp fun σ H Q h => lift_comp hn ho h
theorem ds_setComp {i : Nat} {y : Str} {py spos : Pos} (hc : X.calm = true) (hN : X.N.Nodup) (hy : X.N[i]? = some y) (hyl : X.env.scope.names.lookup y = some .local)
    (hsw : swapsWith (.ListComp elt [⟨tg, iter, ifs, 0⟩] scope pos) (some (.Name y py)) spos.line X.env = pure true) (hi : PId X W tg iter it) (ok : BlkOk X.N X.env.scope scope own) (hn : NmT X.K X.mg g f ownG)
    (hg : ∀ (s : Shared) (H : Hp) (C : Addr) (cl : List (Str × Addr)) (fp : List Addr), PG (X.blk s H scope (compEnvC scope cl C X.env) fp) tg g)
    (ht : ∀ (s : Shared) (H : Hp) (C : Addr) (cl : List (Str × Addr)) (fp : List Addr), PTsd (X.blk s H scope (compEnvC scope cl C X.env) fp) W0 ifs tt)
    (he : ∀ (s : Shared) (H : Hp) (C : Addr) (cl : List (Str × Addr)) (fp : List Addr), PEd (X.blk s H scope (compEnvC scope cl C X.env) fp) W0 elt te) (ho : ∀ i ∈ ownG, i ∈ own.map (·.2) := by decide) (hs : ∀ x, foldedSetIterable iter X.env x = pure x := by intro _; rfl) :
    PSd X W (.Assign [.Name y py] (.ListComp elt [⟨tg, iter, ifs, 0⟩] scope pos) spos) (dSet i (dComp it f (own.map (·.2)) tt te)) :=
  (ps_setLc hc hN hy hyl hsw hi ok hg ht he hs).imp fun D σ H h => by
  have h2 : tD X.K X.mg W (dComp it f (own.map (·.2)) tt te) σ H fun v H1 => ∃ m ρ S d r, StS X.K X.mg m S H1 ∧ EnR X.K H1 m S.length ρ σ ∧ rE X.K H1 m S.length d v ∧ some (RS.next (ρ.set i (some d)) S) = some r ∧ PostS X.K X.mg W m S H1 r D := bindS (ra := rE X.K) h
  have h3 : tD X.K X.mg W (dComp it f (own.map (·.2)) tt te) σ H fun v H1 => gName i v σ H1 D.nx := h2.mono fun v H1 ⟨m, ρ, S, d, r, s, en, r1, hk, p⟩ => by
    cases hk
    exact p _ m H1 (Nat.le_refl _) Ext.refl s (en.set r1)
  exact lift_comp hn ho h3
end
end D

/-! D7: chains, methods, stores, isinstance, exceptions. -/
namespace D
open PySem PySem.Spec PyProof.Rows L2

/-! ### a < b < c -/
def dChain (g g' : G2) (a b c : DE) : DE := fun ρ S => bR (a ρ S) fun x S1 => bR (b ρ S1) fun y S2 => bR (g x y S2) fun z S3 => match z with
  | .bl true => bR (c ρ S3) fun w S4 => g' y w S4
  | .bl false => some (.ok (.bl false) S3)
  | _ => none
theorem lift_chain {K : PySem.W.Frag} {mg : Str → Option Value} {W : WX} {σ : L2.St} {H : Hp} {Q : VK} {r r' : R2} {g g' : G2} {fa fb fc : DE} (hg : OkG2 K mg r g) (hg' : OkG2 K mg r' g') (h : tD K mg W (dChain g g' fa fb fc) σ H Q) :
    tChain r r' (tD K mg W fa) (tD K mg W fb) (tD K mg W fc) σ H Q := by
  refine (bind2 (ra := rE K) (rb := rE K) keeps_E (k := fun ρ x y S2 => bR (g x y S2) fun z S3 => match z with
    | .bl true => bR (fc ρ S3) fun w S4 => g' y w S4
    | .bl false => some (.ok (.bl false) S3)
    | _ => none) h).mono fun v H1 h1 => h1.mono fun u H2 ⟨m, ρ, S, d, d', z, s, e, r1, r2, hk, p⟩ => ?_
  have hk : bR (g d d' S) (fun z S3 => match z with
    | .bl true => bR (fc ρ S3) fun w S4 => g' d' w S4
    | .bl false => some (.ok (.bl false) S3)
    | _ => none) = some z := hk
  cases q : g d d' S with
  | none => rw [q] at hk; cases hk
  | some z1 =>
    rw [q] at hk
    refine hg W σ m S H2 v u d d' z1 _ s r1 r2 q ?_
    cases z1 with
    | exc x T => cases hk; exact p
    | ok z2 T =>
      intro v2 m2 H3 le x s2 rv
      unfold bR at hk
      dsimp only at hk
      split at hk
      · cases rv
        refine ⟨true, rfl, ?_⟩
        rw [if_pos rfl]
        cases q3 : fc ρ T with
        | none => rw [q3] at hk; cases hk
        | some z3 =>
          rw [q3] at hk
          refine ⟨m2, ρ, T, z3, s2, e.mono x le, q3, ?_⟩
          cases z3 with
          | exc ex T => cases hk; exact p.on le x
          | ok w T2 => exact fun w' m3 H4 le3 x3 s3 rw => hg' W σ m3 T2 H4 _ _ _ _ _ _ s3 (r2.mono (x.trans x3 le) (Nat.le_trans le le3)) rw hk (p.on (Nat.le_trans le le3) (x.trans x3 le))
      · cases rv
        cases hk
        refine ⟨false, rfl, ?_⟩
        rw [if_neg Bool.false_ne_true]
        exact p _ m2 H3 le x s2 (.bl _)
      · cases hk
theorem de_chain {X : Cx} {W : WX} {pos : Pos} {a b c : Expr} {op op' : CmpOp} {r r' : R2} {g g' : G2} {fa fb fc : DE} (ho : OpR X (compareOp op) r) (ho' : OpR X (compareOp op') r') (hg : OkG2 X.K X.mg r g) (hg' : OkG2 X.K X.mg r' g') (ha : PEd X W a fa) (hb : PEd X W b fb) (hc : PEd X W c fc)
    (hm : lastMarks [op, op'] [b, c] = false := by with_unfolding_all rfl) : PEd X W (.Compare a [op, op'] [b, c] pos) (dChain g g' fa fb fc) := (pe_chain ho ho' ha hb hc hm).imp fun _ _ _ h => lift_chain hg hg' h
def dChainT (g g' : G2) (a b c : DE) : DB := fun ρ S => asB (dChain g g' a b c ρ S)
theorem dt_chain {X : Cx} {W : WX} {pos : Pos} {a b c : Expr} {op op' : CmpOp} {r r' : R2} {g g' : G2} {fa fb fc : DE} (ho : OpR X (compareOp op) r) (ho' : OpR X (compareOp op') r') (hg : OkG2 X.K X.mg r g) (hg' : OkG2 X.K X.mg r' g') (ha : PEd X W a fa) (hb : PEd X W b fb) (hc : PEd X W c fc)
    (hm : lastMarks [op, op'] [b, c] = false := by with_unfolding_all rfl) : PTd X W (.Compare a [op, op'] [b, c] pos) (dChainT g g' fa fb fc) := (pt_chain ho ho' ha hb hc hm).imp fun σ H Q h => by
  refine lift_chain hg hg' ((bind1 (ra := rE X.K) h).mono fun v H1 ⟨m, ρ, S, d, z, s, e, r1, hk, p⟩ => ?_)
  cases d <;> try cases hk
  cases r1
  exact ⟨_, rfl, p _ m H1 (Nat.le_refl _) Ext.refl s rfl⟩
/-! ### and, or, not of values that are truth values -/
def isBl (r : Option (R PV)) (k : Bool → Sto → Option (R PV)) : Option (R PV) := bR r fun x S => match x with
  | .bl b => k b S
  | _ => none
def dAnd2 (f g : DE) : DE := fun ρ S => isBl (f ρ S) fun b S1 => if b = true then g ρ S1 else some (.ok (.bl false) S1)
def dOr2 (f g : DE) : DE := fun ρ S => isBl (f ρ S) fun b S1 => if b = true then some (.ok (.bl true) S1) else g ρ S1
def dNot2 (f : DE) : DE := fun ρ S => isBl (f ρ S) fun b S1 => some (.ok (.bl (!b)) S1)
section
variable {X : Cx} {W : WX} {pos : Pos} {a b : Expr} {fa fb : DE} {rest : List Expr}
theorem de_and (ha : PEd X W a fa) (hb : PEd X W (.BoolOp .And (b :: rest) pos) fb) : PEd X W (.BoolOp .And (a :: b :: rest) pos) (dAnd2 fa fb) := (pe_and ha hb).imp fun σ H Q h => by
  refine (bind1 (ra := rE X.K) h).mono fun v H1 ⟨m, ρ, S, d, z, s, e, r1, hk, p⟩ => ?_
  cases d <;> try cases hk
  rename_i c
  cases r1
  refine ⟨_, rfl, ?_⟩
  cases c with
  | true => exact ⟨m, ρ, S, z, s, e, hk, p⟩
  | false =>
    cases hk
    exact p _ m H1 (Nat.le_refl _) Ext.refl s (.bl _)
theorem de_or (ha : PEd X W a fa) (hb : PEd X W (.BoolOp .Or (b :: rest) pos) fb) : PEd X W (.BoolOp .Or (a :: b :: rest) pos) (dOr2 fa fb) := (pe_or ha hb).imp fun σ H Q h => by
  refine (bind1 (ra := rE X.K) h).mono fun v H1 ⟨m, ρ, S, d, z, s, e, r1, hk, p⟩ => ?_
  cases d <;> try cases hk
  rename_i c
  cases r1
  refine ⟨_, rfl, ?_⟩
  cases c with
  | false => exact ⟨m, ρ, S, z, s, e, hk, p⟩
  | true =>
    cases hk
    exact p _ m H1 (Nat.le_refl _) Ext.refl s (.bl _)
theorem de_not (ha : PEd X W a fa) : PEd X W (.UnaryOp .Not a pos) (dNot2 fa) := (pe_not ha).imp fun σ H Q h => by
  refine (bind1 (ra := rE X.K) h).mono fun v H1 ⟨m, ρ, S, d, z, s, e, r1, hk, p⟩ => ?_
  cases d <;> try cases hk
  cases r1
  exact ⟨_, rfl, p _ m H1 (Nat.le_refl _) Ext.refl s (.bl _)⟩
theorem de_one {op : BoolOp} (ha : PEd X W a fa) : PEd X W (.BoolOp op [a] pos) fa := pe_one ha
end
/-! ### isinstance -/
def tyName (x : PV) (S : Sto) : Option String := match x with
  | .non => some "NoneType"
  | .bl _ => some "bool"
  | .int _ => some "int"
  | .str _ => some "str"
  | .tup _ => some "tuple"
  | .loc k => match S[k]? with
    | some (.lst _) => some "list"
    | some (.fz _) => some "list"
    | some (.dct _ _) => some "dict"
    | _ => none
  | .ty _ => none
  | .xc _ _ _ => none
def isaP (a b : String) : Option Bool :=
  if a ∈ ["NoneType", "bool", "int", "str", "tuple", "list", "dict"] ∧ b ∈ ["bool", "int", "str", "tuple", "list", "dict"] then some (a == b || (a == "bool" && b == "int")) else none
def gIsa : GA := fun l S => match l with
  | [x, .ty b] => match tyName x S with
    | some a => match isaP a b with
      | some k => some (.ok (.bl k) S)
      | none => none
    | none => none
  | _ => none
theorem isaP_kit {a b : String} {k : Bool} (h : isaP a b = some k) : kitB a b = some k := by
  unfold isaP at h
  split at h
  · rename_i hc
    obtain ⟨h1, h2⟩ := hc
    cases h
    simp only [List.mem_cons, List.mem_nil_iff, or_false] at h1 h2
    rcases h1 with rfl | rfl | rfl | rfl | rfl | rfl | rfl <;> rcases h2 with rfl | rfl | rfl | rfl | rfl | rfl <;> decide +kernel
  · cases h
section
variable {K : PySem.W.Frag} {mg : Str → Option Value}
theorem tyX_of {H : Hp} {m : Nat → Addr} {S : Sto} {x : PV} {v : V} {a : String} (s : StS K mg m S H) (r : Rp K H m S.length x v) (h : tyName x S = some a) : TyX K H v (.type a) := by
  cases r with
  | non => cases h; exact .base .non
  | bl b => cases h; exact .base (.bl b)
  | int b => cases h; exact .base (.int b)
  | str b => cases h; exact .base (.str b)
  | ty b => cases h
  | xc _ => cases h
  | tup hs hl =>
    cases h
    rcases hs with (hs | ⟨o, hs⟩) | ⟨o, its, n, h1, h2, _⟩
    · exact .base (.tup hs)
    · exact .fTuple hs
    · exact .kTuple h1 h2
  | loc hk =>
    unfold tyName at h
    dsimp only at h
    split at h
    · rename_i e
      cases h
      obtain ⟨xs, h1, _⟩ := s.obj _ _ e
      exact .base (.lst h1)
    · rename_i e
      cases h
      obtain ⟨xs, h1, _⟩ := s.obj _ _ e
      rcases h1 with ⟨o, h1⟩ | ⟨o, its, n, h1, h2, _⟩
      · exact .base (.frz h1)
      · exact .kList h1 h2
    · rename_i e
      cases h
      rcases s.obj _ _ e with ⟨_, xs, h1, _⟩ | ⟨_, xs, h1, _⟩
      · exact .base (.dK h1)
      · exact .base (.dT h1)
    · cases h
theorem ok_isa : OkGA K mg (rIsi K) gIsa := fun W σ m S H x d z Q s r e p => by
  unfold gIsa at e
  split at e
  · rename_i x b
    split at e
    · rename_i a ha
      split at e
      · rename_i k hk
        cases e
        cases r with
        | cons r1 r2 => cases r2 with
          | cons r2 r3 =>
            cases r2; cases r3
            exact ⟨_, _, _, _, k, rfl, .ty _, tyX_of s r1 ha, kit_ty (isaP_kit hk), post_here s (.bl _) p⟩
      · cases e
    · cases e
  · cases e
end
theorem de_bltn {X : Cx} {W : WX} {x : Str} {n : String} {pos : Pos} (hg : Gl X x) (hm : X.mg x = none) (hv : bootBuiltins x = some (.type n)) (hn : x ≠ "__name__" := by decide) (hd : (x == ("__debug__" : Str)) = false := by decide) : PEd X W (.Name x pos) (dC (.ty n)) :=
  de_c (pe_bltn (v := .ty n) hg hm hv rfl hn hd) fun _ _ _ _ => .ty n

/-! ### methods of built-in types -/
abbrev GM := PV → List PV → Sto → Option (R PV)
def OkGM (K : PySem.W.Frag) (mg : Str → Option Value) (r : V → List V → Hp → VK → Prop) (g : GM) : Prop :=
  ∀ (W : WX) (σ : L2.St) (m : Nat → Addr) (S : Sto) (H : Hp) (o : V) (x : List V) (c : PV) (d : List PV) (z : R PV) (Q : VK), StS K mg m S H → Rp K H m S.length c o → RpL K H m S.length d x → g c d S = some z → PostG K mg (rE K) W σ m S H z Q → r o x H Q
def tyP (T : String) (x : PV) (S : Sto) : Bool := match x with
  | .str _ => T == "str"
  | .loc k => match S[k]? with
    | some (.lst _) => T == "list"
    | some (.fz _) => T == "list"
    | some (.dct _ _) => T == "dict"
    | _ => false
  | _ => false
theorem tyV_of {K : PySem.W.Frag} {mg : Str → Option Value} {H : Hp} {m : Nat → Addr} {S : Sto} {x : PV} {v : V} {T : String} (s : StS K mg m S H) (r : Rp K H m S.length x v) (h : tyP T x S = true) : tyV K T v H := by
  unfold tyP at h
  split at h
  · cases r
    exact beq_iff_eq.mp h
  · cases r
    split at h
    · rename_i e
      obtain ⟨xs, h1, _⟩ := s.obj _ _ e
      exact .inl ⟨beq_iff_eq.mp h, xs, SqL.of h1⟩
    · rename_i e
      obtain ⟨xs, h1, _⟩ := s.obj _ _ e
      exact .inl ⟨beq_iff_eq.mp h, xs, h1.sq⟩
    · rename_i e
      rcases s.obj _ _ e with ⟨_, xs, h1, _⟩ | ⟨_, xs, h1, _⟩
      · exact .inr (.inr (.inl ⟨beq_iff_eq.mp h, .inl ⟨xs, h1⟩⟩))
      · exact .inr (.inr (.inl ⟨beq_iff_eq.mp h, .inr ⟨xs, h1⟩⟩))
    · cases h
  · cases h
def dMeth (T : String) (g : GM) (o : DE) (a : DA) : DE := fun ρ S => bR (o ρ S) fun x S1 => if tyP T x S1 = true then bR (a ρ S1) fun xs S2 => g x xs S2 else none
theorem lift_meth {K : PySem.W.Frag} {mg : Str → Option Value} {W : WX} {σ : L2.St} {H : Hp} {Q : VK} {T : String} {r : V → List V → Hp → VK → Prop} {g : GM} {fo : DE} {fa : DA} (hg : OkGM K mg r g) (h : tD K mg W (dMeth T g fo fa) σ H Q) :
    tBM K T r (tD K mg W fo) (tA K mg W fa) σ H Q := by
  refine (bind1 (ra := rE K) (k := fun ρ x S1 => if tyP T x S1 = true then bR (fa ρ S1) fun xs S2 => g x xs S2 else none) h).mono fun v H1 ⟨m, ρ, S, d, z, s, e, r1, hk, p⟩ => ?_
  have hk : (if tyP T d S = true then bR (fa ρ S) fun xs S2 => g d xs S2 else none) = some z := hk
  split at hk
  · rename_i hT
    refine ⟨tyV_of s r1 hT, ?_⟩
    cases q : fa ρ S with
    | none => rw [q] at hk; cases hk
    | some z1 =>
      rw [q] at hk
      refine ⟨m, ρ, S, z1, s, e, q, ?_⟩
      cases z1 with
      | exc x T2 => cases hk; exact p
      | ok l T2 => exact fun xs m2 H2 le x s2 rx => hg W σ m2 T2 H2 v xs d l z Q s2 (r1.mono x le) rx hk (p.on le x)
  · cases hk
section
variable {X : Cx} {W : WX} {o e : Expr} {es : List Expr} {fo : DE} {fa : DA} {name : Str} {apos cpos : Pos} {T id : String} {r : V → List V → Hp → VK → Prop} {g : GM}
theorem de_bm (pa : PlainAttrs T) (slot : Slot T name id) (hty : typeOf (.builtin id) = pure (.type "method_descriptor")) (hm : MtR X id r) (hg : OkGM X.K X.mg r g) (ho : PEd X W o fo) (ha : PAd X W (e :: es) fa)
    (hbase : attributeBase o name X.env (eval o X.env) = eval o X.env := by rfl)
    (hfew : ((backTo cpos (starEach (e :: es) X.env)).all (fun x => !x.1) && (backToKw cpos (keywordEach [] X.env)).all (fun x => x.1.isSome)
      && decide ((e :: es).length + ([] : List Keyword).length + (if ([] : List Keyword).isEmpty then 0 else 1) < 30)) = true := by rfl)
    (hline : (apos.endLine == cpos.line) = true := by rfl) (hs : starEach (e :: es) X.env = (false, eval e X.env) :: starEach es X.env := by rfl) (hplain : (backTo cpos (starEach es X.env)).any (·.1) = false := by rfl) :
    PEd X W (.Call (.Attribute o name apos) (e :: es) [] cpos) (dMeth T g fo fa) := (pe_bm pa slot hty hm ho ha hbase hfew hline hs hplain).imp fun _ _ _ h => lift_meth hg h
theorem de_bm0 (pa : PlainAttrs T) (slot : Slot T name id) (hty : typeOf (.builtin id) = pure (.type "method_descriptor")) (hm : MtR X id r) (hg : OkGM X.K X.mg r g) (ho : PEd X W o fo)
    (hbase : attributeBase o name X.env (eval o X.env) = eval o X.env := by rfl) (hline : (apos.endLine == cpos.line) = true := by rfl) : PEd X W (.Call (.Attribute o name apos) [] [] cpos) (dMeth T g fo dNil) :=
  (pe_bm0 pa slot hty hm ho hbase hline).imp fun σ H Q h => by
  refine (bind1 (ra := rE X.K) (k := fun ρ x S1 => if tyP T x S1 = true then bR (dNil ρ S1) fun xs S2 => g x xs S2 else none) h).mono fun v H1 ⟨m, ρ, S, d, z, s, e, r1, hk, p⟩ => ?_
  have hk : (if tyP T d S = true then bR (dNil ρ S) fun xs S2 => g d xs S2 else none) = some z := hk
  split at hk
  · rename_i hT
    exact ⟨tyV_of s r1 hT, hg W σ m S H1 v [] d [] z Q s r1 .nil hk p⟩
  · cases hk
end
section
variable {K : PySem.W.Frag} {mg : Str → Option Value} {W : WX} {σ : L2.St} {m : Nat → Addr} {S : Sto} {H : Hp}
/-- a stored list is changed -/
theorem list_set {k : Nat} {l l' : List PV} {xs' : List V} {v : V} {dv : PV} {Q : VK} (s : StS K mg m S H) (e : S[k]? = some (.lst l)) (r : RpL K H m S.length l' xs') (rv : Rp K H m S.length dv v) (p : PostG K mg (rE K) W σ m S H (.ok dv (S.set k (.lst l'))) Q) : Q v (upd H (m k) (.lst xs')) := by
  have mu := s.mut e rfl
  have x : Ext K S.length m H m (upd H (m k) (.lst xs')) := ext_upd (.inr mu)
  have st := s.write (ho := .lst xs') (po' := .lst l') e rfl rfl ⟨xs', upd_same, r.mono x (Nat.le_refl _)⟩
  refine p v m _ (by rw [List.length_set]; exact Nat.le_refl _) x st ?_
  rw [List.length_set]
  exact rv.mono x (Nat.le_refl _)
def gAppend : GM := fun c d S => match c, d with
  | .loc k, [y] => match S[k]? with
    | some (.lst l) => if l.length < 16777216 then some (.ok .non (S.set k (.lst (l ++ [y])))) else none
    | _ => none
  | _, _ => none
theorem ok_append : OkGM K mg rAppend gAppend := fun W σ m S H o x c d z Q s ro r e p => by
  unfold gAppend at e
  split at e
  · cases ro with
    | loc hk =>
      cases r with
      | cons a b =>
        cases b
        split at e
        · rename_i l e1
          split at e
          · rename_i hl
            cases e
            obtain ⟨xs, h1, h2⟩ := s.obj _ _ e1
            exact ⟨_, xs, _, rfl, rfl, h1, by rw [← h2.length]; exact Nat.lt_of_lt_of_le hl (by decide), list_set s e1 (h2.append (.one a)) .non p⟩
          · cases e
        · cases e
  · cases e
def gExtend : GM := fun c d S => match c, d with
  | .loc k, [.loc j] => match S[k]?, S[j]? with
    | some (.lst l), some (.lst r) => if l.length + r.length ≤ 16777216 then some (.ok .non (S.set k (.lst (l ++ r)))) else none
    | _, _ => none
  | _, _ => none
theorem ok_extend : OkGM K mg rExtend gExtend := fun W σ m S H o x c d z Q s ro r e p => by
  unfold gExtend at e
  split at e
  · cases ro with
    | loc hk =>
      cases r with
      | cons a b =>
        cases b; cases a
        split at e
        · rename_i l r e1 e2
          split at e
          · rename_i hl
            cases e
            obtain ⟨xs, h1, h2⟩ := s.obj _ _ e1
            obtain ⟨ys, h3, h4⟩ := s.obj _ _ e2
            exact ⟨_, _, xs, ys, rfl, rfl, h1, h3, by rw [← h2.length, ← h4.length]; exact Nat.le_trans hl (by decide), list_set s e1 (h2.append h4) .non p⟩
          · cases e
        · cases e
  · cases e
def gPop : GM := fun c d S => match c, d with
  | .loc k, [] => match S[k]? with
    | some (.lst l) => match l[l.length - 1]? with
      | some y => some (.ok y (S.set k (.lst l.dropLast)))
      | none => none
    | _ => none
  | _, _ => none
theorem ok_pop : OkGM K mg rPop gPop := fun W σ m S H o x c d z Q s ro r e p => by
  unfold gPop at e
  split at e
  · cases ro with
    | loc hk =>
      cases r
      split at e
      · rename_i l e1
        split at e
        · rename_i y hy
          cases e
          obtain ⟨xs, h1, h2⟩ := s.obj _ _ e1
          obtain ⟨v, h3, h4⟩ := h2.get hy
          exact ⟨_, xs, v, rfl, rfl, h1, by rw [← h2.length]; exact h3, list_set s e1 h2.dropLast h4 p⟩
        · cases e
      · cases e
  · cases e
end

/-! ### a[i] = v -/
abbrev GSt := PV → PV → PV → Sto → Option Sto
def gSetL : GSt := fun o i v S => match o, i with
  | .loc k, .int j => match S[k]? with
    | some (.lst l) => match ixN l.length j with
      | some n => some (S.set k (.lst (l.set n v)))
      | none => none
    | _ => none
  | _, _ => none
def gSubT (g : GSt) (o i : DE) : DG := fun v ρ S => match o ρ S with
  | some (.ok x S1) => match i ρ S1 with
    | some (.ok y S2) => match g x y v S2 with
      | some S3 => some (ρ, S3)
      | none => none
    | _ => none
  | _ => none
def OkSt (K : PySem.W.Frag) (mg : Str → Option Value) (t : TSet) (g : GSt) : Prop :=
  ∀ (m : Nat → Addr) (S S' : Sto) (H : Hp) (o i v : V) (c d e : PV) (Q : Hp → Prop), StS K mg m S H → Rp K H m S.length c o → Rp K H m S.length d i → Rp K H m S.length e v → g c d e S = some S' →
    (∀ m' H', S.length ≤ S'.length → Ext K S.length m H m' H' → StS K mg m' S' H' → Q H') → t o i v H Q
theorem ok_setL {K : PySem.W.Frag} {mg : Str → Option Value} : OkSt K mg rSetL gSetL := fun m S S' H o i v c d e Q s r1 r2 r3 h q => by
  unfold gSetL at h
  split at h
  · cases r1; cases r2
    split at h
    · rename_i l e1
      split at h
      · rename_i n hn
        cases h
        obtain ⟨xs, h1, h2⟩ := s.obj _ _ e1
        have mu := s.mut e1 rfl
        have x : Ext K S.length m H m (upd H (m _) (.lst (xs.set n v))) := ext_upd (.inr mu)
        refine ⟨_, xs, _, n, rfl, rfl, h1, by rw [← h2.length]; exact hn, q m _ (by rw [List.length_set]; exact Nat.le_refl _) x ?_⟩
        exact s.write (ho := .lst (xs.set n v)) (po' := .lst (l.set n e)) e1 rfl rfl ⟨_, upd_same, (RpL.set r3 n h2).mono x (Nat.le_refl _)⟩
      · cases h
    · cases h
  · cases h
theorem dg_sub {X : Cx} {o i : Expr} {pos : Pos} {fo fi : DE} {t : TSet} {g : GSt} (hs : PSet X t) (hg : OkSt X.K X.mg t g) (ho : PEd X W0 o fo) (hi : PEd X W0 i fi) (ha : ∀ v, assign (.Subscript o i pos) X.env v = (do
    let ov ← holding [v] (eval o X.env)
    let iv ← holding [v, ov] (eval i X.env)
    standAt pos
    holding [v, ov, iv] (setItem ov iv v)
    release [v, ov, iv] []) := by intro _; rfl) : PGd X (.Subscript o i pos) (gSubT g fo fi) := (pg_sub ho hi hs ha).imp fun v σ H Q h => by
  obtain ⟨m, ρ, S, d, ρ', S', s, e, r, hk, p⟩ := h
  unfold gSubT at hk
  split at hk
  · rename_i x S1 q1
    split at hk
    · rename_i y S2 q2
      split at hk
      · rename_i S3 q3
        cases hk
        refine ⟨m, ρ, S, _, s, e, q1, fun v1 m1 H1 le1 x1 s1 r1 => ?_⟩
        refine ⟨m1, ρ, S1, _, s1, e.mono x1 le1, q2, fun v2 m2 H2 le2 x2 s2 r2 => ?_⟩
        have x02 := x1.trans x2 le1
        have le02 := Nat.le_trans le1 le2
        refine hg m2 S2 S' H2 v1 v2 v x y d _ s2 (Rp.mono x2 le2 r1) r2 (r.mono x02 le02) q3 fun m3 H3 le3 x3 s3 => ?_
        exact p σ m3 H3 (Nat.le_trans le02 le3) (x02.trans x3 le02) s3 (e.mono (x02.trans x3 le02) (Nat.le_trans le02 le3))
      · cases hk
    · cases hk
  · cases hk
/-! ### x op= e -/
def dAug (g : G2) (i : Nat) (f : DE) : DS := fun ρ S => match ρ[i]? with
  | some (some x) => bS ρ (f ρ S) fun y S1 => bS ρ (g x y S1) fun z S2 => some (.next (ρ.set i (some z)) S2)
  | _ => none
end D

/-! D8: errors: raised, caught, asked. -/
namespace D
open PySem PySem.Spec PyProof.Rows L2

/-! ### raise C('m') -/
def dRaise (c : Str) : DS := fun ρ S => some (.exc ⟨c, []⟩ ρ S)
theorem ds_raise {X : Cx} {W : WX} {C : Addr} {x m : Str} {j : Nat} {p p2 p3 pos : Pos} (hc : X.calm = true) (tk : Takes X W)
    (q : PySem.W.excIn X.K C [.type "ValueError", .type "Exception", .type "BaseException", .type "object"] "ValueError.__new__" = true) (gC : X.mg x = some (.ref C)) (kC : PySem.W.keepIn X.K (.ref C) = true)
    (h1 : PySem.W.subIn X.K (.ref C) (.type "BaseException") = some true) (h2 : PySem.W.typeIn X.K (.ref C) = some (.type "type")) (hg : Gl X x) (hdb : (x == ("__debug__" : Str)) = false := by decide) :
    PSd X W (.Raise (some (.Call (.Name x p) [.Constant (.str m) j p2] [] p3)) none pos) (dRaise x) := by
  refine (ps_raise hc tk (pmk_own PySem.F.excBase_ValueError q gC kC (raises_own h1 h2) hg hdb)).imp fun D σ H h => ?_
  obtain ⟨m, ρ, S, r, s, e, hf, p⟩ := h
  cases hf
  exact p (.ref C) none σ m H (Nat.le_refl _) Ext.refl s e ⟨C, rfl, gC, .inl ⟨rfl, rfl⟩⟩

/-! ### try -/
def litV : PV → Option V
  | .non => some .non
  | .bl b => some (.bl b)
  | .int i => some (.int i)
  | .str s => some (.str s)
  | _ => none
def litF : List (Str × PV) → Option (List (Str × V))
  | [] => some []
  | (f, d) :: r => match litV d, litF r with
    | some v, some vs => some ((f, v) :: vs)
    | _, _ => none
theorem litV_rp {K : PySem.W.Frag} {H : Hp} {m : Nat → Addr} {n : Nat} {d : PV} {v v' : V} (r : Rp K H m n d v) (e : litV d = some v') : v = v' := by
  cases r <;> cases e <;> rfl
theorem litF_rp {K : PySem.W.Frag} {H : Hp} {m : Nat → Addr} {n : Nat} : ∀ {l : List (Str × PV)} {fv fv' : List (Str × V)}, RpF K H m n l fv → litF l = some fv' → fv = fv'
  | [], _, _, .nil, e => by cases e; rfl
  | (f, d) :: l, _, _, .cons (b := (g, v)) r t, e => by
    unfold litF at e
    split at e
    · rename_i v1 vs e1 e2
      cases e
      obtain ⟨r1, r2⟩ := r
      dsimp only at r1 r2
      rw [litV_rp r2 e1, litF_rp t e2, r1]
    · cases e
/-- what the fields of a caught error are -/
def FvOk (fs : List (Str × PV)) (d : Option Addr) (fv : List (Str × V)) : Prop := (fs = [] ∧ d = none ∧ fv = []) ∨ (fs ≠ [] ∧ ∃ dd, d = some dd ∧ litF fs = some fv)
/-- what a suite leaves -/
def endE (i : Nat) : RS → Option RS
  | .next ρ S => some (.next (ρ.set i none) S)
  | .ret v S => some (.ret v S)
  | .brk ρ S => some (.brk (ρ.set i none) S)
  | .ctn ρ S => some (.ctn (ρ.set i none) S)
  | .exc _ _ _ => none
abbrev Hd := Xn → Addr → Option Addr → DS
open Classical in
noncomputable def hdAs (i : Nat) (su : Hd) (e : Xn) (ρ : En) (S : Sto) : Option RS :=
  if h : ∃ r, (litF e.fs).isSome = true ∧ ∀ a d fv, FvOk e.fs d fv → (su e a d (ρ.set i (some (.xc a d fv))) S).bind (endE i) = some r then some (choose h) else none
theorem hdAs_eq {i : Nat} {su : Hd} {e : Xn} {ρ : En} {S : Sto} {r : RS} (hl : (litF e.fs).isSome = true) (h : ∀ a d fv, FvOk e.fs d fv → (su e a d (ρ.set i (some (.xc a d fv))) S).bind (endE i) = some r) : hdAs i su e ρ S = some r := by
  have hx : ∃ r, (litF e.fs).isSome = true ∧ ∀ a d fv, FvOk e.fs d fv → (su e a d (ρ.set i (some (.xc a d fv))) S).bind (endE i) = some r := ⟨r, hl, h⟩
  unfold hdAs
  rw [dif_pos hx]
  have q := Classical.choose_spec hx
  have : ∃ d fv, FvOk e.fs d fv := by
    obtain ⟨fv, hfv⟩ := Option.isSome_iff_exists.mp hl
    by_cases hn : e.fs = []
    · exact ⟨none, [], .inl ⟨hn, rfl, rfl⟩⟩
    · exact ⟨some 0, fv, .inr ⟨hn, 0, rfl, hfv⟩⟩
  obtain ⟨d, fv, ok⟩ := this
  have e1 := q.2 0 d fv ok
  have e2 := h 0 d fv ok
  rw [e1] at e2
  exact e2
noncomputable def dTryAs (body : DS) (i : Nat) (cat : Str → Option Bool) (su : Hd) : DS := fun ρ S => match body ρ S with
  | some (.exc e ρ1 S1) => match cat e.c with
    | some true => hdAs i su e ρ1 S1
    | some false => some (.exc e ρ1 S1)
    | none => none
  | r => r
/-- which own errors a clause takes -/
def Cat (K : PySem.W.Frag) (mg : Str → Option Value) (c : Value) (cat : Str → Option Bool) : Prop := ∀ nm C b, mg nm = some (.ref C) → cat nm = some b → PySem.W.exmOne K (.ref C) c = some b
theorem pss_ex {X : Cx} {sts : List Stmt} {α : Type} {P : α → Prop} {t : α → TS} (h : ∀ x, P x → PSs X sts (t x)) : PSs X sts (fun D σ H => ∃ x, P x ∧ t x D σ H) :=
  ⟨fun pins s σ H D I q => by
    obtain ⟨x, hx, q⟩ := q
    exact (h x hx).run pins s σ H D I q⟩
structure Su (X : Cx) (cat : Str → Option Bool) (e : Xn) (a : Addr) (oe : Obj) (C : Addr) (d : Option Addr) : Prop where
  yes : cat e.c = some true
  mg : X.mg e.c = some (.ref C)
  z : Zc (.ref C) d oe
  f : ∃ vs, oe.data = .fields vs
  d0 : e.fs = [] → d = none
  d1 : e.fs ≠ [] → ∃ dd, d = some dd
def tSu (X : Cx) (cat : Str → Option Bool) (su : Hd) : Addr → Value → Option Addr → TS := fun a cls d D σ H => ∃ e : Xn, (cat e.c = some true ∧ (e.fs = [] → d = none) ∧ (e.fs ≠ [] → ∃ dd, d = some dd) ∧ ∃ C, cls = .ref C ∧ X.mg e.c = some (.ref C)) ∧ tS X.K X.mg W0 (su e a d) D σ H
section
variable {X : Cx} {x n : Str} {c : Value} {i : Nat} {body suite : List Stmt} {b₀ : Stmt} {np pos pos' : Pos} {W : WX} {fb : DS} {cat : Str → Option Bool} {su : Hd}
theorem su_pss (hsu : ∀ (e : Xn) (a : Addr) (oe : Obj) (C : Addr) (d : Option Addr) (pn : List (Addr × Obj)), Su X cat e a oe C d → PSsd (X.suite a ((a, oe) :: pn)) W0 (b₀ :: suite) (su e a d)) (a : Addr) (oe : Obj) (cls : Value) (d : Option Addr) (pn : List (Addr × Obj)) (hz : Zc cls d oe) (hf : ∃ vs, oe.data = .fields vs) :
    PSs (X.suite a ((a, oe) :: pn)) (b₀ :: suite) (tSu X cat su a cls d) :=
  ⟨fun pins s σ H D I q => by
    obtain ⟨e, ⟨h1, h2, h3, C, rfl, h4⟩, q⟩ := q
    exact (hsu e a oe C d pn ⟨h1, h4, hz, hf, h2, h3⟩).run pins s σ H D I q⟩
theorem ds_try_as (hs : X.stack = X.env :: X.outer) (hf : X.env.frame = some X.env.locals) (hN : X.N.Nodup) (hi : X.N[i]? = some n) (hln : X.env.kindOf n = some .local) (hc : Names X x c) (hcat : Cat X.K X.mg c cat) (tk : Takes X W)
    (hb : ∀ (W : WX) (pn : List (Addr × Obj)) (xe : Value → Shared → Prop), Takes (X.tr pn xe) W → PassesOwn (model X.prog X.w) X.A X.env xe → PSsd (X.tr pn xe) W body fb)
    (hsu : ∀ (e : Xn) (a : Addr) (oe : Obj) (C : Addr) (d : Option Addr) (pn : List (Addr × Obj)), Su X cat e a oe C d → PSsd (X.suite a ((a, oe) :: pn)) W0 (b₀ :: suite) (su e a d)) :
    PSd X W (.Try body [.ExceptHandler (some (.Name x np)) (some n) (b₀ :: suite) pos'] [] [] pos) (dTryAs fb i cat su) := by
  refine (ps_try_as (tb := fun W => tS X.K X.mg W fb) (ts := tSu X cat su) hs hf hN hi hln hc tk hb (su_pss hsu)).imp fun D σ H h => ?_
  obtain ⟨m, ρ, S, r, s, en, hf, p⟩ := h
  unfold dTryAs at hf
  cases q : fb ρ S with
  | none => rw [q] at hf; cases hf
  | some z =>
    rw [q] at hf
    refine ⟨m, ρ, S, z, s, en, q, ?_⟩
    cases z with
    | next ρ' S' => cases hf; exact p
    | ret v S' => cases hf; exact p
    | brk ρ' S' => cases hf; exact p
    | ctn ρ' S' => cases hf; exact p
    | exc e ρ1 S1 =>
      dsimp only at hf
      intro cls dd σ' m' H' le ex s' en' rx
      obtain ⟨C, rfl, hm, hd⟩ := id rx
      split at hf
      · rename_i hcy
        refine ⟨true, hcat _ _ _ hm hcy, fun _ a ha => ?_, (fun z => by cases z)⟩
        unfold hdAs at hf
        split at hf
        · rename_i hx
          have hsp := Classical.choose_spec hx
          obtain ⟨hlit, hall⟩ := hsp
          obtain ⟨lf, hlf⟩ := Option.isSome_iff_exists.mp hlit
          have hrr : Classical.choose hx = r := by cases hf; rfl
          rw [hrr] at hall
          have key : ∃ fv, FvOk e.fs dd fv ∧ (∀ d2, dd = some d2 → H' d2 = some (.xd fv)) ∧ (e.fs = [] → dd = none) ∧ (e.fs ≠ [] → ∃ d2, dd = some d2) := by
            rcases hd with ⟨h1, h2⟩ | ⟨hne, d2, fv, h1, h2, h3⟩
            · exact ⟨[], .inl ⟨h1, h2, rfl⟩, (fun d2 z => by rw [h2] at z; cases z), fun _ => h2, fun z => absurd h1 z⟩
            · have ef := litF_rp h3 hlf
              subst ef
              exact ⟨fv, .inr ⟨hne, d2, h1, hlf⟩, (fun d3 z => by rw [h1] at z; cases z; exact h2), fun z => absurd z hne, fun _ => ⟨d2, h1⟩⟩
          obtain ⟨fv, ok, hH, hk0, hk1⟩ := key
          have hrun := hall a dd fv ok
          refine ⟨e, ⟨hcy, hk0, hk1, C, rfl, hm⟩, ?_⟩
          cases q2 : su e a dd (ρ1.set i (some (.xc a dd fv))) S1 with
          | none => rw [q2] at hrun; cases hrun
          | some z2 =>
            rw [q2] at hrun
            have hrun : endE i z2 = some r := hrun
            refine ⟨m', ρ1.set i (some (.xc a dd fv)), S1, z2, s', en'.set (.xc hH), q2, ?_⟩
            have p' := p.on le ex
            have unset : ∀ {K : PySem.W.Frag} {H : Hp} {m : Nat → Addr} {n : Nat} {ρ : En} {σ : L2.St}, EnR K H m n ρ σ → EnR K H m n (ρ.set i none) (σ.set i none) := by
              intro K H m n ρ σ h
              refine ⟨by rw [List.length_set, List.length_set]; exact h.len, fun j v e => ?_⟩
              by_cases hj : i = j
              · subst hj
                by_cases hl : i < ρ.length
                · rw [List.getElem?_set_self hl] at e; cases e
                · rw [List.set_eq_of_length_le (by omega)] at e
                  exact absurd (List.getElem?_eq_some_iff.mp e).1 hl
              · rw [List.getElem?_set_ne hj] at e
                rw [List.getElem?_set_ne hj]
                exact h.at_ j v e
            cases z2 with
            | next ρ' S' => cases hrun; exact fun σ2 m2 H2 le2 x2 s2 e2 => p' _ m2 H2 le2 x2 s2 (unset e2)
            | ret v S' => cases hrun; exact fun v m2 H2 le2 x2 s2 e2 => p' _ m2 H2 le2 x2 s2 e2
            | brk ρ' S' => cases hrun; exact fun σ2 m2 H2 le2 x2 s2 e2 => p' _ m2 H2 le2 x2 s2 (unset e2)
            | ctn ρ' S' => cases hrun; exact fun σ2 m2 H2 le2 x2 s2 e2 => p' _ m2 H2 le2 x2 s2 (unset e2)
            | exc x ρ' S' => cases hrun
        · cases hf
      · rename_i hcy
        cases hf
        exact ⟨false, hcat _ _ _ hm hcy, (fun z => by cases z), fun _ => p _ _ _ m' H' le ex s' en' rx⟩
      · cases hf
end

/-- except C: with no name -/
def noX : Option RS → Option RS
  | some (.exc _ _ _) => none
  | r => r
def dTryOnly (body : DS) (cat : Str → Option Bool) (su : DS) : DS := fun ρ S => match body ρ S with
  | some (.exc e ρ1 S1) => match cat e.c with
    | some true => noX (su ρ1 S1)
    | some false => some (.exc e ρ1 S1)
    | none => none
  | r => r
section
variable {X : Cx} {x n : Str} {c : Value} {i : Nat} {body suite : List Stmt} {b₀ : Stmt} {np pos pos' : Pos} {W : WX} {fb : DS} {cat : Str → Option Bool} {su : DS}
theorem noX_post {K : PySem.W.Frag} {mg : Str → Option Value} {m : Nat → Addr} {S : Sto} {H : Hp} {r : RS} {D : Ends} {o : Option RS} (h : noX o = some r) (p : PostS K mg W m S H r D) : o = some r ∧ PostS K mg W0 m S H r D := by
  cases o with
  | none => cases h
  | some z => cases z <;> cases h <;> exact ⟨rfl, p⟩
theorem ds_try_only (hs : X.stack = X.env :: X.outer) (hf : X.env.frame = some X.env.locals) (hc : Names X x c) (hcat : Cat X.K X.mg c cat) (tk : Takes X W)
    (hb : ∀ (W : WX) (pn : List (Addr × Obj)) (xe : Value → Shared → Prop), Takes (X.tr pn xe) W → PassesOwn (model X.prog X.w) X.A X.env xe → PSsd (X.tr pn xe) W body fb)
    (hsu : ∀ (a : Addr) (pn : List (Addr × Obj)), PSsd (X.suite a pn) W0 (b₀ :: suite) su) :
    PSd X W (.Try body [.ExceptHandler (some (.Name x np)) none (b₀ :: suite) pos'] [] [] pos) (dTryOnly fb cat su) := by
  refine (ps_try_only (tb := fun W => tS X.K X.mg W fb) (ts := fun a _ _ => tS X.K X.mg W0 su) hs hf hc tk hb (fun a oe cls d pn _ _ => hsu a _)).imp fun D σ H h => ?_
  obtain ⟨m, ρ, S, r, s, en, hf, p⟩ := h
  unfold dTryOnly at hf
  cases q : fb ρ S with
  | none => rw [q] at hf; cases hf
  | some z =>
    rw [q] at hf
    refine ⟨m, ρ, S, z, s, en, q, ?_⟩
    cases z with
    | next ρ' S' => cases hf; exact p
    | ret v S' => cases hf; exact p
    | brk ρ' S' => cases hf; exact p
    | ctn ρ' S' => cases hf; exact p
    | exc e ρ1 S1 =>
      dsimp only at hf
      intro cls dd σ' m' H' le ex s' en' rx
      obtain ⟨C, rfl, hm, hd⟩ := id rx
      split at hf
      · rename_i hcy
        refine ⟨true, hcat _ _ _ hm hcy, fun _ a ha => ?_, fun z => by cases z⟩
        obtain ⟨h1, h2⟩ := noX_post hf (p.on le ex)
        exact ⟨m', ρ1, S1, r, s', en', h1, h2⟩
      · rename_i hcy
        cases hf
        exact ⟨false, hcat _ _ _ hm hcy, (fun z => by cases z), fun _ => p _ _ _ m' H' le ex s' en' rx⟩
      · cases hf
end

/-! ### isinstance(e, C), e the error that is held -/
def dIsE (i : Nat) (a : Addr) (b : Bool) : DE := fun ρ S => match ρ[i]? with
  | some (some (.xc a' _ _)) => if a' = a then some (.ok (.bl b) S) else none
  | _ => none
/-- e, known to be at a -/
def tIsE (i : Nat) (a : Addr) : TA := fun σ H Q => σ[i]? = some (some (.ref a)) ∧ Q [.ref a] H
theorem de_isE {X : Cx} {W : WX} {a C : Addr} {oe : Obj} {pn : List (Addr × Obj)} {x : Str} {ce : Expr} {cv : V} {cu : Value} {b : Bool} {p p2 pos : Pos} (i : Nat) (hC : ExcC X.K C) (hz : Zc (.ref C) none oe) (hf : ∃ vs, oe.data = .fields vs)
    (hg : Gl X "isinstance") (hm : X.mg "isinstance" = none) (hN : X.N[i]? = some x) (hv : Vis X.env.scope x) (hce : PE (X.suite a ((a, oe) :: pn)) ce (tC cv)) (hrel : ∀ u, RelV cv u → u = cu) (hk : PySem.W.kitOne X.K (.ref C) cu = some b)
    (hd : (x == ("__debug__" : Str)) = false := by decide) (hcd : (x == ("__classdict__" : Str)) = false := by decide)
    (h1 : starEach [.Name x p2, ce] X.env = (false, eval (.Name x p2) X.env) :: starEach [ce] X.env := by rfl) (h2 : starEach [ce] X.env = (false, eval ce X.env) :: starEach [] X.env := by rfl) (hpl : (backTo pos (starEach [ce] X.env)).any (·.1) = false := by rfl) :
    PEd (X.suite a ((a, oe) :: pn)) W (.Call (.Name "isinstance" p) [.Name x p2, ce] [] pos) (dIsE i a b) := by
  have hl : PA (X.suite a ((a, oe) :: pn)) [.Name x p2, ce] _ := pa_cons (pe_var (X := X.suite a ((a, oe) :: pn)) hN hv hd hcd) (pa_cons hce pa_nil h2) h1
  refine (pe_callB (X := X.suite a ((a, oe) :: pn)) (call_isE hC hz hf) hg hm boot_isinstance hl (by decide) (by decide) h1 hpl).imp fun σ H Q h => ?_
  obtain ⟨m, ρ, S, r, s, en, hfn, p⟩ := h
  unfold dIsE at hfn
  split at hfn
  · rename_i a' d fv hi
    split at hfn
    · rename_i ha
      subst ha
      cases hfn
      obtain ⟨v, hv1, rv⟩ := en.at_ i _ hi
      cases rv
      exact ⟨_, hv1, cv, cu, b, rfl, hrel, hk, p _ m H (Nat.le_refl _) Ext.refl s (.bl b)⟩
    · cases hfn
  · cases hfn

/-- never reached -/
def dNope : DS := fun _ _ => none
theorem pss_nope {X : Cx} {W : WX} {sts : List Stmt} : PSsd X W sts dNope := ⟨fun pins s σ H D I h => by
  obtain ⟨m, ρ, S, r, st, e, hf, p⟩ := h
  cases hf⟩
theorem su_alt {X : Cx} {cat : Str → Option Bool} {e : Xn} {a : Addr} {oe : Obj} {C A : Addr} {d : Option Addr} {nm : Str} {pn : List (Addr × Obj)} {sts : List Stmt} {f g : DS} (hA : X.mg nm = some (.ref A)) (hs : Su X cat e a oe C d)
    (go : Zc (.ref A) none oe → (∃ vs, oe.data = .fields vs) → PSsd (X.suite a ((a, oe) :: pn)) W0 sts f) (ge : PSsd (X.suite a ((a, oe) :: pn)) W0 sts g) : PSsd (X.suite a ((a, oe) :: pn)) W0 sts (if e.c = nm ∧ e.fs.isEmpty = true then f else g) := by
  split
  · rename_i hc
    have hd : d = none := hs.d0 (List.isEmpty_iff.mp hc.2)
    have hm := hs.mg
    rw [hc.1, hA] at hm
    cases hm
    have hz := hs.z
    rw [hd] at hz
    exact go hz hs.f
  · exact ge
end D

/-! D9: the end. -/
namespace D
open PySem PySem.Spec PyProof.Rows L2

theorem kit_ref {K : PySem.W.Frag} {A B : Addr} {b : Bool} (ht : PySem.W.typeIn K (.ref B) = some (.type "type")) (hd : PySem.W.hasDictIn K B = true) (hs : PySem.W.subIn K (.ref A) (.ref B) = some b) (h1 : PySem.W.subIn K (.ref A) (.ref A) = some true) : PySem.W.kitOne K (.ref A) (.ref B) = some b := by
  obtain ⟨cd, hc, _⟩ := PySem.W.any_some hd
  unfold PySem.W.kitOne
  split
  · rename_i h
    have e : Value.ref A = Value.ref B := beq_iff_eq.mp h
    cases e
    rw [h1] at hs; exact hs
  · show (if ((PySem.W.clsIn K B).isSome && PySem.W.typeIn K (.ref B) == some (.type "type")) = true then PySem.W.subIn K (.ref A) (.ref B) else none) = some b
    rw [if_pos (by rw [hc, ht] <;> rfl)]
    exact hs
theorem kit_typ {K : PySem.W.Frag} {A : Addr} {T : String} {b : Bool} (hm : PySem.W.kitMeta T = true) (hs : PySem.W.subIn K (.ref A) (.type T) = some b) : PySem.W.kitOne K (.ref A) (.type T) = some b := by
  unfold PySem.W.kitOne
  split
  · rename_i h
    have e : Value.ref A = Value.type T := beq_iff_eq.mp h
    cases e
  · show (if PySem.W.kitMeta T = true then PySem.W.subIn K (.ref A) (.type T) else none) = some b
    rw [if_pos hm]; exact hs

/-- what a law's function must answer -/
def LawD (F : DF) : Prop := ∀ ns : List Int, ns.length ≤ 63 → ∃ S', F [.loc 0] [.fz (ns.map PV.int)] = some (.ok (.bl true) S')
def spLawD (K : PySem.W.Frag) : Sp := fun vs H Q _ => ∃ (a : Addr) (ns : List Int), vs = [.ref a] ∧ SqL K H a (ns.map V.int) ∧ Only H ∧ ns.length ≤ 63 ∧ ∀ H', Q (.bl true) H'
theorem law_sp {K : PySem.W.Frag} {mg : Str → Option Value} {F : DF} (h : LawD F) {vs : List V} {H : Hp} {Q : VK} {E : XK} (s : spLawD K vs H Q E) : spD K mg 1 F vs H Q E := by
  obtain ⟨a, ns, rfl, hs, ho, hn, q⟩ := s
  obtain ⟨S', hF⟩ := h ns hn
  have fz : FzL K H a (ns.map V.int) := by
    rcases hs with (h1 | ⟨o, h1⟩) | h1
    · rcases ho a with h2 | ⟨o, xs, h2⟩
      · rw [h1] at h2; cases h2
      · rw [h1] at h2; cases h2
    · exact .inl ⟨o, h1⟩
    · exact .inr h1
  refine ⟨rfl, fun _ => a, [.fz (ns.map PV.int)], [.loc 0], .ok (.bl true) S', ⟨fun k o e => ?_, fun j k oj ok ej ek mj mk _ => ?_⟩, .cons (.loc (by simp)) .nil, hF, ?_⟩
  · cases k with
    | zero => cases e; exact ⟨_, fz, .of_ints⟩
    | succ k => simp at e
  · cases j with
    | zero => cases ej; cases mj
    | succ j => simp at ej
  · intro v m' H' _ _ _ r
    cases r
    exact q H'
theorem law_walk {l : PySem.W.OpenLaw} {k : Nat} {q : Program} {loose : List Str} {XP : (Str → Option Value) → Heap → Prop} {YP : World → Heap → Prop} {d : DefRec} {K : Params → PySem.W.Frag} {x : Str} {F : DF} (hF : LawD F)
    (hn : l.most = some 63) (hdf : d.params.defaults = []) (hr : Room k callerA) (hY : ∀ (w : World) (h : Heap), YP w h → (K w.params).In h)
    (hf : ∀ (w : World) (mg : Str → Option Value) (fa : Addr) (h : Heap), (K w.params).In h → h.Ns mainGlobals mg → mg d.name = some (.ref fa) →
      ∃ fd : FuncData, (∀ (s : Shared) (u : Value), BindsTo s fd ⟨[u], []⟩ [(x, u)]) ∧ ∀ base : Heap, (K w.params).In base → base.Ns mainGlobals mg → FnOk l.prog w (K w.params) mg base (L2.CX l.prog w) k fa fd [x] (spD (K w.params) mg 1 F)) :
    PySem.W.WalkO q loose XP YP l.row.toRowW d [] (fun f vs => PySem.call f vs) :=
  L2.walk_of (n := 63) (k := k) (x := x) (CX := fun w => L2.CX l.prog w) (sp := fun w => spLawD (K w.params)) hn (by decide) hdf hr hY
    (fun w mg fa h KX G hm => by
      obtain ⟨fd, hb, h2⟩ := hf w mg fa h KX G hm
      exact ⟨fd, hb, fun base kb nb => (h2 base kb nb).imp fun vs H Q E s => law_sp hF s⟩)
    (fun w H a ns hl hO hS => ⟨a, ns, rfl, hS, hO, hl, fun _ => rfl⟩) fun w H s e s' c => by
    obtain ⟨_, _, _, _, _, _, _, _, _, _, _, _, z⟩ := c
    exact z
end D

/-! D10: reversed, enumerate, greatest and least of a list. -/
namespace D
open PySem PySem.Spec PyProof.Rows L2

/-! ### reversed(x) -/
section
variable {K : PySem.W.Frag} {mg : Str → Option Value} {m : Nat → Addr} {n : Nat} {H : Hp} {S : Sto}
theorem rev_at {l : List PV} {i : Nat} {d : PV} (h : l.reverse[i]? = some d) : i < l.length ∧ l[l.length - 1 - i]? = some d := by
  have hi : i < l.length := by
    have := lt_of_get h
    rwa [List.length_reverse] at this
  exact ⟨hi, by rw [List.getElem?_reverse hi] at h; exact h⟩
theorem itOk_revT {a : Addr} {xs : List V} {l : List PV} (hs : SqT K H a xs) (r : RpL K H m n l xs) : ItOk K mg (RT.ItvT K a xs.length) ⟨l.reverse, []⟩ n m H where
  go := fun i d m' S' H' le x s _ e => by
    have hs' := x.tp _ _ hs
    obtain ⟨hi, e2⟩ := rev_at e
    obtain ⟨v, h1, h2⟩ := (r.mono x le).get e2
    rw [r.length] at hi h1
    refine ⟨⟨hi, xs, v, hs', h1⟩, fun y H2 hy => ?_⟩
    obtain ⟨e1, e3⟩ := hy
    subst e1
    have := e3 xs hs'
    rw [h1] at this
    cases this
    exact ⟨m', Ext.refl, s, h2⟩
  stop := fun m' S' H' le x s _ => by
    show xs.length ≤ l.reverse.length
    rw [List.length_reverse, r.length]
    exact Nat.le_refl _
theorem itOk_revL {k : Nat} {l : List PV} {xs : List V} {po : PO} (s0 : StS K mg m S H) (e0 : S[k]? = some po) (hl : lstOf k S = some l) (hlen : xs.length = l.length) : ItOk K mg (Itv K (m k) xs.length) ⟨l.reverse, [(k, po)]⟩ S.length m H where
  go := fun i d m' S' H' le x s kp e => by
    have e1 : S'[k]? = some po := kp (k, po) (by simp)
    have hl' : lstOf k S' = some l := by
      unfold lstOf at hl ⊢
      rw [e0] at hl
      rw [e1]; exact hl
    obtain ⟨ys, h1, h2⟩ := lst_rp s hl'
    obtain ⟨hi, e2⟩ := rev_at e
    obtain ⟨v, h3, h4⟩ := h2.get e2
    rw [x.mp k (lt_of_get e0)] at h1
    rw [← hlen] at hi h3
    refine ⟨⟨hi, ys, v, h1, h3⟩, fun y H2 hy => ?_⟩
    obtain ⟨e5, e6⟩ := hy
    subst e5
    have := e6 ys h1
    rw [h3] at this
    cases this
    exact ⟨m', Ext.refl, s, h4⟩
  stop := fun m' S' H' le x s kp => by
    show xs.length ≤ l.reverse.length
    rw [List.length_reverse, hlen]
    exact Nat.le_refl _
end
section
variable {X : Cx} {W : WX} {tg e : Expr} {fe : DE}
def dRevI (f : DE) : DI := fun ρ S => bR (f ρ S) fun x S1 => match x with
  | .tup l => some (.ok ⟨l.reverse, []⟩ S1)
  | .loc k => match S1[k]? with
    | some (.lst l) => some (.ok ⟨l.reverse, [(k, .lst l)]⟩ S1)
    | some (.fz l) => some (.ok ⟨l.reverse, [(k, .fz l)]⟩ S1)
    | _ => none
  | _ => none
theorem di_rev {p pos : Pos} (hg : Gl X "reversed") (hm : X.mg "reversed" = none) (h : PEd X W e fe) (hs : starEach [e] X.env = (false, eval e X.env) :: starEach [] X.env := by rfl) : PId X W tg (.Call (.Name "reversed" p) [e] [] pos) (dRevI fe) := (RT.pi_revA hg hm h hs).imp fun σ H Q h => by
  refine (bind1 (ra := rE X.K) h).mono fun v H1 ⟨m, ρ, S, d, z, s, en, r1, hk, p⟩ => ?_
  split at hk
  · cases r1 with
    | @tup l a xs h1 h2 =>
      cases hk
      exact ⟨a, xs, rfl, .inr ⟨h1, p _ m H1 (Nat.le_refl _) Ext.refl s (itOk_revT h1 h2)⟩⟩
  · cases r1 with
    | loc hk' =>
      split at hk
      · rename_i e1
        cases hk
        have hl := lstOf1 e1
        obtain ⟨xs, h1, h2⟩ := lst_rp s hl
        exact ⟨_, xs, rfl, .inl ⟨h1, p _ m H1 (Nat.le_refl _) Ext.refl s (itOk_revL s e1 hl h2.length.symm)⟩⟩
      · rename_i e1
        cases hk
        have hl := lstOf2 e1
        obtain ⟨xs, h1, h2⟩ := lst_rp s hl
        exact ⟨_, xs, rfl, .inl ⟨h1, p _ m H1 (Nat.le_refl _) Ext.refl s (itOk_revL s e1 hl h2.length.symm)⟩⟩
      · cases hk
  · cases hk
end

/-! ### enumerate(x), x a tuple -/
theorem meets_enumT (l : Addr) (ob : Obj) (its : Array Value) :
    Meets (Builtin.«enumerate.__new__» ⟨[Value.type "enumerate", Value.ref l], []⟩) (fun _ R s => (s.heap.get? l = some ob ∧ s.heap.IsTuple l its) ∧
      R (.ok (.ret (.ref (s.heap.push { cls := .type "tuple_iterator", data := .fields #[.ref l, .int 0 0] }).objs.size))) { s with heap := ((s.heap.push { cls := .type "tuple_iterator", data := .fields #[.ref l, .int 0 0] }).push { cls := .type "enumerate", data := .fields #[.none, .bool false, .ref s.heap.objs.size, rawInt 0, .none, .none] }) }) :=
  Meets.of_wp fun prog w A R s h => by
    obtain ⟨hp, g, d, tk, os⟩ := s
    obtain ⟨⟨hl, hT⟩, h⟩ := h
    have hsub := sub_enumerate
    have hT' : Heap.IsTuple (Shared.heap ⟨hp, g, d, tk, os⟩) l its := hT
    have hl' : (Shared.heap ⟨hp, g, d, tk, os⟩).get? l = some ob := hl
    wp_walk using AutoSeq1.wpAny_loadPart' hl'
    refine wpAny_stack_any fun st => wpAny_pure ?_
    split
    · rename_i c _ _ _ _ _
      cases (c == Value.type "enumerate")
      all_goals (wp_walk using AutoSeq1.wpAny_loadPart' hl', wpAny_pyIter_tuple hT'; exact ⟨_, rfl, h⟩)
    · (wp_walk using AutoSeq1.wpAny_loadPart' hl', wpAny_pyIter_tuple hT'; exact ⟨_, rfl, h⟩)
theorem call_enumT {prog : Program} {w : World} {A : Around} {E : Value → Shared → Prop} {s : Shared} {l : Addr} {its : Array Value} {Q : Value → Shared → Prop} (hT : s.heap.IsTuple l its)
    (h : ∀ h', IsEnum h' (s.heap.objs.size + 1) s.heap.objs.size 0 .none → h'.IsTupleIter s.heap.objs.size l 0 → h'.objs.size = s.heap.objs.size + 2 → (∀ b o, s.heap.get? b = some o → h'.get? b = some o) → Q (.ref (s.heap.objs.size + 1)) { s with heap := h' }) :
    wpAny (model prog w) A (call (.type "enumerate") [.ref l]) Q E s := by
  obtain ⟨ob, hl, hc, hd⟩ := id hT
  refine callType_new F.called_enumerate (by decide) (F.typeCall_enumerate_1 _) (F.newCall_enumerate_1 _) (fun obj => F.args_object_init_2 obj _) F.entry_enumerate_new (meets_enumT l ob its) ⟨⟨hl, hT⟩, ?_⟩
  let h1 := s.heap.push { cls := .type "tuple_iterator", data := .fields #[.ref l, .int 0 0] }
  have hz : h1.objs.size = s.heap.objs.size + 1 := Heap.size_push ..
  have he : IsEnum (h1.push { cls := .type "enumerate", data := .fields #[.none, .bool false, .ref s.heap.objs.size, rawInt 0, .none, .none] }) (s.heap.objs.size + 1) s.heap.objs.size 0 .none := by
    have q := Heap.get?_push_size h1 (o := { cls := .type "enumerate", data := .fields #[.none, .bool false, .ref s.heap.objs.size, rawInt 0, .none, .none] }) rfl
    rw [hz] at q
    exact q
  show _ ∧ Q (.ref h1.objs.size) _
  rw [hz]
  exact ⟨⟨_, he, rfl⟩, h _ he ⟨_, Heap.get?_push_of_some _ (Heap.get?_push_size _ rfl), rfl, rfl⟩ (by rw [Heap.size_push, hz]) fun b o x => Heap.get?_push_of_some _ (Heap.get?_push_of_some _ x)⟩

/-- the tuple at a, each item in a new pair -/
def IteT (K : PySem.W.Frag) (a : Addr) : It :=
  ⟨fun i H => ∃ (xs : List V) (x : V), SqT K H a xs ∧ xs[i]? = some x, fun i H v H' => ∃ p x, v = .ref p ∧ H p = none ∧ H' = upd H p (.tup [.int (i : Nat), x]) ∧ ∀ xs, SqT K H a xs → xs[i]? = some x, fun i H => ∃ xs : List V, SqT K H a xs ∧ xs.length ≤ i⟩
theorem turn_enumT {P : Program} {w : World} {K : PySem.W.Frag} {elts : List Expr} {kk : Nat} {tpos : Pos} (a e it : Addr) (hai : a ≠ it) :
    Turn P w K (.Tuple elts kk tpos) (IteT K a) [e, it] e (fun i h => (∃ old, IsEnum h e it ((i : Nat) : Int) old) ∧ h.IsTupleIter it a i ∧ e ≠ it ∧ e ≠ a) where
  mem := List.mem_cons_self
  obj := fun i h st b hb => by
    obtain ⟨⟨old, he⟩, ⟨o, ho, hc, hd⟩, _⟩ := st
    rcases List.mem_cons.mp hb with z | z
    · subst z; exact ⟨_, he, fun v q => nomatch q⟩
    · rw [List.mem_singleton] at z
      subst z
      exact ⟨o, ho, fun v q => by rw [hd] at q; cases q⟩
  keep := fun i h h' st k => by
    obtain ⟨⟨old, he⟩, hi, hne⟩ := st
    exact ⟨⟨old, k e List.mem_cons_self _ he⟩, hi.at fun o q => k it (List.mem_cons_of_mem _ List.mem_cons_self) o q, hne⟩
  item := by
    intro X hP hw hK hc i pins s σ H E I hf st hg
    cases hP; cases hw; cases hK
    obtain ⟨⟨old, he⟩, hit, hne, hea⟩ := st
    obtain ⟨xs, x, hq, hx⟩ := hg
    obtain ⟨its, rv, p, hz⟩ := I.tuple hq
    obtain ⟨u, hu, ru⟩ := rv.get hx
    have hel := Heap.lt_size he
    have hil : it < s.heap.objs.size := by
      obtain ⟨_, q, _⟩ := hit
      exact Heap.lt_size q
    have D := Draws.tuple (prog := X.prog) (w := X.w) (A := X.A.in1) (I.ok.hd hc) it a hai its.toArray
    have hlt : i < its.toArray.size := by
      have := lt_of_get hu
      simpa using this
    refine wpAny_pyNext_enum_itemD D he ⟨hit, p⟩ hlt hne (by simp [hne, hea]) fun y h1 tk hy ho hst hT hsz hk => ?_
    have hy' : y = u := by
      have h2 : its.toArray[i]? = some u := by simpa using hu
      rw [h2] at hy
      exact (Option.some.inj hy).symm
    subst hy'
    refine ⟨_, rfl, wpAny_letOwnedTupleGo_enum (s := { s with heap := h1, toks := tk + 1 }) ho fun h2 he2 sb => ?_⟩
    have hT2 : h2.get? s.heap.objs.size = some { cls := .type "tuple", data := .seq #[.int i tk, y] } := (sb.2 _ (Nat.ne_of_gt hel)).trans hT
    have new : ObjOk X.prog X.w (upd H s.heap.objs.size (.tup [.int (i : Nat), x])) h2 s.heap.objs.size (.tup [.int (i : Nat), x]) :=
      ⟨(by decide : 2 ≤ sizeLine), [.int i tk, y], .cons ⟨_, rfl⟩ (.cons ru .nil), ⟨_, hT2, rfl, _, rfl⟩⟩
    have I1 : Inv X pins σ (upd H s.heap.objs.size (.tup [.int (i : Nat), x])) { s with heap := h2, toks := tk + 1 } := by
      refine I.turnedNew (ch := [e, it]) (fun b ob hb q => ?_) hf (Nat.le_refl _) new
      have b1 : b ≠ e := fun z => hb (by simp [z])
      have b2 : b ≠ it := fun z => hb (by simp [z])
      exact (sb.2 b b1).trans (hk b ob b1 b2 q)
    refine ⟨.ref s.heap.objs.size, _, I1, rfl, ⟨_, x, rfl, I.hok.fresh (Nat.le_refl _), rfl, fun ys hy => by rw [I.tuple_inj hy hq]; exact hx⟩, ⟨⟨y, ?_⟩, hst.1.at fun o q => (sb.2 it (Ne.symm hne)).trans q, hne, hea⟩, fun b hb => ?_⟩
    · have e1 : ((i + 1 : Nat) : Int) = (i : Int) + 1 := Int.natCast_succ i
      rw [e1]
      exact he2
    · have hb' : b < s.heap.objs.size := by
        rcases List.mem_cons.mp hb with z | z
        · rw [z]; exact hel
        · rw [List.mem_singleton] at z
          rw [z]; exact hil
      rw [upd_ne (Nat.ne_of_lt hb')]
      exact (hf b hb).1
  done := by
    intro X hP hw hK hc i pins s σ H E I hf st hg
    cases hP; cases hw; cases hK
    obtain ⟨⟨old, he⟩, hit, hne, hea⟩ := st
    obtain ⟨xs, hq, hx⟩ := hg
    obtain ⟨its, rv, p, hz⟩ := I.tuple hq
    obtain ⟨f0, f1, f2, f3, f4, f5⟩ := hf it (List.mem_cons_of_mem _ List.mem_cons_self)
    have hl := rv.length
    have hT : s.TypeIs (.ref e) "enumerate" := ⟨_, he, rfl⟩
    unfold pyNext
    refine wpAny_bind (wpAny_attempt (wpAny_callSpecial?_slot (name := Str.ofString "__next__") hT F.slot_enumerate_next (wpAny_call_entry F.slot_enumerate_next hT F.entry_enumerate_next ?_ (F.args_enumerate_next_1 _))))
    show wpAny _ _ (field (.ref e) 2 >>= _) _ _ _
    refine wpAny_bind (wpAny_field he rfl (x := .ref it) rfl ?_)
    refine wpAny_bind (wpAny_nextOf_tuple_end (I.ok.hd hc) hit p (by simp; omega) fun h' x eb hx' => ?_)
    obtain ⟨o, ho, hcls⟩ := hx'
    refine wpAny_bind (wpAny_isInstance (T := "StopIteration") (b := true) ⟨o, ho, hcls⟩ isSubtype_stop ?_)
    exact wpAny_pure ⟨rfl, I.turned (t' := s.toks) (fun b o hb q => eb b o hb q) f0 f1 f3 f4 f5⟩
  self := fun A i s Q E st h => by
    obtain ⟨⟨_, he⟩, _⟩ := st
    exact wpAny_pyIter_enum he h

/-! ### enumerate(x) -/
def iEnumA (K : PySem.W.Frag) (ta : TA) : TI := fun σ H R => ta σ H fun vs H1 => ∃ a xs, vs = [.ref a] ∧ ((SqL K H1 a xs ∧ R (Ite K a) H1) ∨ (SqT K H1 a xs ∧ R (IteT K a) H1))
theorem pi_enumA {X : Cx} {e : Expr} {ta : TA} {p pos tpos : Pos} {elts : List Expr} {kk : Nat} (hg : Gl X "enumerate") (hm : X.mg "enumerate" = none) (ha : PA X [e] ta) (hs : starEach [e] X.env = [(false, eval e X.env)] := by rfl) :
    PI X (.Tuple elts kk tpos) (.Call (.Name "enumerate" p) [e] [] pos) (iEnumA X.K ta) := by
  refine ⟨fun pins s σ H R I h => ?_⟩
  refine Call_ (ld_blt I hg hm boot_enumerate (PyProof.Rows.callWith_type1 (thn (ha.run pos pins s σ H _ I h) fun us s1 ⟨vs, H1, I1, r1, q1⟩ => ?_) hs rfl))
  obtain ⟨a, xs, ex, q⟩ := q1
  cases ex
  cases r1 with
  | cons r rr =>
    cases rr; cases r
    have fp : ∀ b, b ∈ [s1.heap.objs.size + 1, s1.heap.objs.size] → s1.heap.objs.size ≤ b ∧ H1 b = none := fun b hb => by
      have hle : s1.heap.objs.size ≤ b := by
        rcases List.mem_cons.mp hb with z | z
        · omega
        · rw [List.mem_singleton] at z; omega
      exact ⟨hle, I1.hok.fresh hle⟩
    rcases q with ⟨hq, q⟩ | ⟨hq, q⟩
    · obtain ⟨its, rv, p', hz⟩ := I1.list hq
      refine call_enumerate_list p'.isList fun h' he hit hsz hk => wpAny_pyIter_enum he ?_
      exact ⟨s1.heap.objs.size + 1, [s1.heap.objs.size + 1, s1.heap.objs.size], _, _, H1, rfl, I1.kept (t' := s1.toks) hk, turn_enum a _ _, ⟨⟨.none, he⟩, hit, Nat.succ_ne_self _⟩, fun b hb => I1.fpOk (fp b hb).1 (fp b hb).2, q⟩
    · obtain ⟨its, rv, p', hz⟩ := I1.tuple hq
      have hal : a < s1.heap.objs.size := by
        obtain ⟨o, ho, _⟩ := id p'
        exact Heap.lt_size ho
      refine call_enumT p' fun h' he hit hsz hk => wpAny_pyIter_enum he ?_
      exact ⟨s1.heap.objs.size + 1, [s1.heap.objs.size + 1, s1.heap.objs.size], _, _, H1, rfl, I1.kept (t' := s1.toks) hk, turn_enumT a _ _ (Nat.ne_of_lt hal), ⟨⟨.none, he⟩, hit, Nat.succ_ne_self _, Nat.ne_of_gt (Nat.lt_succ_of_lt hal)⟩, fun b hb => I1.fpOk (fp b hb).1 (fp b hb).2, q⟩
/-- each item behind its number -/
def enumP : Nat → List PV → List PV
  | _, [] => []
  | i, x :: r => .tup [.int (i : Int), x] :: enumP (i + 1) r
theorem enumP_at : ∀ {l : List PV} {k i : Nat} {d : PV}, (enumP k l)[i]? = some d → ∃ x, l[i]? = some x ∧ d = .tup [.int ((k + i : Nat) : Int), x]
  | [], _, _, _, h => by simp [enumP] at h
  | x :: r, k, 0, d, h => ⟨x, rfl, by simpa [enumP] using h.symm⟩
  | x :: r, k, i + 1, d, h => by
    have h' : (enumP (k + 1) r)[i]? = some d := by simpa [enumP] using h
    obtain ⟨y, h1, h2⟩ := enumP_at h'
    exact ⟨y, by simpa using h1, by rw [h2]; congr 4; omega⟩
theorem enumP_len : ∀ (l : List PV) (k : Nat), (enumP k l).length = l.length
  | [], _ => rfl
  | _ :: r, k => by
    show (enumP (k + 1) r).length + 1 = _
    rw [enumP_len r, List.length_cons]
section
variable {K : PySem.W.Frag} {mg : Str → Option Value} {m : Nat → Addr} {n : Nat} {H : Hp} {S : Sto}
theorem sts_new {q : Addr} {ho : HO} (s : StS K mg m S H) (hq : H q = none) : StS K mg m S (upd H q ho) :=
  ⟨fun k o e => (s.obj k o e).upd (.inl hq) fun hm z => by
    have := (s.obj k o e).thereN hm
    rw [z, hq] at this
    exact this rfl, s.inj⟩
theorem yld_pair {q : Addr} {i : Int} {d : PV} {x : V} (s : StS K mg m S H) (hq : H q = none) (r : Rp K H m S.length d x) : ∃ m2, Ext K S.length m H m2 (upd H q (.tup [.int i, x])) ∧ StS K mg m2 S (upd H q (.tup [.int i, x])) ∧ Rp K (upd H q (.tup [.int i, x])) m2 S.length (.tup [.int i, d]) (.ref q) := by
  have ex : Ext K S.length m H m (upd H q (.tup [V.int i, x])) := ext_upd (.inl hq)
  exact ⟨m, ex, sts_new s hq, .tup (.inl (.inl upd_same)) (.cons (.int i) (.cons (r.mono ex (Nat.le_refl _)) .nil))⟩
theorem itOk_enumT {a : Addr} {xs : List V} {l : List PV} (hs : SqT K H a xs) (r : RpL K H m n l xs) : ItOk K mg (IteT K a) ⟨enumP 0 l, []⟩ n m H where
  go := fun i d m' S' H' le x s _ e => by
    have hs' := x.tp _ _ hs
    obtain ⟨y, e1, rfl⟩ := enumP_at e
    obtain ⟨v, h1, h2⟩ := (r.mono x le).get e1
    refine ⟨⟨xs, v, hs', h1⟩, fun z H2 hy => ?_⟩
    obtain ⟨q, w, rfl, hq, rfl, e3⟩ := hy
    have := e3 xs hs'
    rw [h1] at this
    cases this
    rw [Nat.zero_add]
    exact yld_pair s hq h2
  stop := fun m' S' H' le x s _ => ⟨xs, x.tp _ _ hs, by
    show xs.length ≤ (enumP 0 l).length
    rw [enumP_len, r.length]
    exact Nat.le_refl _⟩
theorem itOk_enumL {k : Nat} {l : List PV} {po : PO} (s0 : StS K mg m S H) (e0 : S[k]? = some po) (hl : lstOf k S = some l) : ItOk K mg (Ite K (m k)) ⟨enumP 0 l, [(k, po)]⟩ S.length m H where
  go := fun i d m' S' H' le x s kp e => by
    have e1 : S'[k]? = some po := kp (k, po) (by simp)
    have hl' : lstOf k S' = some l := by
      unfold lstOf at hl ⊢
      rw [e0] at hl
      rw [e1]; exact hl
    obtain ⟨ys, h1, h2⟩ := lst_rp s hl'
    rw [x.mp k (lt_of_get e0)] at h1
    obtain ⟨y, e1, rfl⟩ := enumP_at e
    obtain ⟨v, h3, h4⟩ := h2.get e1
    refine ⟨⟨ys, v, h1, h3⟩, fun z H2 hy => ?_⟩
    obtain ⟨q, w, rfl, hq, rfl, e3⟩ := hy
    have := e3 ys h1
    rw [h3] at this
    cases this
    rw [Nat.zero_add]
    exact yld_pair s hq h4
  stop := fun m' S' H' le x s kp => by
    have e1 : S'[k]? = some po := kp (k, po) (by simp)
    have hl' : lstOf k S' = some l := by
      unfold lstOf at hl ⊢
      rw [e0] at hl
      rw [e1]; exact hl
    obtain ⟨ys, h1, h2⟩ := lst_rp s hl'
    rw [x.mp k (lt_of_get e0)] at h1
    exact ⟨ys, h1, by
      show ys.length ≤ (enumP 0 l).length
      rw [enumP_len, h2.length]
      exact Nat.le_refl _⟩
end
def dEnumI (f : DA) : DI := fun ρ S => bR (f ρ S) fun x S1 => match x with
  | [.tup l] => some (.ok ⟨enumP 0 l, []⟩ S1)
  | [.loc k] => match S1[k]? with
    | some (.lst l) => some (.ok ⟨enumP 0 l, [(k, .lst l)]⟩ S1)
    | some (.fz l) => some (.ok ⟨enumP 0 l, [(k, .fz l)]⟩ S1)
    | _ => none
  | _ => none
theorem di_enum {X : Cx} {W : WX} {e : Expr} {fa : DA} {p pos tpos : Pos} {elts : List Expr} {kk : Nat} (hg : Gl X "enumerate") (hm : X.mg "enumerate" = none) (ha : PAd X W [e] fa) (hs : starEach [e] X.env = [(false, eval e X.env)] := by rfl) :
    PId X W (.Tuple elts kk tpos) (.Call (.Name "enumerate" p) [e] [] pos) (dEnumI fa) := (pi_enumA hg hm ha hs).imp fun σ H Q h => by
  refine (bind1 (ra := rA X.K) h).mono fun v H1 ⟨m, ρ, S, d, z, s, en, r1, hk, p⟩ => ?_
  split at hk
  · cases r1 with
    | cons a b =>
      cases b
      cases a with
      | @tup l a xs h1 h2 =>
        cases hk
        exact ⟨a, xs, rfl, .inr ⟨h1, p _ m H1 (Nat.le_refl _) Ext.refl s (itOk_enumT h1 h2)⟩⟩
  · cases r1 with
    | cons a b =>
      cases b; cases a
      split at hk
      · rename_i e1
        cases hk
        have hl := lstOf1 e1
        obtain ⟨xs, h1, h2⟩ := lst_rp s hl
        exact ⟨_, xs, rfl, .inl ⟨h1, p _ m H1 (Nat.le_refl _) Ext.refl s (itOk_enumL s e1 hl)⟩⟩
      · rename_i e1
        cases hk
        have hl := lstOf2 e1
        obtain ⟨xs, h1, h2⟩ := lst_rp s hl
        exact ⟨_, xs, rfl, .inl ⟨h1, p _ m H1 (Nat.le_refl _) Ext.refl s (itOk_enumL s e1 hl)⟩⟩
      · cases hk
  · cases hk

/-! ### sum, max, min, any, all of a list -/
def intP : PV → Option Int
  | .int i => some i
  | _ => none
def blP : PV → Option Bool
  | .bl i => some i
  | _ => none
theorem intP_map : ∀ {l : List PV} {ns : List Int}, mapO intP l = some ns → l = ns.map PV.int
  | [], _, h => by cases h; rfl
  | x :: r, _, h => by
    unfold mapO at h
    split at h
    · rename_i y ys h1 h2
      cases h
      rw [intP_map h2]
      cases x <;> cases h1
      rfl
    · cases h
theorem blP_map : ∀ {l : List PV} {ns : List Bool}, mapO blP l = some ns → l = ns.map PV.bl
  | [], _, h => by cases h; rfl
  | x :: r, _, h => by
    unfold mapO at h
    split at h
    · rename_i y ys h1 h2
      cases h
      rw [blP_map h2]
      cases x <;> cases h1
      rfl
    · cases h
/-- the ints of a stored list -/
def intsAt (k : Nat) (S : Sto) : Option (List Int) := match lstOf k S with
  | some l => mapO intP l
  | none => none
def blsAt (k : Nat) (S : Sto) : Option (List Bool) := match lstOf k S with
  | some l => mapO blP l
  | none => none
def maxI : List Int → Int
  | [] => 0
  | [i] => i
  | i :: r => if i ≤ maxI r then maxI r else i
def minI : List Int → Int
  | [] => 0
  | [i] => i
  | i :: r => if minI r ≤ i then minI r else i
theorem maxI_is : ∀ {ns : List Int} {m : Int}, m ∈ ns → (∀ y ∈ ns, y ≤ m) → m = maxI ns
  | [i], m, h, _ => List.mem_singleton.mp h
  | i :: j :: r, m, h, hm => by
    have hi := hm i List.mem_cons_self
    have mr : maxI (j :: r) ∈ j :: r := by
      have : ∀ (l : List Int) (x : Int), maxI (x :: l) ∈ x :: l := by
        intro l
        induction l with
        | nil => intro x; simp [maxI]
        | cons y l ih =>
          intro x
          unfold maxI
          split
          · exact List.mem_cons_of_mem _ (ih y)
          · exact List.mem_cons_self
      exact this r j
    have mx : ∀ (l : List Int) (x : Int), ∀ y ∈ x :: l, y ≤ maxI (x :: l) := by
      intro l
      induction l with
      | nil => intro x y hy; simp [maxI] at hy ⊢; omega
      | cons z l ih =>
        intro x y hy
        unfold maxI
        split
        · rcases List.mem_cons.mp hy with rfl | hy
          · assumption
          · exact ih z y hy
        · rcases List.mem_cons.mp hy with rfl | hy
          · exact Int.le_refl _
          · have := ih z y hy; omega
    have h1 := hm _ (List.mem_cons_of_mem _ mr)
    unfold maxI
    rcases List.mem_cons.mp h with rfl | h
    · split <;> omega
    · have := mx r j m h
      split <;> omega
theorem minI_is : ∀ {ns : List Int} {m : Int}, m ∈ ns → (∀ y ∈ ns, m ≤ y) → m = minI ns
  | [i], m, h, _ => List.mem_singleton.mp h
  | i :: j :: r, m, h, hm => by
    have hi := hm i List.mem_cons_self
    have mr : minI (j :: r) ∈ j :: r := by
      have : ∀ (l : List Int) (x : Int), minI (x :: l) ∈ x :: l := by
        intro l
        induction l with
        | nil => intro x; simp [minI]
        | cons y l ih =>
          intro x
          unfold minI
          split
          · exact List.mem_cons_of_mem _ (ih y)
          · exact List.mem_cons_self
      exact this r j
    have mx : ∀ (l : List Int) (x : Int), ∀ y ∈ x :: l, minI (x :: l) ≤ y := by
      intro l
      induction l with
      | nil => intro x y hy; simp [minI] at hy ⊢; omega
      | cons z l ih =>
        intro x y hy
        unfold minI
        split
        · rcases List.mem_cons.mp hy with rfl | hy
          · assumption
          · exact ih z y hy
        · rcases List.mem_cons.mp hy with rfl | hy
          · exact Int.le_refl _
          · have := ih z y hy; omega
    have h1 := hm _ (List.mem_cons_of_mem _ mr)
    unfold minI
    rcases List.mem_cons.mp h with rfl | h
    · split <;> omega
    · have := mx r j m h
      split <;> omega
section
variable {K : PySem.W.Frag} {mg : Str → Option Value} {m : Nat → Addr} {H : Hp} {S : Sto}
theorem intsAt_rp {k : Nat} {ns : List Int} (s : StS K mg m S H) (e : intsAt k S = some ns) : SqL K H (m k) (ns.map V.int) := by
  unfold intsAt at e
  split at e
  · rename_i l hl
    obtain ⟨xs, h1, h2⟩ := lst_rp s hl
    rw [intP_map e] at h2
    rw [h2.ints] at h1
    exact h1
  · cases e
theorem blsAt_rp {k : Nat} {ns : List Bool} (s : StS K mg m S H) (e : blsAt k S = some ns) : SqL K H (m k) (ns.map V.bl) := by
  unfold blsAt at e
  split at e
  · rename_i l hl
    obtain ⟨xs, h1, h2⟩ := lst_rp s hl
    rw [blP_map e] at h2
    rw [h2.bls] at h1
    exact h1
  · cases e
def gSumL : GA := fun l S => match l with
  | [.loc k] => match intsAt k S with
    | some ns => some (.ok (.int ns.sum) S)
    | none => none
  | _ => none
def gMaxL : GA := fun l S => match l with
  | [.loc k] => match intsAt k S with
    | some ns => if 0 < ns.length then some (.ok (.int (maxI ns)) S) else none
    | none => none
  | _ => none
def gMinL : GA := fun l S => match l with
  | [.loc k] => match intsAt k S with
    | some ns => if 0 < ns.length then some (.ok (.int (minI ns)) S) else none
    | none => none
  | _ => none
def gAnyL : GA := fun l S => match l with
  | [.loc k] => match blsAt k S with
    | some ns => some (.ok (.bl (ns.any id)) S)
    | none => none
  | _ => none
def gAllL : GA := fun l S => match l with
  | [.loc k] => match blsAt k S with
    | some ns => some (.ok (.bl (ns.all id)) S)
    | none => none
  | _ => none
theorem ok_sumL : OkGA K mg (rSum K) gSumL := fun W σ m S H x d z Q s r e p => by
  unfold gSumL at e
  split at e
  · split at e
    · rename_i ns hn
      cases e
      cases r with
      | cons a b =>
        cases b; cases a
        exact ⟨_, ns, rfl, intsAt_rp s hn, post_here s (.int _) p⟩
    · cases e
  · cases e
theorem ok_maxL : OkGA K mg (rMax K) gMaxL := fun W σ m S H x d z Q s r e p => by
  unfold gMaxL at e
  split at e
  · split at e
    · rename_i ns hn
      split at e
      · rename_i hl
        cases e
        cases r with
        | cons a b =>
          cases b; cases a
          exact ⟨_, ns, rfl, intsAt_rp s hn, hl, fun i h1 h2 => by rw [maxI_is h1 h2]; exact post_here s (.int _) p⟩
      · cases e
    · cases e
  · cases e
theorem ok_minL : OkGA K mg (rMin K) gMinL := fun W σ m S H x d z Q s r e p => by
  unfold gMinL at e
  split at e
  · split at e
    · rename_i ns hn
      split at e
      · rename_i hl
        cases e
        cases r with
        | cons a b =>
          cases b; cases a
          exact ⟨_, ns, rfl, intsAt_rp s hn, hl, fun i h1 h2 => by rw [minI_is h1 h2]; exact post_here s (.int _) p⟩
      · cases e
    · cases e
  · cases e
theorem ok_anyL : OkGA K mg (rAny K) gAnyL := fun W σ m S H x d z Q s r e p => by
  unfold gAnyL at e
  split at e
  · split at e
    · rename_i ns hn
      cases e
      cases r with
      | cons a b =>
        cases b; cases a
        exact ⟨_, ns, rfl, blsAt_rp s hn, post_here s (.bl _) p⟩
    · cases e
  · cases e
theorem ok_allL : OkGA K mg (rAll K) gAllL := fun W σ m S H x d z Q s r e p => by
  unfold gAllL at e
  split at e
  · split at e
    · rename_i ns hn
      cases e
      cases r with
      | cons a b =>
        cases b; cases a
        exact ⟨_, ns, rfl, blsAt_rp s hn, post_here s (.bl _) p⟩
    · cases e
  · cases e
end

/-! ### max(xs, default=d) -/
def rMaxDf (K : PySem.W.Frag) : List V → List V → Hp → VK → Prop := fun xs zs H Q => ∃ (a : Addr) (ns : List Int) (d : Int), xs = [.ref a] ∧ zs = [.int d] ∧ SqL K H a (ns.map V.int) ∧ (ns = [] → Q (.int d) H) ∧ ∀ n r, ns = n :: r → Q (.int (r.foldl max n)) H
theorem reads_ints {h : Heap} : ∀ {ns : List Int} {us : List Value}, Vals (ns.map V.int) us → ∃ as, ReadsAll h us (ns.map PyData.int) as
  | [], _, .nil => ⟨_, .nil⟩
  | i :: r, _, .cons ⟨t, e⟩ rs => by
    obtain ⟨as, q⟩ := reads_ints (h := h) rs
    subst e
    exact ⟨_, .cons (.int i t) q⟩
theorem depth_ints : ∀ ns : List Int, PyData.depthAll (ns.map PyData.int) = 0
  | [] => by simp [PyData.depthAll]
  | n :: r => by rw [List.map_cons, PyData.depthAll, depth_ints r, PyData.depth] <;> simp
theorem crk_max {X : Cx} (hc : X.calm = true) (hu : X.A.units + 64 < cLine) : CallRK X (.builtin "max") ["default"] (rMaxDf X.K) := by
  intro pins s σ H xs zs us ws Q I r1 r2 h
  obtain ⟨a, ns, d, rfl, rfl, hs, q0, q1⟩ := h
  obtain ⟨its, rv, hl, _⟩ := I.list hs
  rw [Vals.ref1 r1]
  cases r2 with
  | cons rd rn =>
    cases rn
    obtain ⟨td, rfl⟩ := rd
    obtain ⟨as, ra⟩ := reads_ints (h := s.heap) rv
    have al : PySem.W.AlikeAll (ns.map PyData.int) := ⟨fun x hx y hy => by
      obtain ⟨_, _, rfl⟩ := List.mem_map.mp hx
      obtain ⟨_, _, rfl⟩ := List.mem_map.mp hy
      rfl, fun x hx z => by
      obtain ⟨_, _, rfl⟩ := List.mem_map.mp hx
      cases z⟩
    refine PySem.W.max_list_default (I.ok.hd hc) hl.isList ra al (by rw [depth_ints]; omega) (fun e h' tk k => ?_) fun y ys i v h' tk bs e hv rd k => ?_
    · exact ⟨.int d, H, I.kept k, ⟨_, rfl⟩, q0 (List.map_eq_nil_iff.mp e)⟩
    · cases ns with
      | nil => cases e
      | cons n r =>
        rw [List.map_cons] at e
        cases e
        rw [PySem.W.maxD_ints] at rd
        cases rd
        exact ⟨.int _, H, I.kept k, ⟨_, rfl⟩, q1 n r rfl⟩
def gMaxDf (xs : List PV) (z : PV) (S : Sto) : Option (R PV) := match xs, z with
  | [.loc k], .int d => match intsAt k S with
    | some [] => some (.ok (.int d) S)
    | some (n :: r) => some (.ok (.int (r.foldl max n)) S)
    | none => none
  | _, _ => none
def dMaxDf (f : DA) (d : DE) : DE := fun ρ S => bR (f ρ S) fun xs S1 => bR (d ρ S1) fun z S2 => gMaxDf xs z S2
theorem de_maxDf {X : Cx} {W : WX} {e d : Expr} {es : List Expr} {fa : DA} {fd : DE} {p pos kp : Pos} (hc : X.calm = true) (hu : X.A.units + 64 < cLine) (hg : Gl X "max") (hm : X.mg "max" = none) (ha : PAd X W (e :: es) fa) (hd : PEd X W d fd)
    (he : backTo pos (starEach (e :: es) X.env) = (false, eval e X.env) :: backTo pos (starEach es X.env) := by rfl) (hpl : (backTo pos (starEach (e :: es) X.env)).any (·.1) = false := by rfl)
    (hall : (backToKw pos (keywordEach [⟨some "default", d, kp⟩] X.env)).all (·.1.isSome) = true := by rfl) (hnone : (backToKw pos (keywordEach [⟨some "default", d, kp⟩] X.env)).any (·.1.isNone) = false := by rfl) (hks : (backToKw pos (keywordEach [⟨some "default", d, kp⟩] X.env)).filterMap (·.1) = ([("default" : Str)] : List Str) := by rfl) :
    PEd X W (.Call (.Name "max" p) (e :: es) [⟨some "default", d, kp⟩] pos) (dMaxDf fa fd) :=
  (pe_callBK (crk_max hc hu) hg hm (by decide +kernel) ha (pk_cons hd pk_nil) (by decide) (by decide) he hpl hall hnone hks).imp fun σ H Q h => by
  refine (bind2 (ra := rA X.K) (rb := rE X.K) keeps_A h).mono fun vs H1 h1 => h1.mono fun z H2 ⟨m, ρ, S, xs, dz, r, s, en, r1, r2, hk, q⟩ => ?_
  unfold gMaxDf at hk
  split at hk
  · cases r2
    cases r1 with
    | cons a b =>
      cases b; cases a
      split at hk
      · rename_i hn
        cases hk
        exact ⟨_, [], _, rfl, rfl, intsAt_rp s hn, fun _ => post_here s (.int _) q, fun _ _ z => by cases z⟩
      · rename_i n r hn
        cases hk
        exact ⟨_, n :: r, _, rfl, rfl, intsAt_rp s hn, (fun z => by cases z), fun _ _ z => by cases z; exact post_here s (.int _) q⟩
      · cases hk
  · cases hk
end D

/-! D11: in, not in; list.insert; range with a step. -/
namespace D
open PySem PySem.Spec PyProof.Rows L2

/-! ### in, not in -/
def rInP (K : PySem.W.Frag) (neg : Bool) : R2 := fun x y H Q => ∃ d e ds, L2.Dp K H x d ∧ L2.Dp K H y e ∧ (e = .list ds ∨ e = .tuple ds) ∧ d.plain = true ∧ PyData.plainAll ds = true ∧ d.depth ≤ 60 ∧
  Q (.bl (if neg then !(ds.any fun z => PyData.eqv z d) else ds.any fun z => PyData.eqv z d)) H
theorem op_inP {X : Cx} (hu : X.A.units + 64 < cLine) : OpR X (compareOp .In) (rInP X.K false) := by
  intro pins s σ H x y v u Q I rx ry h
  obtain ⟨d, e, ds, hd, he, he2, pd, pe, dd, q⟩ := h
  obtain ⟨as, r1⟩ := Dp.reads I d x v hd rx
  obtain ⟨bs, r2⟩ := Dp.reads I e y u he ry
  rcases he2 with rfl | rfl
  · exact SeqAt.in_list_data r2 r1 pe pd (by omega) ⟨.bl _, H, I, rfl, q⟩
  · exact SeqAt.in_tuple_data r2 r1 pe pd (by omega) ⟨.bl _, H, I, rfl, q⟩
theorem op_notinP {X : Cx} (hu : X.A.units + 64 < cLine) : OpR X (compareOp .NotIn) (rInP X.K true) := by
  intro pins s σ H x y v u Q I rx ry h
  obtain ⟨d, e, ds, hd, he, he2, pd, pe, dd, q⟩ := h
  obtain ⟨as, r1⟩ := Dp.reads I d x v hd rx
  obtain ⟨bs, r2⟩ := Dp.reads I e y u he ry
  rcases he2 with rfl | rfl
  · exact SeqAt.notIn_list_data r2 r1 pe pd (by omega) ⟨.bl _, H, I, rfl, q⟩
  · exact SeqAt.notIn_tuple_data r2 r1 pe pd (by omega) ⟨.bl _, H, I, rfl, q⟩
def inP (x y : PV) (S : Sto) : Option Bool := match toD 60 S x, toD 60 S y with
  | some d, some (.list ds) => some (ds.any fun z => PyData.eqv z d)
  | some d, some (.tuple ds) => some (ds.any fun z => PyData.eqv z d)
  | _, _ => none
def gInN (neg : Bool) : G2 := fun x y S => match inP x y S with
  | some b => some (.ok (.bl (if neg then !b else b)) S)
  | none => none
abbrev gIn : G2 := gInN false
abbrev gNotIn : G2 := gInN true
theorem ok_in {K : PySem.W.Frag} {mg : Str → Option Value} {neg : Bool} : OkG2 K mg (rInP K neg) (gInN neg) := fun W σ m S H x y d d' z Q s r1 r2 e p => by
  unfold gInN at e
  split at e
  · rename_i b hb
    cases e
    unfold inP at hb
    split at hb
    · rename_i q1 ds e1 e2
      cases hb
      obtain ⟨a1, a2, a3⟩ := toD_dp s 60 _ _ _ e1 r1
      obtain ⟨b1, b2, b3⟩ := toD_dp s 60 _ _ _ e2 r2
      rw [PyData.plain] at b2
      exact ⟨q1, _, ds, a1, b1, .inl rfl, a2, b2, a3, post_here s (.bl _) p⟩
    · rename_i q1 ds e1 e2
      cases hb
      obtain ⟨a1, a2, a3⟩ := toD_dp s 60 _ _ _ e1 r1
      obtain ⟨b1, b2, b3⟩ := toD_dp s 60 _ _ _ e2 r2
      rw [PyData.plain] at b2
      exact ⟨q1, _, ds, a1, b1, .inr rfl, a2, b2, a3, post_here s (.bl _) p⟩
    · cases hb
  · cases e
/-! ### list.insert -/
section
variable {K : PySem.W.Frag} {mg : Str → Option Value}
def rInsert : V → List V → Hp → VK → Prop := fun x vs H Q => ∃ (l : Addr) (xs : List V) (i : Int) (y : V), x = .ref l ∧ vs = [.int i, y] ∧ H l = some (.lst xs) ∧ xs.length < sizeLine ∧ 0 ≤ i ∧ i < 2 ^ 63 ∧
    Q .non (upd H l (.lst (xs.take i.toNat ++ [y] ++ xs.drop i.toNat)))
def gInsert : GM := fun c d S => match c, d with
  | .loc k, [.int i, y] => match S[k]? with
    | some (.lst l) => if l.length < 16777216 ∧ 0 ≤ i ∧ i < 2 ^ 63 then some (.ok .non (S.set k (.lst (l.take i.toNat ++ [y] ++ l.drop i.toNat)))) else none
    | _ => none
  | _, _ => none
theorem mt_insert2 {X : Cx} : MtR X "list.insert" rInsert := mt_insert
theorem ok_insert : OkGM K mg rInsert gInsert := fun W σ m S H o x c d z Q s ro r e p => by
  unfold gInsert at e
  split at e
  · cases ro with
    | loc hk =>
      cases r with
      | cons a b =>
        cases a
        cases b with
        | cons a2 b2 =>
          cases b2
          split at e
          · rename_i l e1
            split at e
            · rename_i hl
              cases e
              obtain ⟨xs, h1, h2⟩ := s.obj _ _ e1
              exact ⟨_, xs, _, _, rfl, rfl, h1, by rw [← h2.length]; exact Nat.lt_of_lt_of_le hl.1 (by decide), hl.2.1, hl.2.2, list_set s e1 (((h2.take _).append (.one a2)).append (h2.drop _)) .non p⟩
            · cases e
          · cases e
  · cases e
end
end D

/-! D12: dicts: d[k], k in d, d[k] = v, {}. -/
namespace D
open PySem PySem.Spec PyProof.Rows L2

/-! ### d[k] -/
def rDGet : R2 := fun x y H Q => ∃ a v, x = .ref a ∧ DGet H a y (some v) ∧ Q v H
theorem ix_dict {X : Cx} (hu : X.A.units + 1 < cLine) : IxR X rDGet := by
  intro value slice pins s σ H x y v u Q I rx ry h hs
  obtain ⟨a, z, rfl, g, q⟩ := h
  obtain rfl : v = Value.ref a := rx
  have hT := dict_typeIs I g
  unfold subscriptTail
  refine wpAny_bind ?_
  rw [getitemInPython_of_ne hT.not_modules]
  refine wpAny_bind (wpAny_specialOf hT PySem.F.slot_dict_getitem.lookup ?_)
  have fin : wpAny (model X.prog X.w) X.A (subscripted slice false (.ref a) u) (fun r s₃ => wpAny (model X.prog X.w) X.A (letTemporaryGo value (.ref a) r >>= fun _ => pure r) (EP X pins σ Q) X.xe s₃) X.xe s := by
    rw [hs]
    exact wpAny_operating (d_getItem hu I g ry fun w' s3 I3 rw' => wpAny_bind (wpAny_letTemporaryGo (wpAny_pure ⟨z, H, I3, rw', q⟩)))
  first
    | exact wpAny_pure (wpAny_bind fin)
    | exact wpAny_bind (wpAny_pure (wpAny_bind fin))
    | exact wpAny_bind fin
/-! ### k in d -/
def rDIn (neg : Bool) : R2 := fun y x H Q => ∃ a o, x = .ref a ∧ DGet H a y o ∧ Q (.bl (if neg then !o.isSome else o.isSome)) H
theorem op_dIn {X : Cx} (hu : X.A.units + 1 < cLine) : OpR X (compareOp .In) (rDIn false) := by
  intro pins s σ H x y v u Q I rx ry h
  obtain ⟨a, o, rfl, g, q⟩ := h
  obtain rfl : u = Value.ref a := ry
  exact d_in hu I g rx fun s3 I3 => ⟨.bl o.isSome, H, I3, rfl, q⟩
theorem op_dNotIn {X : Cx} (hu : X.A.units + 1 < cLine) : OpR X (compareOp .NotIn) (rDIn true) := by
  intro pins s σ H x y v u Q I rx ry h
  obtain ⟨a, o, rfl, g, q⟩ := h
  obtain rfl : u = Value.ref a := ry
  exact d_notIn hu I g rx fun s3 I3 => ⟨.bl (!o.isSome), H, I3, rfl, q⟩
section
variable {K : PySem.W.Frag} {mg : Str → Option Value} {H : Hp} {m : Nat → Addr} {n : Nat} {S : Sto}
theorem kP_rp {d : PV} {k : Key} {v : V} (h : kP d = some k) (r : Rp K H m n d v) : v = kV k := by
  cases r <;> simp [kP] at h
  · subst h; rfl
  · subst h; rfl
def valD : List (PV × PV) → Key → Option PV
  | [], _ => none
  | p :: r, k => if kP p.1 = some k then some p.2 else valD r k
theorem valD_rp {k : Key} : ∀ {kvs : List (PV × PV)} {kv : List (Key × V)}, RpK K H m n kvs kv → (valD kvs k = none ∧ valV kv k = none) ∨ ∃ d v, valD kvs k = some d ∧ valV kv k = some v ∧ Rp K H m n d v
  | _, _, .nil => .inl ⟨rfl, rfl⟩
  | p :: r, q :: t, .cons h rs => by
    obtain ⟨h1, h2⟩ := h
    unfold valD
    rw [h1]
    by_cases e : q.1 = k
    · rw [if_pos (by rw [e]), valV_pos e]
      exact .inr ⟨_, _, rfl, rfl, h2⟩
    · rw [if_neg (fun z => e (Option.some.inj z)), valV_neg e]
      exact valD_rp rs
def gIxD : G2 := fun x y S => match x with
  | .loc k => match S[k]? with
    | some (.dct false kvs) => match kP y with
      | some q => match valD kvs q with
        | some v => some (.ok v S)
        | none => none
      | none => none
    | some (.fd kvs) => match kP y with
      | some q => match valD kvs q with
        | some v => some (.ok v S)
        | none => none
      | none => none
    | _ => none
  | _ => none
theorem ok_ixD : OkG2 K mg rDGet gIxD := fun W σ m S H x y d d' z Q s r1 r2 e p => by
  unfold gIxD at e
  split at e
  · cases r1
    split at e
    · rename_i kvs e1
      split at e
      · rename_i q e2
        split at e
        · rename_i v e3
          cases e
          have hy := kP_rp e2 r2
          subst hy
          rcases s.obj _ _ e1 with ⟨_, kv, h1, h2⟩ | ⟨ht, _⟩
          · rcases valD_rp (k := q) h2 with ⟨g1, _⟩ | ⟨d, w, g1, g2, g3⟩
            · rw [g1] at e3; cases e3
            · rw [g1] at e3
              cases e3
              exact ⟨_, w, rfl, g2 ▸ DGet.k h1, post_here s g3 p⟩
          · cases ht
        · cases e
      · cases e
    · rename_i kvs e1
      split at e
      · rename_i q e2
        split at e
        · rename_i v e3
          cases e
          have hy := kP_rp e2 r2
          subst hy
          obtain ⟨o, kv, h1, h2⟩ := s.obj _ _ e1
          rcases valD_rp (k := q) h2 with ⟨g1, _⟩ | ⟨d, w, g1, g2, g3⟩
          · rw [g1] at e3; cases e3
          · rw [g1] at e3
            cases e3
            exact ⟨_, w, rfl, g2 ▸ .inl ⟨kv, q, .inr ⟨o, h1⟩, rfl, rfl⟩, post_here s g3 p⟩
        · cases e
      · cases e
    · cases e
  · cases e
def gDIn (neg : Bool) : G2 := fun y x S => match x with
  | .loc k => match S[k]? with
    | some (.dct false kvs) => match kP y with
      | some q => some (.ok (.bl (if neg then !(valD kvs q).isSome else (valD kvs q).isSome)) S)
      | none => none
    | some (.fd kvs) => match kP y with
      | some q => some (.ok (.bl (if neg then !(valD kvs q).isSome else (valD kvs q).isSome)) S)
      | none => none
    | _ => none
  | _ => none
theorem ok_dIn {neg : Bool} : OkG2 K mg (rDIn neg) (gDIn neg) := fun W σ m S H x y d d' z Q s r1 r2 e p => by
  unfold gDIn at e
  split at e
  · cases r2
    split at e
    · rename_i kvs e1
      split at e
      · rename_i q e2
        cases e
        have hy := kP_rp e2 r1
        subst hy
        rcases s.obj _ _ e1 with ⟨_, kv, h1, h2⟩ | ⟨ht, _⟩
        · have hs : (valV kv q).isSome = (valD kvs q).isSome := by
            rcases valD_rp (k := q) h2 with ⟨g1, g2⟩ | ⟨d, w, g1, g2, g3⟩ <;> rw [g1, g2] <;> rfl
          exact ⟨_, _, rfl, DGet.k h1, by rw [hs]; exact post_here s (.bl _) p⟩
        · cases ht
      · cases e
    · rename_i kvs e1
      split at e
      · rename_i q e2
        cases e
        have hy := kP_rp e2 r1
        subst hy
        obtain ⟨o, kv, h1, h2⟩ := s.obj _ _ e1
        have hs : (valV kv q).isSome = (valD kvs q).isSome := by
          rcases valD_rp (k := q) h2 with ⟨g1, g2⟩ | ⟨d, w, g1, g2, g3⟩ <;> rw [g1, g2] <;> rfl
        exact ⟨_, _, rfl, .inl ⟨kv, q, .inr ⟨o, h1⟩, rfl, rfl⟩, by rw [hs]; exact post_here s (.bl _) p⟩
      · cases e
    · cases e
  · cases e
end
/-! ### d[k] = v -/
def putD (kvs : List (PV × PV)) (y v : PV) (k : Key) : List (PV × PV) := if (kvs.any fun p => decide (kP p.1 = some k)) = true then kvs.map (fun p => if kP p.1 = some k then (p.1, v) else p) else kvs ++ [(y, v)]
section
variable {K : PySem.W.Frag} {mg : Str → Option Value} {H : Hp} {m : Nat → Addr} {n : Nat}
theorem rpk_any {k : Key} : ∀ {kvs : List (PV × PV)} {kv : List (Key × V)}, RpK K H m n kvs kv → (kvs.any fun p => decide (kP p.1 = some k)) = kv.any fun q => decide (q.1 = k)
  | _, _, .nil => rfl
  | p :: r, q :: t, .cons h rs => by
    rw [List.any_cons, List.any_cons, rpk_any rs, h.1]
    congr 1
    simp
theorem rpk_map {k : Key} {d : PV} {v : V} (rv : Rp K H m n d v) : ∀ {kvs : List (PV × PV)} {kv : List (Key × V)}, RpK K H m n kvs kv → RpK K H m n (kvs.map fun p => if kP p.1 = some k then (p.1, d) else p) (kv.map fun q => if q.1 = k then (q.1, v) else q)
  | _, _, .nil => .nil
  | p :: r, q :: t, .cons h rs => by
    rw [List.map_cons, List.map_cons]
    refine .cons ?_ (rpk_map rv rs)
    by_cases e : q.1 = k
    · rw [if_pos (by rw [h.1, e]), if_pos e]
      exact ⟨h.1, rv⟩
    · rw [if_neg (by rw [h.1]; exact fun z => e (Option.some.inj z)), if_neg e]
      exact h
theorem rpk_snoc {y d : PV} {k : Key} {v : V} (hk : kP y = some k) (rv : Rp K H m n d v) : ∀ {kvs : List (PV × PV)} {kv : List (Key × V)}, RpK K H m n kvs kv → RpK K H m n (kvs ++ [(y, d)]) (kv ++ [(k, v)])
  | _, _, .nil => .cons ⟨hk, rv⟩ .nil
  | p :: r, q :: t, .cons h rs => .cons h (rpk_snoc hk rv rs)
theorem rpk_put {y d : PV} {k : Key} {v : V} (hk : kP y = some k) (rv : Rp K H m n d v) {kvs : List (PV × PV)} {kv : List (Key × V)} (h : RpK K H m n kvs kv) : RpK K H m n (putD kvs y d k) (putK kv k v) := by
  unfold putD putK
  rw [rpk_any h]
  split
  · exact rpk_map rv h
  · exact rpk_snoc hk rv h
end
def gSetD : GSt := fun o i v S => match o with
  | .loc k => match S[k]? with
    | some (.dct false kvs) => match kP i with
      | some q => if kvs.length < 16777216 then some (S.set k (.dct false (putD kvs i v q))) else none
      | none => none
    | _ => none
  | _ => none
theorem ok_setD {K : PySem.W.Frag} {mg : Str → Option Value} : OkSt K mg rSetD gSetD := fun m S S' H o i v c d e Q s r1 r2 r3 h q => by
  unfold gSetD at h
  split at h
  · cases r1
    split at h
    · rename_i kvs e1
      split at h
      · rename_i ky e2
        split at h
        · rename_i hl
          cases h
          have hy := kP_rp e2 r2
          subst hy
          rcases s.obj _ _ e1 with ⟨_, kv, h1, h2⟩ | ⟨ht, _⟩
          · have hlen : kv.length < sizeLine := by rw [← paired_len h2]; exact Nat.lt_of_lt_of_le hl (by decide)
            have mu := s.mut e1 rfl
            have x : Ext K S.length m H m (upd H (m _) (.dK (putK kv ky v))) := ext_upd (.inr mu)
            refine ⟨_, _, rfl, DPut.k h1 hlen, q m _ (by rw [List.length_set]; exact Nat.le_refl _) x ?_⟩
            exact s.write (ho := .dK (putK kv ky v)) (po' := .dct false (putD kvs d e ky)) e1 rfl rfl (.inl ⟨rfl, _, upd_same, RpK.mono x (Nat.le_refl _) (rpk_put e2 r3 h2)⟩)
          · cases ht
        · cases h
      · cases h
    · cases h
  · cases h
/-! ### {} -/
def dNewD : DE := fun _ S => some (.ok (.loc S.length) (S ++ [.dct false []]))
section
variable {X : Cx} {W : WX} {pos : Pos}
theorem de_dnew : PEd X W (.Dict [] [] pos) dNewD := by
  refine pe_dnewK.imp fun σ H Q h => ?_
  obtain ⟨m, ρ, S, r, s, e, hf, p⟩ := h
  cases hf
  intro q hq
  have st := s.push (p := q) (ho := .dK []) (po := .dct false []) hq rfl (.inl ⟨rfl, [], upd_same, .nil⟩)
  have rp : Rp X.K (upd H q (.dK [])) (mext m S.length q) (S ++ [PO.dct false []]).length (.loc S.length) (.ref (mext m S.length q S.length)) := .loc (by simp)
  rw [mext_same] at rp
  exact p _ (mext m S.length q) _ (by simp) (ext_push hq) st rp
end
end D

/-! D13: instances: o.f -/
namespace D
open PySem PySem.Spec PyProof.Rows L2
section
variable {K : PySem.W.Frag} {mg : Str → Option Value} {H : Hp} {m : Nat → Addr} {n : Nat}
theorem rpf_look {f : Str} : ∀ {fs : List (Str × PV)} {fv : List (Str × V)} {d : PV}, RpF K H m n fs fv → fs.lookup f = some d → ∃ v, fv.lookup f = some v ∧ Rp K H m n d v
  | _, _, d, .nil, h => by cases h
  | p :: r, q :: t, d, .cons h rs, hl => by
    obtain ⟨h1, h2⟩ := h
    obtain ⟨p1, p2⟩ := p
    obtain ⟨q1, q2⟩ := q
    simp only at h1 h2
    subst h1
    rw [List.lookup_cons] at hl ⊢
    cases e : f == p1 with
    | true =>
      rw [e] at hl
      cases hl
      exact ⟨_, rfl, h2⟩
    | false =>
      rw [e] at hl
      exact rpf_look rs hl
end
def gFld (c f : Str) : PV → Sto → Option (R PV) := fun x S => match x with
  | .loc k => match S[k]? with
    | some (.ins c' fs) => if c' = c then match fs.lookup f with
      | some v => some (.ok v S)
      | none => none else none
    | _ => none
  | _ => none
def dFld (c f : Str) (a : DE) : DE := fun ρ S => bR (a ρ S) fun x S1 => gFld c f x S1
section
variable {X : Cx} {W : WX} {pos : Pos} {e : Expr} {fa : DE} {c f : Str} {C : Addr}
theorem de_fld (gC : X.mg c = some (.ref C)) (hc : Cls X.K C) (hn : NoAttr X.K C f) (ha : PEd X W e fa) (hb : attributeBase e f X.env (eval e X.env) = eval e X.env := by rfl) : PEd X W (.Attribute e f pos) (dFld c f fa) := by
  refine (pe_fld ha hb).imp fun σ H Q h => ?_
  refine (bind1 (ra := rE X.K) (k := fun ρ x S1 => gFld c f x S1) h).mono fun v H1 ⟨m, ρ, S, d, z, s, e, r1, hk, p⟩ => ?_
  replace hk : gFld c f d S = some z := hk
  unfold gFld at hk
  split at hk
  · cases r1
    split at hk
    · rename_i c' fs e1
      split at hk
      · rename_i ec
        subst ec
        split at hk
        · rename_i w el
          cases hk
          obtain ⟨C', dx, fv, h1, h2, h3⟩ := s.obj _ _ e1
          rw [gC] at h2
          cases h2
          obtain ⟨u, g1, g2⟩ := rpf_look h3 el
          exact ⟨_, _, dx, fv, u, rfl, h1, hc, hn, g1, post_here s g2 p⟩
        · cases hk
      · cases hk
    · cases hk
  · cases hk
end
/-! ### o.f = v -/
def putFP (f : Str) (v : PV) : List (Str × PV) → List (Str × PV)
  | [] => [(f, v)]
  | (g, x) :: r => if g = f then (g, v) :: r else (g, x) :: putFP f v r
section
variable {K : PySem.W.Frag} {mg : Str → Option Value} {H : Hp} {m : Nat → Addr} {n : Nat}
theorem rpf_put {f : Str} {d : PV} {v : V} (rv : Rp K H m n d v) : ∀ {fs : List (Str × PV)} {fv : List (Str × V)}, RpF K H m n fs fv → RpF K H m n (putFP f d fs) (putF f v fv)
  | _, _, .nil => .cons ⟨rfl, rv⟩ .nil
  | (p1, p2) :: r, (q1, q2) :: t, .cons h rs => by
    obtain ⟨h1, h2⟩ := h
    simp only at h1 h2
    subst h1
    unfold putFP putF
    by_cases e : p1 = f
    · rw [if_pos e, if_pos e]
      exact .cons ⟨rfl, rv⟩ rs
    · rw [if_neg e, if_neg e]
      exact .cons ⟨rfl, h2⟩ (rpf_put rv rs)
theorem rpf_mono {H' : Hp} {m' : Nat → Addr} {n' : Nat} (e : Ext K n m H m' H') (hn : n ≤ n') {fs : List (Str × PV)} {fv : List (Str × V)} (h : RpF K H m n fs fv) : RpF K H' m' n' fs fv := by
  induction h with
  | nil => exact .nil
  | cons h _ ih => exact .cons ⟨h.1, h.2.mono e hn⟩ ih
end

/-- two parts of a statement -/
theorem bindS2 {K : PySem.W.Frag} {mg : Str → Option Value} {W : WX} {σ : L2.St} {H : Hp} {α β α' β' : Type} {ra : Rel α α'} {rb : Rel β β'} (ka : Keeps K ra) {f : En → Sto → Option (R α)} {g : En → Sto → Option (R β)} {k : En → α → β → Sto → Option RS} {D : Ends}
    (h : tS K mg W (fun ρ S => bS ρ (f ρ S) fun x S1 => bS ρ (g ρ S1) fun y S2 => k ρ x y S2) D σ H) :
    tG K mg ra W f σ H fun v H1 => tG K mg rb W g σ H1 fun u H2 => ∃ m ρ S d d' r, StS K mg m S H2 ∧ EnR K H2 m S.length ρ σ ∧ ra H2 m S.length d v ∧ rb H2 m S.length d' u ∧ k ρ d d' S = some r ∧ PostS K mg W m S H2 r D := by
  refine (bindS (ra := ra) (k := fun ρ x S1 => bS ρ (g ρ S1) fun y S2 => k ρ x y S2) h).mono fun v H1 ⟨m, ρ, S, d, r, s, e, rv, hk, p⟩ => ?_
  have hk : bS ρ (g ρ S) (fun y S3 => k ρ d y S3) = some r := hk
  cases q : g ρ S with
  | none => rw [q] at hk; cases hk
  | some z =>
    rw [q] at hk
    cases z with
    | exc x T =>
      cases hk
      exact ⟨m, ρ, S, .exc x T, s, e, q, post_exc e p⟩
    | ok d' T => exact ⟨m, ρ, S, .ok d' T, s, e, q, fun u m' H' le' x' s' ru => ⟨m', ρ, T, d, d', r, s', e.mono x' le', ka _ _ _ _ _ _ _ _ x' le' rv, ru, hk, p.on le' x'⟩⟩
def gSetF (c f : Str) (v x : PV) (ρ : En) (S : Sto) : Option RS := match x with
  | .loc k => match S[k]? with
    | some (.ins c' fs) => if c' = c ∧ fs.length < 1000 then some (.next ρ (S.set k (.ins c' (putFP f v fs)))) else none
    | _ => none
  | _ => none
theorem gSetF_inv {c f : Str} {v x : PV} {ρ : En} {S : Sto} {r : RS} (h : gSetF c f v x ρ S = some r) : ∃ k fs, x = .loc k ∧ S[k]? = some (.ins c fs) ∧ fs.length < 1000 ∧ r = .next ρ (S.set k (.ins c (putFP f v fs))) := by
  unfold gSetF at h
  split at h
  · rename_i k
    split at h
    · rename_i c' fs e1
      split at h
      · rename_i hc
        cases h
        exact ⟨k, fs, rfl, by rw [e1, hc.1], hc.2, by rw [hc.1]⟩
      · cases h
    · cases h
  · cases h
def dSetF (c f : Str) (fo fe : DE) : DS := fun ρ S => bS ρ (fe ρ S) fun v S1 => bS ρ (fo ρ S1) fun x S2 => gSetF c f v x ρ S2
theorem ds_fld {X : Cx} {W : WX} {pos pos' : Pos} {o e : Expr} {fo fe : DE} {c f : Str} {C : Addr} (gC : X.mg c = some (.ref C)) (hc : Cls X.K C) (hn : NoAttr X.K C f) (ho : PEd X W o fo) (he : PEd X W e fe) (hs : swapsWith e (some (.Attribute o f pos')) pos.line X.env = pure false := by rfl) :
    PSd X W (.Assign [.Attribute o f pos'] e pos) (dSetF c f fo fe) := by
  refine (ps_fld ho he hs).imp fun D σ H h => ?_
  refine (bindS2 (ra := rE X.K) (rb := rE X.K) keeps_E (k := fun ρ v x S => gSetF c f v x ρ S) h).mono fun v H1 h1 => h1.mono fun u H2 ⟨m, ρ, S, d, d', r, s, e, r1, r2, hk, p⟩ => ?_
  obtain ⟨k, fs, rfl, e1, hl, rfl⟩ := gSetF_inv (show gSetF c f d d' ρ S = some r from hk)
  cases r2
  obtain ⟨C', dx, fv, h1, h2, h3⟩ := s.obj _ _ e1
  rw [gC] at h2
  cases h2
  have mu := s.mut e1 rfl
  have x : Ext X.K S.length m H2 m (upd H2 (m _) (.ins C dx (putF f v fv))) := ext_upd (.inr mu)
  refine ⟨_, C, dx, fv, rfl, h1, hc, hn, by rw [← paired_len h3]; exact hl, ?_⟩
  have st := s.write (ho := .ins C dx (putF f v fv)) (po' := .ins c (putFP f d fs)) e1 rfl rfl ⟨C, dx, _, upd_same, gC, rpf_mono x (Nat.le_refl _) (rpf_put r1 h3)⟩
  refine p σ m _ (by rw [List.length_set]; exact Nat.le_refl _) x st ?_
  rw [List.length_set]
  exact e.mono x (Nat.le_refl _)

/-! ### o.m(..) -/
def isInsP (c m : Str) (x : PV) (S : Sto) : Bool := match x with
  | .loc k => match S[k]? with
    | some (.ins c' fs) => decide (c' = c) && (fs.lookup m).isNone
    | _ => false
  | _ => false
def dIMeth (c m : Str) (F : DF) (fo : DE) (fa : DA) : DE := fun ρ S => bR (fo ρ S) fun x S1 => if isInsP c m x S1 = true then bR (fa ρ S1) fun xs S2 => F (x :: xs) S2 else none
theorem rpf_none {K : PySem.W.Frag} {H : Hp} {m : Nat → Addr} {n : Nat} {f : Str} : ∀ {fs : List (Str × PV)} {fv : List (Str × V)}, RpF K H m n fs fv → fs.lookup f = none → fv.lookup f = none
  | _, _, .nil, _ => rfl
  | (p1, p2) :: r, (q1, q2) :: t, .cons h rs, hl => by
    obtain ⟨h1, h2⟩ := h
    simp only at h1 h2
    subst h1
    rw [List.lookup_cons] at hl ⊢
    cases e : f == p1 with
    | true => rw [e] at hl; cases hl
    | false =>
      rw [e] at hl
      exact rpf_none rs hl
def tIMethS (C : Addr) (m : Str) (sp : Sp) (E : L2.St → XK) (ta : TE) (t : TA) : TE := fun σ H Q => ta σ H fun x H1 => ∃ a dx fs, x = .ref a ∧ H1 a = some (.ins C dx fs) ∧ fs.lookup m = none ∧ t σ H1 fun vs H2 => sp (x :: vs) H2 Q (E σ)
section
variable {X : Cx} {CX : CXT} {k : Nat} {f C : Addr} {fd : FuncData} {ps : List Str} {sp : Sp} {E : L2.St → XK} {m : Str} {pos apos : Pos} {e o : Expr} {es : List Expr} {ta : TE} {t : TA}
theorem pe_methE {pl : Sem Bool} (he : PE X o ta) (c : Cls X.K C) (hm : Meth X.K C m f) (F : FnOk X.prog X.w X.K X.mg X.base CX k f fd ps sp) (hr : Room k X.A) (hb : Binds X.K fd ps []) (hx : ∀ σ, PassesAt CX X σ (E σ)) (ha : PA X (e :: es) t)
    (hst : starEach (e :: es) X.env = (false, eval e X.env) :: starEach es X.env := by rfl) (hpl : (backTo pos (starEach es X.env)).any (·.1) = false := by rfl)
    (ht : eval (.Call (.Attribute o m apos) (e :: es) [] pos) X.env = (do
      let ov ← eval o X.env
      standAt apos.atName
      let (f, first) ← holding [ov] (getMethod ov m pl)
      callWith pos f first (backTo pos (starEach (e :: es) X.env)) (backToKw pos (keywordEach [] X.env))) := by rfl) :
    PE X (.Call (.Attribute o m apos) (e :: es) [] pos) (tIMethS C m sp E ta t) := by
  refine ⟨fun pins s σ H Q I h => ?_⟩
  refine PySem.W.methodCall_KW (pl := pl) (thn (he.run pins s σ H _ I h) fun u s1 ⟨x, H1, I1, rx, a, dx, fs, ex, ea, l, q⟩ => ?_) ht
  subst ex
  obtain rfl : u = Value.ref a := rx
  refine getmeth_ok I1 ea c hm l ?_
  refine PySem.W.callWith_K (first := [.ref a]) (h₀ := X.base) I.ok.mod.kin hm.kp (thn (ha.run pos pins s1 σ H1 _ I1 q) fun us s2 ⟨vs, H2, I2, r, q2⟩ => ⟨I2.kIn, ?_⟩) hst hpl
  exact run_fnS (us := .ref a :: us) (vs := .ref a :: vs) F hr hb (hx σ) I2 (.cons rfl r) q2
theorem pe_methE0 {pl : Sem Bool} (he : PE X o ta) (c : Cls X.K C) (hm : Meth X.K C m f) (F : FnOk X.prog X.w X.K X.mg X.base CX k f fd ps sp) (hr : Room k X.A) (hb : Binds X.K fd ps []) (hx : ∀ σ, PassesAt CX X σ (E σ))
    (ht : eval (.Call (.Attribute o m apos) [] [] pos) X.env = (do
      let ov ← eval o X.env
      standAt apos.atName
      let (f, first) ← holding [ov] (getMethod ov m pl)
      callWith pos f first (backTo pos (starEach [] X.env)) (backToKw pos (keywordEach [] X.env))) := by rfl) :
    PE X (.Call (.Attribute o m apos) [] [] pos) (tIMethS C m sp E ta tNil) := by
  refine ⟨fun pins s σ H Q I h => ?_⟩
  refine PySem.W.methodCall_KW (pl := pl) (thn (he.run pins s σ H _ I h) fun u s1 ⟨x, H1, I1, rx, a, dx, fs, ex, ea, l, q⟩ => ?_) ht
  subst ex
  obtain rfl : u = Value.ref a := rx
  refine getmeth_ok I1 ea c hm l ?_
  exact PySem.W.callWith_K0 (first := [.ref a]) I1.kIn hm.kp (run_fnS (us := [.ref a]) (vs := [.ref a]) F hr hb (hx σ) I1 (.cons rfl .nil) q)
end
section
variable {X : Cx} {W : WX} {k n : Nat} {f C : Addr} {fd : FuncData} {ps : List Str} {F : DF} {c m : Str} {apos pos : Pos} {o e : Expr} {es : List Expr} {fo : DE} {fa : DA}
theorem lift_imeth (gC : X.mg c = some (.ref C)) (hF : ∀ args S r, F args S = some r → args.length = n) {σ : L2.St} {H : Hp} {Q : VK} (h : tD X.K X.mg W (dIMeth c m F fo fa) σ H Q) :
    tIMethS C m (spD X.K X.mg n F) (WE W) (tD X.K X.mg W fo) (tA X.K X.mg W fa) σ H Q := by
  refine (bind1 (ra := rE X.K) (k := fun ρ x S1 => if isInsP c m x S1 = true then bR (fa ρ S1) fun xs S2 => F (x :: xs) S2 else none) h).mono fun v H1 ⟨m1, ρ, S, d, z, s, e, r1, hk, p⟩ => ?_
  replace hk : (if isInsP c m d S = true then bR (fa ρ S) fun xs S2 => F (d :: xs) S2 else none) = some z := hk
  split at hk
  · rename_i hi
    unfold isInsP at hi
    split at hi
    · rename_i j
      cases id r1
      split at hi
      · rename_i c' fs e1
        rw [Bool.and_eq_true] at hi
        obtain ⟨hi1, hi2⟩ := hi
        have hi1 := of_decide_eq_true hi1
        subst hi1
        obtain ⟨C', dx, fv, h1, h2, h3⟩ := s.obj _ _ e1
        rw [gC] at h2
        cases h2
        refine ⟨_, dx, fv, rfl, h1, rpf_none h3 (by simpa using hi2), ?_⟩
        cases q : fa ρ S with
        | none => rw [q] at hk; cases hk
        | some y =>
          rw [q] at hk
          cases y with
          | exc x T =>
            cases hk
            exact ⟨m1, ρ, S, .exc x T, s, e, q, p⟩
          | ok xs T =>
            replace hk : F (.loc j :: xs) T = some z := hk
            refine ⟨m1, ρ, S, .ok xs T, s, e, q, fun vs m' H' le x s' rv => ?_⟩
            have rl : RpL X.K H' m' T.length (.loc j :: xs) (.ref (m1 j) :: vs) := .cons (r1.mono x le) rv
            exact ⟨by rw [← rl.length]; exact hF _ _ _ hk, m', T, _, z, s', rl, hk, post_sw (p.on le x)⟩
      · cases hi
    · cases hi
  · cases hk
theorem de_imeth (gC : X.mg c = some (.ref C)) (hc : Cls X.K C) (hm : Meth X.K C m f) (G : FnOk X.prog X.w X.K X.mg X.base (L2.CX X.prog X.w) k f fd ps (spD X.K X.mg n F)) (hr : Room k X.A) (hb : Binds X.K fd ps []) (tk : Takes X W) (ho : PEd X W o fo) (ha : PAd X W (e :: es) fa)
    (hF : ∀ args S r, F args S = some r → args.length = n) (hst : starEach (e :: es) X.env = (false, eval e X.env) :: starEach es X.env := by rfl) (hpl : (backTo pos (starEach es X.env)).any (·.1) = false := by rfl) {pl : Sem Bool}
    (ht : eval (.Call (.Attribute o m apos) (e :: es) [] pos) X.env = (do
      let ov ← eval o X.env
      standAt apos.atName
      let (f, first) ← holding [ov] (getMethod ov m pl)
      callWith pos f first (backTo pos (starEach (e :: es) X.env)) (backToKw pos (keywordEach [] X.env))) := by rfl) :
    PEd X W (.Call (.Attribute o m apos) (e :: es) [] pos) (dIMeth c m F fo fa) := (pe_methE (pl := pl) ho hc hm G hr hb (fun σ => passAt tk σ) ha hst hpl ht).imp fun σ H Q h => lift_imeth gC hF h
theorem de_imeth0 (gC : X.mg c = some (.ref C)) (hc : Cls X.K C) (hm : Meth X.K C m f) (G : FnOk X.prog X.w X.K X.mg X.base (L2.CX X.prog X.w) k f fd ps (spD X.K X.mg n F)) (hr : Room k X.A) (hb : Binds X.K fd ps []) (tk : Takes X W) (ho : PEd X W o fo)
    (hF : ∀ args S r, F args S = some r → args.length = n) {pl : Sem Bool}
    (ht : eval (.Call (.Attribute o m apos) [] [] pos) X.env = (do
      let ov ← eval o X.env
      standAt apos.atName
      let (f, first) ← holding [ov] (getMethod ov m pl)
      callWith pos f first (backTo pos (starEach [] X.env)) (backToKw pos (keywordEach [] X.env))) := by rfl) :
    PEd X W (.Call (.Attribute o m apos) [] [] pos) (dIMeth c m F fo dNil) := (pe_methE0 (pl := pl) ho hc hm G hr hb (fun σ => passAt tk σ) ht).imp fun σ H Q h => by
  refine (lift_imeth gC hF h).mono fun v H1 ⟨a, dx, fs, h1, h2, h3, h4⟩ => ⟨a, dx, fs, h1, h2, h3, ?_⟩
  obtain ⟨m1, ρ, S, z, s, e, q, p⟩ := h4
  cases q
  exact p [] m1 H1 (Nat.le_refl _) Ext.refl s .nil
end

/-! ### C(..) -/
def gMake (c : Str) (F : DF) (xs : List PV) (S1 : Sto) : Option RE := match F (.loc S1.length :: xs) (S1 ++ [.ins c []]) with
  | some (.ok .non S2) => some (.ok (.loc S1.length) S2)
  | some (.exc e S2) => some (.exc e S2)
  | _ => none
def dMake (c : Str) (F : DF) (fa : DA) : DE := fun ρ S => bR (fa ρ S) fun xs S1 => gMake c F xs S1
def tMakeS (C : Addr) (sp : Sp) (E : L2.St → XK) (t : TA) : TE := fun σ H Q => t σ H fun vs H1 => ∀ x dx, H1 x = none → H1 dx = none → dx ≠ x →
  sp (.ref x :: vs) (upd (upd H1 dx (.own x)) x (.ins C dx [])) (fun v H2 => v = .non ∧ Q (.ref x) H2) (E σ)
section
variable {X : Cx} {CX : CXT} {k : Nat} {f C : Addr} {fd : FuncData} {ps : List Str} {sp : Sp} {E : L2.St → XK} {x : Str} {pos p : Pos} {e : Expr} {es : List Expr} {t : TA}
theorem run_makeS {pins : List (Addr × Obj)} {σ : L2.St} {H : Hp} {s : Shared} {Q : VK} {us : List Value} {vs : List V} (M : Mk X.K C f) (F : FnOk X.prog X.w X.K X.mg X.base CX k f fd ps sp) (hr : Room (k + 1) X.A) (hb : Binds X.K fd ps [])
    (hx : PassesAt CX X σ (E σ)) (I : Inv X pins σ H s) (r : Vals vs us)
    (h : ∀ x dx, H x = none → H dx = none → dx ≠ x → sp (.ref x :: vs) (upd (upd H dx (.own x)) x (.ins C dx [])) (fun v H2 => v = .non ∧ Q (.ref x) H2) (E σ)) :
    wpAny (model X.prog X.w) X.A (call (.ref C) us) (EP X pins σ Q) X.xe s := by
  have hq := h (s.heap.objs.size + 1) s.heap.objs.size (I.hok.fresh (Nat.le_succ _)) (I.hok.fresh (Nat.le_refl _)) (Nat.ne_of_lt (Nat.lt_succ_self _))
  have I2 := Inv.made (C := C) I
  have r2 : Vals (V.ref (s.heap.objs.size + 1) :: vs) (Value.ref (s.heap.objs.size + 1) :: us) := .cons rfl r
  have hl : (Value.ref (s.heap.objs.size + 1) :: us).length = ps.length := by
    have e := r2.length
    rw [F.len _ _ _ _ hq] at e
    exact e.symm
  refine wpAny_call (make_map (f := f) I.kIn M.makes M.init (beq_iff_eq.mp M.fn) (codeAny_mono (F.run _ X.stack _ _ ⟨Value.ref (s.heap.objs.size + 1) :: us, []⟩ (Value.ref (s.heap.objs.size + 1) :: us) _ _ (E σ) (hr.make C us [])
    (I2.env0.make C us []) (by have b := hb _ (Value.ref (s.heap.objs.size + 1) :: us) I2.kIn (by rw [List.append_nil]; exact hl); rw [List.append_nil] at b; exact b) r2 hq) fun r s' hq' => ?_))
  cases r with
  | error e => exact hx pins _ _ e s' I2 hq'
  | ok fl =>
    cases fl with
    | ret u =>
      obtain ⟨v, H', I3, rv, ev, q3⟩ := I2.after hq'
      subst ev
      exact ⟨rv, ⟨V.ref (s.heap.objs.size + 1), H', I3, rfl, q3⟩⟩
    | next => exact False.elim hq'
    | brk => exact False.elim hq'
    | cont => exact False.elim hq'
theorem pe_makeS (M : Mk X.K C f) (F : FnOk X.prog X.w X.K X.mg X.base CX k f fd ps sp) (hr : Room (k + 1) X.A) (hg : Gl X x) (hm : X.mg x = some (.ref C)) (hb : Binds X.K fd ps []) (hx : ∀ σ, PassesAt CX X σ (E σ))
    (ha : PA X (e :: es) t) (hdb : (x == ("__debug__" : Str)) = false := by decide) (he : starEach (e :: es) X.env = (false, eval e X.env) :: starEach es X.env := by rfl) (hpl : (backTo pos (starEach es X.env)).any (·.1) = false := by rfl) :
    PE X (.Call (.Name x p) (e :: es) [] pos) (tMakeS C sp E t) := by
  refine ⟨fun pins s σ H Q I h => ?_⟩
  refine wpAny_Call_Name_kw (ld_glob I hg hm ?_ hdb)
  refine PySem.W.callWith_K (h₀ := X.base) I.ok.mod.kin M.kp (thn (ha.run pos pins s σ H _ I h) fun us s1 ⟨vs, H1, I1, r, q⟩ => ⟨I1.kIn, ?_⟩) he hpl
  exact run_makeS M F hr hb (hx σ) I1 r q
theorem pe_makeS0 (M : Mk X.K C f) (F : FnOk X.prog X.w X.K X.mg X.base CX k f fd ps sp) (hr : Room (k + 1) X.A) (hg : Gl X x) (hm : X.mg x = some (.ref C)) (hb : Binds X.K fd ps []) (hx : ∀ σ, PassesAt CX X σ (E σ))
    (hdb : (x == ("__debug__" : Str)) = false := by decide) : PE X (.Call (.Name x p) [] [] pos) (tMakeS C sp E tNil) := by
  refine ⟨fun pins s σ H Q I h => ?_⟩
  refine wpAny_Call_Name_kw (ld_glob I hg hm ?_ hdb)
  exact PySem.W.callWith_K0 I.kIn M.kp (run_makeS (us := []) M F hr hb (hx σ) I .nil h)
end
section
variable {X : Cx} {W : WX} {k n : Nat} {f C : Addr} {fd : FuncData} {ps : List Str} {F : DF} {c : Str} {p pos : Pos} {e : Expr} {es : List Expr} {fa : DA}
theorem lift_make (gC : X.mg c = some (.ref C)) (hF : ∀ args S r, F args S = some r → args.length = n) {σ : L2.St} {H : Hp} {Q : VK} (h : tD X.K X.mg W (dMake c F fa) σ H Q) :
    tMakeS C (spD X.K X.mg n F) (WE W) (tA X.K X.mg W fa) σ H Q := by
  refine (bind1 (ra := rA X.K) (k := fun ρ xs S1 => gMake c F xs S1) h).mono fun vs H1 ⟨m, ρ, S, xs, z, s, en, r1, hk, pz⟩ => ?_
  intro x dx hx hdx hne
  replace hk : gMake c F xs S = some z := hk
  unfold gMake at hk
  have s1 : StS X.K X.mg m S (upd H1 dx (.own x)) := sts_new s hdx
  have e1 : Ext X.K S.length m H1 m (upd H1 dx (.own x)) := ext_upd (.inl hdx)
  have hx' : (upd H1 dx (.own x)) x = none := by rw [upd_ne (Ne.symm hne)]; exact hx
  have s2 := s1.push (p := x) (ho := .ins C dx []) (po := .ins c []) hx' rfl ⟨C, dx, [], upd_same, gC, .nil⟩
  have e2 := e1.trans (ext_push (ho := .ins C dx []) hx') (Nat.le_refl _)
  have hlen : (S ++ [PO.ins c []]).length = S.length + 1 := by simp
  have rl : RpL X.K (upd (upd H1 dx (.own x)) x (.ins C dx [])) (mext m S.length x) (S ++ [PO.ins c []]).length (.loc S.length :: xs) (.ref x :: vs) := by
    refine .cons ?_ (by rw [hlen]; exact RpL.mono e2 (Nat.le_succ _) r1)
    have : Rp X.K (upd (upd H1 dx (.own x)) x (.ins C dx [])) (mext m S.length x) (S ++ [PO.ins c []]).length (.loc S.length) (.ref (mext m S.length x S.length)) := .loc (by rw [hlen]; exact Nat.lt_succ_self _)
    rw [mext_same] at this
    exact this
  cases q : F (.loc S.length :: xs) (S ++ [.ins c []]) with
  | none => rw [q] at hk; cases hk
  | some y =>
    rw [q] at hk
    refine ⟨by rw [← rl.length]; exact hF _ _ _ q, mext m S.length x, S ++ [.ins c []], _, y, s2, rl, q, ?_⟩
    cases y with
    | exc ex T =>
      cases hk
      exact post_sw (pz.on (by rw [hlen]; exact Nat.le_succ _) e2)
    | ok v T =>
      intro w m' H' le ex s' rw'
      cases v <;> try cases hk
      cases rw'
      refine ⟨rfl, ?_⟩
      have hlt : S.length < T.length := by rw [hlen] at le; exact le
      have : Rp X.K H' m' T.length (.loc S.length) (.ref (m' S.length)) := .loc hlt
      rw [ex.mp S.length (by rw [hlen]; exact Nat.lt_succ_self _), mext_same] at this
      exact pz _ m' H' (Nat.le_of_lt hlt) (e2.trans ex (by rw [hlen]; exact Nat.le_succ _)) s' this
theorem de_make (M : Mk X.K C f) (G : FnOk X.prog X.w X.K X.mg X.base (L2.CX X.prog X.w) k f fd ps (spD X.K X.mg n F)) (hr : Room (k + 1) X.A) (hg : Gl X c) (hm : X.mg c = some (.ref C)) (hb : Binds X.K fd ps []) (tk : Takes X W) (ha : PAd X W (e :: es) fa) (hF : ∀ args S r, F args S = some r → args.length = n)
    (hdb : (c == ("__debug__" : Str)) = false := by decide) (he : starEach (e :: es) X.env = (false, eval e X.env) :: starEach es X.env := by rfl) (hpl : (backTo pos (starEach es X.env)).any (·.1) = false := by rfl) :
    PEd X W (.Call (.Name c p) (e :: es) [] pos) (dMake c F fa) := (pe_makeS M G hr hg hm hb (fun σ => passAt tk σ) ha hdb he hpl).imp fun σ H Q h => lift_make hm hF h
theorem de_make0 (M : Mk X.K C f) (G : FnOk X.prog X.w X.K X.mg X.base (L2.CX X.prog X.w) k f fd ps (spD X.K X.mg n F)) (hr : Room (k + 1) X.A) (hg : Gl X c) (hm : X.mg c = some (.ref C)) (hb : Binds X.K fd ps []) (tk : Takes X W) (hF : ∀ args S r, F args S = some r → args.length = n)
    (hdb : (c == ("__debug__" : Str)) = false := by decide) : PEd X W (.Call (.Name c p) [] [] pos) (dMake c F dNil) := (pe_makeS0 M G hr hg hm hb (fun σ => passAt tk σ) hdb).imp fun σ H Q h => by
  obtain ⟨m1, ρ, S, z, s, e, q, p⟩ := lift_make hm hF h
  cases q
  exact p [] m1 H (Nat.le_refl _) Ext.refl s .nil
end
end D

/-! D14: list(range(..)); errors with a field. -/
namespace D
open PySem PySem.Spec PyProof.Rows L2

theorem hu1 {k : Nat} {A : Around} (r : Room k A) : A.units + 1 < cLine := Nat.lt_of_le_of_lt (Nat.add_le_add_left (by decide : 1 ≤ 64) _) r.units
/-! ### list(range(n)) -/
def gListR : G1 := fun x S1 => match x with
  | .int j => if -(2 ^ 62) ≤ j ∧ j ≤ 16777216 then some (.ok (.loc S1.length) (S1 ++ [.lst (rangeP 0 j.toNat)])) else none
  | _ => none
def dListR (fa : DE) : DE := fun ρ S => bR (fa ρ S) fun x S1 => gListR x S1
theorem rg_rp {K : PySem.W.Frag} {H : Hp} {m : Nat → Addr} {n : Nat} (j : Int) : RpL K H m n (rangeP 0 j.toNat) (rgV 0 j) := by
  unfold rangeP rgV
  rw [Int.sub_zero]
  generalize List.range j.toNat = l
  induction l with
  | nil => exact .nil
  | cons x l ih => exact .cons (.int _) ih
theorem de_listR {X : Cx} {W : WX} {e : Expr} {fe : DE} {p p2 pos pos2 : Pos} (hc : X.calm = true) (hg : Gl X "list") (hm : X.mg "list" = none) (hg2 : Gl X "range") (hm2 : X.mg "range" = none) (he : PEd X W e fe)
    (na : starEach [e] X.env = (false, eval e X.env) :: starEach [] X.env := by rfl) (nb : starEach [Expr.Call (.Name "range" p2) [e] [] pos2] X.env = (false, eval (.Call (.Name "range" p2) [e] [] pos2) X.env) :: starEach [] X.env := by rfl) :
    PEd X W (.Call (.Name "list" p) [.Call (.Name "range" p2) [e] [] pos2] [] pos) (dListR fe) := (pe_listRg hc hg hm (prg_1 hg2 hm2 he na) nb).imp fun σ H Q h => by
  refine (bind1 (ra := rE X.K) (k := fun ρ x S1 => gListR x S1) h).mono fun v H1 ⟨m, ρ, S, d, z, s, e, r1, hk, p⟩ => ?_
  replace hk : gListR d S = some z := hk
  unfold gListR at hk
  split at hk
  · cases r1
    split at hk
    · rename_i hj
      cases hk
      exact ⟨_, rfl, ⟨by decide, by decide, hj.1, by omega, by omega⟩, new_list s (rg_rp _) p⟩
    · cases hk
  · cases hk

/-! ### raise C(e), C keeping it in a field -/
def dRaiseF (c f : Str) (fe : DE) : DS := fun ρ S => bS ρ (fe ρ S) fun v S1 => some (.exc ⟨c, [(f, v)]⟩ ρ S1)
def spXI (C : Addr) (f : Str) : Sp := fun vs H Q _ => ∃ a y, vs = [.ref a, y] ∧ H a = some (exo a C none) ∧ ∀ dx, H dx = none → dx ≠ a → Q .non (upd (upd H dx (exd dx [(f, y)])) a (exo a C (some dx)))
section
variable {P : Program} {w : World} {K : PySem.W.Frag} {mg : Str → Option Value} {base : Heap}
theorem ok_xinit {x qual f p1 p2 : Str} {st : Stmt} {fa C : Addr} {fd : FuncData} {q1 q2 q3 q4 : Pos} (F : Fun K x qual st fa fd) (S : FnScope [p1, p2] [p1, p2] (defScope st)) (T : OexC K C) (hno : PySem.W.findIn K (.ref C) f = some none)
    (hb : defBody st = [.Assign [.Attribute (.Name p1 q1) f q2] (.Name p2 q3) q4]) (h1 : (p1 == ("__debug__" : Str)) = false := by decide) (h2 : (p1 == ("__classdict__" : Str)) = false := by decide) (h3 : (p2 == ("__debug__" : Str)) = false := by decide) (h4 : (p2 == ("__classdict__" : Str)) = false := by decide)
    (v1 : ∀ (X : Cx), X.env.scope = defScope st → Vis X.env.scope p1 := by intro X e; rw [e]; first | exact Or.inl rfl | exact Or.inr (Or.inl rfl) | exact Or.inr (Or.inr rfl)) (v2 : ∀ (X : Cx), X.env.scope = defScope st → Vis X.env.scope p2 := by intro X e; rw [e]; first | exact Or.inl rfl | exact Or.inr (Or.inl rfl) | exact Or.inr (Or.inr rfl)) :
    FnOk P w K mg base CX0 1 fa fd [p1, p2] (spXI C f) := by
  refine F.ok S (fun vs H Q E h => ?_) (fun cdv A outer s H vs Q E hr h => ?_)
  · obtain ⟨a, y, rfl, _⟩ := h
    rfl
  · obtain ⟨a, y, rfl, ha, q⟩ := h
    rw [hb]
    refine ⟨_, pss_one (ps_ost (pe_var (i := 0) rfl (v1 _ rfl) h1 h2) (pe_var (i := 1) rfl (v2 _ rfl) h3 h4)), ?_⟩
    exact ⟨_, rfl, _, rfl, a, C, rfl, T, hno, .inl ⟨ha, fun dx n ne => q dx n ne⟩⟩
theorem ds_raiseF {X : Cx} {W : WX} {C fI : Addr} {x f : Str} {k : Nat} {fd : FuncData} {ps : List Str} {e : Expr} {fe : DE} {p pos pos2 : Pos} (hc : X.calm = true) (tk : Takes X W) (T : OexC X.K C) (gC : X.mg x = some (.ref C)) (iC : PySem.W.findIn X.K (.ref C) "__init__" = some (some (.ref fI)))
    (tI : PySem.W.typeIn X.K (.ref fI) = some (.type "function")) (F1 : FnOk X.prog X.w X.K X.mg X.base CX0 k fI fd ps (spXI C f)) (hr : Room (k + 1) X.A) (hb : Binds X.K fd ps []) (hg : Gl X x) (he : PEd X W e fe)
    (hdb : (x == ("__debug__" : Str)) = false := by decide) (hs : starEach [e] X.env = (false, eval e X.env) :: starEach [] X.env := by rfl) (hpl : (backTo pos (starEach [] X.env)).any (·.1) = false := by rfl) :
    PSd X W (.Raise (some (.Call (.Name x p) [e] [] pos)) none pos2) (dRaiseF x f fe) := by
  refine (ps_raise hc tk (pmk_oex T iC tI F1 hr hb .nil pass0 hg gC (pa_cons he pa_nil hs) hdb hs hpl)).imp fun D σ H h => ?_
  refine (bindS (ra := rE X.K) (k := fun ρ v S1 => some (.exc ⟨x, [(f, v)]⟩ ρ S1)) h).mono fun y H1 ⟨m, ρ, S, d, r, s, en, r1, hk, pz⟩ => ?_
  replace hk : some (RS.exc ⟨x, [(f, d)]⟩ ρ S) = some r := hk
  cases hk
  refine ⟨by show 1 ≤ 1000; decide, fun a ha => ⟨a, y, rfl, upd_same, fun dx hdx hne => ⟨rfl, dx, [(f, y)], upd_same, ?_, ?_, ?_⟩⟩⟩
  · rw [upd_ne hne, upd_same]
  · rw [upd_ne hne] at hdx; exact hdx
  · have hdx' : H1 dx = none := by rw [upd_ne hne] at hdx; exact hdx
    have eH : upd (del (upd (upd (upd H1 a (exo a C none)) dx (exd dx [(f, y)])) a (exo a C (some dx))) a) dx (.xd [(f, y)]) = upd H1 dx (.xd [(f, y)]) := by
      funext b
      by_cases hb : b = dx
      · subst hb; rw [upd_same, upd_same]
      · rw [upd_ne hb, upd_ne hb]
        by_cases hba : b = a
        · subst hba; rw [del_same, ha]
        · rw [del_ne hba, upd_ne hba, upd_ne hb, upd_ne hba]
    rw [eH]
    have ex : Ext X.K S.length m H1 m (upd H1 dx (.xd [(f, y)])) := ext_upd (.inl hdx')
    refine pz (.ref C) (some dx) σ m _ (Nat.le_refl _) ex (sts_new s hdx') (en.mono ex (Nat.le_refl _)) ⟨C, rfl, gC, .inr ⟨by simp, dx, [(f, y)], rfl, upd_same, .cons ⟨rfl, Rp.mono ex (Nat.le_refl _) r1⟩ .nil⟩⟩
end
/-! ### in a suite: an error with a field -/
def suF (d : Option Addr) (f : Addr → DS) : DS := match d with
  | some dd => f dd
  | none => dNope
theorem su_altF {X : Cx} {cat : Str → Option Bool} {e : Xn} {a : Addr} {oe : Obj} {C A : Addr} {d : Option Addr} {nm : Str} {pn : List (Addr × Obj)} {sts : List Stmt} {f : Addr → DS} {g : DS} (hA : X.mg nm = some (.ref A)) (hs : Su X cat e a oe C d)
    (go : ∀ dd, Zc (.ref A) (some dd) oe → (∃ vs, oe.data = .fields vs) → PSsd (X.suite a ((a, oe) :: pn)) W0 sts (f dd)) (ge : PSsd (X.suite a ((a, oe) :: pn)) W0 sts g) : PSsd (X.suite a ((a, oe) :: pn)) W0 sts (if e.c = nm ∧ e.fs.isEmpty = false then suF d f else g) := by
  split
  · rename_i hc
    have hne : e.fs ≠ [] := fun z => by rw [z] at hc; exact absurd hc.2 (by simp)
    obtain ⟨dd, hd⟩ := hs.d1 hne
    have hm := hs.mg
    rw [hc.1, hA] at hm
    cases hm
    have hz := hs.z
    rw [hd] at hz ⊢
    exact go dd hz hs.f
  · exact ge
def litP : V → Option PV
  | .non => some .non
  | .bl b => some (.bl b)
  | .int i => some (.int i)
  | .str s => some (.str s)
  | _ => none
theorem litP_rp {K : PySem.W.Frag} {H : Hp} {m : Nat → Addr} {n : Nat} {v : V} {d : PV} (h : litP v = some d) : Rp K H m n d v := by
  cases v <;> cases h <;> constructor
def dXf (i : Nat) (a dd : Addr) (f : Str) : DE := fun ρ S => match ρ[i]? with
  | some (some (.xc a' (some d') fv)) => if a' = a ∧ d' = dd then match (fv.lookup f).bind litP with
    | some v => some (.ok v S)
    | none => none else none
  | _ => none
theorem de_xf {X : Cx} {W : WX} {a A dd : Addr} {oe : Obj} {pn : List (Addr × Obj)} {x f : Str} {p2 pos : Pos} (i : Nat) (T : XfC X.K A) (hno : PySem.W.findIn X.K (.ref A) f = some none) (hz : Zc (.ref A) (some dd) oe) (hf : ∃ vs, oe.data = .fields vs)
    (hN : X.N[i]? = some x := by rfl) (hv : Vis X.env.scope x := by first | exact Or.inl rfl | exact Or.inr (Or.inl rfl) | exact Or.inr (Or.inr rfl)) (hd : (x == ("__debug__" : Str)) = false := by decide) (hcd : (x == ("__classdict__" : Str)) = false := by decide)
    (hb : attributeBase (.Name x p2) f X.env (eval (.Name x p2) X.env) = eval (.Name x p2) X.env := by rfl) :
    PEd (X.suite a ((a, oe) :: pn)) W (.Attribute (.Name x p2) f pos) (dXf i a dd f) := by
  refine (pe_xf T hno hz hf (pe_var (X := X.suite a ((a, oe) :: pn)) hN hv hd hcd) hb).imp fun σ H Q h => ?_
  obtain ⟨m, ρ, S, r, s, en, hfn, p⟩ := h
  unfold dXf at hfn
  split at hfn
  · rename_i a' d' fv hi
    split at hfn
    · rename_i ha
      obtain ⟨rfl, rfl⟩ := ha
      split at hfn
      · rename_i v hv'
        cases hfn
        obtain ⟨u, hv1, rv⟩ := en.at_ i _ hi
        cases rv with
        | xc hx =>
          obtain ⟨w, hw1, hw2⟩ := Option.bind_eq_some_iff.mp hv'
          exact ⟨_, hv1, rfl, rfl, d', fv, w, rfl, hx d' rfl, hw1, p _ m H (Nat.le_refl _) Ext.refl s (litP_rp hw2)⟩
      · cases hfn
    · cases hfn
  · cases hfn
/-- isinstance(e, c), e with its own dict -/
def rIsEd (K : PySem.W.Frag) (D a dd : Addr) : List V → Hp → VK → Prop := fun xs H Q => ∃ (c : V) (cv : Value) (b : Bool) (fs : List (Str × V)), xs = [.ref a, c] ∧ (∀ u, RelV c u → u = cv) ∧ PySem.W.kitOne K (.ref D) cv = some b ∧ H dd = some (.xd fs) ∧ Q (.bl b) H
theorem call_isEd {X : Cx} {a D dd : Addr} {oe : Obj} {pn : List (Addr × Obj)} (C : ExcC X.K D) (hz : Zc (.ref D) (some dd) oe) (hf : ∃ vs, oe.data = .fields vs) : CallR (X.suite a ((a, oe) :: pn)) (.builtin "isinstance") (rIsEd X.K D a dd) := by
  intro pins s σ H xs us Q I r h
  obtain ⟨c, cv, b, fs, rfl, hcv, e, ea, q⟩ := h
  cases r with
  | cons rx rr =>
    cases rr with
    | cons rt rr =>
      cases rr
      cases rx
      have ec := hcv _ rt
      subst ec
      obtain ⟨hget, _⟩ := I.pin (a, oe) (List.mem_append.mpr (.inl List.mem_cons_self))
      obtain ⟨vs, hv⟩ := hf
      have hx : ObjOk X.prog X.w H s.heap dd (.xd fs) := I.hok dd _ ea
      obtain ⟨mA, hns, hr⟩ := hx
      obtain ⟨od, ho, hl⟩ := lookIn_ns hns
      have J : PySem.W.InstAt s.heap a oe D (some od) := ⟨hget, hz.1, by unfold PySem.W.notCls; rw [hv] <;> rfl, by rw [hz.2]; exact ho⟩
      exact PySem.W.kia_one (PySem.W.kitx_exc (by obtain ⟨cd, hc, _⟩ := PySem.W.any_some C.hd; rw [hc]; rfl) C.hg C.hk C.hs C.ha C.hn C.ht C.hm) I.kIn J e (fun z => nomatch z) fun tk => ⟨.bl b, H, I.kept (t' := tk) fun _ _ z => z, rfl, q⟩
def dIsEd (i : Nat) (a dd : Addr) (b : Bool) : DE := fun ρ S => match ρ[i]? with
  | some (some (.xc a' (some d') _)) => if a' = a ∧ d' = dd then some (.ok (.bl b) S) else none
  | _ => none
theorem de_isEd {X : Cx} {W : WX} {a C dd : Addr} {oe : Obj} {pn : List (Addr × Obj)} {x : Str} {ce : Expr} {cv : V} {cu : Value} {b : Bool} {p p2 pos : Pos} (i : Nat) (hC : ExcC X.K C) (hz : Zc (.ref C) (some dd) oe) (hf : ∃ vs, oe.data = .fields vs)
    (hg : Gl X "isinstance") (hm : X.mg "isinstance" = none) (hN : X.N[i]? = some x) (hv : Vis X.env.scope x) (hce : PE (X.suite a ((a, oe) :: pn)) ce (tC cv)) (hrel : ∀ u, RelV cv u → u = cu) (hk : PySem.W.kitOne X.K (.ref C) cu = some b)
    (hd : (x == ("__debug__" : Str)) = false := by decide) (hcd : (x == ("__classdict__" : Str)) = false := by decide)
    (h1 : starEach [.Name x p2, ce] X.env = (false, eval (.Name x p2) X.env) :: starEach [ce] X.env := by rfl) (h2 : starEach [ce] X.env = (false, eval ce X.env) :: starEach [] X.env := by rfl) (hpl : (backTo pos (starEach [ce] X.env)).any (·.1) = false := by rfl) :
    PEd (X.suite a ((a, oe) :: pn)) W (.Call (.Name "isinstance" p) [.Name x p2, ce] [] pos) (dIsEd i a dd b) := by
  have hl : PA (X.suite a ((a, oe) :: pn)) [.Name x p2, ce] _ := pa_cons (pe_var (X := X.suite a ((a, oe) :: pn)) hN hv hd hcd) (pa_cons hce pa_nil h2) h1
  refine (pe_callB (X := X.suite a ((a, oe) :: pn)) (call_isEd hC hz hf) hg hm boot_isinstance hl (by decide) (by decide) h1 hpl).imp fun σ H Q h => ?_
  obtain ⟨m, ρ, S, r, s, en, hfn, p⟩ := h
  unfold dIsEd at hfn
  split at hfn
  · rename_i a' d' fv hi
    split at hfn
    · rename_i ha
      obtain ⟨rfl, rfl⟩ := ha
      cases hfn
      obtain ⟨v, hv1, rv⟩ := en.at_ i _ hi
      cases rv with
      | xc hx => exact ⟨_, hv1, cv, cu, b, fv, rfl, hrel, hk, hx d' rfl, p _ m H (Nat.le_refl _) Ext.refl s (.bl b)⟩
    · cases hfn
  · cases hfn
theorem ds_nope {X : Cx} {W : WX} {st : Stmt} : PSd X W st dNope := ⟨fun pins s σ H D I h => by
  obtain ⟨m, ρ, S, r, st, e, hf, p⟩ := h
  cases hf⟩
end D

/-! D15: a loop's body lets go what it made. -/
namespace D
open PySem PySem.Spec PyProof.Rows L2
def bdE (n : Nat) : En → Prop
  | [] => True
  | none :: r => bdE n r
  | some v :: r => bd n v ∧ bdE n r
theorem bdE_at {n : Nat} : ∀ {ρ : En} {i : Nat} {v : PV}, bdE n ρ → ρ[i]? = some (some v) → bd n v
  | [], i, v, h, e => by simp at e
  | none :: r, 0, v, h, e => by simp at e
  | some x :: r, 0, v, h, e => by simp at e; subst e; exact h.1
  | none :: r, i + 1, v, h, e => bdE_at (ρ := r) h (by simpa using e)
  | some x :: r, i + 1, v, h, e => bdE_at (ρ := r) h.2 (by simpa using e)
open Classical in
noncomputable def gcS (kill : List Nat) (S : Sto) : RS → RS
  | .next ρ S' => if Cl S S' ∧ bdE S.length (killE kill ρ) then .next (killE kill ρ) (S'.take S.length) else .next ρ S'
  | .ctn ρ S' => if Cl S S' ∧ bdE S.length (killE kill ρ) then .ctn (killE kill ρ) (S'.take S.length) else .ctn ρ S'
  | r => r
noncomputable def dBody (kill : List Nat) (f : DS) : DS := fun ρ S => (f ρ S).map (gcS kill S)
theorem EnR.cut {K : PySem.W.Frag} {H : Hp} {m : Nat → Addr} {n n' : Nat} {ρ : En} {σ : L2.St} (h : EnR K H m n' ρ σ) (b : bdE n ρ) : EnR K H m n ρ σ :=
  ⟨h.len, fun i v e => let ⟨x, a, c⟩ := h.at_ i v e; ⟨x, a, c.cut (bdE_at b e)⟩⟩
section
variable {K : PySem.W.Frag} {mg : Str → Option Value} {W : WX} {m : Nat → Addr} {S : Sto} {H : Hp} {D : Ends}
theorem gcS_ok {kill : List Nat} {r : RS} (s : StS K mg m S H) (p : PostS K mg W m S H (gcS kill S r) D) : PostS K mg W m S H r D := by
  have key : ∀ (ρ : En) (S' : Sto) (C : L2.St → Hp → Prop) (b : Prop), (b → Cl S S' ∧ bdE S.length (killE kill ρ)) →
      (b → ∀ σ' m' H', S.length ≤ (S'.take S.length).length → Ext K S.length m H m' H' → StS K mg m' (S'.take S.length) H' → EnR K H' m' (S'.take S.length).length (killE kill ρ) σ' → C σ' H') →
      (¬ b → ∀ σ' m' H', S.length ≤ S'.length → Ext K S.length m H m' H' → StS K mg m' S' H' → EnR K H' m' S'.length ρ σ' → C σ' H') →
      ∀ σ' m' H', S.length ≤ S'.length → Ext K S.length m H m' H' → StS K mg m' S' H' → EnR K H' m' S'.length ρ σ' → C σ' H' := by
    intro ρ S' C b hb h1 h2 σ' m' H' le ex s' en
    by_cases h : b
    · obtain ⟨c1, c2⟩ := hb h
      have hl : (S'.take S.length).length = S.length := by rw [List.length_take]; exact Nat.min_eq_left le
      refine h1 h σ' m' H' (by rw [hl]; exact Nat.le_refl _) ex (s.cutT s' le c1) ?_
      rw [hl]
      exact (en.kill kill).cut c2
    · exact h2 h σ' m' H' le ex s' en
  cases r with
  | next ρ S' =>
    refine key ρ S' D.nx (Cl S S' ∧ bdE S.length (killE kill ρ)) id (fun h => ?_) fun h => ?_
    · have p' : PostS K mg W m S H (.next (killE kill ρ) (S'.take S.length)) D := by
        have : gcS kill S (.next ρ S') = .next (killE kill ρ) (S'.take S.length) := if_pos h
        exact this ▸ p
      exact p'
    · have p' : PostS K mg W m S H (.next ρ S') D := by
        have : gcS kill S (.next ρ S') = .next ρ S' := if_neg h
        exact this ▸ p
      exact p'
  | ctn ρ S' =>
    refine key ρ S' D.ct (Cl S S' ∧ bdE S.length (killE kill ρ)) id (fun h => ?_) fun h => ?_
    · have p' : PostS K mg W m S H (.ctn (killE kill ρ) (S'.take S.length)) D := by
        have : gcS kill S (.ctn ρ S') = .ctn (killE kill ρ) (S'.take S.length) := if_pos h
        exact this ▸ p
      exact p'
    · have p' : PostS K mg W m S H (.ctn ρ S') D := by
        have : gcS kill S (.ctn ρ S') = .ctn ρ S' := if_neg h
        exact this ▸ p
      exact p'
  | brk ρ S' => exact p
  | ret v S' => exact p
  | exc e ρ S' => exact p
end
theorem dss_body {X : Cx} {W : WX} {sts : List Stmt} {f : DS} (kill : List Nat) (h : PSsd X W sts f) : PSsd X W sts (dBody kill f) := h.imp fun D σ H h => by
  obtain ⟨m, ρ, S, r, s, e, hf, p⟩ := h
  have hf : (f ρ S).map (gcS kill S) = some r := hf
  cases q : f ρ S with
  | none => rw [q] at hf; cases hf
  | some z =>
    rw [q] at hf
    cases hf
    exact ⟨m, ρ, S, z, s, e, q, gcS_ok s p⟩
end D

/-! D16: xs[::-1] of a list. -/
namespace D
open PySem PySem.Spec PyProof.Rows L2
section
variable {X : Cx} {e se : Expr} {te : TE} {ts : TO} {pos p2 : Pos}
def tRevL (K : PySem.W.Frag) (te : TE) (ts : TO) : TE := fun σ H Q => te σ H fun x H1 => ts σ H1 fun st H2 => st = some (-1) ∧ ∃ a xs, x = .ref a ∧ SqL K H2 a xs ∧ ∀ p, H2 p = none → Q (.ref p) (upd H2 p (.lst xs.reverse))
theorem pe_revL (he : PE X e te) (hs : L2.PO X (some se) ts) : PE X (.Subscript e (.Slice none none (some se) p2) pos) (tRevL X.K te ts) := by
  refine ⟨fun pins s σ H Q I h => ?_⟩
  refine Subscript_ (thn (he.run pins s σ H _ I h) fun v s1 ⟨x, H1, I1, r1, q1⟩ => ?_)
  refine wpAny_Slice ?_
  rw [evalPart_none]
  refine wpAny_pure ?_
  refine wpAny_pure ?_
  refine thn (hs.run pins s1 σ H1 _ I1 q1) fun vk s2 ⟨st, H2, I2, pk, q2⟩ => ?_
  obtain ⟨rfl, a, xs, rfl, hx, q⟩ := q2
  cases r1
  have I4 : Inv X pins σ H2 { s2 with heap := s2.heap.push { cls := .type "slice", data := .fields #[.none, .none, vk] } } := I2.kept (t' := s2.toks) fun b ob q => Heap.get?_push_of_some _ q
  obtain ⟨its, r, ht, hz⟩ := I4.list hx
  have hlen := r.length
  show wpAny (model X.prog X.w) X.A (subscriptTail e (.Slice none none (some se) p2) (.ref a) (.ref s2.heap.objs.size)) (EP X pins σ Q) X.xe { s2 with heap := s2.heap.push { cls := .type "slice", data := .fields #[.none, .none, vk] } }
  refine tail_any (ops := [.ref a, .ref s2.heap.objs.size]) ht.isList.typeIs slot_list_getitem.lookup ?_ (by with_unfolding_all rfl)
  refine wpAny_getItem_list_slice ht.isList (Heap.IsSliceOf.new ..) .none .none pk (by simp) ?_ (by rw [List.size_toArray] <;> omega)
  rw [PySem.W.krv_pick]
  refine ⟨.ref _, _, I4.laid (t' := s2.toks) (o := .lst xs.reverse) (fun b ob q => Heap.get?_push_of_some _ q) (Nat.le_refl _) ?_, rfl, q _ (I4.hok.fresh (Nat.le_refl _))⟩
  exact ⟨by rw [List.length_reverse]; exact hz, _, 0, r.reverse, Heap.get?_push_size _ rfl⟩
end
def gRev : PV → Option Int → Sto → Option (R PV) := fun x st S => if st = some (-1) then (match x with
  | .loc k => match S[k]? with
    | some (.lst l) => some (.ok (.loc S.length) (S ++ [.lst l.reverse]))
    | some (.fz l) => some (.ok (.loc S.length) (S ++ [.lst l.reverse]))
    | _ => none
  | _ => none) else none
def dRev (a : DE) (st : DO) : DE := fun ρ S => bR (a ρ S) fun x S1 => bR (st ρ S1) fun l S2 => gRev x l S2
theorem de_rev {X : Cx} {W : WX} {e se : Expr} {p2 pos : Pos} {fa : DE} {fs : DO} (ha : PEd X W e fa) (hs : POd X W (some se) fs) : PEd X W (.Subscript e (.Slice none none (some se) p2) pos) (dRev fa fs) :=
  (pe_revL ha hs).imp fun σ H Q h => by
  refine (bind1 (ra := rE X.K) (k := fun ρ x S1 => bR (fs ρ S1) fun l S2 => gRev x l S2) h).mono fun v H1 ⟨m, ρ, S, d, z, s, e, r1, hk, p⟩ => ?_
  have hk : bR (fs ρ S) (fun l S2 => gRev d l S2) = some z := hk
  cases q : fs ρ S with
  | none => rw [q] at hk; cases hk
  | some z1 =>
    rw [q] at hk
    cases z1 with
    | exc x T =>
      cases hk
      exact ⟨m, ρ, S, .exc x T, s, e, q, p⟩
    | ok l T =>
      refine ⟨m, ρ, S, .ok l T, s, e, q, fun l' m2 H2 le x s2 rl => ?_⟩
      cases rl
      have hk : gRev d l T = some z := hk
      have r2 := r1.mono x le
      have p2 := p.on le x
      unfold gRev at hk
      split at hk
      · rename_i h1
        refine ⟨h1, ?_⟩
        split at hk
        · cases r2 with
          | loc hk2 =>
            split at hk
            · rename_i l e1
              obtain ⟨xs, hs, hl⟩ := s2.obj _ _ e1
              cases hk
              exact ⟨_, _, rfl, SqL.of hs, new_list s2 hl.reverse p2⟩
            · rename_i l e1
              obtain ⟨xs, hs, hl⟩ := s2.obj _ _ e1
              cases hk
              exact ⟨_, _, rfl, hs.sq, new_list s2 hl.reverse p2⟩
            · cases hk
        · cases hk
      · cases hk
end D

/-! D17: a dict that is walked; sorted(d), list(d); displays of dicts; global texts and tuples. -/
namespace D
open PySem PySem.Spec PyProof.Rows L2
/-! ### a dict is locked while it is walked -/
section
variable {K : PySem.W.Frag} {mg : Str → Option Value} {H : Hp} {m : Nat → Addr} {n : Nat} {S : Sto} {X : Cx} {W : WX}
theorem ext0_open {d : Addr} {o : Obj} {kv : List (Key × V)} {u : HO} (h : H d = some (.frz o (.dK kv))) : Ext0 K n m H m (upd H d u) := by
  have ne : ∀ a v, H a = some v → (∀ o kv, v ≠ .frz o (.dK kv)) → a ≠ d := fun a v e hn z => by
    subst z
    rw [h] at e
    cases e
    exact hn _ _ rfl
  refine ⟨fun _ _ => rfl, fun a xs q => ?_, fun a fv q => ?_⟩
  · rcases q with (q | ⟨ob, q⟩) | q
    · exact .inl (.inl (by rw [upd_ne (ne _ _ q fun _ _ z => by cases z)]; exact q))
    · exact .inl (.inr ⟨ob, by rw [upd_ne (ne _ _ q fun _ _ z => by cases z)]; exact q⟩)
    · exact .inr q
  · rw [upd_ne (ne _ _ q fun _ _ z => by cases z)]
    exact q
/-- the place k is locked -/
theorem StS.lock {k : Nat} {kvs : List (PV × PV)} {kv : List (Key × V)} {od : Obj} (s : StS K mg m S H) (e : S[k]? = some (.dct false kvs)) (h : H (m k) = some (.dK kv)) (r : RpK K H m S.length kvs kv) :
    StS K mg m (S.set k (.fd kvs)) (upd H (m k) (.frz od (.dK kv))) :=
  s.write e rfl rfl ⟨od, kv, upd_same, r.mono (ext_upd (.inr (by rw [h]; exact trivial))) (Nat.le_refl _)⟩
/-- .. and open again -/
theorem StS.unlock {k : Nat} {kvs : List (PV × PV)} {kv : List (Key × V)} {od : Obj} (s : StS K mg m S H) (e : S[k]? = some (.fd kvs)) (h : H (m k) = some (.frz od (.dK kv))) (r : RpK K H m S.length kvs kv) :
    StS K mg m (S.set k (.dct false kvs)) (upd H (m k) (.dK kv)) := by
  have x : Ext0 K S.length m H m (upd H (m k) (.dK kv)) := ext0_open h
  have hlt := lt_of_get e
  refine ⟨fun j o ej => ?_, fun i j oi oj ei ej mi mj q => ?_⟩
  · rw [List.length_set]
    by_cases hj : j = k
    · subst hj
      rw [List.getElem?_set_self hlt] at ej
      cases ej
      exact .inl ⟨rfl, kv, upd_same, r.mono0 x (Nat.le_refl _)⟩
    · rw [List.getElem?_set_ne (Ne.symm hj)] at ej
      have hne : isMut o = true → m j ≠ m k := fun hm q => hj (s.inj j k o _ ej e hm rfl q)
      have ho := s.obj j o ej
      cases o with
      | lst l => obtain ⟨xs, h1, h2⟩ := ho; exact ⟨xs, by rw [upd_ne (hne rfl)]; exact h1, h2.mono0 x (Nat.le_refl _)⟩
      | fz l =>
        obtain ⟨xs, h1, h2⟩ := ho
        refine ⟨xs, ?_, h2.mono0 x (Nat.le_refl _)⟩
        rcases h1 with ⟨ob, h1⟩ | h1
        · have ne : m j ≠ m k := fun z => by rw [z, h] at h1; cases h1
          exact .inl ⟨ob, by rw [upd_ne ne]; exact h1⟩
        · exact .inr h1
      | dct t l =>
        rcases ho with ⟨ht, xs, h1, h2⟩ | ⟨ht, xs, h1, h2⟩
        · exact .inl ⟨ht, xs, by rw [upd_ne (hne rfl)]; exact h1, h2.mono0 x (Nat.le_refl _)⟩
        · exact .inr ⟨ht, xs, by rw [upd_ne (hne rfl)]; exact h1, h2.mono0 x (Nat.le_refl _)⟩
      | fd l => obtain ⟨o, kv, h1, h2⟩ := ho; exact ⟨o, kv, by rw [upd_ne (hne rfl)]; exact h1, h2.mono0 x (Nat.le_refl _)⟩
      | ins c fs => obtain ⟨C, dx, fv, h1, h2, h3⟩ := ho; exact ⟨C, dx, fv, by rw [upd_ne (hne rfl)]; exact h1, h2, h3.mono0 x (Nat.le_refl _)⟩
  · have old : ∀ (i : Nat) (oi : PO), (S.set k (.dct false kvs))[i]? = some oi → isMut oi = true → ∃ o, S[i]? = some o ∧ isMut o = true := fun i oi e' mi => by
      by_cases hi : i = k
      · subst hi; exact ⟨_, e, rfl⟩
      · rw [List.getElem?_set_ne (Ne.symm hi)] at e'
        exact ⟨oi, e', mi⟩
    obtain ⟨o1, e1, m1⟩ := old i oi ei mi
    obtain ⟨o2, e2, m2⟩ := old j oj ej mj
    exact s.inj i j o1 o2 e1 e2 m1 m2 q
/-- the end of an exception's way, the dict at d open again -/
def WL (d : Addr) (W : WX) : WX := fun c dd σ H => ∃ o kv, H d = some (.frz o (.dK kv)) ∧ W c dd σ (upd H d (.dK kv))
theorem takes_lock {d : Addr} (hn : ∀ o' u', X.H_0 d ≠ some (.frz o' u')) (t : Takes X W) : Takes X (WL d W) := fun u s' h => by
  obtain ⟨a, B, sI, pins, σ, H, cls, dd, e, I, nb, up, sky, na, os, ag, o, kv, w1, w2⟩ := h
  have I2 := I.unlock w1 hn
  exact t u s' ⟨a, B, sI, pins, σ, _, cls, dd, e, I2, nb, up, sky, by rw [upd_ne (fun z => by rw [z, w1] at na; cases na)]; exact na, os, ag, w2⟩
end
def unS (k : Nat) (S : Sto) : Option Sto := match S[k]? with
  | some (.fd kvs) => some (S.set k (.dct false kvs))
  | _ => none
def unR (k : Nat) : RS → Option RS
  | .next ρ S => (unS k S).map (.next ρ)
  | .brk ρ S => (unS k S).map (.brk ρ)
  | .ctn ρ S => (unS k S).map (.ctn ρ)
  | .ret v S => (unS k S).map (.ret v)
  | .exc e ρ S => (unS k S).map (.exc e ρ)
/-- the statement, while the dict in slot i is walked -/
noncomputable def dLock (i : Nat) (f : DS) : DS := fun ρ S => match ρ[i]? with
  | some (some (.loc k)) => match S[k]? with
    | some (.dct false kvs) => (f ρ (S.set k (.fd kvs))).bind (unR k)
    | some (.fd _) => f ρ S
    | _ => none
  | _ => none
section
variable {X : Cx} {W : WX} {st : Stmt} {f : DS}
theorem unS_eq {k : Nat} {S T : Sto} (h : unS k S = some T) : ∃ kvs, S[k]? = some (.fd kvs) ∧ T = S.set k (.dct false kvs) := by
  unfold unS at h
  split at h
  · rename_i kvs e
    cases h
    exact ⟨kvs, e, rfl⟩
  · cases h
/-- what holds behind, the dict open again -/
theorem open_end {K : PySem.W.Frag} {mg : Str → Option Value} {m m' : Nat → Addr} {H H' : Hp} {k n : Nat} {kv0 : List (Key × V)} {od : Obj} {S' T : Sto} (hk : k < n) (h0 : H (m k) = some (.dK kv0)) (hT : unS k S' = some T) (x : Ext K n m (upd H (m k) (.frz od (.dK kv0))) m' H') (s : StS K mg m' S' H') :
    ∃ kv, H' (m k) = some (.frz od (.dK kv0)) ∧ kv = kv0 ∧ T.length = S'.length ∧ StS K mg m' T (upd H' (m k) (.dK kv0)) ∧ Ext K n m H m' (upd H' (m k) (.dK kv0)) ∧ Ext0 K S'.length m' H' m' (upd H' (m k) (.dK kv0)) := by
  obtain ⟨kvs, e, rfl⟩ := unS_eq hT
  have hf := x.fz _ _ _ (upd_same (H := H) (a := m k))
  obtain ⟨o, kv, h1, r⟩ := s.obj k _ e
  have hm := x.mp k hk
  rw [hm, hf] at h1
  cases h1
  have s2 := s.unlock (od := od) (kv := kv0) e (by rw [hm]; exact hf) r
  rw [hm] at s2
  have x0 : Ext0 K S'.length m' H' m' (upd H' (m k) (.dK kv0)) := ext0_open hf
  have xo : Ext0 K n m H m (upd H (m k) (.frz od (.dK kv0))) := (ext_upd (.inr (by rw [h0]; exact trivial))).toExt0
  refine ⟨kv0, hf, rfl, List.length_set, s2, ⟨⟨x.mp, fun a xs q => x0.tp _ _ (x.tp _ _ (xo.tp _ _ q)), fun a fv q => x0.xd _ _ (x.xd _ _ (xo.xd _ _ q))⟩, fun a o u q => ?_⟩, x0⟩
  have ne : a ≠ m k := fun z => by rw [z, h0] at q; cases q
  rw [upd_ne ne]
  exact x.fz _ _ _ (by rw [upd_ne ne]; exact q)
theorem ds_lock (i : Nat) (tk : Takes X W) (h : ∀ W', Takes X W' → PSd X W' st f) : PSd X W st (dLock i f) := by
  refine ⟨fun pins s σ H D I hw => ?_⟩
  obtain ⟨m, ρ, S, r, st0, en, hf, p⟩ := hw
  unfold dLock at hf
  split at hf
  · rename_i k hk
    obtain ⟨x, hx, rx⟩ := en.at_ i _ hk
    cases rx with
    | loc hkl =>
      split at hf
      · rename_i kvs e
        rcases st0.obj k _ e with ⟨_, kv, h1, rk⟩ | ⟨ht, _⟩
        · have mu : Mut (some (HO.dK kv)) := trivial
          obtain ⟨od, I1⟩ := I.lock h1 mu
          have hn := I.nofrz h1 mu
          have s1 := st0.lock (od := od) e h1 rk
          have x1 : Ext X.K S.length m H m (upd H (m k) (.frz od (.dK kv))) := ext_upd (.inr (by rw [h1]; exact trivial))
          have e1 := en.mono x1 (Nat.le_refl _)
          cases q : f ρ (S.set k (.fd kvs)) with
          | none => rw [q] at hf; cases hf
          | some r0 =>
            rw [q] at hf
            have hf : unR k r0 = some r := hf
            have hl : (S.set k (.fd kvs)).length = S.length := List.length_set
            refine thn ((h (WL (m k) W) (takes_lock hn tk)).run pins s σ _ ⟨fun σ' H' => ∃ o kv, H' (m k) = some (.frz o (.dK kv)) ∧ D.nx σ' (upd H' (m k) (.dK kv)), fun v H' => ∃ o kv, H' (m k) = some (.frz o (.dK kv)) ∧ D.rt v (upd H' (m k) (.dK kv)), fun σ' H' => ∃ o kv, H' (m k) = some (.frz o (.dK kv)) ∧ D.bk σ' (upd H' (m k) (.dK kv)), fun σ' H' => ∃ o kv, H' (m k) = some (.frz o (.dK kv)) ∧ D.ct σ' (upd H' (m k) (.dK kv))⟩ I1 ⟨m, ρ, _, r0, s1, by rw [hl]; exact e1, q, ?_⟩) fun fl s2 z => ?_
            · cases r0 with
              | next ρ' S' =>
                unfold unR at hf
                rw [Option.map_eq_some_iff] at hf
                obtain ⟨T, hT, rfl⟩ := hf
                intro σ' m' H' le x2 s2 en2
                rw [hl] at le x2
                obtain ⟨_, g1, _, g2, g3, g4, g5⟩ := open_end hkl h1 hT x2 s2
                exact ⟨od, kv, g1, p σ' m' _ (by rw [g2]; exact le) g4 g3 (by rw [g2]; exact en2.mono0 g5 (Nat.le_refl _))⟩
              | brk ρ' S' =>
                unfold unR at hf
                rw [Option.map_eq_some_iff] at hf
                obtain ⟨T, hT, rfl⟩ := hf
                intro σ' m' H' le x2 s2 en2
                rw [hl] at le x2
                obtain ⟨_, g1, _, g2, g3, g4, g5⟩ := open_end hkl h1 hT x2 s2
                exact ⟨od, kv, g1, p σ' m' _ (by rw [g2]; exact le) g4 g3 (by rw [g2]; exact en2.mono0 g5 (Nat.le_refl _))⟩
              | ctn ρ' S' =>
                unfold unR at hf
                rw [Option.map_eq_some_iff] at hf
                obtain ⟨T, hT, rfl⟩ := hf
                intro σ' m' H' le x2 s2 en2
                rw [hl] at le x2
                obtain ⟨_, g1, _, g2, g3, g4, g5⟩ := open_end hkl h1 hT x2 s2
                exact ⟨od, kv, g1, p σ' m' _ (by rw [g2]; exact le) g4 g3 (by rw [g2]; exact en2.mono0 g5 (Nat.le_refl _))⟩
              | ret v S' =>
                unfold unR at hf
                rw [Option.map_eq_some_iff] at hf
                obtain ⟨T, hT, rfl⟩ := hf
                intro y m' H' le x2 s2 ry
                rw [hl] at le x2
                obtain ⟨_, g1, _, g2, g3, g4, g5⟩ := open_end hkl h1 hT x2 s2
                exact ⟨od, kv, g1, p y m' _ (by rw [g2]; exact le) g4 g3 (by rw [g2]; exact ry.mono0 g5 (Nat.le_refl _))⟩
              | exc xn ρ' S' =>
                unfold unR at hf
                rw [Option.map_eq_some_iff] at hf
                obtain ⟨T, hT, rfl⟩ := hf
                intro cls dd σ' m' H' le x2 s2 en2 rx
                rw [hl] at le x2
                obtain ⟨_, g1, _, g2, g3, g4, g5⟩ := open_end hkl h1 hT x2 s2
                refine ⟨od, kv, g1, p cls dd σ' m' _ (by rw [g2]; exact le) g4 g3 (by rw [g2]; exact en2.mono0 g5 (Nat.le_refl _)) ?_⟩
                obtain ⟨C, c1, c2, c3⟩ := rx
                refine ⟨C, c1, c2, ?_⟩
                rcases c3 with c3 | ⟨n1, d', fv, n2, n3, n4⟩
                · exact .inl c3
                · exact .inr ⟨n1, d', fv, n2, g5.xd _ _ n3, by rw [g2]; exact n4.mono0 g5 (Nat.le_refl _)⟩
            · cases fl with
              | next => obtain ⟨σ', H', I2, o, kv2, e2, q2⟩ := z; exact ⟨σ', _, I2.unlock e2 hn, q2⟩
              | brk => obtain ⟨σ', H', I2, o, kv2, e2, q2⟩ := z; exact ⟨σ', _, I2.unlock e2 hn, q2⟩
              | cont => obtain ⟨σ', H', I2, o, kv2, e2, q2⟩ := z; exact ⟨σ', _, I2.unlock e2 hn, q2⟩
              | ret v => obtain ⟨y, σ', H', I2, ry, o, kv2, e2, q2⟩ := z; exact ⟨y, σ', _, I2.unlock e2 hn, ry, q2⟩
        · cases ht
      · exact (h W tk).run pins s σ H D I ⟨m, ρ, S, r, st0, en, hf, p⟩
      · cases hf
  · cases hf
end
end D

/-! D18: dicts: walked, sorted, as a list, displayed, made of pairs; global tuples. -/
namespace D
open PySem PySem.Spec PyProof.Rows L2
def dctOf (S : Sto) (k : Nat) : Option (List (PV × PV)) := match S[k]? with
  | some (.dct false kvs) => some kvs
  | some (.fd kvs) => some kvs
  | _ => none
section
variable {K : PySem.W.Frag} {mg : Str → Option Value} {H : Hp} {m : Nat → Addr} {n : Nat} {S : Sto}
theorem dct_rd {k : Nat} {kvs : List (PV × PV)} (s : StS K mg m S H) (h : dctOf S k = some kvs) : ∃ kv, Rd H (m k) (.dK kv) ∧ RpK K H m S.length kvs kv := by
  unfold dctOf at h
  split at h
  · rename_i e
    cases h
    rcases s.obj k _ e with ⟨_, kv, h1, h2⟩ | ⟨ht, _⟩
    · exact ⟨kv, .inl h1, h2⟩
    · cases ht
  · rename_i e
    cases h
    obtain ⟨o, kv, h1, h2⟩ := s.obj k _ e
    exact ⟨kv, .inr ⟨o, h1⟩, h2⟩
  · cases h
theorem kP_of {d : PV} {q : Key} (h : kP d = some q) : Rp K H m n d (kV q) := by
  unfold kP at h
  split at h
  · cases h; exact .int _
  · cases h; exact .str _
  · cases h
theorem rpk_keys : ∀ {kvs : List (PV × PV)} {kv : List (Key × V)}, RpK K H m n kvs kv → RpL K H m n (kvs.map Prod.fst) (kv.map fun q => kV q.1)
  | _, _, .nil => .nil
  | _, _, .cons h r => .cons (kP_of h.1) (rpk_keys r)
/-! ### list(d) -/
def gListD : GA := fun l S => match l with
  | [.loc k] => match dctOf S k with
    | some kvs => some (.ok (.loc S.length) (S ++ [.lst (kvs.map Prod.fst)]))
    | none => none
  | _ => none
def rListDk : List V → Hp → VK → Prop := fun xs H Q => ∃ (a : Addr) (kvs : List (Key × V)), xs = [.ref a] ∧ Rd H a (.dK kvs) ∧ ∀ p, H p = none → Q (.ref p) (upd H p (.lst (kvs.map fun kv => kV kv.1)))
theorem ok_listD : OkGA K mg rListDk gListD := fun W σ m S H x d z Q s r e p => by
  unfold gListD at e
  split at e
  · rename_i k
    split at e
    · rename_i kvs hk
      cases e
      cases r with
      | cons a b =>
        cases b; cases a
        obtain ⟨kv, h1, h2⟩ := dct_rd s hk
        exact ⟨_, kv, rfl, h1, new_list s (rpk_keys h2) p⟩
    · cases e
  · cases e
/-! ### sorted(d), its keys texts -/
def leSt (a b : Str) : Bool := !ltCps b.cps.toList a.cps.toList
def sortSt (ks : List Str) : List Str := ks.mergeSort leSt
theorem leSt_iff {a b : Str} : leSt a b = true ↔ a.cps.toList ≤ b.cps.toList := by
  unfold leSt
  rw [ltCps_eq, Bool.not_eq_true', decide_eq_false_iff_not]
  exact List.not_lt
theorem leSt_trans (a b c : Str) (h1 : leSt a b = true) (h2 : leSt b c = true) : leSt a c = true := leSt_iff.mpr (List.le_trans (leSt_iff.mp h1) (leSt_iff.mp h2))
theorem leSt_total (a b : Str) : (leSt a b || leSt b a) = true := by
  rw [Bool.or_eq_true, leSt_iff, leSt_iff]
  exact List.le_total _ _
theorem leSt_anti {a b : Str} (h1 : leSt a b = true) (h2 : leSt b a = true) : a = b := by
  have := List.le_antisymm (leSt_iff.mp h1) (leSt_iff.mp h2)
  cases a; cases b
  simp only at this
  congr 1
  exact Array.toList_inj.mp this
theorem rising_pw : ∀ (l : List Str) (p : Str), risingS p l = true → (p :: l).Pairwise fun a b => leSt a b = true
  | [], p, _ => List.pairwise_singleton _ _
  | x :: r, p, h => by
    have h : (!ltCps x.cps.toList p.cps.toList && risingS x r) = true := h
    rw [Bool.and_eq_true] at h
    have ih := rising_pw r x h.2
    refine List.pairwise_cons.mpr ⟨fun y hy => ?_, ih⟩
    rcases List.mem_cons.mp hy with rfl | hy
    · exact h.1
    · exact leSt_trans p x y h.1 (List.rel_of_pairwise_cons ih hy)
theorem sortSt_uniq {ys ks : List Str} (hp : ys.Perm ks) (h : sortedS ys = true) : ys = sortSt ks := by
  have h1 : ys.Pairwise fun a b => leSt a b = true := by
    cases ys with
    | nil => exact .nil
    | cons x r => exact rising_pw r x h
  have h2 : (sortSt ks).Pairwise fun a b => leSt a b = true := List.pairwise_mergeSort leSt_trans leSt_total ks
  exact (hp.trans (List.mergeSort_perm ks leSt).symm).eq_of_pairwise (fun a b _ _ => leSt_anti) h1 h2
def keyS : PV × PV → Option Str
  | (.str s, _) => some s
  | _ => none
theorem keys_strs : ∀ {kvs : List (PV × PV)} {kv : List (Key × V)} {ks : List Str}, RpK K H m n kvs kv → mapO keyS kvs = some ks → kv.map (·.1) = ks.map Sum.inr
  | _, _, ks, .nil, h => by cases h; rfl
  | p :: r, q :: t, ks, .cons h rs, e => by
    unfold mapO at e
    cases e1 : keyS p with
    | none => rw [e1] at e; simp at e
    | some s =>
      cases e2 : mapO keyS r with
      | none => rw [e1, e2] at e; simp at e
      | some ss =>
        rw [e1, e2] at e
        cases e
        obtain ⟨a, b⟩ := p
        unfold keyS at e1
        split at e1
        · rename_i heq
          cases heq
          cases e1
          have h1 := h.1
          simp only [kP, Option.some.injEq] at h1
          rw [List.map_cons, List.map_cons, ← h1, keys_strs rs e2]
        · cases e1
def gSortD : GA := fun l S => match l with
  | [.loc k] => match dctOf S k with
    | some kvs => match mapO keyS kvs with
      | some ks => if ks.length < 64 then some (.ok (.loc S.length) (S ++ [.lst ((sortSt ks).map PV.str)])) else none
      | none => none
    | none => none
  | _ => none
def rSortDk : List V → Hp → VK → Prop := fun xs H Q => ∃ (a : Addr) (kvs : List (Key × V)) (ks : List Str), xs = [.ref a] ∧ Rd H a (.dK kvs) ∧ kvs.map (·.1) = ks.map Sum.inr ∧ ks.length < 64 ∧
    ∀ ys p, ys.Perm ks → sortedS ys = true → H p = none → Q (.ref p) (upd H p (.lst (ys.map V.str)))
theorem of_strs : ∀ {ns : List Str}, RpL K H m n (ns.map PV.str) (ns.map V.str)
  | [] => .nil
  | i :: _ => .cons (.str i) of_strs
theorem ok_sortDk : OkGA K mg rSortDk gSortD := fun W σ m S H x d z Q s r e p => by
  unfold gSortD at e
  split at e
  · rename_i k
    split at e
    · rename_i kvs hk
      split at e
      · rename_i ks hks
        split at e
        · rename_i h64
          cases e
          cases r with
          | cons a b =>
            cases b; cases a
            obtain ⟨kv, h1, h2⟩ := dct_rd s hk
            exact ⟨_, kv, ks, rfl, h1, keys_strs h2 hks, h64, fun ys q hp hs hq => by
              rw [sortSt_uniq hp hs]
              exact new_list s of_strs p q hq⟩
        · cases e
      · cases e
    · cases e
  · cases e
/-! ### for k in d -/
theorem itOk_keys {k : Nat} {kvs : List (PV × PV)} {kv : List (Key × V)} {o : Obj} (s0 : StS K mg m S H) (e0 : S[k]? = some (.fd kvs)) (h0 : H (m k) = some (.frz o (.dK kv))) (r0 : RpK K H m S.length kvs kv) : ItOk K mg (Itk (m k) o kv) ⟨kvs.map Prod.fst, [(k, .fd kvs)]⟩ S.length m H where
  go := fun i d m' S' H' le x s kp e => by
    have hl := rpk_keys r0
    obtain ⟨y, h1, h2⟩ := hl.get e
    have hf := x.fz _ _ _ h0
    rw [List.getElem?_map] at h1
    cases q : kv[i]? with
    | none => rw [q] at h1; cases h1
    | some p =>
      rw [q] at h1
      cases h1
      have hi := lt_of_get q
      refine ⟨⟨hf, hi⟩, fun y H2 hy => ?_⟩
      obtain ⟨rfl, k', v', e1, rfl⟩ := hy
      rw [q] at e1
      cases e1
      exact ⟨m', Ext.refl, s, h2.mono x le⟩
  stop := fun m' S' H' le x s kp => by
    have hf := x.fz _ _ _ h0
    have hl := (rpk_keys r0).length
    rw [List.length_map, List.length_map] at hl
    exact ⟨hf, by show kv.length ≤ (kvs.map Prod.fst).length; rw [List.length_map, hl]; exact Nat.le_refl _⟩
end
def dKeysI (f : DE) : DI := fun ρ S => bR (f ρ S) fun x S1 => match x with
  | .loc k => match S1[k]? with
    | some (.fd kvs) => some (.ok ⟨kvs.map Prod.fst, [(k, .fd kvs)]⟩ S1)
    | _ => none
  | _ => none
section
variable {X : Cx} {W : WX} {tg e : Expr} {fe : DE}
theorem di_keys (h : PEd X W e fe) : PId X W tg e (dKeysI fe) := (pi_keys h).imp fun σ H Q h => by
  refine (bind1 (ra := rE X.K) h).mono fun v H1 ⟨m, ρ, S, d, z, s, en, r1, hk, p⟩ => ?_
  split at hk
  · cases r1 with
    | loc hk' =>
      split at hk
      · rename_i k kvs e1
        cases hk
        obtain ⟨o, kv, h1, h2⟩ := s.obj _ _ e1
        exact ⟨_, o, rfl, .inl ⟨kv, h1, p _ m H1 (Nat.le_refl _) Ext.refl s (itOk_keys s e1 h1 h2)⟩⟩
      · cases hk
  · cases hk
/-! ### a module's tuple -/
theorem de_gtup {x : Str} {a : Addr} {d : PV} {pos : Pos} (hg : Gl X x) (hm : X.mg x = some (.ref a)) (hr : ∀ H m n, Rp X.K H m n d (.ref a)) (hd : (x == ("__debug__" : Str)) = false := by decide) : PEd X W (.Name x pos) (dC d) :=
  (pe_glob (v := .ref a) hg hm rfl hd).imp fun σ H Q h => by
    obtain ⟨m, ρ, S, r, s, e, hf, p⟩ := h
    cases hf
    exact p _ m H (Nat.le_refl _) Ext.refl s (hr _ _ _)
/-! ### displays -/
abbrev RPs := List (PV × PV)
def rPs (K : PySem.W.Frag) : Rel RPs (List (V × V)) := fun H m n l ps => Paired (fun p q => Rp K H m n p.1 q.1 ∧ Rp K H m n p.2 q.2) l ps
def dPairs : List (DE × DE) → En → Sto → Option (R RPs)
  | [], _, S => some (.ok [] S)
  | p :: r, ρ, S => bR (p.1 ρ S) fun x S1 => bR (p.2 ρ S1) fun y S2 => bR (dPairs r ρ S2) fun l S3 => some (.ok ((x, y) :: l) S3)
def mergeD (kvs more : RPs) : Option RPs := match more with
  | [] => some kvs
  | p :: r => match kP p.1 with
    | some k => mergeD (putD kvs p.1 p.2 k) r
    | none => none
def dDisp (ps : List (DE × DE)) : DE := fun ρ S => bR (dPairs ps ρ (S ++ [.dct false []])) fun l S1 => if l.length ≤ 15 then match S1[S.length]?, mergeD [] l with
  | some (.dct false []), some kvs => some (.ok (.loc S.length) (S1.set S.length (.dct false kvs)))
  | _, _ => none else none
abbrev PPsd (X : Cx) (W : WX) (pos : Pos) (ks : List (Option Expr)) (vs : List Expr) (ps : List (DE × DE)) : Prop := PPs X pos ks vs (ps.map fun p => (tD X.K X.mg W p.1, tD X.K X.mg W p.2))
theorem dps_nil {pos : Pos} : PPsd X W pos [] [] [] := pps_nil
theorem dps_cons {pos : Pos} {k v : Expr} {ks : List (Option Expr)} {vs : List Expr} {fk fv : DE} {ps : List (DE × DE)} (hk : PEd X W k fk) (hv : PEd X W v fv) (hr : PPsd X W pos ks vs ps) : PPsd X W pos (some k :: ks) (v :: vs) ((fk, fv) :: ps) := pps_cons hk hv hr
theorem lift_pairs {K : PySem.W.Frag} {mg : Str → Option Value} {σ : L2.St} : ∀ (ps : List (DE × DE)) (H : Hp) (Q : List (V × V) → Hp → Prop), tG K mg (rPs K) W (fun ρ S => dPairs ps ρ S) σ H Q → tPairs (ps.map fun p => (tD K mg W p.1, tD K mg W p.2)) σ H Q
  | [], H, Q, h => by
    obtain ⟨m, ρ, S, r, s, e, hf, p⟩ := h
    cases hf
    exact p [] m H (Nat.le_refl _) Ext.refl s .nil
  | q :: ps, H, Q, h => by
    have h : tG K mg (rPs K) W (fun ρ S => bR (q.1 ρ S) fun x S1 => bR (q.2 ρ S1) fun y S2 => bR (dPairs ps ρ S2) fun l S3 => some (.ok ((x, y) :: l) S3)) σ H Q := h
    refine (bind2 (ra := rE K) (rb := rE K) keeps_E h).mono fun v H1 h1 => h1.mono fun u H2 ⟨m, ρ, S, d, d', z, s, e, r1, r2, hk, p⟩ => ?_
    refine lift_pairs ps H2 _ ?_
    cases q2 : dPairs ps ρ S with
    | none => rw [q2] at hk; cases hk
    | some z1 =>
      rw [q2] at hk
      cases z1 with
      | exc x T =>
        cases hk
        exact ⟨m, ρ, S, .exc x T, s, e, q2, p⟩
      | ok l T =>
        cases hk
        refine ⟨m, ρ, S, .ok l T, s, e, q2, fun l' m2 H3 le x s2 rl => ?_⟩
        exact p _ m2 H3 le x s2 (.cons ⟨r1.mono x le, r2.mono x le⟩ rl)
theorem merge_rp {K : PySem.W.Frag} {H : Hp} {m : Nat → Addr} {n : Nat} : ∀ {more kvs out : RPs} {ps : List (V × V)} {kv : List (Key × V)}, Paired (fun p q => Rp K H m n p.1 q.1 ∧ Rp K H m n p.2 q.2) more ps → RpK K H m n kvs kv → mergeD kvs more = some out →
    ∃ kv2 : List (Key × V), ps = kv2.map (fun p => (kV p.1, p.2)) ∧ kv2.length = more.length ∧ RpK K H m n out (mergeK kv kv2)
  | [], kvs, out, _, kv, .nil, r, e => by
    cases e
    exact ⟨[], rfl, rfl, r⟩
  | p :: more, kvs, out, q :: ps, kv, .cons h t, r, e => by
    unfold mergeD at e
    split at e
    · rename_i k hk
      have hq := kP_rp hk h.1
      obtain ⟨kv2, h1, h2, h3⟩ := merge_rp t (rpk_put hk h.2 r) e
      refine ⟨(k, q.2) :: kv2, ?_, by simp [h2], h3⟩
      rw [List.map_cons, ← h1]
      congr 1
      rw [← hq]
    · cases e
theorem de_disp {pos : Pos} {ks : List (Option Expr)} {vs : List Expr} {ps : List (DE × DE)} (h : PPsd X W pos ks vs ps) (hall : ks.all (·.isSome) = true := by rfl) (hl : ks.length = vs.length := by rfl) (h0 : ks ≠ [] := by simp) (h15 : ks.length ≤ 15 := by decide) :
    PEd X W (.Dict ks vs pos) (dDisp ps) := (pe_disp h hall hl h0 h15).imp fun σ H Q h => by
  obtain ⟨m, ρ, S, r, s, en, hf, p⟩ := h
  intro q hq
  have st := s.push (p := q) (ho := .dK []) (po := .dct false []) hq rfl (.inl ⟨rfl, [], upd_same, .nil⟩)
  have hl1 : (S ++ [PO.dct false []]).length = S.length + 1 := by simp
  have e1 : EnR X.K (upd H q (.dK [])) (mext m S.length q) (S ++ [PO.dct false []]).length ρ σ := en.mono (ext_push hq) (by rw [hl1]; exact Nat.le_succ _)
  refine lift_pairs ps _ _ ?_
  unfold dDisp at hf
  cases q2 : dPairs ps ρ (S ++ [.dct false []]) with
  | none => rw [q2] at hf; cases hf
  | some z1 =>
    rw [q2] at hf
    cases z1 with
    | exc x T =>
      cases hf
      refine ⟨_, ρ, _, .exc x T, st, e1, q2, fun cls dd m2 H2 le x2 s2 rx => ?_⟩
      exact p cls dd m2 H2 (by rw [hl1] at le; omega) ((ext_push hq).trans x2 (by rw [hl1]; exact Nat.le_succ _)) s2 rx
    | ok l T =>
      refine ⟨_, ρ, _, .ok l T, st, e1, q2, fun ls m2 H2 le x2 s2 rl => ?_⟩
      have hf : (if l.length ≤ 15 then match T[S.length]?, mergeD [] l with
        | some (.dct false []), some kvs => some (.ok (.loc S.length) (T.set S.length (.dct false kvs)))
        | _, _ => none else none) = some r := hf
      rw [hl1] at le x2
      have hm : m2 S.length = q := by rw [x2.mp _ (Nat.lt_succ_self _), mext_same]
      split at hf
      · rename_i h15
        split at hf
        · rename_i kvs ea eb
          cases hf
          have rl : Paired (fun p q => Rp X.K H2 m2 T.length p.1 q.1 ∧ Rp X.K H2 m2 T.length p.2 q.2) l ls := rl
          obtain ⟨kv2, g1, g2, g3⟩ := merge_rp rl .nil eb
          rcases s2.obj _ _ ea with ⟨_, kv, h1, h2⟩ | ⟨ht, _⟩
          · cases h2
            rw [hm] at h1
            refine ⟨h1, kv2, g1, by rw [g2]; exact h15, ?_⟩
            have mu : Mut (H2 q) := by rw [h1]; exact trivial
            have xw : Ext X.K T.length m2 H2 m2 (upd H2 q (.dK (mergeK [] kv2))) := ext_upd (.inr mu)
            have sw := s2.write (ho := .dK (mergeK [] kv2)) (po' := .dct false kvs) ea rfl rfl (.inl ⟨rfl, _, upd_same, by
              rw [hm]
              exact g3.mono xw (Nat.le_refl _)⟩)
            rw [hm] at sw
            have rr : Rp X.K (upd H2 q (.dK (mergeK [] kv2))) m2 (T.set S.length (.dct false kvs)).length (.loc S.length) (.ref (m2 S.length)) := .loc (by rw [List.length_set]; omega)
            rw [hm] at rr
            refine p _ m2 _ (by rw [List.length_set]; omega) ?_ sw rr
            exact ((ext_push hq).trans x2 (Nat.le_succ _)).trans xw (by omega)
          · cases ht
        · cases hf
      · cases hf
/-! ### dict(list of pairs), dict(d) -/
def rCopyD : List V → Hp → VK → Prop := fun xs H Q => ∃ (a : Addr) (kvs : List (Key × V)), xs = [.ref a] ∧ Rd H a (.dK kvs) ∧ ∀ p, H p = none → Q (.ref p) (upd H p (.dK kvs))
theorem call_copyD : CallR X (.type "dict") rCopyD := by
  intro pins s σ H xs us Q I r q
  obtain ⟨a, kvs, ex, hd, q⟩ := q
  subst ex
  cases r with
  | cons r1 r2 =>
    cases r2
    cases r1
    exact d_copyOf I hd fun p s' hp I' => ⟨.ref p, _, I', rfl, q p hp⟩
def rDictP (K : PySem.W.Frag) : List V → Hp → VK → Prop := fun xs H Q => ∃ (a : Addr) (ps : List Addr) (kvs : List (Key × V)), xs = [.ref a] ∧ SqL K H a (ps.map V.ref) ∧ Paired (fun p kv => SqT K H p [kV kv.1, kv.2]) ps kvs ∧
    ∀ p, H p = none → Q (.ref p) (upd H p (.dK (mergeK [] kvs)))
def rDict (K : PySem.W.Frag) : List V → Hp → VK → Prop := fun xs H Q => rDictP K xs H Q ∨ rCopyD xs H Q
theorem call_dict (hc : X.calm = true) : CallR X (.type "dict") (rDict X.K) := (call_dictP hc).or call_copyD
def pairsOf2 : List PV → Option RPs
  | [] => some []
  | .tup [a, b] :: r => match pairsOf2 r with
    | some l => some ((a, b) :: l)
    | none => none
  | _ => none
theorem pairs_rp {K : PySem.W.Frag} {mg : Str → Option Value} {H : Hp} {m : Nat → Addr} {n : Nat} : ∀ {l : List PV} {xs : List V} {ps kvs out : RPs} {kv : List (Key × V)}, RpL K H m n l xs → pairsOf2 l = some ps → RpK K H m n kvs kv → mergeD kvs ps = some out →
    ∃ (as : List Addr) (kv2 : List (Key × V)), xs = as.map V.ref ∧ Paired (fun p kv => SqT K H p [kV kv.1, kv.2]) as kv2 ∧ RpK K H m n out (mergeK kv kv2)
  | _, _, ps, kvs, out, kv, .nil, e, r, h => by
    cases e
    cases h
    exact ⟨[], [], rfl, .nil, r⟩
  | d :: l, x :: xs, ps, kvs, out, kv, .cons a t, e, r, h => by
    unfold pairsOf2 at e
    split at e
    · cases e
      cases h
      rename_i q
      cases q
    · rename_i a1 b1 r1 heq
      cases heq
      split at e
      · rename_i l2 e2
        cases e
        unfold mergeD at h
        split at h
        · rename_i k hk
          cases a with
          | tup h1 h2 =>
            cases h2 with
            | cons ra h3 =>
              cases h3 with
              | cons rb h4 =>
                cases h4
                have hq := kP_rp hk ra
                obtain ⟨as, kv2, g1, g2, g3⟩ := pairs_rp (mg := mg) t e2 (rpk_put hk rb r) h
                subst hq
                exact ⟨_ :: as, (k, _) :: kv2, by rw [List.map_cons, ← g1], .cons h1 g2, g3⟩
        · cases h
      · cases e
    · cases e
def gDict : GA := fun l S => match l with
  | [.loc k] => match dctOf S k with
    | some kvs => some (.ok (.loc S.length) (S ++ [.dct false kvs]))
    | none => match lstOf k S with
      | some l => match pairsOf2 l with
        | some ps => match mergeD [] ps with
          | some kvs => some (.ok (.loc S.length) (S ++ [.dct false kvs]))
          | none => none
        | none => none
      | none => none
  | _ => none
theorem new_dct {K : PySem.W.Frag} {mg : Str → Option Value} {σ : L2.St} {H : Hp} {m : Nat → Addr} {S : Sto} {kvs : RPs} {kv : List (Key × V)} {Q : VK} (s : StS K mg m S H) (r : RpK K H m S.length kvs kv)
    (p : PostG K mg (rE K) W σ m S H (.ok (.loc S.length) (S ++ [.dct false kvs])) Q) (q : Addr) (hq : H q = none) : Q (.ref q) (upd H q (.dK kv)) := by
  have st := s.push (p := q) (ho := .dK kv) (po := .dct false kvs) hq rfl (.inl ⟨rfl, kv, upd_same, r.mono (ext_push hq) (Nat.le_succ _)⟩)
  have rp : Rp K (upd H q (.dK kv)) (mext m S.length q) (S ++ [PO.dct false kvs]).length (.loc S.length) (.ref (mext m S.length q S.length)) := .loc (by simp)
  rw [mext_same] at rp
  exact p _ (mext m S.length q) _ (by simp) (ext_push hq) st rp
theorem ok_dict {K : PySem.W.Frag} {mg : Str → Option Value} : OkGA K mg (rDict K) gDict := fun W σ m S H x d z Q s r e p => by
  unfold gDict at e
  split at e
  · rename_i k
    cases r with
    | cons a b =>
      cases b; cases a
      split at e
      · rename_i kvs hk
        cases e
        obtain ⟨kv, h1, h2⟩ := dct_rd s hk
        exact .inr ⟨_, kv, rfl, h1, new_dct s h2 p⟩
      · split at e
        · rename_i l hl
          split at e
          · rename_i ps hps
            split at e
            · rename_i kvs hm
              cases e
              obtain ⟨xs, h1, h2⟩ := lst_rp s hl
              obtain ⟨as, kv2, g1, g2, g3⟩ := pairs_rp (mg := mg) h2 hps .nil hm
              subst g1
              exact .inl ⟨_, as, kv2, rfl, h1, g2, new_dct s g3 p⟩
            · cases e
          · cases e
        · cases e
  · cases e
/-! ### texts: in, < -/
def inStr (i j : Str) : Bool := !(Builtin.Str.occurrences j i 0 j.length 1).isEmpty
def gInS (neg : Bool) : G2 := fun x y S => match x, y with
  | .str i, .str j => some (.ok (.bl (if neg then !inStr i j else inStr i j)) S)
  | _, _ => none
def rInS (neg : Bool) : R2 := fun x y H Q => ∃ i j, x = .str i ∧ y = .str j ∧ Q (.bl (if neg then !inStr i j else inStr i j)) H
theorem op_inS : OpR X (compareOp .In) (rInS false) := op_in_str
theorem op_notinS : OpR X (compareOp .NotIn) (rInS true) := op_notin_str
theorem ok_inS {K : PySem.W.Frag} {mg : Str → Option Value} {neg : Bool} : OkG2 K mg (rInS neg) (gInS neg) := fun W σ m S H x y d d' z Q s r1 r2 e p => by
  unfold gInS at e
  split at e
  · cases e; cases r1; cases r2
    exact ⟨_, _, rfl, rfl, post_here s (.bl _) p⟩
  · cases e
def rRelS (f : Str → Str → Bool) : R2 := fun x y H Q => ∃ i j, x = .str i ∧ y = .str j ∧ Q (.bl (f i j)) H
def gRelS (f : Str → Str → Bool) : G2 := fun x y S => match x, y with
  | .str i, .str j => some (.ok (.bl (f i j)) S)
  | _, _ => none
theorem ok_relS {K : PySem.W.Frag} {mg : Str → Option Value} {f : Str → Str → Bool} : OkG2 K mg (rRelS f) (gRelS f) := fun W σ m S H x y d d' z Q s r1 r2 e p => by
  unfold gRelS at e
  split at e
  · cases e; cases r1; cases r2
    exact ⟨_, _, rfl, rfl, post_here s (.bl _) p⟩
  · cases e
def ltS (i j : Str) : Bool := decide (i.cps.toList < j.cps.toList)
def leS (i j : Str) : Bool := !decide (j.cps.toList < i.cps.toList)
def gtS (i j : Str) : Bool := decide (j.cps.toList < i.cps.toList)
def geS (i j : Str) : Bool := !decide (i.cps.toList < j.cps.toList)
theorem op_ltS : OpR X (compareOp .Lt) (rRelS ltS) := op_lt_str
theorem op_leS : OpR X (compareOp .LtE) (rRelS leS) := op_le_str
theorem op_gtS : OpR X (compareOp .Gt) (rRelS gtS) := op_gt_str
theorem op_geS : OpR X (compareOp .GtE) (rRelS geS) := op_ge_str
end
/-! ### a tuple of texts (and ints) of the table -/
theorem tup_rp {K : PySem.W.Frag} {a : Addr} {o : Obj} {its : Array Value} {k : Nat} {l : List PV} {xs : List V} (h : K.lookup a = some o) (hc : o.cls = .type "tuple") (hd : o.data = .seq its k) (hz : its.size ≤ sizeLine) (hv : Vals xs its.toList) (hr : ∀ H m n, RpL K H m n l xs) :
    ∀ H m n, Rp K H m n (.tup l) (.ref a) := fun H m n => .tup (.inr ⟨o, its, k, h, hc, hd, hz, hv⟩) (hr H m n)
end D

/-! D19: list.remove. -/
namespace D
open PySem PySem.Spec PyProof.Rows L2
def rRemD (K : PySem.W.Frag) : V → List V → Hp → VK → Prop := fun x xs H Q => ∃ (l : Addr) (vs : List V) (y : V) (ds : List PyData) (d : PyData) (j : Nat), x = .ref l ∧ xs = [y] ∧ H l = some (.lst vs) ∧ L2.DpAll K H vs ds ∧ L2.Dp K H y d ∧
  PyData.plainAll ds = true ∧ d.plain = true ∧ d.depth ≤ 60 ∧ SeqAt.dataPlace ds d = some j ∧ Q .non (upd H l (.lst (vs.eraseIdx j)))
theorem reads_all {X : Cx} {pins : List (Addr × Obj)} {σ : L2.St} {H : Hp} {s : Shared} (I : Inv X pins σ H s) : ∀ {xs : List V} {ds : List PyData} {us : List Value}, L2.DpAll X.K H xs ds → Vals xs us → ∃ as, ReadsAll s.heap us ds as
  | _, _, _, .nil, .nil => ⟨_, .nil⟩
  | _, _, _, .cons a b, .cons r t => by
    obtain ⟨as, h1⟩ := Dp.reads I _ _ _ a r
    obtain ⟨bs, h2⟩ := reads_all I b t
    exact ⟨_, .cons h1 h2⟩
theorem mt_removeD {X : Cx} (hu : X.A.units + 64 < cLine) : MtR X "list.remove" (rRemD X.K) := by
  intro pins s σ H x xs v us Q I rx rxs h
  obtain ⟨l, vs, y, ds, d, j, rfl, rfl, hH, hds, hd, pp, pd, dep, hp, q⟩ := h
  cases rx
  obtain ⟨u, rfl, ru⟩ := rxs.one
  obtain ⟨z, its, n, r, hl, e⟩ := I.lstM hH
  obtain ⟨as, r1⟩ := reads_all I hds r
  obtain ⟨bs, r2⟩ := Dp.reads I d y u hd ru
  refine SeqAt.remove_list_data (vs := its.toArray) ⟨_, e, rfl, n, rfl⟩ (by simpa using r1) r2 pp pd (by omega) hp (by rw [List.size_toArray]; omega) ?_
  have rr := r.eraseIdx j
  refine ⟨.non, _, I.lset (its' := its.eraseIdx j) (t' := s.toks) hH e ?_ rr ?_, rfl, q⟩
  · show its.toArray.eraseIdxIfInBounds j = (its.eraseIdx j).toArray
    rw [List.eraseIdxIfInBounds_toArray]
  · have := List.length_eraseIdx_le vs j
    omega
def gRemove : GM := fun o l S => match o, l with
  | .loc k, [y] => match S[k]? with
    | some (.lst xs) => match mapO (toD 60 S) xs, toD 60 S y with
      | some ds, some d => match SeqAt.dataPlace ds d with
        | some j => some (.ok .non (S.set k (.lst (xs.eraseIdx j))))
        | none => none
      | _, _ => none
    | _ => none
  | _, _ => none
theorem ok_removeD {K : PySem.W.Frag} {mg : Str → Option Value} : OkGM K mg (rRemD K) gRemove := fun W σ m S H o x c d z Q s ro r e p => by
  unfold gRemove at e
  split at e
  · cases ro with
    | loc hk =>
      cases r with
      | cons a b =>
        cases b
        split at e
        · rename_i xs e1
          split at e
          · rename_i ds dd hds hd
            split at e
            · rename_i j hj
              cases e
              obtain ⟨vs, h1, h2⟩ := s.obj _ _ e1
              obtain ⟨a1, a2, a3⟩ := mapO_dp (c := 60) (toD_dp s 60) hds h2
              obtain ⟨b1, b2, b3⟩ := toD_dp s 60 _ _ _ hd a
              exact ⟨_, vs, _, ds, dd, j, rfl, rfl, h1, a1, b1, a2, b2, b3, hj, list_set s e1 (h2.eraseIdx j) .non p⟩
            · cases e
          · cases e
        · cases e
  · cases e
/-! ### f() -/
section
variable {X : Cx} {W : WX} {k n : Nat} {f : Addr} {fd : FuncData} {ps : List Str} {F : DF} {x : Str} {p pos : Pos}
theorem pe_callSD0 {sp : Sp} {E : L2.St → XK} (F : FnOk X.prog X.w X.K X.mg X.base (L2.CX X.prog X.w) k f fd ps sp) (hr : Room k X.A) (hg : Gl X x) (hm : X.mg x = some (.ref f)) (hk : PySem.W.keepIn X.K (.ref f) = true) (hb : Binds X.K fd ps []) (hx : ∀ σ, PassesAt (L2.CX X.prog X.w) X σ (E σ))
    (hdb : (x == ("__debug__" : Str)) = false := by decide) : PE X (.Call (.Name x p) [] [] pos) (tCallSD sp [] E tNil) := by
  refine ⟨fun pins s σ H Q I h => ?_⟩
  refine wpAny_Call_Name_kw (ld_glob I hg hm ?_ hdb)
  exact PySem.W.callWith_K0 I.kIn hk (run_fnSD (us := []) F hr hb .nil (hx σ) I .nil h)
theorem de_call0 (G : FnOk X.prog X.w X.K X.mg X.base (L2.CX X.prog X.w) k f fd ps (spD X.K X.mg n F)) (hr : Room k X.A) (hg : Gl X x) (hm : X.mg x = some (.ref f)) (hk : PySem.W.keepIn X.K (.ref f) = true) (hb : Binds X.K fd ps []) (tk : Takes X W)
    (hF : ∀ args S r, F args S = some r → args.length = n) (hdb : (x == ("__debug__" : Str)) = false := by decide) : PEd X W (.Call (.Name x p) [] [] pos) (dOpA F dNil) := (pe_callSD0 G hr hg hm hk hb (fun σ => passAt tk σ) hdb).imp fun σ H Q h => by
  obtain ⟨m, ρ, S, r, s, e, hf, p⟩ := h
  have hf : F [] S = some r := hf
  exact ⟨hF _ _ _ hf, m, S, [], r, s, .nil, hf, post_sw p⟩
end
/-! ### defs that call themselves -/
def noF : DF := fun _ _ => none
theorem fnok_none {P : Program} {w : World} {K : PySem.W.Frag} {mg : Str → Option Value} {base : Heap} {k n : Nat} {f : Addr} {fd : FuncData} {ps : List Str} (hn : ps.length = n) : FnOk P w K mg base (L2.CX P w) k f fd ps (spD K mg n noF) :=
  ⟨fun vs H Q E h => by rw [h.1, hn], fun A outer s H args us vs Q E _ _ _ _ h => by
    obtain ⟨_, m, S, as, r, _, _, hf, _⟩ := h
    cases hf⟩
end D

/-! D20: name += e. -/
namespace D
open PySem PySem.Spec PyProof.Rows L2
def dAugN (i : Nat) (g : G2) (fe : DE) : DS := fun ρ S => match ρ[i]? with
  | some (some v) => bS ρ (fe ρ S) fun y S1 => bS ρ (g v y S1) fun z S2 => some (.next (ρ.set i (some z)) S2)
  | _ => none
def gAddA : G2 := fun x y S => match x, y with
  | .int i, .int j => some (.ok (.int (i + j)) S)
  | .str i, .str j => if i.length + j.length ≤ 16777216 then some (.ok (.str (i ++ j)) S) else none
  | _, _ => none
def rAddA : R2 := fun x y H Q => rAdd x y H Q ∨ rAddS x y H Q
section
variable {X : Cx} {W : WX} {x : Str} {e : Expr} {op : Operator} {r : R2} {g : G2} {fe : DE} {pos pos' : Pos}
theorem in_addA : InOp X .Add rAddA := fun pins s σ H x y u v Q I rx ry h => h.elim (in_add pins s σ H x y u v Q I rx ry) (in_addS pins s σ H x y u v Q I rx ry)
theorem ok_addA {K : PySem.W.Frag} {mg : Str → Option Value} : OkG2 K mg rAddA gAddA := fun W σ m S H x y d d' z Q s r1 r2 e p => by
  unfold gAddA at e
  split at e
  · cases e; cases r1; cases r2
    exact .inl ⟨_, _, rfl, rfl, post_here s (.int _) p⟩
  · split at e
    · rename_i hl
      cases e; cases r1; cases r2
      exact .inr ⟨_, _, rfl, rfl, by rw [sizeLine_eq]; omega, post_here s (.str _) p⟩
    · cases e
  · cases e
theorem ds_augN (i : Nat) (hN : X.N.Nodup) (hi : X.N[i]? = some x) (hx : Loc X.env.scope x) (hop : InOp X op r) (hg : OkG2 X.K X.mg r g) (he : PEd X W e fe) (hf : X.fn x = true ∨ X.env.scope.names.lookup x = some .local := by first | exact .inl rfl | exact .inr rfl | assumption) :
    PSd X W (.AugAssign (.Name x pos') op e pos) (dAugN i g fe) := (ps_aug hN hi hx he hop hf).imp fun D σ H h => by
  obtain ⟨m, ρ, S, r0, s, en, hf, p⟩ := h
  unfold dAugN at hf
  split at hf
  · rename_i v hv
    obtain ⟨x0, hx0, rx⟩ := en.at_ i v hv
    refine ⟨x0, hx0, ?_⟩
    cases q : fe ρ S with
    | none => rw [q] at hf; cases hf
    | some z1 =>
      rw [q] at hf
      cases z1 with
      | exc xn T =>
        cases hf
        exact ⟨m, ρ, S, .exc xn T, s, en, q, post_exc en p⟩
      | ok y T =>
        refine ⟨m, ρ, S, .ok y T, s, en, q, fun y' m2 H2 le x2 s2 ry => ?_⟩
        have hf : bS ρ (g v y T) (fun z S2 => some (.next (ρ.set i (some z)) S2)) = some r0 := hf
        have p2 := p.on le x2
        have en2 := en.mono x2 le
        cases q2 : g v y T with
        | none => rw [q2] at hf; cases hf
        | some z2 =>
          rw [q2] at hf
          refine hg W σ m2 T H2 x0 y' v y z2 _ s2 (rx.mono x2 le) ry q2 ?_
          cases z2 with
          | exc xn T2 =>
            cases hf
            exact post_exc en2 p2
          | ok z T2 =>
            cases hf
            exact fun z' m3 H3 le3 x3 s3 rz => p2 (σ.set i (some z')) m3 H3 le3 x3 s3 ((en2.mono x3 le3).set rz)
  · cases hf
end
end D

/-! D21: d.get(k), d.get(k, x); dicts of the module; list.index. -/
namespace D
open PySem PySem.Spec PyProof.Rows L2
/-! ### d.get -/
def gGetD : PV → PV → PV → Sto → Option (R PV) := fun x y z S => match x with
  | .loc k => match dctOf S k, kP y with
    | some kvs, some q => some (.ok ((valD kvs q).getD z) S)
    | _, _ => none
  | _ => none
def isDct (x : PV) (S : Sto) : Bool := match x with
  | .loc k => (dctOf S k).isSome
  | _ => false
noncomputable def dGet2 (fo fk fx : DE) : DE := fun ρ S => bR (fo ρ S) fun x S1 => if isDct x S1 = true then bR (fk ρ S1) fun y S2 => bR (fx ρ S2) fun z S3 => gGetD x y z S3 else none
noncomputable def dGet1 (fo fk : DE) : DE := fun ρ S => bR (fo ρ S) fun x S1 => if isDct x S1 = true then bR (fk ρ S1) fun y S2 => gGetD x y .non S2 else none
section
variable {X : Cx} {W : WX} {o e f : Expr} {fo fk fx : DE} {apos cpos : Pos}
theorem isD_of {K : PySem.W.Frag} {mg : Str → Option Value} {H : Hp} {m : Nat → Addr} {S : Sto} {x : PV} {v : V} (s : StS K mg m S H) (h : isDct x S = true) (r : Rp K H m S.length x v) : ∃ a, v = .ref a ∧ IsD H a := by
  unfold isDct at h
  split at h
  · cases r
    obtain ⟨kvs, hk⟩ := Option.isSome_iff_exists.mp h
    obtain ⟨kv, h1, _⟩ := dct_rd s hk
    exact ⟨_, rfl, .inl ⟨kv, h1⟩⟩
  · cases h
theorem get_ok {K : PySem.W.Frag} {mg : Str → Option Value} {σ : L2.St} {H : Hp} {m : Nat → Addr} {S : Sto} {x y z : PV} {v u t : V} {r : R PV} {Q : VK} (s : StS K mg m S H) (r1 : Rp K H m S.length x v) (r2 : Rp K H m S.length y u) (r3 : Rp K H m S.length z t) (h : gGetD x y z S = some r) (p : PostG K mg (rE K) W σ m S H r Q) :
    ∃ a oo, v = .ref a ∧ DGet H a u oo ∧ Q (oo.getD t) H := by
  unfold gGetD at h
  split at h
  · split at h
    · rename_i kvs q e1 e2
      cases h
      cases r1
      obtain ⟨kv, h1, h2⟩ := dct_rd s e1
      have hy := kP_rp e2 r2
      subst hy
      refine ⟨_, valV kv q, rfl, .inl ⟨kv, q, h1, rfl, rfl⟩, ?_⟩
      rcases valD_rp (k := q) h2 with ⟨g1, g2⟩ | ⟨d, w, g1, g2, g3⟩
      · rw [g1] at p
        rw [g2]
        exact post_here s r3 p
      · rw [g1] at p
        rw [g2]
        exact post_here s g3 p
    · cases h
  · cases h
theorem de_get2 (hu : X.A.units + 1 < cLine) (ho : PEd X W o fo) (he : PEd X W e fk) (hf : PEd X W f fx) (mm : M2 X o "get" apos e f cpos) : PEd X W (.Call (.Attribute o "get" apos) [e, f] [] cpos) (dGet2 fo fk fx) := (pe_dget2 hu ho he hf mm).imp fun σ H Q h => by
  refine (bind1 (ra := rE X.K) (k := fun ρ x S1 => if isDct x S1 = true then bR (fk ρ S1) fun y S2 => bR (fx ρ S2) fun z S3 => gGetD x y z S3 else none) h).mono fun v H1 ⟨m, ρ, S, d, r, s, en, r1, hk, p⟩ => ?_
  split at hk
  · rename_i hd
    obtain ⟨a, rfl, ha⟩ := isD_of s hd r1
    refine ⟨a, rfl, ha, ?_⟩
    have hk : bR (fk ρ S) (fun y S2 => bR (fx ρ S2) fun z S3 => gGetD d y z S3) = some r := hk
    cases q : fk ρ S with
    | none => rw [q] at hk; cases hk
    | some z1 =>
      rw [q] at hk
      cases z1 with
      | exc xn T =>
        cases hk
        exact ⟨m, ρ, S, .exc xn T, s, en, q, p⟩
      | ok y T =>
        refine ⟨m, ρ, S, .ok y T, s, en, q, fun y' m2 H2 le x2 s2 ry => ?_⟩
        have hk : bR (fx ρ T) (fun z S3 => gGetD d y z S3) = some r := hk
        cases q2 : fx ρ T with
        | none => rw [q2] at hk; cases hk
        | some z2 =>
          rw [q2] at hk
          cases z2 with
          | exc xn T2 =>
            cases hk
            exact ⟨m2, ρ, T, .exc xn T2, s2, en.mono x2 le, q2, p.on le x2⟩
          | ok z T2 =>
            refine ⟨m2, ρ, T, .ok z T2, s2, en.mono x2 le, q2, fun z' m3 H3 le3 x3 s3 rz => ?_⟩
            obtain ⟨a', oo, ea, g1, g2⟩ := get_ok (W := W) (σ := σ) s3 (r1.mono (x2.trans x3 le) (Nat.le_trans le le3)) (ry.mono x3 le3) rz hk (p.on (Nat.le_trans le le3) (x2.trans x3 le))
            cases ea
            exact ⟨oo, g1, g2⟩
  · cases hk
theorem de_get1 (hu : X.A.units + 1 < cLine) (ho : PEd X W o fo) (he : PEd X W e fk) (mm : M1 X o "get" apos e cpos) : PEd X W (.Call (.Attribute o "get" apos) [e] [] cpos) (dGet1 fo fk) := (pe_dget1 hu ho he mm).imp fun σ H Q h => by
  refine (bind1 (ra := rE X.K) (k := fun ρ x S1 => if isDct x S1 = true then bR (fk ρ S1) fun y S2 => gGetD x y .non S2 else none) h).mono fun v H1 ⟨m, ρ, S, d, r, s, en, r1, hk, p⟩ => ?_
  split at hk
  · rename_i hd
    obtain ⟨a, rfl, ha⟩ := isD_of s hd r1
    refine ⟨a, rfl, ha, ?_⟩
    have hk : bR (fk ρ S) (fun y S2 => gGetD d y .non S2) = some r := hk
    cases q : fk ρ S with
    | none => rw [q] at hk; cases hk
    | some z1 =>
      rw [q] at hk
      cases z1 with
      | exc xn T =>
        cases hk
        exact ⟨m, ρ, S, .exc xn T, s, en, q, p⟩
      | ok y T =>
        refine ⟨m, ρ, S, .ok y T, s, en, q, fun y' m2 H2 le x2 s2 ry => ?_⟩
        obtain ⟨a', oo, ea, g1, g2⟩ := get_ok (W := W) (σ := σ) s2 (r1.mono x2 le) ry (.non : Rp X.K H2 m2 T.length .non .non) hk (p.on le x2)
        cases ea
        exact ⟨oo, g1, g2⟩
  · cases hk
end
end D

/-! D22: text.index, list.index. -/
namespace D
open PySem PySem.Spec PyProof.Rows L2
def gIndexS : GM := fun o l S => match o, l with
  | .str a, [.str b] => match Builtin.Str.occurrences a b 0 a.length 1 with
    | i :: _ => some (.ok (.int (i : Nat)) S)
    | [] => none
  | _, _ => none
def rIndexS : V → List V → Hp → VK → Prop := fun x xs H Q => ∃ a b i rest, x = .str a ∧ xs = [.str b] ∧ Builtin.Str.occurrences a b 0 a.length 1 = i :: rest ∧ Q (.int (i : Nat)) H
theorem mt_indexS {X : Cx} : MtR X "str.index" rIndexS := mt_sindex
theorem ok_indexS {K : PySem.W.Frag} {mg : Str → Option Value} : OkGM K mg rIndexS gIndexS := fun W σ m S H o x c d z Q s ro r e p => by
  unfold gIndexS at e
  split at e
  · split at e
    · rename_i i rest ho
      cases e
      cases ro
      cases r with
      | cons a b =>
        cases b; cases a
        exact ⟨_, _, i, rest, rfl, rfl, ho, post_here s (.int _) p⟩
    · cases e
  · cases e
/-! ### list.index -/
theorem Room.units65 {k : Nat} {A : Around} (r : Room k A) : A.units + 65 < cLine := by have := r.un; omega
def gIndexL : GM := fun o l S => match o, l with
  | .loc k, [y] => match toD 60 S (.loc k), toD 60 S y with
    | some (.list ds), some d => if SeqAt.shaped (.list ds) = true ∧ SeqAt.shaped d = true then match ds.findIdx? (fun z => PyData.eqv z d) with
      | some j => some (.ok (.int (j : Nat)) S)
      | none => none else none
    | _, _ => none
  | _, _ => none
theorem ok_indexL {K : PySem.W.Frag} {mg : Str → Option Value} : OkGM K mg (rIndexD K) gIndexL := fun W σ m S H o x c d z Q s ro r e p => by
  unfold gIndexL at e
  split at e
  · cases r with
    | cons a b =>
      cases b
      split at e
      · rename_i ds dd h1 h2
        split at e
        · rename_i hs
          split at e
          · rename_i j hj
            cases e
            obtain ⟨a1, _, _⟩ := toD_dp s 60 _ _ _ h1 ro
            obtain ⟨b1, _, _⟩ := toD_dp s 60 _ _ _ h2 a
            cases ro
            rw [List.findIdx?_eq_some_iff_getElem] at hj
            obtain ⟨hjl, hje, hjn⟩ := hj
            refine ⟨_, _, dd, ds, j, ds[j], rfl, rfl, a1, b1, hs.1, hs.2, List.getElem?_eq_getElem hjl, hje, fun k z' hk ez => ?_, post_here s (.int _) p⟩
            obtain ⟨hkl, rfl⟩ := List.getElem?_eq_some_iff.mp ez
            simpa using hjn k hk
          · cases e
        · cases e
      · cases e
  · cases e
end D

/-! D23: dicts of the module, their keys texts. -/
namespace D
open PySem PySem.Spec PyProof.Rows L2
/-- the dict at a is l -/
structure KD (K : PySem.W.Frag) (a : Addr) (es : Array DictEntry) (n : Nat) (l : List (Str × PV)) : Prop where
  look : K.lookup a = some ⟨.type "dict", none, .dict es n, #[]⟩
  yes : ∀ z pv, l.lookup z = some pv → ∃ u v, PySem.W.nsIn K a z = some (some u) ∧ RelV v u ∧ ∀ H m n, Rp K H m n pv v
  no : ∀ z, l.lookup z = none → PySem.W.nsIn K a z = some none
  low : (a == sysModules) = false
def dKin (neg : Bool) (l : List (Str × PV)) (fe : DE) : DB := fun ρ S => bR (fe ρ S) fun x S1 => match x with
  | .str z => some (.ok (if neg then !(l.lookup z).isSome else (l.lookup z).isSome) S1)
  | _ => none
def dKix (l : List (Str × PV)) (fe : DE) : DE := fun ρ S => bR (fe ρ S) fun x S1 => match x with
  | .str z => match l.lookup z with
    | some v => some (.ok v S1)
    | none => none
  | _ => none
section
variable {X : Cx} {W : WX} {e : Expr} {fe : DE} {x : Str} {a : Addr} {es : Array DictEntry} {n : Nat} {l : List (Str × PV)} {p pos : Pos}
theorem kd_nsO (K0 : KD X.K a es n l) (z : Str) : ∃ r, PySem.W.nsIn X.K a z = some r ∧ r.isSome = (l.lookup z).isSome := by
  cases q : l.lookup z with
  | none => exact ⟨_, K0.no z q, rfl⟩
  | some pv =>
    obtain ⟨u, v, h, _⟩ := K0.yes z pv q
    exact ⟨_, h, rfl⟩
theorem de_kix (K0 : KD X.K a es n l) (lit : PySem.W.KeysLit X.w.params es.toList) (hg : Gl X x) (hm : X.mg x = some (.ref a)) (he : PEd X W e fe) (hs : PlainIx e := by intro _ _; rfl) (hd : (x == ("__debug__" : Str)) = false := by decide) :
    PEd X W (.Subscript (.Name x p) e pos) (dKix l fe) := (pe_ix ix_kdict (pe_glob (v := .ref a) hg hm rfl hd) he hs).imp fun σ H Q h => by
  refine (bind1 (ra := rE X.K) (k := fun ρ x S1 => match x with
    | .str z => match l.lookup z with
      | some v => some (.ok v S1)
      | none => none
    | _ => none) h).mono fun v H1 ⟨m, ρ, S, d, r, s, en, r1, hk, p⟩ => ?_
  split at hk
  · split at hk
    · rename_i z _ pv hz
      cases hk
      cases r1
      obtain ⟨u, v0, e1, e2, e3⟩ := K0.yes z pv hz
      exact ⟨a, z, v0, rfl, rfl, ⟨es, n, u, K0.look, lit, e1, e2⟩, p v0 m H1 (Nat.le_refl _) Ext.refl s (e3 _ _ _)⟩
    · cases hk
  · cases hk
theorem dt_kin (K0 : KD X.K a es n l) (lit : PySem.W.KeysLit X.w.params es.toList) (hg : Gl X x) (hm : X.mg x = some (.ref a)) (he : PEd X W e fe) (hd : (x == ("__debug__" : Str)) = false := by decide) (hb : behindInMarks .In (.Name x p) = false := by with_unfolding_all rfl) :
    PTd X W (.Compare e [.In] [.Name x p] pos) (dKin false l fe) := (pt_cmpR (op_in_kd ⟨K0.look, lit, K0.low⟩) he (pe_glob (v := .ref a) hg hm rfl hd) hb).imp fun σ H Q h => by
  refine (bind1 (ra := rE X.K) (k := fun ρ x S1 => match x with
    | .str z => some (.ok (if false = true then !(l.lookup z).isSome else (l.lookup z).isSome) S1)
    | _ => none) h).mono fun v H1 ⟨m, ρ, S, d, r, s, en, r1, hk, p⟩ => ?_
  split at hk
  · rename_i z
    cases hk
    cases r1
    obtain ⟨r, h1, h2⟩ := kd_nsO K0 z
    exact ⟨z, r, rfl, rfl, h1, _, rfl, p _ m H1 (Nat.le_refl _) Ext.refl s (show (if false = true then !(l.lookup z).isSome else (l.lookup z).isSome) = r.isSome from h2.symm)⟩
  · cases hk
end
/-- the entries of a dict of the module, keys and values texts -/
inductive Ents (Pr : Params) : List DictEntry → List (Str × PV) → Prop where
  | nil : Ents Pr [] []
  | cons {x y : Str} {t t' : Tok} {es : List DictEntry} {l : List (Str × PV)} : Ents Pr es l → Ents Pr (⟨PyData.keyHash Pr x, .str x t, .str y t'⟩ :: es) ((x, .str y) :: l)
theorem ents_lit {Pr : Params} : ∀ {es : List DictEntry} {l : List (Str × PV)}, Ents Pr es l → PySem.W.KeysLit Pr es
  | _, _, .nil => trivial
  | _, _, .cons h => ⟨⟨_, _, rfl, rfl⟩, ents_lit h⟩
theorem ents_any {Pr : Params} : ∀ {es : List DictEntry} {l : List (Str × PV)}, Ents Pr es l → es.any (·.refKey) = false
  | _, _, .nil => rfl
  | _, _, .cons h => by rw [List.any_cons, ents_any h]; rfl
theorem ents_find {Pr : Params} (z : Str) : ∀ {es : List DictEntry} {l : List (Str × PV)}, Ents Pr es l →
    (∃ e y t, es.find? (·.key.isStr z) = some e ∧ e.val = .str y t ∧ l.lookup z = some (.str y)) ∨ (es.find? (·.key.isStr z) = none ∧ l.lookup z = none)
  | _, _, .nil => .inr ⟨rfl, rfl⟩
  | _, _, .cons (x := x) (y := y) (t := t) (t' := t') h => by
    have q : (Value.str x t).isStr z = (x == z) := rfl
    rw [List.find?_cons, List.lookup_cons]
    dsimp only
    rw [q]
    by_cases hx : x = z
    · subst hx
      rw [beq_self_eq_true]
      exact .inl ⟨_, y, t', rfl, rfl, rfl⟩
    · rw [beq_eq_false_iff_ne.mpr hx, beq_eq_false_iff_ne.mpr (Ne.symm hx)]
      exact ents_find z h
theorem kd_mk {Pr : Params} {K : PySem.W.Frag} {a : Addr} {es : Array DictEntry} {n : Nat} {l : List (Str × PV)} (hl : K.lookup a = some ⟨.type "dict", none, .dict es n, #[]⟩) (h : Ents Pr es.toList l) (low : (a == sysModules) = false) : KD K a es n l where
  look := hl
  low := low
  yes := fun z pv hz => by
    rcases ents_find z h with ⟨e, y, t, h1, h2, h3⟩ | ⟨h1, h2⟩
    · rw [hz] at h3
      cases h3
      refine ⟨.str y t, .str y, ?_, ⟨_, rfl⟩, fun _ _ _ => .str _⟩
      unfold PySem.W.nsIn
      rw [hl]
      dsimp only
      rw [h1]
      dsimp only
      rw [h2]
    · rw [hz] at h2
      cases h2
  no := fun z hz => by
    rcases ents_find z h with ⟨e, y, t, h1, h2, h3⟩ | ⟨h1, h2⟩
    · rw [hz] at h3
      cases h3
    · unfold PySem.W.nsIn
      rw [hl]
      dsimp only
      rw [h1]
      dsimp only
      rw [ents_any h]
      rfl
end D

/-! D24: text * int, tuple * int. -/
namespace D
open PySem PySem.Spec PyProof.Rows L2
/-! ### text * int -/
def repS (s : Str) (k : Int) : Str := ⟨(List.replicate k.toNat s.cps).foldl (· ++ ·) #[]⟩
theorem foldl_rep_toList (a : Array Nat) : ∀ (n : Nat) (b : Array Nat), ((List.replicate n a).foldl (· ++ ·) b).toList = b.toList ++ (List.replicate n a.toList).flatten
  | 0, b => by simp
  | n + 1, b => by
    rw [List.replicate_succ, List.foldl_cons, foldl_rep_toList a n, List.replicate_succ, List.flatten_cons, Array.toList_append, List.append_assoc]
theorem repS_cps (s : Str) (k : Int) : (repS s k).cps.toList = (List.replicate k.toNat s.cps.toList).flatten := by
  have := foldl_rep_toList s.cps k.toNat #[]
  simpa [repS] using this
theorem str_ext {a b : Str} (h : a.cps.toList = b.cps.toList) : a = b := by
  cases a; cases b
  congr 1
  exact Array.toList_inj.mp h
def rMulS : R2 := fun x y H Q => ∃ s k, x = .str s ∧ y = .int k ∧ -1000 ≤ k ∧ k ≤ 100000 ∧ s.length ≤ 100 ∧ Q (.str (repS s k)) H
theorem op_mulS {X : Cx} : OpR X (binaryOp .Mult) rMulS := by
  intro pins s σ H x y v u Q I rx ry h
  obtain ⟨z, k, rfl, rfl, h1, h2, h3, q⟩ := h
  obtain ⟨t, rfl⟩ := rx
  obtain ⟨t', rfl⟩ := ry
  refine PySem.P.mul_str ?_ (fun a b => ?_) (fun a b => ?_) ?_
  · rw [decide_eq_false (by omega), decide_eq_false (by omega)] <;> rfl
  · have hk : 0 < k := by omega
    have e : (2 ^ 63 - 1 : Int) / k ≥ 100 := by
      refine (Int.le_ediv_iff_mul_le hk).mpr ?_
      omega
    omega
  · unfold PySem.Builtin.Str.tooLong
    have : z.length * k.toNat ≤ 100 * 100000 := Nat.mul_le_mul h3 (by omega)
    rw [sizeLine_eq]
    exact decide_eq_false (by omega)
  · have fin : ∀ w : Str, w = repS z k → ∀ t tk, (EP X pins σ Q) (.str w t) { s with toks := tk } := fun w hw t tk => by
      rw [hw]
      exact ⟨.str (repS z k), H, I.tok _, ⟨_, rfl⟩, q⟩
    have e0 : ∀ n : Nat, k.toNat = n → (repS z k).cps.toList = (List.replicate n z.cps.toList).flatten := fun n hn => by rw [repS_cps, hn]
    by_cases a : k < 1
    · rw [if_pos a]
      refine ⟨by decide, fin _ (str_ext ?_) _ _⟩
      rw [e0 0 (by omega)]
      rfl
    · rw [if_neg a]
      by_cases b : (k == 1 || z.length == 0) = true
      · rw [if_pos b]
        refine ⟨.str (repS z k), H, I, ?_, q⟩
        have : repS z k = z := by
          refine str_ext ?_
          rw [Bool.or_eq_true, beq_iff_eq, beq_iff_eq] at b
          rcases b with b | b
          · rw [e0 1 (by omega)]; simp
          · have hz : z.cps.toList = [] := List.eq_nil_of_length_eq_zero (by simpa [Str.length] using b)
            rw [repS_cps, hz]
            simp
        rw [this]
        exact ⟨_, rfl⟩
      · rw [if_neg b]
        refine ⟨?_, fin _ rfl _ _⟩
        have l : (repS z k).cps.toList.length = k.toNat * z.cps.toList.length := by rw [repS_cps]; simp
        have l2 : z.cps.toList.length = z.length := by simp [Str.length]
        have l3 : k.toNat * z.length ≤ 100000 * 100 := Nat.mul_le_mul (by omega) h3
        have : (repS z k).length ≤ sizeLine := by
          rw [sizeLine_eq]
          have : (repS z k).length = (repS z k).cps.toList.length := by simp [Str.length]
          rw [this, l, l2]
          omega
        exact this
def gMulS : G2 := fun x y S => match x, y with
  | .str z, .int k => if -1000 ≤ k ∧ k ≤ 100000 ∧ z.length ≤ 100 then some (.ok (.str (repS z k)) S) else none
  | _, _ => none
theorem ok_mulS {K : PySem.W.Frag} {mg : Str → Option Value} : OkG2 K mg rMulS gMulS := fun W σ m S H x y d d' z Q s r1 r2 e p => by
  unfold gMulS at e
  split at e
  · cases r1; cases r2
    split at e
    · rename_i h
      cases e
      exact ⟨_, _, rfl, rfl, h.1, h.2.1, h.2.2, post_here s (.str _) p⟩
    · cases e
  · cases e
/-! ### a comprehension within a comprehension -/
theorem look_relab {c : Str × NameKind → Bool} {x : Str} : ∀ names : List (Str × NameKind), (names.lookup x = some .cell ∨ names.lookup x = some .free) → ((names.map fun (n, k) => if c (n, k) then (n, NameKind.cell) else (n, k)).lookup x = some .cell ∨ (names.map fun (n, k) => if c (n, k) then (n, NameKind.cell) else (n, k)).lookup x = some .free)
  | [], h => by simp at h
  | (n, k) :: r, h => by
    have ih := look_relab (c := c) (x := x) r
    rw [List.lookup_cons] at h
    rw [List.map_cons]
    dsimp only
    by_cases hx : x = n
    · subst hx
      rw [beq_self_eq_true] at h
      dsimp only at h
      by_cases hc : c (x, k) = true
      · rw [if_pos hc, List.lookup_cons, beq_self_eq_true]
        exact .inl rfl
      · rw [if_neg hc, List.lookup_cons, beq_self_eq_true]
        exact h
    · have e : (x == n) = false := beq_eq_false_iff_ne.mpr hx
      rw [e] at h
      by_cases hc : c (n, k) = true
      · rw [if_pos hc, List.lookup_cons, e]
        exact ih h
      · rw [if_neg hc, List.lookup_cons, e]
        exact ih h
theorem blkOk_in {X : Cx} {s : Shared} {H : Hp} {scope0 scope : Scope} {cl : List (Str × Addr)} {C : Addr} {env : Env} {fp : List Addr} {N : List Str} {own : List (Str × Nat)} (hN : X.N = N) (h : BlkOk N scope0 scope own) :
    BlkOk (X.blk s H scope0 (compEnvC scope0 cl C env) fp).N (X.blk s H scope0 (compEnvC scope0 cl C env) fp).env.scope scope own := by
  subst hN
  refine ⟨h.kind, h.uniq, h.ix, fun y hy e => ?_, h.own⟩
  exact look_relab (c := fun p => p.2 == NameKind.free && env.scope.kind == .function && env.kindOf p.1 == some .cell) scope0.names (h.free y hy e)
/-! ### tuple * int -/
theorem tuple_mul1 (l : Addr) (items : Array Value) (n : Nat) (dd : Option Addr) (sl : Array (Option Value)) (u : Tok) :
    Meets (Builtin.«tuple.__mul__» ⟨[.ref l, .int 1 u], []⟩) (fun _ R s => s.heap.get? l = some { cls := .type "tuple", dict := dd, data := .seq items n, slots := sl } ∧ R (.ok (.ret (Value.ref l))) s) :=
  .of_wp fun prog w A R s h => by
    obtain ⟨hp, g, d, tk, os⟩ := s
    obtain ⟨hl, h⟩ := h
    have f1 := AutoSeq1.idx_int
    have c1 : (items.isEmpty || (1 : Int) == 1) = true := by simp
    wp_walk using wpAny_loadPart' hl
    repeat (first
      | (refine wpAny_ite_false (decide_eq_false (by decide)) ?_; wp_walk using wpAny_loadPart' hl)
      | (refine wpAny_ite_true (decide_eq_true (by rw [c1])) ?_; wp_walk using wpAny_loadPart' hl))
    exact ⟨_, rfl, h⟩
def rRepT1 (K : PySem.W.Frag) : R2 := fun x y H Q => (∃ l xs, x = .ref l ∧ y = .int 1 ∧ SqT K H l xs ∧ Q (.ref l) H) ∨ rRepT K x y H Q
theorem op_rep1 {X : Cx} : OpR X (binaryOp .Mult) (rRepT1 X.K) := by
  intro pins s σ H x y v u Q I rx ry h
  rcases h with ⟨l, xs, rfl, rfl, hT, q⟩ | h
  · cases rx
    obtain ⟨t, rfl⟩ := ry
    obtain ⟨its, r, ⟨⟨cls, dd, data, sl⟩, ho, hc, n, hd⟩, hs⟩ := I.tuple hT
    simp only at hc hd
    subst hc hd
    refine wpAny_binaryOp_repeat_ref (T := "tuple") (U := "int") (by decide) ⟨_, ho, rfl⟩ (fun s' => typeIs_int s' 1 t) noFill_tuple_mul F.fills_int_mul F.slot_int_rmul repeat_tuple F.slot_int_index.lookup
      (call_meets F.slot_int_rmul (typeIs_int s 1 t) F.entry_int_rmul (F.args_int_rmul_2 _ _) (int_rmul_tuple 1 t l its.toArray n dd sl)
        ⟨ho, rfl, ⟨_, ho, rfl⟩, call_meets F.slot_tuple_mul ⟨_, ho, rfl⟩ F.entry_tuple_mul (F.args_tuple_mul_2 _ _) (tuple_mul1 l its.toArray n dd sl t) ⟨ho, ?_⟩⟩)
    exact ⟨.ref l, H, I, rfl, q⟩
  · exact op_repT pins s σ H x y v u Q I rx ry h
def gRepT : G2 := fun x y S => match x, y with
  | .tup l, .int k => if k = 1 then some (.ok (.tup l) S) else if l ≠ [] ∧ 2 ≤ k ∧ k ≤ 1000 ∧ l.length ≤ 1000 then some (.ok (.tup (List.replicate k.toNat l).flatten) S) else none
  | _, _ => none
theorem ok_repT {K : PySem.W.Frag} {mg : Str → Option Value} : OkG2 K mg (rRepT1 K) gRepT := fun W σ m S H x y d d' z Q s r1 r2 e p => by
  unfold gRepT at e
  split at e
  · rename_i l k
    cases r1 with
    | @tup _ a xs h1 q1 => cases r2 with
      | int i =>
        split at e
        · rename_i hk
          subst hk
          cases e
          exact .inl ⟨a, xs, rfl, rfl, h1, post_here s (.tup h1 q1) p⟩
        · split at e
          · rename_i h
            cases e
            exact .inr ⟨a, k, xs, rfl, rfl, h1, fun z => h.1 ((nil_iff q1).mpr z), h.2.1, h.2.2.1, by rw [← q1.length]; exact h.2.2.2, new_tup s (q1.flat_rep _) p⟩
          · cases e
  · cases e
end D

/-! D25: sorted(t), t a tuple of data. -/
namespace D
open PySem PySem.Spec PyProof.Rows L2
section
open PySem.W PySem.Calls
variable {prog : Program} {w : World} {A : Around} {E : Value → Shared → Prop} {s : Shared} {β : Type} {vs : List Value} {bs : List β} {enc : β → PyData} {R : Value → β → Prop}
theorem collect_tup {l : Addr} {vs : List Value} {Q : List Value → Shared → Prop} (hl : IsTup s.heap l vs.toArray)
    (h : Q vs { s with heap := (s.heap.push (seqObj "list" #[] 0)).update s.heap.objs.size (Obj.mapSeq (· ++ vs.toArray)) }) (hsz : vs.length ≤ sizeLine) :
    wpAny (model prog w) A (collect (.ref l)) Q E s := by
  obtain ⟨o, ho, hc, n, hd⟩ := id hl
  unfold collect
  refine wpAny_bind (wpAny_runValue (codeAny_builtin entry_proto_collect' ?_))
  show wpAny _ _ (do again (.builtin "list.__iadd__" ⟨[← newList [], .ref l], []⟩)) _ _ s
  refine wpAny_bind (wpAny_newList (wpAny_pure ⟨Code.quiet_builtin _ (by decide +kernel), codeAny_builtin entry_list_iadd' ?_⟩))
  show wpAny _ _ (Builtin.List.listExtendWith (.ref s.heap.objs.size) (.ref l) (.ref s.heap.objs.size)) _ _ { s with heap := s.heap.push (seqObj "list" #[] 0) }
  unfold Builtin.List.listExtendWith
  have ho' : (s.heap.push (seqObj "list" #[] 0)).get? l = some o := Heap.get?_push_of_some _ ho
  refine wpAny_bind (wpAny_typeOf (T := "tuple") ⟨o, ho', hc⟩ ?_)
  have ht : (Value.type "tuple" == Value.type "tuple") = true := by rfl
  rw [if_pos (by rw [ht]; simp)]
  refine wpAny_bind (listItems_at ho' hd ?_)
  refine wpAny_bind (listItems_at (xs := #[]) (n := 0) (Heap.get?_push_size _ rfl) rfl ?_)
  rw [if_neg (by simp)]
  refine wpAny_bind (listUpdate_at (xs := #[]) (n := 0) (Heap.get?_push_size _ rfl) rfl ?_ (Nat.zero_le _) (by show (#[] ++ vs.toArray).size ≤ sizeLine + 1; simp only [Array.size_append, List.size_toArray, List.length_nil]; omega))
  refine wpAny_pure ?_
  show wpAny (model prog w) A (do
      let o ← load s.heap.objs.size
      match o.data with
      | .seq xs _ => pure xs.toList
      | _ => unsupported "internal:collect") Q E { s with heap := (s.heap.push (seqObj "list" #[] 0)).update s.heap.objs.size (Obj.mapSeq (· ++ vs.toArray)) }
  refine wpAny_bind (wpAny_load (get?_update_seq (Heap.get?_push_size _ rfl) _) ?_)
  show wpAny _ _ (pure ((#[] : Array Value) ++ vs.toArray).toList) Q E _
  rw [show ((#[] : Array Value) ++ vs.toArray).toList = vs by simp]
  exact wpAny_pure h
theorem sortedT_of_sort {l : Addr} {vs : List Value} {Q : Value → Shared → Prop} (hl : IsTup s.heap l vs.toArray) (hL : vs.length ≤ sizeLine)
    (body : ∀ E' : Value → Shared → Prop, wpAny (model prog w) A.in1.in1 (Builtin.«list.sort» ⟨[.ref (s.heap.objs.size + 1)], []⟩) (fun f s' => f = .done (.ret .none) ∧ Q (.ref (s.heap.objs.size + 1)) s') E' { s with heap := copyHeap s.heap vs }) :
    wpAny (model prog w) A (call (.builtin "sorted") [.ref l] []) Q E s := by
  refine call_function_entry_kw kind_sorted plain_sorted entry_sorted (args_sorted1 _) ?_
  unfold Builtin.«sorted»
  refine wpAny_bind (m := checkCount "sorted" 1 1 _) (wpAny_pure ?_)
  refine wpAny_bind (collect_tup hl ?_ hL)
  refine wpAny_bind (wpAny_newList ?_ hL)
  have hsz : ((s.heap.push (seqObj "list" #[] 0)).update s.heap.objs.size (Obj.mapSeq (· ++ vs.toArray))).objs.size = s.heap.objs.size + 1 := by
    rw [Heap.size_update, size_push']
  show wpAny _ _ _ _ _ { s with heap := copyHeap s.heap vs }
  rw [hsz]
  refine wpAny_bind (wpAny_holding (wpAny_call_entry_kw slot_list_sort ⟨_, copyHeap_at s.heap vs, rfl⟩ entry_list_sort ?body (args_list_sort _)))
  case body =>
    show wpAny (model prog w) A.in1.in1 (Builtin.«list.sort» ⟨[.ref (s.heap.objs.size + 1)], []⟩) _ _ _
    refine wpAny_mono (body _) (fun f s' hf => ?_) fun _ _ e => e
    obtain ⟨rfl, hq⟩ := hf
    exact ⟨_, rfl, wpAny_pure ⟨_, rfl, hq⟩⟩
theorem sortedT_data {l : Addr} {Q : Value → Shared → Prop} (hl : IsTup s.heap l vs.toArray) (e : EachIs R vs bs) (er : EachIs (fun v b => ∃ as, Reads s.heap v (enc b) as) vs bs) (hal : AllAlike (bs.map enc)) (hk : Sortable (bs.map enc)) (hL : bs.length ≤ sizeLine)
    (hu : ∀ b, b ∈ bs → A.units + 2 + (enc b).depth < cLine) (h : ∀ out, out.length = bs.length → EachIs R out (bs.mergeSort (dataLe false enc)) → Q (.ref (s.heap.objs.size + 1)) { s with heap := sortedAll s.heap vs (List.toArray out) }) :
    wpAny (model prog w) A (call (.builtin "sorted") [.ref l]) Q E s := by
  have er' : EachIs (fun v b => ∃ as, Reads (sortingHeap (copyHeap s.heap vs) (s.heap.objs.size + 1) vs) v (enc b) as) vs bs := er.mono fun _ _ ⟨as, r⟩ => ⟨as, PyProof.Rows.Reads.keeps (fun _ _ => sorting_copy_old) r⟩
  have hL' : vs.length ≤ sizeLine := by rw [e.length]; exact hL
  refine sortedT_of_sort hl hL' fun _ => list_sort_vals (s := { s with heap := copyHeap s.heap vs }) (copyHeap_at s.heap vs) (SortsAt.data (s := { s with heap := sortingHeap (copyHeap s.heap vs) (s.heap.objs.size + 1) vs }) (each_map (R := fun v d => ∃ as, Reads (sortingHeap (copyHeap s.heap vs) (s.heap.objs.size + 1) vs) v d as) enc er') hal hk (bound_map hu)) hL' ⟨rfl, ?_⟩
  exact h _ (by rw [sortVals_length false rfl]; exact e.length) (sortVals_data false e er' hal)
end
def rSortT (K : PySem.W.Frag) : List V → Hp → VK → Prop := fun vs H Q => ∃ (a : Addr) (xs : List V) (ds : List PyData), vs = [V.ref a] ∧ SqT K H a xs ∧ L2.DpAll K H xs ds ∧ PySem.W.AllAlike ds ∧ PySem.W.Sortable ds ∧ (∀ d ∈ ds, d.depth ≤ 40) ∧
  ∀ p, H p = none → Q (.ref p) (upd H p (.lst (((xs.zip ds).mergeSort (PySem.W.dataLe false Prod.snd)).map Prod.fst)))
theorem cr_sortTup {X : Cx} (hu : X.A.units + 64 < cLine) : CallR X (.builtin "sorted") (rSortT X.K) := by
  intro pins s σ H vs us Q I r h
  obtain ⟨a, xs, ds, rfl, hs, hd, hal, hk, hdep, q⟩ := h
  obtain ⟨its, rv, hl, hz⟩ := I.tuple hs
  rw [Vals.ref1 r]
  have hlen := dpAll_len hd
  have e1 := each_vals hlen rv
  have e2 := each_reads I hd rv
  have hzip : (xs.zip ds).map Prod.snd = ds := zip_snd hlen
  refine sortedT_data (enc := Prod.snd) hl e1 e2 (by rw [hzip]; exact hal) (by rw [hzip]; exact hk) (by rw [List.length_zip]; omega) (fun b hb => ?_) fun out h1 h2 => ?_
  · have := hdep b.2 (List.of_mem_zip hb).2
    omega
  · obtain ⟨ep, he'⟩ := PyProof.Rows.sortedAll_at s.heap its out.toArray
    have rv2 := vals_each h2
    have hlen2 : (((xs.zip ds).mergeSort (PySem.W.dataLe false Prod.snd)).map Prod.fst).length ≤ sizeLine := by
      rw [List.length_map, List.length_mergeSort, List.length_zip]
      omega
    exact ⟨.ref _, upd H (s.heap.objs.size + 1) (.lst _), I.laid (t' := s.toks) (fun _ _ => PyProof.Rows.sortedAll_old) (Nat.le_succ _) ⟨hlen2, out, ep, rv2, he'⟩, rfl, q _ (I.hok.fresh (Nat.le_succ _))⟩
theorem cr_sortX {X : Cx} (hu : X.A.units + 64 < cLine) : CallR X (.builtin "sorted") (fun xs H Q => rSortD X.K xs H Q ∨ rSortT X.K xs H Q) := (cr_sortD hu).or (cr_sortTup hu)
def gSortX : GA := fun l S => match l with
  | [.tup l] => match mapO (toD 40 S) l with
    | some ds => if alikeB ds = true ∧ sortableB ds = true then some (.ok (.loc S.length) (S ++ [.lst (sortP l ds)])) else none
    | none => none
  | l => gSorted l S
theorem ok_sortX {K : PySem.W.Frag} {mg : Str → Option Value} : OkGA K mg (fun xs H Q => rSortD K xs H Q ∨ rSortT K xs H Q) gSortX := fun W σ m S H x d z Q s r e p => by
  unfold gSortX at e
  split at e
  · rename_i l
    split at e
    · rename_i ds hds
      split at e
      · rename_i hc
        cases e
        cases r with
        | cons a b =>
          cases b
          cases a with
          | @tup _ a xs h1 h2 =>
            obtain ⟨a1, a2, a3⟩ := mapO_dp (c := 40) (toD_dp s 40) hds h2
            exact .inr ⟨a, xs, ds, rfl, h1, a1, alike_of hc.1, sortable_of hc.2, fun d hd => depthAll_mem a3 d hd, new_list s (sort_rp h2 (by rw [← h2.length]; exact mapO_len hds)) p⟩
      · cases e
    · cases e
  · exact .inl (ok_sorted W σ m S H x _ z Q s r e p)
end D

/-! D26: a comprehension with two fors. -/
namespace D
open PySem PySem.Spec PyProof.Rows L2
open Classical in
noncomputable def compL2 (c : Nat) (f : PV → Option (List Nat × List PV)) (own : List Nat) (tt : DB) (it1 : DI) (f1 : PV → Option (List Nat × List PV)) (own1 : List Nat) (tt1 : DB) (elt : DE) (keep : List (Nat × PO)) : List PV → En → Sto → Option (R PV)
  | [], ρ, S => if Kept keep S then some (.ok (.loc c) S) else none
  | x :: xs, ρ, S => if Kept keep S then match f x with
    | some (is, l) => match tt (setsE is l (killE own ρ)) S with
      | some (.ok true S2) => match it1 (setsE is l (killE own ρ)) S2 with
        | some (.ok src S3) => match compL c f1 own1 tt1 elt src.keep src.items (setsE is l (killE own ρ)) S3 with
          | some (.ok _ S4) => compL2 c f own tt it1 f1 own1 tt1 elt keep xs ρ S4
          | _ => none
        | _ => none
      | some (.ok false S2) => compL2 c f own tt it1 f1 own1 tt1 elt keep xs ρ S2
      | _ => none
    | none => none else none
noncomputable def dComp2 (it : DI) (f : PV → Option (List Nat × List PV)) (own : List Nat) (tt : DB) (it1 : DI) (f1 : PV → Option (List Nat × List PV)) (own1 : List Nat) (tt1 : DB) (elt : DE) : DE :=
  fun ρ S => bR (it ρ S) fun src S1 => compL2 S1.length f own tt it1 f1 own1 tt1 elt src.keep src.items ρ (S1 ++ [.lst []])
section
variable {K : PySem.W.Frag} {mg : Str → Option Value}
/-- the inner walk: from the turn on to its end -/
theorem in_walk {g : TG} {f : PV → Option (List Nat × List PV)} {own ownG : List Nat} {tt : DB} {elt : DE} {σ : L2.St} {c n0 : Nat} {D : Addr} {ρ : En} {m0 : Nat → Addr} {H0 : Hp} {Nx : Hp → Prop} {J : It} {src : Src} {z : R PV} (hg : NmT K mg g f ownG) (ho : ∀ i ∈ ownG, i ∈ own)
    (hc : c < n0) (hD : m0 c = D) (ok : ItOk K mg J src n0 m0 H0) (e0 : EnR K H0 m0 n0 ρ σ) {S0 : Sto} (s0 : StS K mg m0 S0 H0) (h0 : S0.length = n0) (hf0 : compL c f own tt elt src.keep src.items ρ S0 = some z)
    (fin : ∀ m S H, StS K mg m S H → n0 ≤ S.length → Ext K n0 m0 H0 m H → z = .ok (.loc c) S → Nx H) :
    ∃ W1 : Nat → Nat → Hp → Prop, (∃ m, W1 0 m H0) ∧ ∀ j k H, W1 j k H →
      (J.stop j H ∧ Nx H) ∨ (J.go j H ∧ ∃ Nx1 : Hp → Prop, (∀ H', Nx1 H' → ∃ k', k' < k ∧ W1 (j + 1) k' H') ∧ ∀ x H', J.yld j H x H' → g x (wipe σ own) H' fun σ3 H5 => wipe σ3 own = wipe σ own ∧ tT K mg W0 tt σ3 H5 fun b H6 =>
        if b = true then tD K mg W0 elt σ3 H6 fun y H7 => ∃ acc, H7 D = some (.lst acc) ∧ acc.length < sizeLine ∧ Nx1 (upd H7 D (.lst (acc ++ [y]))) else Nx1 H6) := by
  refine ⟨fun j k H => k = src.items.length - j ∧ j ≤ src.items.length ∧ ∃ m S, StS K mg m S H ∧ n0 ≤ S.length ∧ Ext K n0 m0 H0 m H ∧ compL c f own tt elt src.keep (src.items.drop j) ρ S = some z, ⟨_, rfl, Nat.zero_le _, m0, S0, s0, Nat.le_of_eq h0.symm, Ext.refl, hf0⟩, ?_⟩
  rintro j k H ⟨rfl, hj, m, S, s, le, x, hf⟩
  rcases Nat.lt_or_ge j src.items.length with hlt | hge
  · rw [show src.items.drop j = src.items[j] :: src.items.drop (j + 1) from List.drop_eq_getElem_cons hlt] at hf
    unfold compL at hf
    by_cases kp : Kept src.keep S
    · rw [if_pos kp] at hf
      obtain ⟨go, yl⟩ := ok.go j src.items[j] m S H le x s kp (List.getElem?_eq_getElem hlt)
      cases hfl : f src.items[j] with
      | none => rw [hfl] at hf; cases hf
      | some pr =>
        obtain ⟨is, l⟩ := pr
        rw [hfl] at hf
        dsimp only at hf
        refine .inr ⟨go, fun H' => ∃ m' S', StS K mg m' S' H' ∧ n0 ≤ S'.length ∧ Ext K n0 m0 H0 m' H' ∧ compL c f own tt elt src.keep (src.items.drop (j + 1)) ρ S' = some z, ?_, ?_⟩
        · intro H' ⟨m', S', a1, a2, a3, a4⟩
          exact ⟨src.items.length - (j + 1), by omega, rfl, hlt, m', S', a1, a2, a3, a4⟩
        · intro y H2 hy
          obtain ⟨m2, x2, s2, r2⟩ := yl y H2 hy
          have x02 : Ext K n0 m0 H0 m2 H2 := x.trans x2 le
          have run := hg.run m2 S H2 src.items[j] y is l (wipe σ own) (fun σ3 H5 => wipe σ3 own = wipe σ own ∧ tT K mg W0 tt σ3 H5 fun b H6 =>
            if b = true then tD K mg W0 elt σ3 H6 fun y H7 => ∃ acc, H7 D = some (.lst acc) ∧ acc.length < sizeLine ∧ (∃ m' S', StS K mg m' S' (upd H7 D (.lst (acc ++ [y]))) ∧ n0 ≤ S'.length ∧ Ext K n0 m0 H0 m' (upd H7 D (.lst (acc ++ [y]))) ∧ compL c f own tt elt src.keep (src.items.drop (j + 1)) ρ S' = some z)
            else ∃ m' S', StS K mg m' S' H6 ∧ n0 ≤ S'.length ∧ Ext K n0 m0 H0 m' H6 ∧ compL c f own tt elt src.keep (src.items.drop (j + 1)) ρ S' = some z) s2 r2 hfl
          refine run.2 fun xs rxs => ⟨(wipe_sets is xs _ own fun i hi => ho i (run.1 i hi)).trans (wipe_wipe σ own own fun _ h => h), ?_⟩
          have en2 : EnR K H2 m2 S.length (setsE is l (killE own ρ)) (setsV is xs (wipe σ own)) := EnR.sets is rxs ((e0.mono x02 le).wipe own)
          cases q : tt (setsE is l (killE own ρ)) S with
          | none => rw [q] at hf; cases hf
          | some t =>
            rw [q] at hf
            cases t with
            | exc ex T => cases hf
            | ok b S2 =>
              refine ⟨m2, _, S, .ok b S2, s2, en2, q, ?_⟩
              intro b' m3 H3 le3 x3 s3 rb
              have rb : b = b' := rb
              subst rb
              have x03 : Ext K n0 m0 H0 m3 H3 := x02.trans x3 le
              have le03 : n0 ≤ S2.length := Nat.le_trans le le3
              cases b with
              | false => exact ⟨m3, S2, s3, le03, x03, hf⟩
              | true =>
                dsimp only at hf
                rw [if_pos rfl]
                cases q2 : elt (setsE is l (killE own ρ)) S2 with
                | none => rw [q2] at hf; cases hf
                | some t2 =>
                  rw [q2] at hf
                  cases t2 with
                  | exc ex T => cases hf
                  | ok v S3 =>
                    refine ⟨m3, _, S2, .ok v S3, s3, en2.mono x3 le3, q2, ?_⟩
                    intro v' m4 H4 le4 x4 s4 rv
                    have x04 : Ext K n0 m0 H0 m4 H4 := x03.trans x4 le03
                    have le04 : n0 ≤ S3.length := Nat.le_trans le03 le4
                    dsimp only at hf
                    cases hacc : S3[c]? with
                    | none => rw [hacc] at hf; cases hf
                    | some o =>
                      rw [hacc] at hf
                      cases o with
                      | lst acc =>
                        dsimp only at hf
                        by_cases hz : acc.length < 16777216
                        · rw [if_pos hz] at hf
                          have hm4 : m4 c = D := (x04.mp c hc).trans hD
                          obtain ⟨ys, h1, h2⟩ := s4.obj _ _ hacc
                          rw [hm4] at h1
                          have ex5 : Ext K S3.length m4 H4 m4 (upd H4 D (.lst (ys ++ [v']))) := ext_upd (.inr (by rw [h1]; trivial))
                          have wr := s4.write (k := c) (ho := .lst (ys ++ [v'])) (po' := .lst (acc ++ [v])) hacc rfl rfl ⟨ys ++ [v'], by rw [hm4]; exact upd_same, by
                            rw [hm4]
                            exact (h2.mono ex5 (Nat.le_refl _)).append (.cons (Rp.mono ex5 (Nat.le_refl _) rv) .nil)⟩
                          rw [hm4] at wr
                          exact ⟨ys, h1, by rw [← h2.length]; exact Nat.lt_of_lt_of_le hz (by decide), m4, _, wr, by rw [List.length_set]; exact le04, x04.trans ex5 le04, hf⟩
                        · rw [if_neg hz] at hf; cases hf
                      | _ => cases hf
    · rw [if_neg kp] at hf; cases hf
  · have ej : j = src.items.length := by omega
    subst ej
    rw [List.drop_length] at hf
    unfold compL at hf
    by_cases kp : Kept src.keep S
    · rw [if_pos kp] at hf
      exact .inl ⟨ok.stop m S H le x s kp, fin m S H s le x (Option.some.inj hf).symm⟩
    · rw [if_neg kp] at hf; cases hf
theorem lift_comp2 {W : WX} {it it1 : DI} {g g1 : TG} {f f1 : PV → Option (List Nat × List PV)} {own ownG own1 ownG1 : List Nat} {tt tt1 : DB} {elt : DE} {σ : L2.St} {H : Hp} {Q : VK} (hg : NmT K mg g f ownG) (ho : ∀ i ∈ ownG, i ∈ own) (hg1 : NmT K mg g1 f1 ownG1) (ho1 : ∀ i ∈ ownG1, i ∈ own1)
    (h : tD K mg W (dComp2 it f own tt it1 f1 own1 tt1 elt) σ H Q) : tLc2 (tG K mg (rItr K mg) W it) g (tT K mg W0 tt) (tG K mg (rItr K mg) W0 it1) g1 (tT K mg W0 tt1) (tD K mg W0 elt) own own1 σ H Q := by
  refine (bind1 (ra := rItr K mg) h).mono fun J H0 ⟨m0, ρ, S0, src, r, s0, e0, ok, hk, p0⟩ => ?_
  intro D hD
  have st0 := s0.push (p := D) (ho := .lst []) (po := .lst []) hD rfl ⟨[], upd_same, .nil⟩
  have x0 : Ext K S0.length m0 H0 (mext m0 S0.length D) (upd H0 D (.lst [])) := ext_push hD
  refine ⟨fun i c H => c = src.items.length - i ∧ i ≤ src.items.length ∧ ∃ m S, StS K mg m S H ∧ S0.length + 1 ≤ S.length ∧ Ext K (S0.length + 1) (mext m0 S0.length D) (upd H0 D (.lst [])) m H ∧ compL2 S0.length f own tt it1 f1 own1 tt1 elt src.keep (src.items.drop i) ρ S = some r,
    ⟨_, rfl, Nat.zero_le _, _, _, st0, by simp, Ext.refl, hk⟩, ?_⟩
  rintro i c H ⟨rfl, hi, m, S, s, le, x, hf⟩
  have x1 : Ext K S0.length m0 H0 m H := x0.trans x (Nat.le_succ _)
  have le1 : S0.length ≤ S.length := by omega
  rcases Nat.lt_or_ge i src.items.length with hlt | hge
  · rw [show src.items.drop i = src.items[i] :: src.items.drop (i + 1) from List.drop_eq_getElem_cons hlt] at hf
    unfold compL2 at hf
    by_cases kp : Kept src.keep S
    · rw [if_pos kp] at hf
      obtain ⟨go, yl⟩ := ok.go i src.items[i] m S H le1 x1 s kp (List.getElem?_eq_getElem hlt)
      cases hfl : f src.items[i] with
      | none => rw [hfl] at hf; cases hf
      | some pr =>
        obtain ⟨is, l⟩ := pr
        rw [hfl] at hf
        dsimp only at hf
        refine .inr ⟨go, fun H' => ∃ m' S', StS K mg m' S' H' ∧ S0.length + 1 ≤ S'.length ∧ Ext K (S0.length + 1) (mext m0 S0.length D) (upd H0 D (.lst [])) m' H' ∧ compL2 S0.length f own tt it1 f1 own1 tt1 elt src.keep (src.items.drop (i + 1)) ρ S' = some r, ?_, ?_⟩
        · intro H' ⟨m', S', a1, a2, a3, a4⟩
          exact ⟨src.items.length - (i + 1), by omega, rfl, hlt, m', S', a1, a2, a3, a4⟩
        · intro y H2 hy
          obtain ⟨m2, x2, s2, r2⟩ := yl y H2 hy
          have x02 : Ext K (S0.length + 1) (mext m0 S0.length D) (upd H0 D (.lst [])) m2 H2 := x.trans x2 le
          have hin := (hg.run m2 S H2 src.items[i] y is l (wipe σ own) (fun _ _ => True) s2 r2 hfl).1
          refine (hg.run m2 S H2 src.items[i] y is l (wipe σ own) _ s2 r2 hfl).2 fun xs rxs => ⟨(wipe_sets is xs _ own fun i hi => ho i (hin i hi)).trans (wipe_wipe σ own own fun _ h => h), ?_⟩
          have en2 : EnR K H2 m2 S.length (setsE is l (killE own ρ)) (setsV is xs (wipe σ own)) := EnR.sets is rxs ((e0.mono (x1.trans x2 le1) le1).wipe own)
          cases q : tt (setsE is l (killE own ρ)) S with
          | none => rw [q] at hf; cases hf
          | some t =>
            rw [q] at hf
            cases t with
            | exc ex T => cases hf
            | ok b S2 =>
              refine ⟨m2, _, S, .ok b S2, s2, en2, q, ?_⟩
              intro b' m3 H3 le3 x3 s3 rb
              have rb : b = b' := rb
              subst rb
              have x03 := x02.trans x3 le
              have le03 : S0.length + 1 ≤ S2.length := Nat.le_trans le le3
              cases b with
              | false =>
                rw [if_neg Bool.false_ne_true]
                exact ⟨m3, S2, s3, le03, x03, hf⟩
              | true =>
                dsimp only at hf
                rw [if_pos rfl]
                cases q2 : it1 (setsE is l (killE own ρ)) S2 with
                | none => rw [q2] at hf; cases hf
                | some t2 =>
                  rw [q2] at hf
                  cases t2 with
                  | exc ex T => cases hf
                  | ok src1 S3 =>
                    have en3 := en2.mono x3 le3
                    refine ⟨m3, _, S2, .ok src1 S3, s3, en3, q2, ?_⟩
                    intro J1 m4 H4 le4 x4 s4 ok1
                    dsimp only at hf
                    have x04 := x03.trans x4 le03
                    have le04 : S0.length + 1 ≤ S3.length := Nat.le_trans le03 le4
                    have hm4 : m4 S0.length = D := by rw [x04.mp _ (Nat.lt_succ_self _), mext_same]
                    cases q3 : compL S0.length f1 own1 tt1 elt src1.keep src1.items (setsE is l (killE own ρ)) S3 with
                    | none => rw [q3] at hf; cases hf
                    | some t3 =>
                      rw [q3] at hf
                      refine in_walk hg1 ho1 (c := S0.length) (n0 := S3.length) (z := t3) (by omega) hm4 ok1 (en3.mono x4 le4) s4 rfl q3 fun m5 S5 H5 s5 le5 x5 e5 => ?_
                      subst e5
                      exact ⟨m5, S5, s5, Nat.le_trans le04 le5, x04.trans x5 le04, hf⟩
    · rw [if_neg kp] at hf; cases hf
  · have ei : i = src.items.length := by omega
    subst ei
    rw [List.drop_length] at hf
    unfold compL2 at hf
    by_cases kp : Kept src.keep S
    · rw [if_pos kp] at hf
      cases hf
      refine .inl ⟨ok.stop m S H le1 x1 s kp, ?_⟩
      have rp : Rp K H m S.length (.loc S0.length) (.ref (m S0.length)) := .loc (by omega)
      rw [show m S0.length = D from by rw [x.mp _ (Nat.lt_succ_self _), mext_same]] at rp
      exact p0 _ m H le1 x1 s rp
    · rw [if_neg kp] at hf; cases hf
end
section
variable {X : Cx} {W : WX} {elt tg iter tg1 iter1 : Expr} {ifs ifs1 : List Expr} {scope : Scope} {own : List (Str × Nat)} {vs1 : List Nat} {pos : Pos} {it it1 : DI} {g g1 : TG} {f f1 : PV → Option (List Nat × List PV)} {ownG ownG1 : List Nat} {tt tt1 : DB} {te : DE}
theorem de_comp2 (hc : X.calm = true) (hN : X.N.Nodup) (hi : PId X W tg iter it) (ok : BlkOk X.N X.env.scope scope own) (hn : NmT X.K X.mg g f ownG) (hn1 : NmT X.K X.mg g1 f1 ownG1)
    (hg : ∀ (s : Shared) (H : Hp) (C : Addr) (cl : List (Str × Addr)) (p : List Addr), PG (X.blk s H scope (compEnvC scope cl C X.env) p) tg g)
    (ht : ∀ (s : Shared) (H : Hp) (C : Addr) (cl : List (Str × Addr)) (p : List Addr), PTsd (X.blk s H scope (compEnvC scope cl C X.env) p) W0 ifs tt)
    (hi1 : ∀ (s : Shared) (H : Hp) (C : Addr) (cl : List (Str × Addr)) (p : List Addr), PId (X.blk s H scope (compEnvC scope cl C X.env) p) W0 tg1 iter1 it1)
    (hg1 : ∀ (s : Shared) (H : Hp) (C : Addr) (cl : List (Str × Addr)) (p : List Addr), PG (X.blk s H scope (compEnvC scope cl C X.env) p) tg1 g1)
    (ht1 : ∀ (s : Shared) (H : Hp) (C : Addr) (cl : List (Str × Addr)) (p : List Addr), PTsd (X.blk s H scope (compEnvC scope cl C X.env) p) W0 ifs1 tt1)
    (he : ∀ (s : Shared) (H : Hp) (C : Addr) (cl : List (Str × Addr)) (p : List Addr), PEd (X.blk s H scope (compEnvC scope cl C X.env) p) W0 elt te)
    (ho : ∀ i ∈ ownG, i ∈ own.map (·.2) := by decide) (ho1 : ∀ i ∈ ownG1, i ∈ vs1 := by decide) (hv : ∀ i ∈ vs1, i ∈ own.map (·.2) := by decide) (hs : ∀ x, foldedSetIterable iter X.env x = pure x := by intro _; rfl) (hs1 : ∀ env x, foldedSetIterable iter1 env x = pure x := by intro _ _; rfl) :
    PEd X W (.ListComp elt [⟨tg, iter, ifs, 0⟩, ⟨tg1, iter1, ifs1, 0⟩] scope pos) (dComp2 it f (own.map (·.2)) tt it1 f1 vs1 tt1 te) :=
  (pe_lc2 hc hN hi ok hv hg ht hi1 hg1 ht1 he hs hs1).imp fun σ H Q h => lift_comp2 hn ho hn1 ho1 h
theorem ds_setComp2 {i : Nat} {y : Str} {py spos : Pos} (hc : X.calm = true) (hN : X.N.Nodup) (hy : X.N[i]? = some y) (hyl : X.env.scope.names.lookup y = some .local)
    (hsw : swapsWith (.ListComp elt [⟨tg, iter, ifs, 0⟩, ⟨tg1, iter1, ifs1, 0⟩] scope pos) (some (.Name y py)) spos.line X.env = pure true) (hi : PId X W tg iter it) (ok : BlkOk X.N X.env.scope scope own) (hn : NmT X.K X.mg g f ownG) (hn1 : NmT X.K X.mg g1 f1 ownG1)
    (hg : ∀ (s : Shared) (H : Hp) (C : Addr) (cl : List (Str × Addr)) (p : List Addr), PG (X.blk s H scope (compEnvC scope cl C X.env) p) tg g)
    (ht : ∀ (s : Shared) (H : Hp) (C : Addr) (cl : List (Str × Addr)) (p : List Addr), PTsd (X.blk s H scope (compEnvC scope cl C X.env) p) W0 ifs tt)
    (hi1 : ∀ (s : Shared) (H : Hp) (C : Addr) (cl : List (Str × Addr)) (p : List Addr), PId (X.blk s H scope (compEnvC scope cl C X.env) p) W0 tg1 iter1 it1)
    (hg1 : ∀ (s : Shared) (H : Hp) (C : Addr) (cl : List (Str × Addr)) (p : List Addr), PG (X.blk s H scope (compEnvC scope cl C X.env) p) tg1 g1)
    (ht1 : ∀ (s : Shared) (H : Hp) (C : Addr) (cl : List (Str × Addr)) (p : List Addr), PTsd (X.blk s H scope (compEnvC scope cl C X.env) p) W0 ifs1 tt1)
    (he : ∀ (s : Shared) (H : Hp) (C : Addr) (cl : List (Str × Addr)) (p : List Addr), PEd (X.blk s H scope (compEnvC scope cl C X.env) p) W0 elt te)
    (ho : ∀ i ∈ ownG, i ∈ own.map (·.2) := by decide) (ho1 : ∀ i ∈ ownG1, i ∈ vs1 := by decide) (hv : ∀ i ∈ vs1, i ∈ own.map (·.2) := by decide) (hs : ∀ x, foldedSetIterable iter X.env x = pure x := by intro _; rfl) (hs1 : ∀ env x, foldedSetIterable iter1 env x = pure x := by intro _ _; rfl) :
    PSd X W (.Assign [.Name y py] (.ListComp elt [⟨tg, iter, ifs, 0⟩, ⟨tg1, iter1, ifs1, 0⟩] scope pos) spos) (dSet i (dComp2 it f (own.map (·.2)) tt it1 f1 vs1 tt1 te)) :=
  (ps_setLc2 hc hN hy hyl hsw hi ok hv hg ht hi1 hg1 ht1 he hs hs1).imp fun D σ H h => by
  have h2 : tD X.K X.mg W (dComp2 it f (own.map (·.2)) tt it1 f1 vs1 tt1 te) σ H fun v H1 => ∃ m ρ S d r, StS X.K X.mg m S H1 ∧ EnR X.K H1 m S.length ρ σ ∧ rE X.K H1 m S.length d v ∧ some (RS.next (ρ.set i (some d)) S) = some r ∧ PostS X.K X.mg W m S H1 r D := bindS (ra := rE X.K) h
  exact lift_comp2 hn ho hn1 ho1 (h2.mono fun v H1 ⟨m, ρ, S, d, r, s, en, r1, hk, p⟩ => by
    cases hk
    exact p _ m H1 (Nat.le_refl _) Ext.refl s (en.set r1))
end
/-! ### t[::-1] of a tuple -/
section
variable {prog : Program} {w : World} {A : Around} {E : Value → Shared → Prop} {s : Shared}
theorem adj_rev (n : Nat) : Builtin.Slice.sliceAdjust none none (-1) (n : Int) = ((n : Int) - 1, -1) := by
  unfold Builtin.Slice.sliceAdjust
  simp
theorem places_rev (n : Nat) : Builtin.Slice.slicePlaces ((n : Int) - 1) (-1) (-1) = n := by
  unfold Builtin.Slice.slicePlaces
  simp
  omega
theorem pick_rev (xs : Array Value) : ((List.range xs.size).filterMap fun (m : Nat) => xs[(((xs.size : Int) - 1) + (m : Int) * (-1)).toNat]?).toArray = xs.toList.reverse.toArray := by
  have e : (fun (m : Nat) => xs[(((xs.size : Int) - 1) + (m : Int) * (-1)).toNat]?) = (fun i => xs[i]?) ∘ fun m => xs.size - 1 - m := by
    funext m
    have z : (((xs.size : Int) - 1) + (m : Int) * (-1)).toNat = xs.size - 1 - m := by omega
    show xs[_]? = xs[xs.size - 1 - m]?
    rw [z]
  rw [e, ← List.filterMap_map, PySem.W.krv_range, List.filterMap_reverse, PySem.W.krv_all]
theorem getItem_tuple_rev {t sl : Addr} {items : Array Value} {vk : Value} {Q : Value → Shared → Prop} (ht : IsTup s.heap t items) (hs : s.heap.IsSliceOf sl .none .none vk) (pk : IsPart vk (some (-1)))
    (h : Q (.ref s.heap.objs.size) { s with heap := s.heap.push { cls := .type "tuple", data := .seq items.toList.reverse.toArray } }) (hz : items.size ≤ sizeLine) : wpAny (model prog w) A (getItem (.ref t) (.ref sl)) Q E s := by
  obtain ⟨os, hos, hcs, hds⟩ := id hs
  have fits : sizeOk (.seq items.toList.reverse.toArray) := by
    show items.toList.reverse.toArray.size ≤ sizeLine
    rw [List.size_toArray, List.length_reverse, Array.length_toList]
    exact hz
  unfold getItem
  try with_reducible refine wpAny_holding ?_
  first | refine wpAny_bind (wpAny_pure ?_) | skip
  refine wpAny_bind (wpAny_sequenceKey ht.typeIs (by decide) (wpAny_bind (wpAny_callSpecial?_slot (name := Str.ofString "__getitem__") ht.typeIs PyProof.Rows.slot_tuple_getitem (wpAny_call_entry PyProof.Rows.slot_tuple_getitem ht.typeIs entry_tuple_getitem ?_ (args_tuple_getitem _ _)))))
  show wpAny _ _ (Builtin.Tuple.tupleItemsOf (.ref t) >>= _) _ _ s
  refine wpAny_bind (tupleItemsOf_ ht (wpAny_bind (wpAny_typeOf (T := "slice") ⟨os, hos, hcs⟩ ?_)))
  rw [if_pos (by decide)]
  have ap : ∀ {A : Around} {Q : Int × Int × Nat → Shared → Prop}, Q ((items.size : Int) - 1, -1, items.size) s → wpAny (model prog w) A (Builtin.Slice.sliceApplied (.ref sl) (pure (items.size : Int))) Q E s := fun {A Q} h => by
    unfold Builtin.Slice.sliceApplied Builtin.Slice.sliceFields
    refine wpAny_bind (wpAny_bind (wpAny_field hos hds (x := .none) rfl (wpAny_bind (wpAny_field hos hds (x := .none) rfl (wpAny_bind (wpAny_field hos hds (x := vk) rfl (wpAny_pure ?_)))))))
    refine wpAny_bind (HT.slicePart_ pk ?_)
    show wpAny _ _ (if ((-1 : Int) == 0) = true then _ else _) _ _ s
    rw [if_neg (by decide)]
    refine wpAny_bind (HT.slicePart_ .none (wpAny_bind (HT.slicePart_ .none (wpAny_bind (wpAny_pure ?_)))))
    show wpAny _ _ (match Builtin.Slice.sliceAdjust none none (-1) (items.size : Int) with | (lo, hi) => pure (lo, (-1 : Int), Builtin.Slice.slicePlaces lo hi (-1))) _ _ s
    rw [adj_rev]
    show wpAny _ _ (pure ((items.size : Int) - 1, (-1 : Int), Builtin.Slice.slicePlaces ((items.size : Int) - 1) (-1) (-1))) _ _ s
    rw [places_rev]
    exact wpAny_pure h
  refine wpAny_bind (ap ?_)
  show wpAny _ _ (if (((items.size : Int) - 1 == 0 && (-1 : Int) == 1 && items.size == items.size) = true) then _ else _) _ _ s
  rw [if_neg (by simp), pick_rev]
  first
    | exact wpAny_bind (m := Builtin.Tuple.tupleExact _) (wpAny_newObj_type (wpAny_pure ⟨_, rfl, wpAny_pure h⟩) fits)
    | exact wpAny_bind (m := Builtin.Tuple.tupleExact _) (wpAny_newObj_type (wpAny_bind (wpAny_pure (wpAny_pure ⟨_, rfl, wpAny_pure h⟩))) fits)
    | exact wpAny_bind (wpAny_bind (m := Builtin.Tuple.tupleExact _) (wpAny_newObj_type (wpAny_pure (wpAny_pure ⟨_, rfl, wpAny_pure h⟩)) fits))
end
section
variable {X : Cx} {e se : Expr} {te : TE} {ts : TO} {pos p2 : Pos}
def tRevT (K : PySem.W.Frag) (te : TE) (ts : TO) : TE := fun σ H Q => te σ H fun x H1 => ts σ H1 fun st H2 => st = some (-1) ∧ ∃ a xs, x = .ref a ∧ SqT K H2 a xs ∧ ∀ p, H2 p = none → Q (.ref p) (upd H2 p (.tup xs.reverse))
theorem pe_revT (he : PE X e te) (hs : L2.PO X (some se) ts) : PE X (.Subscript e (.Slice none none (some se) p2) pos) (tRevT X.K te ts) := by
  refine ⟨fun pins s σ H Q I h => Subscript_ (thn (he.run pins s σ H _ I h) fun v s1 ⟨x, H1, I1, r1, q1⟩ => wpAny_Slice ?_)⟩
  rw [evalPart_none]
  refine wpAny_pure (wpAny_pure (thn (hs.run pins s1 σ H1 _ I1 q1) fun vk s2 ⟨st, H2, I2, pk, q2⟩ => ?_))
  obtain ⟨rfl, a, xs, rfl, hx, q⟩ := q2
  cases r1
  have I4 : Inv X pins σ H2 { s2 with heap := s2.heap.push { cls := .type "slice", data := .fields #[.none, .none, vk] } } := I2.kept (t' := s2.toks) fun b ob q => Heap.get?_push_of_some _ q
  obtain ⟨its, r, ht, hz⟩ := I4.tuple hx
  have hlen : its.toArray.size = xs.length := by rw [List.size_toArray]; exact r.length.symm
  show wpAny (model X.prog X.w) X.A (subscriptTail e (.Slice none none (some se) p2) (.ref a) (.ref s2.heap.objs.size)) (EP X pins σ Q) X.xe { s2 with heap := s2.heap.push { cls := .type "slice", data := .fields #[.none, .none, vk] } }
  refine tail_any (ops := [.ref a, .ref s2.heap.objs.size]) ht.typeIs PyProof.Rows.slot_tuple_getitem.lookup ?_ (by with_unfolding_all rfl)
  refine getItem_tuple_rev ht (Heap.IsSliceOf.new ..) pk ?_ (by rw [hlen]; exact hz)
  exact ⟨.ref _, _, I4.laid (t' := s2.toks) (o := .tup xs.reverse) (fun b ob q => Heap.get?_push_of_some _ q) (Nat.le_refl _) ⟨by rw [List.length_reverse]; exact hz, _, r.reverse, IsTup.new _ _⟩, rfl, q _ (I4.hok.fresh (Nat.le_refl _))⟩
end
def gRevT : PV → Option Int → Sto → Option (R PV) := fun x st S => if st = some (-1) then (match x with
  | .tup l => some (.ok (.tup l.reverse) S)
  | _ => none) else none
def dRevT (a : DE) (st : DO) : DE := fun ρ S => bR (a ρ S) fun x S1 => bR (st ρ S1) fun l S2 => gRevT x l S2
theorem de_revT {X : Cx} {W : WX} {e se : Expr} {p2 pos : Pos} {fa : DE} {fs : DO} (ha : PEd X W e fa) (hs : POd X W (some se) fs) : PEd X W (.Subscript e (.Slice none none (some se) p2) pos) (dRevT fa fs) :=
  (pe_revT ha hs).imp fun σ H Q h => by
  refine (bind1 (ra := rE X.K) (k := fun ρ x S1 => bR (fs ρ S1) fun l S2 => gRevT x l S2) h).mono fun v H1 ⟨m, ρ, S, d, z, s, e, r1, hk, p⟩ => ?_
  have hk : bR (fs ρ S) (fun l S2 => gRevT d l S2) = some z := hk
  cases q : fs ρ S with
  | none => rw [q] at hk; cases hk
  | some z1 =>
    rw [q] at hk
    cases z1 with
    | exc x T =>
      cases hk
      exact ⟨m, ρ, S, .exc x T, s, e, q, p⟩
    | ok l T =>
      refine ⟨m, ρ, S, .ok l T, s, e, q, fun l' m2 H2 le x s2 rl => ?_⟩
      cases rl
      have hk : gRevT d l T = some z := hk
      have r2 := r1.mono x le
      have p2 := p.on le x
      unfold gRevT at hk
      by_cases h1 : l = some (-1)
      · rw [if_pos h1] at hk
        cases d with
        | tup l =>
          cases hk
          cases r2 with
          | @tup _ a xs h3 h4 => exact ⟨h1, a, xs, rfl, h3, new_tup s2 h4.reverse p2⟩
        | _ => cases hk
      · rw [if_neg h1] at hk; cases hk
end D

namespace M
abbrev Se := List Int
def stepL (lv : List Se) : List Se := lv.flatMap fun c => (([0, 1, 2, 3, 4, 5] : List Int).filter fun k => c.length == 0 || decide (c.getLastD 0 < k)).map fun k => c ++ [k]
def lvl : Nat → List Se
  | 0 => [[]]
  | n + 1 => stepL (lvl n)
def accL : Nat → List Se
  | 0 => [[]]
  | n + 1 => accL n ++ lvl (n + 1)
def U : List Se := accL 6
def lawV : Nat → List Se
  | 0 => [[]]
  | n + 1 => lawV n ++ (lawV n).map fun c => c ++ [(n : Int)]
def V : List Se := lawV 6
def part (a b : Se) : Bool := a.all fun k => decide (k ∈ b)
def meets (c : Se) (F : List Se) : Bool := F.all fun o => o.any fun k => decide (k ∈ c)
def compl (c : Se) : Se := ([0, 1, 2, 3, 4, 5] : List Int).filter fun k => !decide (k ∈ c)
theorem U_len : U.length = 64 := by decide +kernel
theorem U_rng : ∀ u ∈ U, ∀ k ∈ u, k ∈ ([0, 1, 2, 3, 4, 5] : List Int) := by decide +kernel
theorem U_compl : ∀ u ∈ U, compl u ∈ U := by decide +kernel
theorem U_order : U.Pairwise fun a b => part b a = false := by decide +kernel
theorem U_nodup : U.Nodup := by decide +kernel
theorem V_in : ∀ u ∈ V, u ∈ U := by decide +kernel
theorem U_in : ∀ u ∈ U, u ∈ V := by decide +kernel
theorem U_sort : U.Pairwise fun a b => a.length < b.length ∨ (a.length = b.length ∧ a < b) := by decide +kernel
theorem U_anti : ∀ a ∈ U, ∀ b ∈ U, part a b = true → part b a = true → a = b := by decide +kernel
theorem U_less : ∀ a ∈ U, ∀ b ∈ U, part a b = true → a = b ∨ a.length < b.length := by decide +kernel
theorem U_one : ∀ x ∈ ([0, 1, 2, 3, 4, 5] : List Int), [x] ∈ U := by decide +kernel
theorem U_snoc : ∀ u ∈ U, ∀ x ∈ ([0, 1, 2, 3, 4, 5] : List Int), (u.all fun k => decide (k < x)) = true → u ++ [x] ∈ U := by decide +kernel
theorem U_nil : ([] : Se) ∈ U := by decide +kernel
theorem part_refl (a : Se) : part a a = true := List.all_eq_true.mpr fun k hk => decide_eq_true hk
theorem part_iff {a b : Se} : part a b = true ↔ ∀ k ∈ a, k ∈ b := by
  unfold part
  rw [List.all_eq_true]
  exact ⟨fun h k hk => of_decide_eq_true (h k hk), fun h k hk => decide_eq_true (h k hk)⟩
theorem part_trans {a b c : Se} (h : part a b = true) (h2 : part b c = true) : part a c = true := part_iff.mpr fun k hk => part_iff.mp h2 k (part_iff.mp h k hk)
theorem meets_iff {c : Se} {F : List Se} : meets c F = true ↔ ∀ o ∈ F, ∃ k ∈ o, k ∈ c := by
  unfold meets
  rw [List.all_eq_true]
  refine ⟨fun h o ho => ?_, fun h o ho => ?_⟩
  · obtain ⟨k, h1, h2⟩ := List.any_eq_true.mp (h o ho)
    exact ⟨k, h1, of_decide_eq_true h2⟩
  · obtain ⟨k, h1, h2⟩ := h o ho
    exact List.any_eq_true.mpr ⟨k, h1, decide_eq_true h2⟩
theorem meets_mono {F : List Se} {a b : Se} (h : part a b = true) (ha : meets a F = true) : meets b F = true := meets_iff.mpr fun o ho => by
  obtain ⟨k, h1, h2⟩ := meets_iff.mp ha o ho
  exact ⟨k, h1, part_iff.mp h k h2⟩
/-- least among those that P takes -/
def minB (P : Se → Bool) (c : Se) : Bool := P c && U.all fun o => !(P o && part o c) || decide (o = c)
theorem minB_iff {P : Se → Bool} {c : Se} : minB P c = true ↔ P c = true ∧ ∀ o ∈ U, P o = true → part o c = true → o = c := by
  unfold minB
  rw [Bool.and_eq_true, List.all_eq_true]
  refine and_congr Iff.rfl ⟨fun h o ho h1 h2 => ?_, fun h o ho => ?_⟩
  · have := h o ho
    rw [h1, h2] at this
    simpa using this
  · cases h1 : P o with
    | false => simp
    | true => cases h2 : part o c with
      | false => simp
      | true => simp [h o ho h1 h2]
theorem min_ex {P : Se → Bool} : ∀ (n : Nat) (o : Se), o.length ≤ n → o ∈ U → P o = true → ∃ m ∈ U, minB P m = true ∧ part m o = true
  | n, o, hl, ho, hp => by
    by_cases h : minB P o = true
    · exact ⟨o, ho, h, part_refl o⟩
    · have : ∃ o' ∈ U, P o' = true ∧ part o' o = true ∧ o' ≠ o := by
        refine Classical.byContradiction fun z => h (minB_iff.mpr ⟨hp, fun o' h1 h2 h3 => Classical.byContradiction fun ne => z ⟨o', h1, h2, h3, ne⟩⟩)
      obtain ⟨o', h1, h2, h3, h4⟩ := this
      rcases U_less o' h1 o ho h3 with e | lt
      · exact absurd e h4
      · cases n with
        | zero => omega
        | succ n =>
          obtain ⟨m, a, b, c⟩ := min_ex n o' (by omega) h1 h2
          exact ⟨m, a, b, part_trans c h3⟩
def greedy (P : Se → Bool) : List Se → List Se → List Se
  | found, [] => found
  | found, c :: cs => greedy P (if found.any (fun o => part o c) then found else if P c then found ++ [c] else found) cs
theorem greedy_ok {P : Se → Bool} (mono : ∀ a b, part a b = true → P a = true → P b = true) : ∀ (suf pre : List Se), U = pre ++ suf → greedy P (pre.filter (minB P)) suf = U.filter (minB P)
  | [], pre, e => by rw [List.append_nil] at e; rw [e]; rfl
  | c :: suf, pre, e => by
    have ih := greedy_ok mono suf (pre ++ [c]) (by rw [e]; simp)
    have hcU : c ∈ U := by rw [e]; simp
    have hpre : ∀ m ∈ pre, m ∈ U := fun m hm => by rw [e]; exact List.mem_append_left _ hm
    unfold greedy
    rw [← ih, List.filter_append]
    congr 1
    have nod := U_nodup
    rw [e] at nod
    have hcp : c ∉ pre := fun z => (List.nodup_append.mp nod).2.2 c z c (by simp) rfl
    cases hp : P c with
    | false =>
      have nm : minB P c = false := by unfold minB; rw [hp]; rfl
      have na : (pre.filter (minB P)).any (fun o => part o c) = false := by
        rw [Bool.eq_false_iff]
        intro z
        obtain ⟨m, h1, h2⟩ := List.any_eq_true.mp z
        have := mono m c h2 (minB_iff.mp (List.mem_filter.mp h1).2).1
        rw [hp] at this
        cases this
      rw [na]
      simp [nm]
    | true =>
      cases hm : minB P c with
      | true =>
        have na : (pre.filter (minB P)).any (fun o => part o c) = false := by
          rw [Bool.eq_false_iff]
          intro z
          obtain ⟨m, h1, h2⟩ := List.any_eq_true.mp z
          obtain ⟨h3, h4⟩ := List.mem_filter.mp h1
          have := (minB_iff.mp hm).2 m (hpre m h3) (minB_iff.mp h4).1 h2
          exact hcp (this ▸ h3)
        rw [na]
        simp [hm]
      | false =>
        have ya : (pre.filter (minB P)).any (fun o => part o c) = true := by
          have : ∃ o ∈ U, P o = true ∧ part o c = true ∧ o ≠ c := by
            refine Classical.byContradiction fun z => ?_
            have : minB P c = true := minB_iff.mpr ⟨hp, fun o' h1 h2 h3 => Classical.byContradiction fun ne => z ⟨o', h1, h2, h3, ne⟩⟩
            rw [hm] at this
            cases this
          obtain ⟨o, h1, h2, h3, h4⟩ := this
          obtain ⟨m, k1, k2, k3⟩ := min_ex o.length o (Nat.le_refl _) h1 h2
          have hmc := part_trans k3 h3
          have ne : m ≠ c := fun z => h4 (U_anti o h1 c hcU h3 (z ▸ k3))
          refine List.any_eq_true.mpr ⟨m, List.mem_filter.mpr ⟨?_, k2⟩, hmc⟩
          rw [e] at k1
          rcases List.mem_append.mp k1 with k | k
          · exact k
          · rcases List.mem_cons.mp k with k | k
            · exact absurd k ne
            · have pw := U_order
              rw [e, List.pairwise_append] at pw
              have := (List.pairwise_cons.mp pw.2.1).1 m k
              rw [hmc] at this
              cases this
        rw [ya]
        simp [hm]
theorem greedy_all {P : Se → Bool} (mono : ∀ a b, part a b = true → P a = true → P b = true) : greedy P [] U = U.filter (minB P) := greedy_ok mono U [] rfl
/-- least sets of a list -/
def leastB (L : List Se) (c : Se) : Bool := decide (c ∈ L) && L.all fun o => !part o c || decide (o = c)
theorem leastB_iff {L : List Se} {c : Se} : leastB L c = true ↔ c ∈ L ∧ ∀ o ∈ L, part o c = true → o = c := by
  unfold leastB
  rw [Bool.and_eq_true, List.all_eq_true, decide_eq_true_eq]
  refine and_congr Iff.rfl ⟨fun h o ho h1 => ?_, fun h o ho => ?_⟩
  · have := h o ho
    rw [h1] at this
    simpa using this
  · cases h1 : part o c with
    | false => simp
    | true => simp [h o ho h1]
theorem least_V {P : Se → Bool} : U.filter (leastB (V.filter P)) = U.filter (minB P) := by
  refine List.filter_congr fun c hc => ?_
  rw [Bool.eq_iff_iff, leastB_iff, minB_iff]
  simp only [List.mem_filter]
  exact ⟨fun ⟨h1, h2⟩ => ⟨h1.2, fun o ho h3 h4 => h2 o ⟨U_in o ho, h3⟩ h4⟩, fun ⟨h1, h2⟩ => ⟨⟨U_in c hc, h1⟩, fun o ho h4 => h2 o (V_in o ho.1) ho.2 h4⟩⟩
theorem compl_iff {u : Se} {k : Int} : k ∈ compl u ↔ k ∈ ([0, 1, 2, 3, 4, 5] : List Int) ∧ k ∉ u := by
  unfold compl
  rw [List.mem_filter]
  simp
/-- meeting what meets leads back -/
theorem dual {F : List Se} (hF : ∀ f ∈ F, f ∈ U) {c : Se} (hc : c ∈ U) : meets c (U.filter (minB fun d => meets d F)) = true ↔ ∃ f ∈ F, part f c = true := by
  rw [meets_iff]
  constructor
  · intro h
    refine Classical.byContradiction fun z => ?_
    have hm : meets (compl c) F = true := meets_iff.mpr fun f hf => by
      refine Classical.byContradiction fun y => z ⟨f, hf, part_iff.mpr fun k hk => Classical.byContradiction fun nk => y ⟨k, hk, compl_iff.mpr ⟨U_rng f (hF f hf) k hk, nk⟩⟩⟩
    obtain ⟨m, h1, h2, h3⟩ := min_ex (P := fun d => meets d F) _ (compl c) (Nat.le_refl _) (U_compl c hc) hm
    obtain ⟨k, k1, k2⟩ := h m (List.mem_filter.mpr ⟨h1, h2⟩)
    exact (compl_iff.mp (part_iff.mp h3 k k1)).2 k2
  · rintro ⟨f, hf, hp⟩ t ht
    obtain ⟨k, k1, k2⟩ := meets_iff.mp (minB_iff.mp (List.mem_filter.mp ht).2).1 f hf
    exact ⟨k, k2, part_iff.mp hp k k1⟩
theorem back {F : List Se} (hF : ∀ f ∈ F, f ∈ U) : U.filter (minB fun d => meets d (U.filter (minB fun d => meets d F))) = U.filter (leastB F) := by
  refine List.filter_congr fun c hc => ?_
  rw [Bool.eq_iff_iff, leastB_iff, minB_iff]
  rw [dual hF hc]
  constructor
  · rintro ⟨⟨f, hf, hp⟩, h2⟩
    have e := h2 f (hF f hf) ((dual hF (hF f hf)).mpr ⟨f, hf, part_refl f⟩) hp
    refine ⟨e ▸ hf, fun o ho h3 => h2 o (hF o ho) ((dual hF (hF o ho)).mpr ⟨o, ho, part_refl o⟩) h3⟩
  · rintro ⟨h1, h2⟩
    refine ⟨⟨c, h1, part_refl c⟩, fun o ho h3 h4 => ?_⟩
    obtain ⟨f, hf, hp⟩ := (dual hF ho).mp h3
    have e := h2 f hf (part_trans hp h4)
    exact U_anti o ho c hc h4 (e ▸ hp)
end M

/-! E: how denotations are reckoned out. -/
namespace D
open PySem PySem.Spec PyProof.Rows L2
section
variable {α β : Type} {ρ : En} {S : Sto}
@[simp] theorem ev_bR_ok (v : α) (S : Sto) (k : α → Sto → Option (R β)) : bR (some (.ok v S)) k = k v S := (rfl)
@[simp] theorem ev_bR_exc (e : Xn) (S : Sto) (k : α → Sto → Option (R β)) : bR (some (.exc e S)) k = some (.exc e S) := (rfl)
@[simp] theorem ev_bS_ok (v : α) (S : Sto) (k : α → Sto → Option RS) : bS ρ (some (.ok v S)) k = k v S := (rfl)
@[simp] theorem ev_bS_exc (e : Xn) (S : Sto) (k : α → Sto → Option RS) : bS ρ (some (.exc e S)) k = some (.exc e ρ S) := (rfl)
@[simp] theorem ev_bN_next (k : En → Sto → Option RS) : bN (some (.next ρ S)) k = k ρ S := (rfl)
@[simp] theorem ev_bN_ret (v : PV) (k : En → Sto → Option RS) : bN (some (.ret v S)) k = some (.ret v S) := (rfl)
@[simp] theorem ev_bN_brk (k : En → Sto → Option RS) : bN (some (.brk ρ S)) k = some (.brk ρ S) := (rfl)
@[simp] theorem ev_bN_ctn (k : En → Sto → Option RS) : bN (some (.ctn ρ S)) k = some (.ctn ρ S) := (rfl)
@[simp] theorem ev_bN_exc (e : Xn) (k : En → Sto → Option RS) : bN (some (.exc e ρ S)) k = some (.exc e ρ S) := (rfl)
@[simp] theorem ev_var (i : Nat) : dVar i ρ S = match ρ[i]? with
  | some (some v) => some (.ok v S)
  | _ => none := (rfl)
@[simp] theorem ev_c (v : PV) : dC v ρ S = some (.ok v S) := (rfl)
@[simp] theorem ev_op2 (g : G2) (a b : DE) : dOp2 g a b ρ S = bR (a ρ S) fun x S1 => bR (b ρ S1) fun y S2 => g x y S2 := (rfl)
@[simp] theorem ev_op1 (g : G1) (a : DE) : dOp1 g a ρ S = bR (a ρ S) fun x S1 => g x S1 := (rfl)
@[simp] theorem ev_opA (g : GA) (a : DA) : dOpA g a ρ S = bR (a ρ S) fun x S1 => g x S1 := (rfl)
@[simp] theorem ev_cmp (g : G2) (a b : DE) : dCmp g a b ρ S = asB (bR (a ρ S) fun x S1 => bR (b ρ S1) fun y S2 => g x y S2) := (rfl)
@[simp] theorem ev_asB (b : Bool) : asB (some (.ok (.bl b) S)) = some (.ok b S) := (rfl)
@[simp] theorem ev_asBx (e : Xn) : asB (some (.exc e S)) = some (.exc e S) := (rfl)
@[simp] theorem ev_tru (f : DE) : dTru f ρ S = bR (f ρ S) fun x S1 => gTru x S1 := (rfl)
@[simp] theorem ev_gTru_bl (b : Bool) : gTru (.bl b) S = some (.ok b S) := (rfl)
@[simp] theorem ev_gTru_int (i : Int) : gTru (.int i) S = some (.ok (i != 0) S) := (rfl)
@[simp] theorem ev_gTru_tup (l : List PV) : gTru (.tup l) S = some (.ok (!l.isEmpty) S) := (rfl)
@[simp] theorem ev_notT (f : DB) : dNotT f ρ S = bR (f ρ S) fun x S1 => some (.ok (!x) S1) := (rfl)
@[simp] theorem ev_andT (f g : DB) : dAndT f g ρ S = bR (f ρ S) fun x S1 => if x = true then g ρ S1 else some (.ok false S1) := (rfl)
@[simp] theorem ev_orT (f g : DB) : dOrT f g ρ S = bR (f ρ S) fun x S1 => if x = true then some (.ok true S1) else g ρ S1 := (rfl)
@[simp] theorem ev_isBl (b : Bool) (k : Bool → Sto → Option (R PV)) : isBl (some (.ok (.bl b) S)) k = k b S := (rfl)
@[simp] theorem ev_isBlx (e : Xn) (k : Bool → Sto → Option (R PV)) : isBl (some (.exc e S)) k = some (.exc e S) := (rfl)
@[simp] theorem ev_and2 (f g : DE) : dAnd2 f g ρ S = isBl (f ρ S) fun b S1 => if b = true then g ρ S1 else some (.ok (.bl false) S1) := (rfl)
@[simp] theorem ev_or2 (f g : DE) : dOr2 f g ρ S = isBl (f ρ S) fun b S1 => if b = true then some (.ok (.bl true) S1) else g ρ S1 := (rfl)
@[simp] theorem ev_not2 (f : DE) : dNot2 f ρ S = isBl (f ρ S) fun b S1 => some (.ok (.bl (!b)) S1) := (rfl)
@[simp] theorem ev_if (c : DB) (f g : DE) : dIf c f g ρ S = bR (c ρ S) fun x S1 => if x = true then f ρ S1 else g ρ S1 := (rfl)
@[simp] theorem ev_chain (g g' : G2) (a b c : DE) : dChain g g' a b c ρ S = bR (a ρ S) fun x S1 => bR (b ρ S1) fun y S2 => bR (g x y S2) fun z S3 => match z with
  | .bl true => bR (c ρ S3) fun w S4 => g' y w S4
  | .bl false => some (.ok (.bl false) S3)
  | _ => none := (rfl)
@[simp] theorem ev_chainT (g g' : G2) (a b c : DE) : dChainT g g' a b c ρ S = asB (dChain g g' a b c ρ S) := (rfl)
@[simp] theorem ev_nil : dNil ρ S = some (.ok [] S) := (rfl)
@[simp] theorem ev_cons (f : DE) (g : DA) : dCons f g ρ S = bR (f ρ S) fun x S1 => bR (g ρ S1) fun xs S2 => some (.ok (x :: xs) S2) := (rfl)
@[simp] theorem ev_tup (f : DA) : dTup f ρ S = bR (f ρ S) fun x S1 => gTupP x S1 := (rfl)
@[simp] theorem ev_lst (f : DA) : dLst f ρ S = bR (f ρ S) fun x S1 => gLstP x S1 := (rfl)
theorem ev_gTupP {l : List PV} (h : l.length ≤ 16777216) : gTupP l S = some (.ok (.tup l) S) := if_pos h
theorem ev_gLstP {l : List PV} (h : l.length ≤ 16777216) : gLstP l S = some (.ok (.loc S.length) (S ++ [.lst l])) := if_pos h
@[simp] theorem ev_tup0 : gTupP [] S = some (.ok (.tup []) S) := (rfl)
@[simp] theorem ev_tup1 (a : PV) : gTupP [a] S = some (.ok (.tup [a]) S) := (rfl)
@[simp] theorem ev_tup2 (a b : PV) : gTupP [a, b] S = some (.ok (.tup [a, b]) S) := (rfl)
@[simp] theorem ev_tup3 (a b c : PV) : gTupP [a, b, c] S = some (.ok (.tup [a, b, c]) S) := (rfl)
@[simp] theorem ev_lst0 : gLstP [] S = some (.ok (.loc S.length) (S ++ [.lst []])) := (rfl)
@[simp] theorem ev_lst1 (a : PV) : gLstP [a] S = some (.ok (.loc S.length) (S ++ [.lst [a]])) := (rfl)
@[simp] theorem ev_lst2 (a b : PV) : gLstP [a, b] S = some (.ok (.loc S.length) (S ++ [.lst [a, b]])) := (rfl)
@[simp] theorem ev_lst3 (a b c : PV) : gLstP [a, b, c] S = some (.ok (.loc S.length) (S ++ [.lst [a, b, c]])) := (rfl)
@[simp] theorem ev_lst4 (a b c d : PV) : gLstP [a, b, c, d] S = some (.ok (.loc S.length) (S ++ [.lst [a, b, c, d]])) := (rfl)
/-! statements -/
@[simp] theorem ev_pass : dPass ρ S = some (.next ρ S) := (rfl)
@[simp] theorem ev_brk : dBrk ρ S = some (.brk ρ S) := (rfl)
@[simp] theorem ev_ctn : dCtn ρ S = some (.ctn ρ S) := (rfl)
@[simp] theorem ev_seq (f g : DS) : dSeq f g ρ S = bN (f ρ S) g := (rfl)
@[simp] theorem ev_ret (f : DE) : dRet f ρ S = bS ρ (f ρ S) fun v S1 => some (.ret v S1) := (rfl)
@[simp] theorem ev_retN : dRetN ρ S = some (.ret .non S) := (rfl)
@[simp] theorem ev_expr (f : DE) : dExpr f ρ S = bS ρ (f ρ S) fun _ S1 => some (.next ρ S1) := (rfl)
@[simp] theorem ev_ifS (c : DB) (f g : DS) : dIfS c f g ρ S = bS ρ (c ρ S) fun b S1 => if b = true then f ρ S1 else g ρ S1 := (rfl)
@[simp] theorem ev_set (i : Nat) (f : DE) : dSet i f ρ S = bS ρ (f ρ S) fun v S1 => some (.next (ρ.set i (some v)) S1) := (rfl)
@[simp] theorem ev_raise (c : Str) : dRaise c ρ S = some (.exc ⟨c, []⟩ ρ S) := (rfl)
@[simp] theorem ev_asg (g : DG) (f : DE) : dAsg g f ρ S = bS ρ (f ρ S) fun v S1 => match g v ρ S1 with
  | some (ρ', S') => some (.next ρ' S')
  | none => none := (rfl)
@[simp] theorem ev_gN (i : Nat) (v : PV) : gN i v ρ S = some (ρ.set i (some v), S) := (rfl)
@[simp] theorem ev_gsNil : gsNil [] ρ S = some (ρ, S) := (rfl)
@[simp] theorem ev_gsCons (g : DG) (h : DGs) (v : PV) (r : List PV) : gsCons g h (v :: r) ρ S = match g v ρ S with
    | some (ρ1, S1) => h r ρ1 S1
    | none => none := (rfl)
@[simp] theorem ev_gT (n : Nat) (h : DGs) (l : List PV) : gT n h (.tup l) ρ S = if l.length = n then h l ρ S else none := (rfl)
@[simp] theorem ev_killN : killE [] ρ = ρ := (rfl)
@[simp] theorem ev_killC (i : Nat) (l : List Nat) : killE (i :: l) ρ = killE l (ρ.set i none) := (rfl)
@[simp] theorem ev_for (it : DI) (g : DG) (kill : List Nat) (body : DS) : dFor it g kill body ρ S = bS ρ (it ρ S) fun src S1 => forL g kill body src.keep src.items (killE kill ρ) S1 := (rfl)
@[simp] theorem ev_seqI (f : DE) : dSeqI f ρ S = bR (f ρ S) fun x S1 => match x with
  | .tup l => some (.ok ⟨l, []⟩ S1)
  | .loc k => match S1[k]? with
    | some (.lst l) => some (.ok ⟨l, [(k, .lst l)]⟩ S1)
    | some (.fz l) => some (.ok ⟨l, [(k, .fz l)]⟩ S1)
    | _ => none
  | _ => none := (rfl)
@[simp] theorem ev_rng1 (f : DA) : dRng1 f ρ S = bR (f ρ S) fun x S1 => match x with
  | [.int j] => some (.ok ⟨rangeP 0 j.toNat, []⟩ S1)
  | _ => none := (rfl)
@[simp] theorem ev_rng2 (f : DA) : dRng2 f ρ S = bR (f ρ S) fun x S1 => match x with
  | [.int i, .int j] => some (.ok ⟨rangeP i (j - i).toNat, []⟩ S1)
  | _ => none := (rfl)
@[simp] theorem kept_nil : Kept [] S := fun p h => by cases h
@[simp] theorem kept_one (k : Nat) (o : PO) : Kept [(k, o)] S ↔ S[k]? = some o := ⟨fun h => h (k, o) (by simp), fun h p hp => by
  rw [List.mem_singleton] at hp
  subst hp
  exact h⟩
theorem forL_nil {g : DG} {kill : List Nat} {body : DS} {keep : List (Nat × PO)} (hk : Kept keep S) : forL g kill body keep [] ρ S = some (.next ρ S) := by
  unfold forL
  rw [if_pos hk]
theorem forL_cons {g : DG} {kill : List Nat} {body : DS} {keep : List (Nat × PO)} {x : PV} {xs : List PV} (hk : Kept keep S) : forL g kill body keep (x :: xs) ρ S = match g x ρ S with
    | some (ρ1, S1) => match body ρ1 S1 with
      | some (.next ρ2 S2) => forL g kill body keep xs (killE kill ρ2) S2
      | some (.ctn ρ2 S2) => forL g kill body keep xs (killE kill ρ2) S2
      | some (.brk ρ2 S2) => some (.next (killE kill ρ2) S2)
      | r => r
    | none => none := by
  conv => lhs; unfold forL
  rw [if_pos hk]
  all_goals rfl
/-! operators -/
@[simp] theorem ev_addI (i j : Int) : gAdd (.int i) (.int j) S = some (.ok (.int (i + j)) S) := (rfl)
theorem ev_addT {l r : List PV} (h : l.length + r.length ≤ 16777216) : gAdd (.tup l) (.tup r) S = some (.ok (.tup (l ++ r)) S) := if_pos h
theorem ev_addL {j k : Nat} {l r : List PV} (h1 : S[j]? = some (.lst l)) (h2 : S[k]? = some (.lst r)) (h : l.length + r.length ≤ 16777216) : gAdd (.loc j) (.loc k) S = some (.ok (.loc S.length) (S ++ [.lst (l ++ r)])) := by
  unfold gAdd
  dsimp only
  rw [h1, h2]
  exact if_pos h
@[simp] theorem ev_sub (i j : Int) : gSub (.int i) (.int j) S = some (.ok (.int (i - j)) S) := by unfold gSub gI2; simp
theorem ev_mul {i j : Int} (h : CMulD i j) : gMul (.int i) (.int j) S = some (.ok (.int (i * j)) S) := by unfold gMul gOr2 gMulI gI2; simp [h]
theorem ev_mulR {i j : Int} (h : -(2 ^ 64) < j ∧ j < 2 ^ 64) : gMul (.int i) (.int j) S = some (.ok (.int (i * j)) S) := ev_mul (.inr h)
theorem ev_mulL {i j : Int} (h : -(2 ^ 64) < i ∧ i < 2 ^ 64) : gMul (.int i) (.int j) S = some (.ok (.int (i * j)) S) := ev_mul (.inl h)
theorem ev_div {i j : Int} (h : 0 < j ∧ j < 1073741824) : gDiv (.int i) (.int j) S = some (.ok (.int (i / j)) S) := by unfold gDiv gI2 CDivD; simp [h]
theorem ev_mod {i j : Int} (h : 0 < j) : gMod (.int i) (.int j) S = some (.ok (.int (i % j)) S) := by unfold gMod gI2; simp [h]
theorem ev_pow {i j : Int} (h : CPowD i j) : gPow (.int i) (.int j) S = some (.ok (.int (i ^ j.toNat)) S) := by unfold gPow gI2; simp [h]
@[simp] theorem ev_neg (i : Int) : gNeg (.int i) S = some (.ok (.int (-i)) S) := (rfl)
@[simp] theorem ev_rel (f : Int → Int → Bool) (i j : Int) : gRel f (.int i) (.int j) S = some (.ok (.bl (f i j)) S) := by unfold gRel gI2; simp
@[simp] theorem ev_isNN (n : Bool) : gIsN n .non .non S = some (.ok (.bl (!n)) S) := (rfl)
@[simp] theorem ev_isBB (n a b : Bool) : gIsN n (.bl a) (.bl b) S = some (.ok (.bl (if n then !decide (a = b) else decide (a = b))) S) := (rfl)
@[simp] theorem ev_isIN (n : Bool) (i : Int) : gIsN n (.int i) .non S = some (.ok (.bl n) S) := (rfl)
@[simp] theorem ev_isTN (n : Bool) (i : List PV) : gIsN n (.tup i) .non S = some (.ok (.bl n) S) := (rfl)
@[simp] theorem ev_isLN (n : Bool) (i : Nat) : gIsN n (.loc i) .non S = some (.ok (.bl n) S) := (rfl)
@[simp] theorem ev_isSN (n : Bool) (i : Str) : gIsN n (.str i) .non S = some (.ok (.bl n) S) := (rfl)
@[simp] theorem ev_isBN (n : Bool) (i : Bool) : gIsN n (.bl i) .non S = some (.ok (.bl n) S) := (rfl)
theorem ev_ixT {l : List PV} {i : Int} {v : PV} (h : atI l i = some v) : gIx (.tup l) (.int i) S = some (.ok v S) := by
  unfold gIx; simp [h]
theorem ev_ixL {k : Nat} {l : List PV} {i : Int} {v : PV} (h1 : S[k]? = some (.lst l)) (h : atI l i = some v) : gIx (.loc k) (.int i) S = some (.ok v S) := by
  unfold gIx; simp [h1, h]
theorem atI_ok {γ : Type} {l : List γ} {n : Nat} (h : n < l.length) : atI l (n : Int) = some l[n] := by
  unfold atI ixN
  rw [if_pos (by omega)]
  simp [h]
theorem atI_nat {γ : Type} {l : List γ} {i : Int} (h0 : 0 ≤ i) (h : i.toNat < l.length) : atI l i = some l[i.toNat] := by
  obtain ⟨n, rfl⟩ : ∃ n : Nat, i = n := ⟨i.toNat, by omega⟩
  have : ((n : Int)).toNat = n := by simp
  simp only [this] at h ⊢
  exact atI_ok h
theorem atI_last {γ : Type} {l : List γ} {x : γ} : atI (l ++ [x]) (-1) = some x := by
  unfold atI ixN
  rw [if_neg (by omega), if_pos (by rw [List.length_append, List.length_singleton]; omega)]
  have : (-1 + ((l ++ [x]).length : Int)).toNat = l.length := by rw [List.length_append, List.length_singleton]; omega
  rw [this, Option.bind_some, List.getElem?_append_right (Nat.le_refl _), Nat.sub_self]
  rfl
@[simp] theorem atI_p0 (a b : PV) : atI [a, b] 0 = some a := (rfl)
@[simp] theorem atI_p1 (a b : PV) : atI [a, b] 1 = some b := (rfl)
@[simp] theorem ev_ixp0 (a b : PV) : gIx (.tup [a, b]) (.int 0) S = some (.ok a S) := (rfl)
@[simp] theorem ev_ixp1 (a b : PV) : gIx (.tup [a, b]) (.int 1) S = some (.ok b S) := (rfl)
@[simp] theorem ev_lenT (l : List PV) : gLen [.tup l] S = some (.ok (.int l.length) S) := (rfl)
theorem ev_lenL {k : Nat} {l : List PV} (h : S[k]? = some (.lst l)) : gLen [.loc k] S = some (.ok (.int l.length) S) := by unfold gLen; simp [h]
theorem ev_lenF {k : Nat} {l : List PV} (h : S[k]? = some (.fz l)) : gLen [.loc k] S = some (.ok (.int l.length) S) := by unfold gLen; simp [h]
@[simp] theorem ev_int (i : Int) : gInt [.int i] S = some (.ok (.int i) S) := (rfl)
@[simp] theorem ev_intB (b : Bool) : gInt [.bl b] S = some (.ok (.int (if b then 1 else 0)) S) := (rfl)
@[simp] theorem ev_abs (i : Int) : gAbs [.int i] S = some (.ok (.int (if i < 0 then -i else i)) S) := (rfl)
@[simp] theorem ev_max2 (i j : Int) : gMax2 [.int i, .int j] S = some (.ok (.int (if j > i then j else i)) S) := (rfl)
@[simp] theorem ev_min2 (i j : Int) : gMin2 [.int i, .int j] S = some (.ok (.int (if j < i then j else i)) S) := (rfl)
@[simp] theorem ev_meth (T : String) (g : GM) (o : DE) (a : DA) : dMeth T g o a ρ S = bR (o ρ S) fun x S1 => if tyP T x S1 = true then bR (a ρ S1) fun xs S2 => g x xs S2 else none := (rfl)
theorem ev_tyL {k : Nat} {l : List PV} (h : S[k]? = some (.lst l)) : tyP "list" (.loc k) S = true := by unfold tyP; simp [h]
theorem ev_append {k : Nat} {l : List PV} {y : PV} (h : S[k]? = some (.lst l)) (hl : l.length < 16777216) : gAppend (.loc k) [y] S = some (.ok .non (S.set k (.lst (l ++ [y])))) := by
  unfold gAppend
  simp [h, hl]
theorem ev_listL {k : Nat} {l : List PV} (h : S[k]? = some (.lst l)) : gList [.loc k] S = some (.ok (.loc S.length) (S ++ [.lst l])) := by unfold gList itemsP; simp [h]
@[simp] theorem ev_listT (l : List PV) : gList [.tup l] S = some (.ok (.loc S.length) (S ++ [.lst l])) := (rfl)
theorem ev_tupleL {k : Nat} {l : List PV} (h : S[k]? = some (.lst l)) : gTuple [.loc k] S = some (.ok (.tup l) S) := by unfold gTuple itemsP; simp [h]
@[simp] theorem ev_tupleT (l : List PV) : gTuple [.tup l] S = some (.ok (.tup l) S) := (rfl)
@[simp] theorem ev_gsub (g : GSt) (o i : DE) (v : PV) : gSubT g o i v ρ S = match o ρ S with
  | some (.ok x S1) => match i ρ S1 with
    | some (.ok y S2) => match g x y v S2 with
      | some S3 => some (ρ, S3)
      | none => none
    | _ => none
  | _ => none := (rfl)
/-! slices -/
@[simp] theorem ev_noPart : dNoPart ρ S = some (.ok none S) := (rfl)
@[simp] theorem ev_part (f : DE) : dPart f ρ S = bR (f ρ S) fun x S1 => match x with
  | .int i => some (.ok (some i) S1)
  | _ => none := (rfl)
@[simp] theorem ev_sl (a : DE) (lo hi : DO) : dSl a lo hi ρ S = bR (a ρ S) fun x S1 => bR (lo ρ S1) fun l S2 => bR (hi ρ S2) fun h S3 => gSl x l h S3 := (rfl)
@[simp] theorem ev_gSlT (l : List PV) (lo hi : Option Int) : gSl (.tup l) lo hi S = some (.ok (.tup (cutP l lo hi)) S) := (rfl)
theorem ev_gSlL {k : Nat} {l : List PV} {lo hi : Option Int} (h : S[k]? = some (.lst l)) : gSl (.loc k) lo hi S = some (.ok (.loc S.length) (S ++ [.lst (cutP l lo hi)])) := by unfold gSl; simp [h]
theorem ev_gSlF {k : Nat} {l : List PV} {lo hi : Option Int} (h : S[k]? = some (.fz l)) : gSl (.loc k) lo hi S = some (.ok (.loc S.length) (S ++ [.lst (cutP l lo hi)])) := by unfold gSl; simp [h]
theorem cut_to {l : List PV} {i : Int} (h : 0 ≤ i) : cutP l none (some i) = l.take i.toNat := by
  unfold cutP HT.sIx
  simp only [List.drop_zero]
  rw [if_neg (by omega), Nat.sub_zero]
  by_cases h2 : i.toNat ≤ l.length
  · rw [Nat.min_eq_left h2]
  · rw [Nat.min_eq_right (by omega), List.take_of_length_le (Nat.le_refl _), List.take_of_length_le (by omega)]
theorem cut_from {l : List PV} {i : Int} (h : 0 ≤ i) : cutP l (some i) none = l.drop i.toNat := by
  unfold cutP HT.sIx
  simp only
  rw [if_neg (by omega)]
  by_cases h2 : i.toNat ≤ l.length
  · rw [Nat.min_eq_left h2, List.take_of_length_le (by simp)]
  · rw [Nat.min_eq_right (by omega), List.drop_of_length_le (Nat.le_refl _), List.drop_of_length_le (by omega)]
    simp
/-! isinstance -/
@[simp] theorem ev_isaT (l : List PV) : gIsa [.tup l, .ty "tuple"] S = some (.ok (.bl true) S) := by unfold gIsa tyName isaP; simp
@[simp] theorem ev_isaI (i : Int) : gIsa [.int i, .ty "int"] S = some (.ok (.bl true) S) := by unfold gIsa tyName isaP; simp
@[simp] theorem ev_isaIB (i : Int) : gIsa [.int i, .ty "bool"] S = some (.ok (.bl false) S) := by unfold gIsa tyName isaP; simp
@[simp] theorem ev_isaB (i : Bool) : gIsa [.bl i, .ty "bool"] S = some (.ok (.bl true) S) := by unfold gIsa tyName isaP; simp
end
/-! ### what a def leaves -/
section
variable {S : Sto}
theorem gc_ok_val {v : PV} {T : Sto} (h : noLoc v = true) : gcE S (.ok v (S ++ T)) = .ok v S := by
  unfold gcE
  simp [h]
theorem gc_ok_same {v : PV} (h : noLoc v = true) : gcE S (.ok v S) = .ok v S := by
  unfold gcE
  simp [h]
theorem gc_ok_new {k : Nat} {l : List PV} {T : Sto} (h : (S ++ T)[k]? = some (.lst l)) (hk : S.length ≤ k) (hn : noLocs l = true) : gcE S (.ok (.loc k) (S ++ T)) = .ok (.loc S.length) (S ++ [.lst l]) := by
  have : noLoc (.loc k) = false := (rfl)
  unfold gcE
  simp [h, hk, hn, this]
theorem gc_exc {c : Str} {T : Sto} : gcE S (.exc ⟨c, []⟩ (S ++ T)) = .exc ⟨c, []⟩ S := by
  unfold gcE
  simp
theorem gc_exc_same {c : Str} : gcE S (.exc ⟨c, []⟩ S) = .exc ⟨c, []⟩ S := by
  unfold gcE
  simp
theorem dDef_ret {k n : Nat} {body : DS} {args : List PV} {v : PV} {S' : Sto} (hl : args.length = k) (h : body (args.map some ++ List.replicate (n - k) none) S = some (.ret v S')) : dDef k n body args S = some (gcE S (.ok v S')) := by
  unfold dDef
  rw [if_pos hl, h]
theorem dDef_next {k n : Nat} {body : DS} {args : List PV} {ρ : En} {S' : Sto} (hl : args.length = k) (h : body (args.map some ++ List.replicate (n - k) none) S = some (.next ρ S')) : dDef k n body args S = some (gcE S (.ok .non S')) := by
  unfold dDef
  rw [if_pos hl, h]
theorem dDef_exc {k n : Nat} {body : DS} {args : List PV} {e : Xn} {ρ : En} {S' : Sto} (hl : args.length = k) (h : body (args.map some ++ List.replicate (n - k) none) S = some (.exc e ρ S')) : dDef k n body args S = some (gcE S (.exc e S')) := by
  unfold dDef
  rw [if_pos hl, h]
end
theorem call_val {S : Sto} {k n : Nat} {body : DS} {args : List PV} {v : PV} {T : Sto} (hb : body (args.map some ++ List.replicate (n - k) none) S = some (.ret v (S ++ T))) (hn : noLoc v = true) (hl : args.length = k := by rfl) : dDef k n body args S = some (.ok v S) := by
  rw [dDef_ret hl hb, gc_ok_val hn]
theorem call_val0 {S : Sto} {k n : Nat} {body : DS} {args : List PV} {v : PV} (hb : body (args.map some ++ List.replicate (n - k) none) S = some (.ret v S)) (hn : noLoc v = true) (hl : args.length = k := by rfl) : dDef k n body args S = some (.ok v S) := by
  rw [dDef_ret hl hb, gc_ok_same hn]
theorem call_new {S : Sto} {k n j : Nat} {body : DS} {args : List PV} {T : Sto} {l : List PV} (hb : body (args.map some ++ List.replicate (n - k) none) S = some (.ret (.loc j) (S ++ T))) (hj : (S ++ T)[j]? = some (.lst l)) (hk : S.length ≤ j) (hn : noLocs l = true) (hl : args.length = k := by rfl) : dDef k n body args S = some (.ok (.loc S.length) (S ++ [.lst l])) := by
  rw [dDef_ret hl hb, gc_ok_new hj hk hn]
theorem call_exc {S : Sto} {k n : Nat} {body : DS} {args : List PV} {c : Str} {ρ : En} {T : Sto} (hb : body (args.map some ++ List.replicate (n - k) none) S = some (.exc ⟨c, []⟩ ρ (S ++ T))) (hl : args.length = k := by rfl) : dDef k n body args S = some (.exc ⟨c, []⟩ S) := by
  rw [dDef_exc hl hb, gc_exc]
theorem call_exc0 {S : Sto} {k n : Nat} {body : DS} {args : List PV} {c : Str} {ρ : En} (hb : body (args.map some ++ List.replicate (n - k) none) S = some (.exc ⟨c, []⟩ ρ S)) (hl : args.length = k := by rfl) : dDef k n body args S = some (.exc ⟨c, []⟩ S) := by
  rw [dDef_exc hl hb, gc_exc_same]
/-- ints as values -/
def intsP (l : List Int) : List PV := l.map PV.int
@[simp] theorem intsP_nil : intsP [] = [] := (rfl)
@[simp] theorem intsP_cons (i : Int) (l : List Int) : intsP (i :: l) = .int i :: intsP l := (rfl)
@[simp] theorem intsP_len (l : List Int) : (intsP l).length = l.length := List.length_map ..
theorem intsP_append (l r : List Int) : intsP (l ++ r) = intsP l ++ intsP r := List.map_append
theorem intsP_snoc (l : List Int) (i : Int) : intsP l ++ [.int i] = intsP (l ++ [i]) := by rw [intsP_append]; rfl
theorem noLocs_ints : ∀ l : List Int, noLocs (intsP l) = true
  | [] => rfl
  | i :: l => by
    show (noLoc (.int i) && noLocs (intsP l)) = true
    rw [noLocs_ints l]; rfl
theorem ints_at {l : List Int} {i : Int} (h0 : 0 ≤ i) (h : i < l.length) : atI (intsP l) i = some (.int (l.getD i.toNat 0)) := by
  have hl : i.toNat < l.length := by omega
  rw [atI_nat h0 (by rw [intsP_len]; exact hl)]
  unfold intsP
  rw [List.getElem_map, List.getD_eq_getElem?_getD, List.getElem?_eq_getElem hl, Option.getD_some]
/-- pairs of ints as values -/
def pairP (p : Int × Int) : PV := .tup [.int p.1, .int p.2]
def pairsP (l : List (Int × Int)) : List PV := l.map pairP
@[simp] theorem pairsP_nil : pairsP [] = [] := (rfl)
@[simp] theorem pairsP_cons (i : Int × Int) (l : List (Int × Int)) : pairsP (i :: l) = pairP i :: pairsP l := (rfl)
@[simp] theorem pairsP_len (l : List (Int × Int)) : (pairsP l).length = l.length := List.length_map ..
theorem pairsP_append (l r : List (Int × Int)) : pairsP (l ++ r) = pairsP l ++ pairsP r := List.map_append
theorem pairsP_snoc (l : List (Int × Int)) (i : Int × Int) : pairsP l ++ [pairP i] = pairsP (l ++ [i]) := by rw [pairsP_append]; rfl
theorem pairsP_take (l : List (Int × Int)) (n : Nat) : (pairsP l).take n = pairsP (l.take n) := (List.map_take).symm
theorem pairsP_drop (l : List (Int × Int)) (n : Nat) : (pairsP l).drop n = pairsP (l.drop n) := (List.map_drop).symm
theorem noLocs_pairs : ∀ l : List (Int × Int), noLocs (pairsP l) = true
  | [] => rfl
  | i :: l => by
    show (noLoc (pairP i) && noLocs (pairsP l)) = true
    rw [noLocs_pairs l]; rfl
theorem pairs_at {l : List (Int × Int)} {i : Int} (h0 : 0 ≤ i) (h : i < l.length) : atI (pairsP l) i = some (pairP (l.getD i.toNat (0, 0))) := by
  have hl : i.toNat < l.length := by omega
  rw [atI_nat h0 (by rw [pairsP_len]; exact hl)]
  unfold pairsP
  rw [List.getElem_map, List.getD_eq_getElem?_getD, List.getElem?_eq_getElem hl, Option.getD_some]

/-! places behind a store -/
section
variable {S T : Sto} {a b c d e o : PO}
@[simp] theorem at_0 : (S ++ o :: T)[S.length]? = some o := by simp
@[simp] theorem at_1 : (S ++ a :: o :: T)[S.length + 1]? = some o := by
  rw [List.getElem?_append_right (by omega)]
  simp
@[simp] theorem at_2 : (S ++ a :: b :: o :: T)[S.length + 2]? = some o := by
  rw [List.getElem?_append_right (by omega)]
  simp
@[simp] theorem at_3 : (S ++ a :: b :: c :: o :: T)[S.length + 3]? = some o := by
  rw [List.getElem?_append_right (by omega)]
  simp
@[simp] theorem put_0 : (S ++ a :: T).set S.length o = S ++ o :: T := by
  rw [List.set_append_right _ _ (by omega)]
  simp
@[simp] theorem put_1 : (S ++ a :: b :: T).set (S.length + 1) o = S ++ a :: o :: T := by
  rw [List.set_append_right _ _ (by omega)]
  simp
@[simp] theorem put_2 : (S ++ a :: b :: c :: T).set (S.length + 2) o = S ++ a :: b :: o :: T := by
  rw [List.set_append_right _ _ (by omega)]
  simp
theorem at_old {k : Nat} (h : S[k]? = some o) : (S ++ T)[k]? = some o := by
  rw [List.getElem?_append_left (lt_of_get h)]
  exact h
end
/-! data of values -/
section
variable {S : Sto} {n : Nat}
@[simp] theorem toD_int (i : Int) : toD n S (.int i) = some (.int i) := by cases n <;> rfl
@[simp] theorem toD_bl (i : Bool) : toD n S (.bl i) = some (.bool i) := by cases n <;> rfl
@[simp] theorem toD_non : toD n S .non = some .none := by cases n <;> rfl
@[simp] theorem toD_str (i : Str) : toD n S (.str i) = some (.str i) := by cases n <;> rfl
theorem toD_tup {l : List PV} {ds : List PyData} (h : mapO (toD n S) l = some ds) : toD (n + 1) S (.tup l) = some (.tuple ds) := by
  unfold toD
  rw [h]; rfl
theorem toD_lst {k : Nat} {l : List PV} {ds : List PyData} (hk : S[k]? = some (.lst l)) (h : mapO (toD n S) l = some ds) : toD (n + 1) S (.loc k) = some (.list ds) := by
  unfold toD
  rw [hk]
  dsimp only
  rw [h]; rfl
theorem toD_fz {k : Nat} {l : List PV} {ds : List PyData} (hk : S[k]? = some (.fz l)) (h : mapO (toD n S) l = some ds) : toD (n + 1) S (.loc k) = some (.list ds) := by
  unfold toD
  rw [hk]
  dsimp only
  rw [h]; rfl
theorem mapO_map {α β γ : Type} {f : β → Option γ} {e : α → β} {d : α → γ} : ∀ {l : List α}, (∀ x ∈ l, f (e x) = some (d x)) → mapO f (l.map e) = some (l.map d)
  | [], _ => rfl
  | x :: l, h => by
    rw [List.map_cons, List.map_cons]
    unfold mapO
    rw [h x List.mem_cons_self, mapO_map fun y hy => h y (List.mem_cons_of_mem _ hy)]
@[simp] theorem eqv_int (i j : Int) : PyData.eqv (.int i) (.int j) = decide (i = j) := by
  unfold PyData.eqv
  by_cases h : i = j <;> simp [h]
@[simp] theorem eqv_bool (i j : Bool) : PyData.eqv (.bool i) (.bool j) = decide (i = j) := by
  unfold PyData.eqv
  by_cases h : i = j <;> simp [h]
@[simp] theorem eqv_str (i j : Str) : PyData.eqv (.str i) (.str j) = decide (i = j) := by
  unfold PyData.eqv
  by_cases h : i = j <;> simp [h]
@[simp] theorem eqv_none : PyData.eqv .none .none = true := by unfold PyData.eqv; rfl
@[simp] theorem eqv_tuple (l r : List PyData) : PyData.eqv (.tuple l) (.tuple r) = PyData.eqvAll l r := by
  conv => lhs; unfold PyData.eqv
@[simp] theorem eqv_list (l r : List PyData) : PyData.eqv (.list l) (.list r) = PyData.eqvAll l r := by
  conv => lhs; unfold PyData.eqv
@[simp] theorem eqvAll_nil : PyData.eqvAll [] [] = true := by unfold PyData.eqvAll; rfl
@[simp] theorem eqvAll_nc (x : PyData) (l : List PyData) : PyData.eqvAll [] (x :: l) = false := by unfold PyData.eqvAll; rfl
@[simp] theorem eqvAll_cn (x : PyData) (l : List PyData) : PyData.eqvAll (x :: l) [] = false := by unfold PyData.eqvAll; rfl
@[simp] theorem eqvAll_cc (x y : PyData) (l r : List PyData) : PyData.eqvAll (x :: l) (y :: r) = (PyData.eqv x y && PyData.eqvAll l r) := by
  conv => lhs; unfold PyData.eqvAll
theorem eqvAll_map {α : Type} [DecidableEq α] {d : α → PyData} (hd : ∀ x y, PyData.eqv (d x) (d y) = decide (x = y)) : ∀ (l r : List α), PyData.eqvAll (l.map d) (r.map d) = decide (l = r)
  | [], [] => by simp
  | [], y :: r => by simp
  | x :: l, [] => by simp
  | x :: l, y :: r => by
    rw [List.map_cons, List.map_cons, eqvAll_cc, hd, eqvAll_map hd l r]
    by_cases h1 : x = y <;> by_cases h2 : l = r <;> simp [h1, h2]
theorem ev_eq {neg : Bool} {x y : PV} {d e : PyData} (h1 : toD 60 S x = some d) (h2 : toD 60 S y = some e) : gEqN neg x y S = some (.ok (.bl (if neg then !PyData.eqv d e else PyData.eqv d e)) S) := by
  unfold gEqN eqP
  rw [h1, h2]
@[simp] theorem ev_eqI (i j : Int) : gEqN false (.int i) (.int j) S = some (.ok (.bl (decide (i = j))) S) := by rw [ev_eq (toD_int i) (toD_int j)]; simp
@[simp] theorem ev_neI (i j : Int) : gEqN true (.int i) (.int j) S = some (.ok (.bl (!decide (i = j))) S) := by rw [ev_eq (toD_int i) (toD_int j)]; simp
@[simp] theorem ev_eqB (i j : Bool) : gEqN false (.bl i) (.bl j) S = some (.ok (.bl (decide (i = j))) S) := by rw [ev_eq (toD_bl i) (toD_bl j)]; simp
@[simp] theorem ev_neB (i j : Bool) : gEqN true (.bl i) (.bl j) S = some (.ok (.bl (!decide (i = j))) S) := by rw [ev_eq (toD_bl i) (toD_bl j)]; simp
@[simp] theorem ev_eqS (i j : Str) : gEqN false (.str i) (.str j) S = some (.ok (.bl (decide (i = j))) S) := by rw [ev_eq (toD_str i) (toD_str j)]; simp
@[simp] theorem ev_neS (i j : Str) : gEqN true (.str i) (.str j) S = some (.ok (.bl (!decide (i = j))) S) := by rw [ev_eq (toD_str i) (toD_str j)]; simp
def pairD (p : Int × Int) : PyData := .tuple [.int p.1, .int p.2]
theorem toD_pair (p : Int × Int) : toD (n + 1) S (pairP p) = some (pairD p) := toD_tup (by simp [mapO])
theorem eqv_pair (p q : Int × Int) : PyData.eqv (pairD p) (pairD q) = decide (p = q) := by
  obtain ⟨a, b⟩ := p
  obtain ⟨c, d⟩ := q
  unfold pairD
  by_cases h1 : a = c <;> by_cases h2 : b = d <;> simp [h1, h2]
theorem mapO_pairs (l : List (Int × Int)) : mapO (toD (n + 1) S) (pairsP l) = some (l.map pairD) := mapO_map fun x _ => toD_pair x
theorem eqv_pairs (l r : List (Int × Int)) : PyData.eqvAll (l.map pairD) (r.map pairD) = decide (l = r) := eqvAll_map eqv_pair l r
theorem mapO_ints (l : List Int) : mapO (toD n S) (intsP l) = some (l.map PyData.int) := mapO_map fun x _ => toD_int x
theorem eqv_ints (l r : List Int) : PyData.eqvAll (l.map PyData.int) (r.map PyData.int) = decide (l = r) := eqvAll_map eqv_int l r
/-- tuples of pairs -/
theorem ev_eqTP (neg : Bool) (l r : List (Int × Int)) : gEqN neg (.tup (pairsP l)) (.tup (pairsP r)) S = some (.ok (.bl (if neg then !decide (l = r) else decide (l = r))) S) := by
  rw [ev_eq (toD_tup (mapO_pairs l)) (toD_tup (mapO_pairs r)), eqv_tuple, eqv_pairs]
theorem ev_eqLP (neg : Bool) {j k : Nat} {l r : List (Int × Int)} (h1 : S[j]? = some (.lst (pairsP l))) (h2 : S[k]? = some (.lst (pairsP r))) : gEqN neg (.loc j) (.loc k) S = some (.ok (.bl (if neg then !decide (l = r) else decide (l = r))) S) := by
  rw [ev_eq (toD_lst h1 (mapO_pairs l)) (toD_lst h2 (mapO_pairs r)), eqv_list, eqv_pairs]
end
/-! sorted -/
theorem sort_enc {α : Type} (e : α → PV) (d : α → PyData) (l : List α) : sortP (l.map e) (l.map d) = (l.mergeSort (PySem.W.dataLe false d)).map e := by
  unfold sortP
  have hz : (l.map e).zip (l.map d) = l.map fun x => (e x, d x) := by
    induction l with
    | nil => rfl
    | cons x l ih => rw [List.map_cons, List.map_cons, List.zip_cons_cons, ih, List.map_cons]
  rw [hz, ← List.map_mergeSort (f := fun x => (e x, d x)) (r := PySem.W.dataLe false d) (s := PySem.W.dataLe false Prod.snd) (fun a _ b _ => rfl), List.map_map]
  rfl
theorem ev_sorted {S : Sto} {k : Nat} {α : Type} {e : α → PV} {d : α → PyData} {l : List α} (h : S[k]? = some (.lst (l.map e))) (hd : ∀ x ∈ l, toD 40 S (e x) = some (d x)) (ha : alikeB (l.map d) = true) (hs : sortableB (l.map d) = true) :
    gSorted [.loc k] S = some (.ok (.loc S.length) (S ++ [.lst ((l.mergeSort (PySem.W.dataLe false d)).map e)])) := by
  unfold gSorted lstOf
  dsimp only
  rw [h]
  dsimp only
  rw [mapO_map hd]
  dsimp only
  rw [if_pos ⟨ha, hs⟩, sort_enc]
theorem alike_pairs (l : List (Int × Int)) : alikeB (l.map pairD) = true := by
  unfold alikeB
  rw [List.all_eq_true]
  intro x hx
  rw [List.all_eq_true]
  intro y hy
  obtain ⟨p, _, rfl⟩ := List.mem_map.mp hx
  obtain ⟨q, _, rfl⟩ := List.mem_map.mp hy
  simp [pairD, PySem.W.alike, PySem.W.alikeAll]
theorem sortable_pairs (l : List (Int × Int)) : sortableB (l.map pairD) = true := by
  unfold sortableB
  rw [Bool.or_eq_true]
  refine .inl ?_
  rw [List.all_eq_true]
  intro x hx
  obtain ⟨p, _, rfl⟩ := List.mem_map.mp hx
  rfl
/-- pairs in order -/
def sortPr (l : List (Int × Int)) : List (Int × Int) := l.mergeSort (PySem.W.dataLe false pairD)
theorem sortPr_perm (l : List (Int × Int)) : (sortPr l).Perm l := List.mergeSort_perm ..
theorem pairLe_iff (p q : Int × Int) : PySem.W.dataLe false pairD p q = true ↔ p.1 < q.1 ∨ (p.1 = q.1 ∧ p.2 ≤ q.2) := by
  obtain ⟨a, b⟩ := p
  obtain ⟨c, d⟩ := q
  show (!PyProof.Rows.lexLt PyProof.Rows.itemOrd [.inl 1, .inl c, .inl 1, .inl d, .inl 0] [.inl 1, .inl a, .inl 1, .inl b, .inl 0]) = true ↔ _
  have lt : ∀ i j : Int, PyProof.Rows.itemOrd.blt (.inl i) (.inl j) = decide (i < j) := fun _ _ => rfl
  rw [PyProof.Rows.lex_self, PyProof.Rows.lex_cons, PyProof.Rows.lex_self, PyProof.Rows.lex_cons, PyProof.Rows.lex_self]
  have lt2 : ∀ i j : Int, PyProof.Rows.itemLt (.inl i) (.inl j) = decide (i < j) := fun _ _ => rfl
  have e : PyProof.Rows.lexLt PyProof.Rows.itemOrd [] [] = false := (rfl)
  rw [e]
  by_cases h1 : c < a
  · have : ¬ a < c ∧ ¬ a = c := by omega
    simp [lt2, h1, this]
  · by_cases h2 : a < c
    · simp [lt2, h1, h2]
    · have h3 : a = c := by omega
      subst h3
      simp [lt2]
theorem sortPr_sorted (l : List (Int × Int)) : (sortPr l).Pairwise fun p q => p.1 < q.1 ∨ (p.1 = q.1 ∧ p.2 ≤ q.2) := by
  have h := List.pairwise_mergeSort (le := PySem.W.dataLe false pairD) (fun a b c h1 h2 => by
    rw [pairLe_iff] at *
    omega) (fun a b => by
    rw [Bool.or_eq_true, pairLe_iff, pairLe_iff]
    omega) l
  exact h.imp fun h => (pairLe_iff _ _).mp h
theorem sortPr_same {l : List (Int × Int)} (h : l.Pairwise fun p q => p.1 < q.1 ∨ (p.1 = q.1 ∧ p.2 ≤ q.2)) : sortPr l = l := List.mergeSort_of_pairwise (h.imp fun h => (pairLe_iff _ _).mpr h)
theorem ev_sortedP {S : Sto} {k : Nat} {l : List (Int × Int)} (h : S[k]? = some (.lst (pairsP l))) : gSorted [.loc k] S = some (.ok (.loc S.length) (S ++ [.lst (pairsP (sortPr l))])) :=
  ev_sorted h (fun x _ => toD_pair x) (alike_pairs l) (sortable_pairs l)

/-! errors -/
section
variable {ρ : En} {S : Sto}
@[simp] theorem ev_isE (i : Nat) (a : Addr) (b : Bool) : dIsE i a b ρ S = match ρ[i]? with
  | some (some (.xc a' _ _)) => if a' = a then some (.ok (.bl b) S) else none
  | _ => none := (rfl)
theorem ev_tryAs_ok {body : DS} {i : Nat} {cat : Str → Option Bool} {su : Hd} {r : RS} (h : body ρ S = some r) (hx : ∀ e ρ1 S1, r ≠ .exc e ρ1 S1) : dTryAs body i cat su ρ S = some r := by
  unfold dTryAs
  rw [h]
  cases r <;> first | rfl | exact absurd rfl (hx _ _ _)
theorem ev_tryAs_exc {body : DS} {i : Nat} {cat : Str → Option Bool} {su : Hd} {e : Xn} {ρ1 : En} {S1 : Sto} (h : body ρ S = some (.exc e ρ1 S1)) (hc : cat e.c = some true) : dTryAs body i cat su ρ S = hdAs i su e ρ1 S1 := by
  unfold dTryAs
  rw [h]
  dsimp only
  rw [hc]
end
/-! comprehensions -/
theorem compL_map {c i : Nat} {own : List Nat} {elt : DE} {g : PV → PV} {ρ : En} : ∀ (items acc : List PV) (S : Sto), (∀ x ∈ items, ∀ S', elt ((killE own ρ).set i (some x)) S' = some (.ok (g x) S')) → S[c]? = some (.lst acc) → acc.length + items.length ≤ 16777216 →
    compL c (nmOne i) own dYes elt [] items ρ S = some (.ok (.loc c) (S.set c (.lst (acc ++ items.map g))))
  | [], acc, S, _, hc, _ => by
    unfold compL
    rw [if_pos (by simp), List.map_nil, List.append_nil]
    congr 2
    have hl := (List.getElem?_eq_some_iff.mp hc).1
    refine List.ext_getElem? fun j => ?_
    by_cases hj : j = c
    · subst hj
      rw [List.getElem?_set_self hl]; exact hc
    · rw [List.getElem?_set_ne (fun e => hj e.symm)]
  | x :: items, acc, S, he, hc, hl => by
    rw [List.length_cons] at hl
    have hlt := (List.getElem?_eq_some_iff.mp hc).1
    have ih := compL_map (c := c) (i := i) (own := own) (elt := elt) (g := g) (ρ := ρ) items (acc ++ [g x]) (S.set c (.lst (acc ++ [g x]))) (fun y hy => he y (List.mem_cons_of_mem _ hy)) (by rw [List.getElem?_set_self hlt]) (by rw [List.length_append, List.length_singleton]; omega)
    unfold compL
    rw [if_pos (by simp)]
    have h1 := he x List.mem_cons_self S
    simp only [nmOne, dYes, setsE, h1, hc]
    rw [if_pos (by omega), ih, List.set_set]
    simp
theorem ev_comp {i : Nat} {own : List Nat} {elt : DE} {g : PV → PV} {ρ : En} {S S1 : Sto} {it : DI} {items : List PV} (hi : it ρ S = some (.ok ⟨items, []⟩ S1)) (he : ∀ x ∈ items, ∀ S', elt ((killE own ρ).set i (some x)) S' = some (.ok (g x) S')) (hl : items.length ≤ 16777216) :
    dComp it (nmOne i) own dYes elt ρ S = some (.ok (.loc S1.length) (S1 ++ [.lst (items.map g)])) := by
  unfold dComp
  rw [hi]
  simp only [ev_bR_ok]
  rw [compL_map items [] _ he (at_0 (T := [])) (by simpa using hl)]
  simp
@[simp] theorem rangeP_len (lo : Int) (n : Nat) : (rangeP lo n).length = n := by simp [rangeP]
theorem rangeP_mem {lo : Int} {n : Nat} {x : PV} (h : x ∈ rangeP lo n) : ∃ i : Int, x = .int i ∧ lo ≤ i ∧ i < lo + n := by
  unfold rangeP at h
  obtain ⟨j, hj, rfl⟩ := List.mem_map.mp h
  rw [List.mem_range] at hj
  exact ⟨_, rfl, by omega, by omega⟩

theorem gcE_bl {S S' : Sto} {b : Bool} : ∃ T, some (gcE S (.ok (.bl b) S')) = some (.ok (.bl b) T) := by
  by_cases h : S'.take S.length = S
  · refine ⟨S, ?_⟩
    unfold gcE
    simp only [h, if_true]
    rfl
  · refine ⟨gc2 S S', ?_⟩
    unfold gcE
    simp only [h, if_false]
    rfl
theorem law_ret {n : Nat} {body : DS} {S S' : Sto} {a : PV} (hb : body (some a :: List.replicate (n - 1) none) S = some (.ret (.bl true) S')) : ∃ T, dDef 1 n body [a] S = some (.ok (.bl true) T) := by
  rw [dDef_ret (k := 1) (args := [a]) rfl hb]
  exact gcE_bl

/-! comprehensions, in general -/
theorem compL_fm {α : Type} {c : Nat} {f : PV → Option (List Nat × List PV)} {own : List Nat} {tt : DB} {elt : DE} {keep : List (Nat × PO)} {ρ : En} (P : Sto → Prop) (e : α → PV) (t : α → Bool) (g : α → PV) (hk : ∀ S, P S → Kept keep S) (hP : ∀ S acc, P S → P (S.set c (.lst acc))) :
    ∀ (items : List α) (acc : List PV) (S : Sto), (∀ x ∈ items, ∀ S', P S' → ∃ is l, f (e x) = some (is, l) ∧ tt (setsE is l (killE own ρ)) S' = some (.ok (t x) S') ∧ (t x = true → elt (setsE is l (killE own ρ)) S' = some (.ok (g x) S'))) →
    P S → S[c]? = some (.lst acc) → acc.length + items.length ≤ 16777216 → compL c f own tt elt keep (items.map e) ρ S = some (.ok (.loc c) (S.set c (.lst (acc ++ (items.filter t).map g))))
  | [], acc, S, _, p, hc, _ => by
    rw [List.map_nil]
    unfold compL
    rw [if_pos (hk S p), List.filter_nil, List.map_nil, List.append_nil]
    congr 2
    have hl := (List.getElem?_eq_some_iff.mp hc).1
    refine List.ext_getElem? fun j => ?_
    by_cases hj : j = c
    · subst hj
      rw [List.getElem?_set_self hl]; exact hc
    · rw [List.getElem?_set_ne (fun e => hj e.symm)]
  | x :: items, acc, S, h, p, hc, hl => by
    rw [List.length_cons] at hl
    have hlt := (List.getElem?_eq_some_iff.mp hc).1
    obtain ⟨is, l, h1, h2, h3⟩ := h x List.mem_cons_self S p
    rw [List.map_cons]
    unfold compL
    rw [if_pos (hk S p), h1]
    dsimp only
    rw [h2]
    cases ht : t x with
    | true =>
      dsimp only
      rw [h3 ht]
      dsimp only
      rw [hc]
      dsimp only
      rw [if_pos (by omega), compL_fm P e t g hk hP items (acc ++ [g x]) (S.set c (.lst (acc ++ [g x]))) (fun y hy => h y (List.mem_cons_of_mem _ hy)) (hP _ _ p) (by rw [List.getElem?_set_self hlt]) (by rw [List.length_append, List.length_singleton]; omega), List.set_set]
      simp [ht]
    | false =>
      dsimp only
      rw [compL_fm P e t g hk hP items acc S (fun y hy => h y (List.mem_cons_of_mem _ hy)) p hc (by omega)]
      simp [ht]
/-- over a tuple's items, nothing of the store asked but P -/
theorem ev_compF {α : Type} {f : PV → Option (List Nat × List PV)} {own : List Nat} {tt : DB} {elt : DE} {ρ : En} {S S1 : Sto} {it : DI} {keep : List (Nat × PO)} {items : List α} (e : α → PV) (t : α → Bool) (g : α → PV)
    (hi : it ρ S = some (.ok ⟨items.map e, keep⟩ S1)) (hk : Kept keep S1) (h : ∀ x ∈ items, ∀ acc, ∃ is l, f (e x) = some (is, l) ∧ tt (setsE is l (killE own ρ)) (S1 ++ [.lst acc]) = some (.ok (t x) (S1 ++ [.lst acc])) ∧ (t x = true → elt (setsE is l (killE own ρ)) (S1 ++ [.lst acc]) = some (.ok (g x) (S1 ++ [.lst acc])))) (hl : items.length ≤ 16777216) :
    dComp it f own tt elt ρ S = some (.ok (.loc S1.length) (S1 ++ [.lst ((items.filter t).map g)])) := by
  unfold dComp
  rw [hi]
  simp only [ev_bR_ok]
  rw [compL_fm (fun S' => ∃ acc, S' = S1 ++ [.lst acc]) e t g (fun S' ⟨acc, q⟩ p hp => by
    rw [q, List.getElem?_append_left (lt_of_get (hk p hp))]
    exact hk p hp) (fun S' acc ⟨b, q⟩ => ⟨acc, by rw [q, put_0]⟩) items [] _ (fun x hx S' ⟨acc, q⟩ => by
    rw [q]
    exact h x hx acc) ⟨[], rfl⟩ (at_0 (T := [])) (by simpa using hl)]
  simp
end D

namespace G
open PySem PySem.Spec PyProof.Rows L2 D
noncomputable def b__law_pick : DS := (dRet (dOp2 gMod (dOpA gInt (dCons (dOp2 gIx (dVar 0) (dOp2 gMod (dVar 1) (dOpA gLen (dCons (dVar 0) dNil)))) dNil)) (dVar 2)))
noncomputable def F__law_pick : DF := dDef 3 3 b__law_pick
noncomputable def l_is_closed_days_1 : DS := (dSeq (dIfS (dCmp gGt (dVar 2) (dVar 3)) (dRet (dC (.bl false))) dPass) (dSeq (dIfS (dAndT (dCmp gIsNot (dVar 1) (dC .non)) (dCmp gLt (dVar 2) (dOp2 gAdd (dVar 1) (dC (.int 2))))) (dRet (dC (.bl false))) dPass) (dSet 1 (dVar 3))))
noncomputable def b_is_closed_days : DS := (dSeq (dSet 1 (dC .non)) (dSeq (dFor (dSeqI (dVar 0)) (gT 2 (gsCons (gN 2) (gsCons (gN 3) gsNil))) [2, 3] l_is_closed_days_1) (dRet (dC (.bl true)))))
noncomputable def F_is_closed_days : DF := dDef 1 4 b_is_closed_days

/-- the number that is picked -/
def pick (ns : List Int) (a m : Int) : Int := (ns.getD (a % (ns.length : Int)).toNat 0) % m
theorem pick_lt (ns : List Int) (a : Int) {m : Int} (h : 0 < m) : 0 ≤ pick ns a m ∧ pick ns a m < m := ⟨Int.emod_nonneg _ (by omega), Int.emod_lt_of_pos _ h⟩
theorem pick_spec {S : Sto} {k : Nat} {ns : List Int} {a m : Int} (h : S[k]? = some (.lst (intsP ns))) (hn : ns ≠ []) (hm : 0 < m) : F__law_pick [.loc k, .int a, .int m] S = some (.ok (.int (pick ns a m)) S) := by
  have hl : 0 < (ns.length : Int) := by
    cases ns with
    | nil => exact absurd rfl hn
    | cons _ _ => simp
  have h1 := Int.emod_nonneg a (show (ns.length : Int) ≠ 0 by omega)
  have h2 := Int.emod_lt_of_pos a hl
  have hx := ints_at h1 h2
  refine call_val0 ?_ rfl
  simp [b__law_pick, ev_lenL h, ev_mod hl, ev_ixL h hx, ev_mod hm, pick]
/-- the one form -/
def formB : Option Int → List (Int × Int) → Bool
  | _, [] => true
  | b, p :: r => if p.1 > p.2 then false else if (match b with | some b => decide (p.1 < b + 2) | none => false) = true then false else formB (some p.2) r
def optP : Option Int → PV
  | none => .non
  | some i => .int i
theorem icd_loop {S : Sto} {q : PV} : ∀ (l : List (Int × Int)) (b : Option Int), (∃ b', forL (gT 2 (gsCons (gN 2) (gsCons (gN 3) gsNil))) [2, 3] l_is_closed_days_1 [] (pairsP l) [some q, some (optP b), none, none] S = (if formB b l = true then some (.next [some q, some (optP b'), none, none] S) else some (.ret (.bl false) S)))
  | [], b => ⟨b, by rw [pairsP_nil, forL_nil (by simp)]; rfl⟩
  | p :: r, b => by
    obtain ⟨b', ih⟩ := icd_loop (S := S) (q := q) r (some p.2)
    refine ⟨b', ?_⟩
    rw [pairsP_cons, forL_cons (by simp)]
    unfold formB
    by_cases h1 : p.2 < p.1
    · simp [pairP, l_is_closed_days_1, h1]
    · cases b with
      | none =>
        simp [pairP, l_is_closed_days_1, h1, optP] at ih ⊢
        exact ih
      | some b =>
        by_cases h2 : p.1 < b + 2
        · simp [pairP, l_is_closed_days_1, h1, optP, h2]
        · simp [pairP, l_is_closed_days_1, h1, optP, h2] at ih ⊢
          exact ih
theorem icd_spec {S : Sto} {l : List (Int × Int)} : F_is_closed_days [.tup (pairsP l)] S = some (.ok (.bl (formB none l)) S) := by
  obtain ⟨b', h⟩ := icd_loop (S := S) (q := .tup (pairsP l)) l none
  refine call_val0 ?_ rfl
  simp [b_is_closed_days, optP] at h ⊢
  rw [h]
  cases formB none l <;> simp
end G

/-! E2: how the denotations of D12..D15 are reckoned out. -/
namespace D
open PySem PySem.Spec PyProof.Rows L2
section
variable {ρ : En} {S S' : Sto}
/-! instances -/
@[simp] theorem ev_fld (c f : Str) (a : DE) : dFld c f a ρ S = bR (a ρ S) fun x S1 => gFld c f x S1 := (rfl)
theorem ev_gFld {c f : Str} {k : Nat} {fs : List (Str × PV)} {v : PV} (h : S[k]? = some (.ins c fs)) (hl : fs.lookup f = some v) : gFld c f (.loc k) S = some (.ok v S) := by
  unfold gFld
  simp only [h, if_true, hl]
@[simp] theorem ev_setF (c f : Str) (fo fe : DE) : dSetF c f fo fe ρ S = bS ρ (fe ρ S) fun v S1 => bS ρ (fo ρ S1) fun x S2 => gSetF c f v x ρ S2 := (rfl)
theorem ev_gSetF {c f : Str} {k : Nat} {fs : List (Str × PV)} {v : PV} (h : S[k]? = some (.ins c fs)) (hl : fs.length < 1000) : gSetF c f v (.loc k) ρ S = some (.next ρ (S.set k (.ins c (putFP f v fs)))) := by
  unfold gSetF
  simp only [h]
  exact if_pos ⟨trivial, hl⟩
@[simp] theorem ev_imeth (c m : Str) (F : DF) (fo : DE) (fa : DA) : dIMeth c m F fo fa ρ S = bR (fo ρ S) fun x S1 => if isInsP c m x S1 = true then bR (fa ρ S1) fun xs S2 => F (x :: xs) S2 else none := (rfl)
theorem ev_isIns {c m : Str} {k : Nat} {fs : List (Str × PV)} (h : S[k]? = some (.ins c fs)) (hl : fs.lookup m = none) : isInsP c m (.loc k) S = true := by
  unfold isInsP
  simp only [h, hl]
  simp
@[simp] theorem ev_make (c : Str) (F : DF) (fa : DA) : dMake c F fa ρ S = bR (fa ρ S) fun xs S1 => gMake c F xs S1 := (rfl)
theorem ev_gMake {c : Str} {F : DF} {xs : List PV} (h : F (.loc S.length :: xs) (S ++ [.ins c []]) = some (.ok .non S')) : gMake c F xs S = some (.ok (.loc S.length) S') := by
  unfold gMake
  rw [h]
theorem ev_gMakeX {c : Str} {F : DF} {xs : List PV} {e : Xn} (h : F (.loc S.length :: xs) (S ++ [.ins c []]) = some (.exc e S')) : gMake c F xs S = some (.exc e S') := by
  unfold gMake
  rw [h]
/-! dicts -/
@[simp] theorem ev_newD : dNewD ρ S = some (.ok (.loc S.length) (S ++ [.dct false []])) := (rfl)
/-! list(range(..)) -/
@[simp] theorem ev_listR (f : DE) : dListR f ρ S = bR (f ρ S) fun x S1 => gListR x S1 := (rfl)
theorem ev_gListR {j : Int} (h : 0 ≤ j) (h2 : j ≤ 16777216) : gListR (.int j) S = some (.ok (.loc S.length) (S ++ [.lst (rangeP 0 j.toNat)])) := if_pos ⟨by omega, h2⟩
/-! errors -/
@[simp] theorem ev_raiseF (c f : Str) (fe : DE) : dRaiseF c f fe ρ S = bS ρ (fe ρ S) fun v S1 => some (.exc ⟨c, [(f, v)]⟩ ρ S1) := (rfl)
@[simp] theorem ev_isEd (i : Nat) (a dd : Addr) (b : Bool) : dIsEd i a dd b ρ S = match ρ[i]? with
  | some (some (.xc a' (some d') _)) => if a' = a ∧ d' = dd then some (.ok (.bl b) S) else none
  | _ => none := (rfl)
@[simp] theorem ev_suF (d : Addr) (f : Addr → DS) : suF (some d) f = f d := (rfl)
/-! what is let go -/
theorem Cl.refl : Cl S S := fun _ _ _ h => .inl h
theorem Cl.app (T : Sto) : Cl S (S ++ T) := fun k o hk h => .inl (by rwa [List.getElem?_append_left hk] at h)
theorem Cl.set (h : Cl S S') {j : Nat} {o : PO} (hb : bdO S.length o) : Cl S (S'.set j o) := fun k u hk e => by
  by_cases hj : j = k
  · subst hj
    rw [List.getElem?_set] at e
    split at e
    · split at e
      · cases e; exact .inr hb
      · cases e
    · exact h _ _ hk e
  · rw [List.getElem?_set_ne hj] at e
    exact h _ _ hk e
theorem Cl.snoc (h : Cl S S') (le : S.length ≤ S'.length) (T : Sto) : Cl S (S' ++ T) := fun k o hk e => by
  rw [List.getElem?_append_left (Nat.lt_of_lt_of_le hk le)] at e
  exact h k o hk e
/-- kept places, or bounded -/
theorem Cl.of (h : ∀ k o, k < S.length → S'[k]? = some o → S[k]? ≠ some o → bdO S.length o) : Cl S S' := fun k o hk e => by
  by_cases q : S[k]? = some o
  · exact .inl q
  · exact .inr (h k o hk e q)
theorem gc_cl {v : PV} (hn : noLoc v = true) (h : Cl S S') : gcE S (.ok v S') = .ok v (S'.take S.length) := by
  unfold gcE
  simp only [hn, if_true]
  split
  · rename_i e
    rw [e]
  · unfold gc2
    rw [if_pos h]
theorem gc_len {v : PV} (hn : noLoc v = true) (h : Cl S S') (hl : S'.length = S.length) : gcE S (.ok v S') = .ok v S' := by
  rw [gc_cl hn h, ← hl, List.take_length]
@[simp] theorem ev_gc (f : DE) : dGc f ρ S = (f ρ S).map (gcE S) := (rfl)
theorem body_next {kill : List Nat} {f : DS} {ρ' : En} (h : f ρ S = some (.next ρ' S')) (c : Cl S S') (b : bdE S.length (killE kill ρ')) : dBody kill f ρ S = some (.next (killE kill ρ') (S'.take S.length)) := by
  unfold dBody
  rw [h]
  exact congrArg some (if_pos ⟨c, b⟩)
theorem body_ctn {kill : List Nat} {f : DS} {ρ' : En} (h : f ρ S = some (.ctn ρ' S')) (c : Cl S S') (b : bdE S.length (killE kill ρ')) : dBody kill f ρ S = some (.ctn (killE kill ρ') (S'.take S.length)) := by
  unfold dBody
  rw [h]
  exact congrArg some (if_pos ⟨c, b⟩)
theorem body_ret {kill : List Nat} {f : DS} {v : PV} (h : f ρ S = some (.ret v S')) : dBody kill f ρ S = some (.ret v S') := by
  unfold dBody
  rw [h]
  rfl
theorem body_exc {kill : List Nat} {f : DS} {e : Xn} {ρ' : En} (h : f ρ S = some (.exc e ρ' S')) : dBody kill f ρ S = some (.exc e ρ' S') := by
  unfold dBody
  rw [h]
  rfl
theorem body_brk {kill : List Nat} {f : DS} {ρ' : En} (h : f ρ S = some (.brk ρ' S')) : dBody kill f ρ S = some (.brk ρ' S') := by
  unfold dBody
  rw [h]
  rfl
end
/-! stores S ++ [..] -/
section
variable {S T U : Sto} {o : PO}
@[simp] theorem get_off (c : Nat) : (S ++ T)[S.length + c]? = T[c]? := by
  rw [List.getElem?_append_right (by omega)]
  congr 1
  omega
@[simp] theorem get_off0 : (S ++ T)[S.length]? = T[0]? := get_off 0
@[simp] theorem set_off (c : Nat) : (S ++ T).set (S.length + c) o = S ++ T.set c o := by
  rw [List.set_append_right _ _ (by omega)]
  congr 2
  omega
@[simp] theorem set_off0 : (S ++ T).set S.length o = S ++ T.set 0 o := set_off 0
@[simp] theorem take_off (c : Nat) : (S ++ T).take (S.length + c) = S ++ T.take c := by
  rw [List.take_append]
  congr 1
  · exact List.take_of_length_le (by omega)
  · congr 1; omega
theorem get_lt {k : Nat} (h : k < S.length) : (S ++ T)[k]? = S[k]? := List.getElem?_append_left h
theorem set_lt {k : Nat} (h : k < S.length) : (S ++ T).set k o = S.set k o ++ T := List.set_append_left _ _ h
end
/-! a walk through a list by an invariant -/
section
variable {α : Type} {g : DG} {kill : List Nat} {body : DS} {keep : List (Nat × PO)}
/-- the turn of x leads on, or out -/
def Turn (g : DG) (kill : List Nat) (body : DS) (x : PV) (ρ : En) (S : Sto) (I : En → Sto → Prop) (out : RS → Prop) : Prop :=
  ∃ ρ1 S1, g x ρ S = some (ρ1, S1) ∧ ∃ r, body ρ1 S1 = some r ∧ match r with
    | .next ρ2 S2 => I (killE kill ρ2) S2
    | .ctn ρ2 S2 => I (killE kill ρ2) S2
    | .brk ρ2 S2 => out (.next (killE kill ρ2) S2)
    | r => out r
theorem forL_inv (e : α → PV) (I : List α → List α → En → Sto → Prop) (out : RS → Prop) (hk : ∀ d r ρ S, I d r ρ S → Kept keep S)
    (turn : ∀ d x r ρ S, I d (x :: r) ρ S → Turn g kill body (e x) ρ S (I (d ++ [x]) r) out) :
    ∀ (l d : List α) (ρ : En) (S : Sto), I d l ρ S → (∃ ρ' S', forL g kill body keep (l.map e) ρ S = some (.next ρ' S') ∧ I (d ++ l) [] ρ' S') ∨ ∃ r, forL g kill body keep (l.map e) ρ S = some r ∧ out r
  | [], d, ρ, S, h => .inl ⟨ρ, S, by rw [List.map_nil, forL_nil (hk _ _ _ _ h)], by rwa [List.append_nil]⟩
  | x :: l, d, ρ, S, h => by
    obtain ⟨ρ1, S1, h1, r, h2, h3⟩ := turn _ _ _ _ _ h
    rw [List.map_cons, forL_cons (hk _ _ _ _ h), h1]
    dsimp only
    rw [h2]
    cases r with
    | next ρ2 S2 =>
      have := forL_inv e I out hk turn l (d ++ [x]) _ _ h3
      rwa [List.append_assoc] at this
    | ctn ρ2 S2 =>
      have := forL_inv e I out hk turn l (d ++ [x]) _ _ h3
      rwa [List.append_assoc] at this
    | brk ρ2 S2 => exact .inr ⟨_, rfl, h3⟩
    | ret v S2 => exact .inr ⟨_, rfl, h3⟩
    | exc ex ρ2 S2 => exact .inr ⟨_, rfl, h3⟩
end
end D

/-! E3: kinds of data: how they stand as values, as data; that == tells them apart. -/
namespace D
open PySem PySem.Spec PyProof.Rows L2
class Dat (α : Type) where
  enc : α → PV
  dat : α → PyData
  dep : Nat
  td : ∀ (n : Nat) (S : Sto) (a : α), toD (n + dep) S (enc a) = some (dat a)
  eqv : ∀ a b : α, PyData.eqv (dat a) (dat b) = true ↔ a = b
  nl : ∀ a : α, noLoc (enc a) = true
open Dat (enc)
section
variable {α β γ : Type}
instance : Dat Int := ⟨PV.int, PyData.int, 0, fun _ _ _ => toD_int _, fun _ _ => by simp, fun _ => rfl⟩
instance : Dat Bool := ⟨PV.bl, PyData.bool, 0, fun _ _ _ => toD_bl _, fun _ _ => by simp, fun _ => rfl⟩
instance : Dat Str := ⟨PV.str, PyData.str, 0, fun _ _ _ => toD_str _, fun _ _ => by simp, fun _ => rfl⟩
theorem Dat.td' [Dat α] (k : Nat) (h : Dat.dep α ≤ k) (S : Sto) (a : α) : toD k S (enc a) = some (Dat.dat a) := by
  have := Dat.td (k - Dat.dep α) S a
  rwa [Nat.sub_add_cancel h] at this
theorem noLocs_map [Dat α] : ∀ l : List α, noLocs (l.map enc) = true
  | [] => rfl
  | x :: l => by
    rw [List.map_cons]
    show (noLoc _ && noLocs _) = true
    rw [Dat.nl x, noLocs_map l]
    rfl
theorem eqvAll_dat [Dat α] : ∀ (l r : List α), PyData.eqvAll (l.map Dat.dat) (r.map Dat.dat) = true ↔ l = r
  | [], [] => by simp
  | [], y :: r => by simp
  | x :: l, [] => by simp
  | x :: l, y :: r => by
    rw [List.map_cons, List.map_cons, eqvAll_cc, Bool.and_eq_true, Dat.eqv, eqvAll_dat l r, List.cons.injEq]
/-- a tuple of things of one kind -/
structure Tp (α : Type) where
  l : List α
  deriving DecidableEq
instance [Dat α] : Dat (Tp α) where
  enc t := .tup (t.l.map enc)
  dat t := .tuple (t.l.map Dat.dat)
  dep := Dat.dep α + 1
  td n S t := by
    rw [← Nat.add_assoc]
    exact toD_tup (mapO_map fun x _ => Dat.td n S x)
  eqv a b := by
    rw [eqv_tuple, eqvAll_dat]
    cases a; cases b; simp
  nl t := noLocs_map t.l
instance [Dat α] [Dat β] : Dat (α × β) where
  enc p := .tup [enc p.1, enc p.2]
  dat p := .tuple [Dat.dat p.1, Dat.dat p.2]
  dep := Dat.dep α + Dat.dep β + 1
  td n S p := by
    rw [← Nat.add_assoc]
    refine toD_tup ?_
    simp only [mapO, Dat.td' (n + (Dat.dep α + Dat.dep β)) (by omega) S p.1, Dat.td' (n + (Dat.dep α + Dat.dep β)) (by omega) S p.2]
  eqv a b := by
    rw [eqv_tuple, eqvAll_cc, eqvAll_cc, Bool.and_eq_true, Bool.and_eq_true, Dat.eqv, Dat.eqv, eqvAll_nil]
    obtain ⟨a1, a2⟩ := a; obtain ⟨b1, b2⟩ := b; simp
  nl p := by
    show (noLoc _ && (noLoc _ && true)) = true
    rw [Dat.nl, Dat.nl]
    rfl
/-- three ints -/
instance (priority := high) dat3 : Dat (Int × Int × Int) where
  enc p := .tup [.int p.1, .int p.2.1, .int p.2.2]
  dat p := .tuple [.int p.1, .int p.2.1, .int p.2.2]
  dep := 1
  td n S p := toD_tup (by simp [mapO])
  eqv a b := by
    obtain ⟨a1, a2, a3⟩ := a; obtain ⟨b1, b2, b3⟩ := b; simp
  nl p := rfl
/-! == of such things -/
variable {S : Sto} {neg : Bool}
theorem eqv_dec [Dat α] [DecidableEq α] (a b : α) : PyData.eqv (Dat.dat a) (Dat.dat b) = decide (a = b) := by
  by_cases h : a = b
  · rw [(Dat.eqv a b).mpr h, decide_eq_true h]
  · rw [decide_eq_false h, Bool.eq_false_iff]
    exact fun z => h ((Dat.eqv a b).mp z)
theorem eqvAll_dec [Dat α] [DecidableEq α] (a b : List α) : PyData.eqvAll (a.map Dat.dat) (b.map Dat.dat) = decide (a = b) := by
  by_cases h : a = b
  · rw [(eqvAll_dat a b).mpr h, decide_eq_true h]
  · rw [decide_eq_false h, Bool.eq_false_iff]
    exact fun z => h ((eqvAll_dat a b).mp z)
theorem eq_dat [Dat α] [DecidableEq α] (a b : α) (h : Dat.dep α ≤ 60 := by decide) : gEqN neg (enc a) (enc b) S = some (.ok (.bl (if neg then !decide (a = b) else decide (a = b))) S) := by
  rw [ev_eq (Dat.td' 60 h S a) (Dat.td' 60 h S b), eqv_dec]
/-- two lists of one kind -/
theorem eq_lists [Dat α] [DecidableEq α] {j k : Nat} {l r : List α} (h1 : S[j]? = some (.lst (l.map enc))) (h2 : S[k]? = some (.lst (r.map enc))) (h : Dat.dep α ≤ 59 := by decide) :
    gEqN neg (.loc j) (.loc k) S = some (.ok (.bl (if neg then !decide (l = r) else decide (l = r))) S) := by
  rw [ev_eq (toD_lst (n := 59) h1 (mapO_map fun x _ => Dat.td' 59 h S x)) (toD_lst (n := 59) h2 (mapO_map fun x _ => Dat.td' 59 h S x)), eqv_list, eqvAll_dec]
end
end D

/-! E4: evaluation lemmas for D16. -/
namespace D
open PySem PySem.Spec PyProof.Rows L2
section
variable {ρ : En} {S : Sto}
@[simp] theorem ev_rev (a : DE) (st : DO) : dRev a st ρ S = bR (a ρ S) fun x S1 => bR (st ρ S1) fun l S2 => gRev x l S2 := (rfl)
theorem ev_revL {k : Nat} {l : List PV} (h : S[k]? = some (.lst l)) : gRev (.loc k) (some (-1)) S = some (.ok (.loc S.length) (S ++ [.lst l.reverse])) := by unfold gRev; simp [h]
end
end D

/-! E5: evaluation lemmas for D17, D18: dicts walked, sorted, displayed; texts. -/
namespace D
open PySem PySem.Spec PyProof.Rows L2
section
variable {ρ : En} {S : Sto}
@[simp] theorem ev_keysI (f : DE) : dKeysI f ρ S = bR (f ρ S) fun x S1 => match x with
  | .loc k => match S1[k]? with
    | some (.fd kvs) => some (.ok ⟨kvs.map Prod.fst, [(k, .fd kvs)]⟩ S1)
    | _ => none
  | _ => none := (rfl)
theorem ev_lock {i k : Nat} {f : DS} {kvs : List (PV × PV)} (h : ρ[i]? = some (some (.loc k))) (hk : S[k]? = some (.dct false kvs)) : dLock i f ρ S = (f ρ (S.set k (.fd kvs))).bind (unR k) := by
  unfold dLock
  rw [h]
  simp only [hk]
theorem ev_lockF {i k : Nat} {f : DS} {kvs : List (PV × PV)} (h : ρ[i]? = some (some (.loc k))) (hk : S[k]? = some (.fd kvs)) : dLock i f ρ S = f ρ S := by
  unfold dLock
  rw [h]
  simp only [hk]
theorem ev_unS {k : Nat} {kvs : List (PV × PV)} (hk : S[k]? = some (.fd kvs)) : unS k S = some (S.set k (.dct false kvs)) := by
  unfold unS
  rw [hk]
/-- locked and open again -/
theorem un_lock {k : Nat} {kvs : List (PV × PV)} (hk : S[k]? = some (.dct false kvs)) : unS k (S.set k (.fd kvs)) = some S := by
  rw [ev_unS (List.getElem?_set_self (lt_of_get hk)), List.set_set]
  congr 1
  refine List.ext_getElem? fun j => ?_
  by_cases hj : k = j
  · subst hj
    rw [List.getElem?_set_self (lt_of_get hk), hk]
  · rw [List.getElem?_set_ne hj]
@[simp] theorem ev_disp (ps : List (DE × DE)) : dDisp ps ρ S = bR (dPairs ps ρ (S ++ [.dct false []])) fun l S1 => if l.length ≤ 15 then match S1[S.length]?, mergeD [] l with
  | some (.dct false []), some kvs => some (.ok (.loc S.length) (S1.set S.length (.dct false kvs)))
  | _, _ => none else none := (rfl)
@[simp] theorem ev_pairs0 : dPairs [] ρ S = some (.ok [] S) := (rfl)
@[simp] theorem ev_pairs1 (p : DE × DE) (r : List (DE × DE)) : dPairs (p :: r) ρ S = bR (p.1 ρ S) fun x S1 => bR (p.2 ρ S1) fun y S2 => bR (dPairs r ρ S2) fun l S3 => some (.ok ((x, y) :: l) S3) := (rfl)
@[simp] theorem ev_gInS (neg : Bool) (i j : Str) : gInS neg (.str i) (.str j) S = some (.ok (.bl (if neg then !inStr i j else inStr i j)) S) := (rfl)
@[simp] theorem ev_gRelS (f : Str → Str → Bool) (i j : Str) : gRelS f (.str i) (.str j) S = some (.ok (.bl (f i j)) S) := (rfl)
@[simp] theorem ev_strI (f : DE) : dStrI f ρ S = bR (f ρ S) fun x S1 => match x with
  | .str z => some (.ok ⟨z.cps.toList.map fun c => .str ⟨#[c]⟩, []⟩ S1)
  | _ => none := (rfl)
theorem ev_lenS {z : Str} (h : z.length ≤ 16777216) : gLen [.str z] S = some (.ok (.int z.length) S) := by
  unfold gLen
  dsimp only
  rw [if_pos h]
theorem ev_ixS {z : Str} {i : Int} {c : Nat} (h : z.length ≤ 16777216) (hc : atI z.cps.toList i = some c) : gIx (.str z) (.int i) S = some (.ok (.str ⟨#[c]⟩) S) := by
  unfold gIx
  dsimp only
  rw [if_pos h, hc]
theorem ev_sortDk {k : Nat} {kvs : List (PV × PV)} {ks : List Str} (hk : S[k]? = some (.dct false kvs)) (h : mapO keyS kvs = some ks) (h64 : ks.length < 64) : gSortD [.loc k] S = some (.ok (.loc S.length) (S ++ [.lst ((sortSt ks).map PV.str)])) := by
  unfold gSortD dctOf
  simp only [hk, h, if_pos h64]
/-- a text in a tuple of texts -/
theorem ev_inT {neg : Bool} {W : List Str} {i : Str} : gInN neg (.str i) (.tup (W.map PV.str)) S = some (.ok (.bl (if neg then !decide (i ∈ W) else decide (i ∈ W))) S) := by
  unfold gInN inP
  rw [toD_str, toD_tup (n := 59) (mapO_map (d := PyData.str) fun x _ => toD_str x)]
  dsimp only
  have : ((W.map PyData.str).any fun z => PyData.eqv z (.str i)) = decide (i ∈ W) := by
    induction W with
    | nil => rfl
    | cons x l ih =>
      rw [List.map_cons, List.any_cons, ih, eqv_str]
      by_cases h : x = i
      · simp [h]
      · have : ¬ i = x := fun e => h e.symm
        simp [h, this]
  rw [this]
end
end D

namespace G
open PySem PySem.Spec PyProof.Rows L2 D
noncomputable def l__law_stream_1 : DS := (dSeq (dExpr (dMeth "list" gAppend (dVar 1) (dCons (dOp2 gMod (dOpA gInt (dCons (dVar 3) dNil)) (dC (.int 1009))) dNil))) (dSeq (dSet 3 (dOp2 gDiv (dVar 3) (dC (.int 1009)))) (dIfS (dCmp gEq (dVar 3) (dC (.int 0))) dBrk dPass)))
noncomputable def l__law_stream_2 : DS := (dSeq (dSet 5 (dOp2 gMod (dOpA gInt (dCons (dOp2 gAdd (dOp2 gAdd (dOp2 gMul (dVar 5) (dC (.int 48271))) (dOp2 gMul (dC (.int 7)) (dVar 4))) (dC (.int 11))) dNil)) (dC (.int 2147483647)))) (dExpr (dMeth "list" gAppend (dVar 1) (dCons (dOp2 gMod (dOp2 gMod (dOpA gInt (dCons (dOp2 gAdd (dOp2 gMul (dVar 5) (dC (.int 69621))) (dVar 4)) dNil)) (dC (.int 2147483629))) (dC (.int 1009))) dNil))))
noncomputable def l__law_stream_3 : DS := (dSeq (dSet 3 (dOpA gInt (dCons (dVar 2) dNil))) (dIfS (dCmp gGe (dVar 3) (dOp2 gPow (dC (.int 10)) (dC (.int 18)))) (dFor (dRng1 (dCons (dC (.int 60)) dNil)) (gN 4) [4] l__law_stream_1) (dSeq (dSet 5 (dOp2 gMod (dOpA gInt (dCons (dVar 3) dNil)) (dC (.int 2147483647)))) (dFor (dRng1 (dCons (dC (.int 10)) dNil)) (gN 4) [4] l__law_stream_2))))
noncomputable def b__law_stream : DS := (dSeq (dSet 1 (dLst dNil)) (dSeq (dFor (dSeqI (dSl (dVar 0) dNoPart (dPart (dC (.int 63))))) (gN 2) [2, 3, 4, 5] l__law_stream_3) (dSeq (dIfS (dCmp gEq (dOpA gLen (dCons (dVar 1) dNil)) (dC (.int 0))) (dExpr (dMeth "list" gAppend (dVar 1) (dCons (dC (.int 0)) dNil))) dPass) (dRet (dVar 1)))))
noncomputable def F__law_stream : DF := dDef 1 6 b__law_stream

/-- numbers of a stream -/
def Good (ns : List Int) : Prop := ∀ n ∈ ns, 0 ≤ n ∧ n < 1009
theorem Good.snoc {ns : List Int} {i : Int} (h : Good ns) (h0 : 0 ≤ i) (h1 : i < 1009) : Good (ns ++ [i]) := fun n hn => by
  rcases List.mem_append.mp hn with q | q
  · exact h n q
  · rw [List.mem_singleton] at q
    subst q
    exact ⟨h0, h1⟩
theorem stream1 {S T : Sto} {q c z : Option PV} : ∀ (l : List Int) (ns : List Int) (r : Int), Good ns → ns.length + l.length ≤ 4000 → ∃ ns' r', Good ns' ∧ ns'.length ≤ ns.length + l.length ∧
    forL (gN 4) [4] l__law_stream_1 [] (intsP l) [q, some (.loc S.length), c, some (.int r), none, z] (S ++ .lst (intsP ns) :: T) = some (.next [q, some (.loc S.length), c, some (.int r'), none, z] (S ++ .lst (intsP ns') :: T))
  | [], ns, r, g, hl => ⟨ns, r, g, by simp, by rw [intsP_nil, forL_nil (by simp)]⟩
  | i :: l, ns, r, g, hl => by
    rw [List.length_cons] at hl
    have h0 := Int.emod_nonneg r (show (1009 : Int) ≠ 0 by omega)
    have h1 := Int.emod_lt_of_pos r (show (0 : Int) < 1009 by omega)
    have hap : gAppend (.loc S.length) [.int (r % 1009)] (S ++ .lst (intsP ns) :: T) = some (.ok .non (S ++ .lst (intsP (ns ++ [r % 1009])) :: T)) := by
      rw [ev_append at_0 (by rw [intsP_len]; omega), put_0, intsP_snoc]
    have hty := ev_tyL (at_0 (S := S) (T := T) (o := .lst (intsP ns)))  
    rw [intsP_cons, forL_cons (by simp)]
    by_cases hz : r / 1009 = 0
    · refine ⟨ns ++ [r % 1009], r / 1009, g.snoc h0 h1, by simp, ?_⟩
      simp [l__law_stream_1, hty, hap, ev_mod (show (0 : Int) < 1009 by omega), ev_div (show (0 : Int) < 1009 ∧ (1009 : Int) < 1073741824 by omega), hz]
    · obtain ⟨ns', r', g', hl', ih⟩ := stream1 (S := S) (T := T) (q := q) (c := c) (z := z) l (ns ++ [r % 1009]) (r / 1009) (g.snoc h0 h1) (by simp; omega)
      refine ⟨ns', r', g', by simp at hl' ⊢; omega, ?_⟩
      simp [l__law_stream_1, hty, hap, ev_mod (show (0 : Int) < 1009 by omega), ev_div (show (0 : Int) < 1009 ∧ (1009 : Int) < 1073741824 by omega), hz]
      exact ih
theorem stream2 {S T : Sto} {q c z : Option PV} : ∀ (l : List Int) (ns : List Int) (r : Int), Good ns → ns.length + l.length ≤ 4000 → ∃ ns' r', Good ns' ∧ ns'.length ≤ ns.length + l.length ∧
    forL (gN 4) [4] l__law_stream_2 [] (intsP l) [q, some (.loc S.length), c, z, none, some (.int r)] (S ++ .lst (intsP ns) :: T) = some (.next [q, some (.loc S.length), c, z, none, some (.int r')] (S ++ .lst (intsP ns') :: T))
  | [], ns, r, g, hl => ⟨ns, r, g, by simp, by rw [intsP_nil, forL_nil (by simp)]⟩
  | i :: l, ns, r, g, hl => by
    rw [List.length_cons] at hl
    generalize hm : (r * 48271 + 7 * i + 11) % 2147483647 = m
    generalize hv : (m * 69621 + i) % 2147483629 % 1009 = v
    have h0 : 0 ≤ v := by rw [← hv]; exact Int.emod_nonneg _ (by omega)
    have h1 : v < 1009 := by rw [← hv]; exact Int.emod_lt_of_pos _ (by omega)
    have hap : gAppend (.loc S.length) [.int v] (S ++ .lst (intsP ns) :: T) = some (.ok .non (S ++ .lst (intsP (ns ++ [v])) :: T)) := by
      rw [ev_append at_0 (by rw [intsP_len]; omega), put_0, intsP_snoc]
    have hty := ev_tyL (at_0 (S := S) (T := T) (o := .lst (intsP ns)))
    obtain ⟨ns', r', g', hl', ih⟩ := stream2 (S := S) (T := T) (q := q) (c := c) (z := z) l (ns ++ [v]) m (g.snoc h0 h1) (by simp; omega)
    refine ⟨ns', r', g', by simp at hl' ⊢; omega, ?_⟩
    rw [intsP_cons, forL_cons (by simp)]
    simp [l__law_stream_2, hty, ev_mulR (show -(2 ^ 64) < (48271 : Int) ∧ (48271 : Int) < 2 ^ 64 by omega), ev_mulR (show -(2 ^ 64) < (69621 : Int) ∧ (69621 : Int) < 2 ^ 64 by omega), ev_mulL (show -(2 ^ 64) < (7 : Int) ∧ (7 : Int) < 2 ^ 64 by omega),
      ev_mod (show (0 : Int) < 2147483647 by omega), ev_mod (show (0 : Int) < 2147483629 by omega), ev_mod (show (0 : Int) < 1009 by omega), hm, hv, hap]
    exact ih
theorem range_ints (lo : Int) (n : Nat) : rangeP lo n = intsP ((List.range n).map fun i : Nat => lo + (i : Int)) := by
  unfold rangeP intsP
  rw [List.map_map]
  rfl
theorem stream3 {S : Sto} {q : Option PV} {sl : List PV} : ∀ (l : List Int) (ns : List Int), Good ns → ns.length + 60 * l.length ≤ 4000 → ∃ ns', Good ns' ∧ ns'.length ≤ ns.length + 60 * l.length ∧
    forL (gN 2) [2, 3, 4, 5] l__law_stream_3 [(S.length + 1, .lst sl)] (intsP l) [q, some (.loc S.length), none, none, none, none] (S ++ [.lst (intsP ns), .lst sl]) = some (.next [q, some (.loc S.length), none, none, none, none] (S ++ [.lst (intsP ns'), .lst sl]))
  | [], ns, g, hl => ⟨ns, g, by simp, by rw [intsP_nil, forL_nil (by simp)]⟩
  | i :: l, ns, g, hl => by
    rw [List.length_cons] at hl
    rw [intsP_cons, forL_cons (by simp)]
    have hp : (10 : Int) ^ 18 = 1000000000000000000 := by decide
    by_cases hc : 1000000000000000000 ≤ i
    · obtain ⟨n1, r1, g1, l1, e1⟩ := stream1 (S := S) (T := [.lst sl]) (q := q) (c := some (.int i)) (z := none) ((List.range 60).map fun i : Nat => (0 : Int) + (i : Int)) ns i g (by simp; omega)
      obtain ⟨n2, g2, l2, e2⟩ := stream3 (S := S) (q := q) (sl := sl) l n1 g1 (by simp at l1; omega)
      refine ⟨n2, g2, by simp at l1; rw [List.length_cons]; omega, ?_⟩
      rw [← range_ints] at e1
      simp [l__law_stream_3, ev_pow (show CPowD 10 18 by unfold CPowD; decide), hp, hc, e1]
      exact e2
    · obtain ⟨n1, r1, g1, l1, e1⟩ := stream2 (S := S) (T := [.lst sl]) (q := q) (c := some (.int i)) (z := some (.int i)) ((List.range 10).map fun i : Nat => (0 : Int) + (i : Int)) ns (i % 2147483647) g (by simp; omega)
      obtain ⟨n2, g2, l2, e2⟩ := stream3 (S := S) (q := q) (sl := sl) l n1 g1 (by simp at l1; omega)
      refine ⟨n2, g2, by simp at l1; rw [List.length_cons]; omega, ?_⟩
      rw [← range_ints] at e1
      simp [l__law_stream_3, ev_pow (show CPowD 10 18 by unfold CPowD; decide), hp, hc, ev_mod (show (0 : Int) < 2147483647 by omega), e1]
      exact e2
theorem stream_spec {S : Sto} {k : Nat} {ns : List Int} (h : S[k]? = some (.fz (intsP ns))) : ∃ l, l ≠ [] ∧ Good l ∧ l.length ≤ 4000 ∧ F__law_stream [.loc k] S = some (.ok (.loc S.length) (S ++ [.lst (intsP l)])) := by
  have hc : cutP (intsP ns) none (some 63) = intsP (ns.take 63) := by
    rw [cut_to (by omega)]
    unfold intsP
    rw [List.map_take]
    rfl
  obtain ⟨n2, g2, l2, e2⟩ := stream3 (S := S) (q := some (.loc k)) (sl := intsP (ns.take 63)) (ns.take 63) [] (fun n hn => by cases hn) (by rw [List.length_take]; simp; omega)
  have hsl : gSl (.loc k) none (some 63) (S ++ [.lst []]) = some (.ok (.loc (S.length + 1)) (S ++ [.lst [], .lst (intsP (ns.take 63))])) := by
    rw [ev_gSlF (at_old h), hc]
    simp
  by_cases he : n2 = []
  · subst he
    refine ⟨[0], by simp, fun n hn => by simp at hn; subst hn; omega, by simp, ?_⟩
    refine call_new (T := [.lst (intsP [0]), .lst (intsP (ns.take 63))]) (l := intsP [0]) (j := S.length) ?_ at_0 (Nat.le_refl _) (noLocs_ints _)
    simp at e2
    simp [b__law_stream, hsl, e2]
    simp [ev_lenL (at_0 (S := S) (T := [.lst (intsP (ns.take 63))]) (o := .lst [])), ev_tyL (at_0 (S := S) (T := [.lst (intsP (ns.take 63))]) (o := .lst [])), ev_append (at_0 (S := S) (T := [.lst (intsP (ns.take 63))]) (o := .lst []))]
  · refine ⟨n2, he, g2, by rw [List.length_take] at l2; simp at l2; omega, ?_⟩
    refine call_new (T := [.lst (intsP n2), .lst (intsP (ns.take 63))]) (l := intsP n2) (j := S.length) ?_ at_0 (Nat.le_refl _) (noLocs_ints _)
    have hn : ¬ ((n2.length : Int) = 0) := by
      cases n2 with
      | nil => exact absurd rfl he
      | cons a b => simp; omega
    simp at e2
    simp [b__law_stream, hsl, e2]
    simp [ev_lenL (at_0 (S := S) (T := [.lst (intsP (ns.take 63))]) (o := .lst (intsP n2))), he]
end G

namespace G
end G
namespace Lk56
open PySem PySem.Spec PyProof.Rows L2 D G
/-! ## denotations -/
/-! _law_part(_law_first, _law_second): slots 0 _law_first, 1 _law_second, 2 _law_k -/
noncomputable def l__law_part_1 : DS := (dIfS (dCmp gNotIn (dVar 2) (dVar 1)) (dRet (dC (.bl false))) dPass)
noncomputable def b__law_part : DS := (dSeq (dFor (dSeqI (dVar 0)) (gN 2) [2] l__law_part_1) (dRet (dC (.bl true))))
noncomputable def F__law_part : DF := dDef 2 3 b__law_part
/-! _law_least(_law_sets_here): slots 0 _law_sets_here, 1 _law_found, 2 _law_chosen, 3 _law_good, 4 _law_other, 5 _law_pair -/
noncomputable def l__law_least_1 : DS := (dIfS (dAndT (dCmp gNe (dVar 4) (dVar 2)) (dTru (dOpA F__law_part (dCons (dVar 4) (dCons (dVar 2) dNil))))) (dSet 3 (dC (.bl false))) dPass)
noncomputable def l__law_least_2 : DS := (dSeq (dSet 3 (dOp2 gNotIn (dTup (dCons (dOpA gLen (dCons (dVar 2) dNil)) (dCons (dVar 2) dNil))) (dVar 1))) (dSeq (dFor (dSeqI (dVar 0)) (gN 4) [4] l__law_least_1) (dIfS (dTru (dVar 3)) (dExpr (dMeth "list" gAppend (dVar 1) (dCons (dTup (dCons (dOpA gLen (dCons (dVar 2) dNil)) (dCons (dVar 2) dNil))) dNil))) dPass)))
noncomputable def b__law_least : DS := (dSeq (dSet 1 (dLst dNil)) (dSeq (dFor (dSeqI (dVar 0)) (gN 2) [2, 3, 4] l__law_least_2) (dRet (dOpA gTuple (dCons (dComp (dSeqI (dOpA gSorted (dCons (dVar 1) dNil))) (nmOne 5) [5] dYes (dOp2 gIx (dVar 5) (dC (.int 1)))) dNil)))))
noncomputable def F__law_least : DF := dDef 1 6 b__law_least
/-! _law_meets(_law_chosen, _law_sets_here): slots 0 _law_chosen, 1 _law_sets_here, 2 _law_other, 3 _law_good, 4 _law_k -/
noncomputable def l__law_meets_2 : DS := (dIfS (dCmp gIn (dVar 4) (dVar 0)) (dSet 3 (dC (.bl true))) dPass)
noncomputable def l__law_meets_1_t2 : DS := (dIfS (dNotT (dTru (dVar 3))) (dRet (dC (.bl false))) dPass)
noncomputable def l__law_meets_1_t1 : DS := (dSeq (dFor (dSeqI (dVar 2)) (gN 4) [4] l__law_meets_2) l__law_meets_1_t2)
noncomputable def l__law_meets_1_t0 : DS := (dSeq (dSet 3 (dC (.bl false))) l__law_meets_1_t1)
noncomputable def l__law_meets_1 : DS := l__law_meets_1_t0
noncomputable def b__law_meets : DS := (dSeq (dFor (dSeqI (dVar 1)) (gN 2) [2, 3, 4] l__law_meets_1) (dRet (dC (.bl true))))
noncomputable def F__law_meets : DF := dDef 2 5 b__law_meets
/-! _law_sets(_law_many): slots 0 _law_many, 1 _law_found, 2 _law_k, 3 _law_chosen -/
noncomputable def l__law_sets_1 : DS := (dBody [2] (dSet 1 (dOp2 gAdd (dVar 1) (dComp (dSeqI (dVar 1)) (nmOne 3) [3] dYes (dOp2 gAdd (dVar 3) (dTup (dCons (dVar 2) dNil)))))))
noncomputable def b__law_sets_t2 : DS := (dRet (dVar 1))
noncomputable def b__law_sets_t1 : DS := (dSeq (dFor (dRng1 (dCons (dVar 0) dNil)) (gN 2) [2] l__law_sets_1) b__law_sets_t2)
noncomputable def b__law_sets_t0 : DS := (dSeq (dSet 1 (dLst (dCons (dTup dNil) dNil))) b__law_sets_t1)
noncomputable def b__law_sets : DS := b__law_sets_t0
noncomputable def F__law_sets : DF := dDef 1 4 b__law_sets
/-! is_part(first, second): slots 0 first, 1 second, 2 k -/
noncomputable def b_is_part : DS := (dRet (dOpA gAllL (dCons (dComp (dSeqI (dVar 0)) (nmOne 2) [2] dYes (dOp2 gIn (dVar 2) (dVar 1))) dNil)))
noncomputable def F_is_part : DF := dDef 2 3 b_is_part
/-! sets_of(many): slots 0 many, 1 found, 2 level, 3 _, 4 chosen, 5 k -/
noncomputable def l_sets_of_1 : DS := (dBody [3] (dSeq (dSet 2 (dComp2 (dSeqI (dVar 2)) (nmOne 4) [4, 5] dYes (dRng1 (dCons (dVar 0) dNil)) (nmOne 5) [5] (dOrT (dCmp gEq (dOpA gLen (dCons (dVar 4) dNil)) (dC (.int 0))) (dCmp gGt (dVar 5) (dOp2 gIx (dVar 4) (dOp1 gNeg (dC (.int 1)))))) (dOp2 gAdd (dVar 4) (dTup (dCons (dVar 5) dNil))))) (dExpr (dMeth "list" gExtend (dVar 1) (dCons (dVar 2) dNil)))))
noncomputable def b_sets_of_t3 : DS := (dRet (dVar 1))
noncomputable def b_sets_of_t2 : DS := (dSeq (dFor (dRng1 (dCons (dVar 0) dNil)) (gN 3) [3] l_sets_of_1) b_sets_of_t3)
noncomputable def b_sets_of_t1 : DS := (dSeq (dSet 2 (dLst (dCons (dTup dNil) dNil))) b_sets_of_t2)
noncomputable def b_sets_of_t0 : DS := (dSeq (dSet 1 (dLst (dCons (dTup dNil) dNil))) b_sets_of_t1)
noncomputable def b_sets_of : DS := b_sets_of_t0
noncomputable def F_sets_of : DF := dDef 1 6 b_sets_of
/-! meeting_sets(sets): slots 0 sets, 1 found, 2 chosen, 3 other, 4 k -/
noncomputable def l_meeting_sets_1 : DS := (dBody [2] (dSeq (dIfS (dTru (dOpA gAnyL (dCons (dComp (dSeqI (dVar 1)) (nmOne 3) [3] dYes (dOpA F_is_part (dCons (dVar 3) (dCons (dVar 2) dNil)))) dNil))) dCtn dPass) (dIfS (dTru (dOpA gAllL (dCons (dComp (dSeqI (dVar 0)) (nmOne 3) [3] dYes (dGc (dOpA gAnyL (dCons (dComp (dSeqI (dVar 3)) (nmOne 4) [4] dYes (dOp2 gIn (dVar 4) (dVar 2))) dNil)))) dNil))) (dExpr (dMeth "list" gAppend (dVar 1) (dCons (dVar 2) dNil))) dPass)))
noncomputable def b_meeting_sets_t2 : DS := (dRet (dOpA gTuple (dCons (dVar 1) dNil)))
noncomputable def b_meeting_sets_t1 : DS := (dSeq (dFor (dSeqI (dOpA F_sets_of (dCons (dC (.int 6)) dNil))) (gN 2) [2] l_meeting_sets_1) b_meeting_sets_t2)
noncomputable def b_meeting_sets_t0 : DS := (dSeq (dSet 1 (dLst dNil)) b_meeting_sets_t1)
noncomputable def b_meeting_sets : DS := b_meeting_sets_t0
noncomputable def F_meeting_sets : DF := dDef 1 5 b_meeting_sets
/-! law(_law_script): slots 0 _law_script, 1 _law_numbers, 2 _law_sets_here, 3 _law_k, 4 _law_chosen, 5 _law_j, 6 _law_handed, 7 _law_due, 8 _law_told -/
noncomputable def l_law_2 : DS := (dIfS (dAndT (dCmp gLt (dOpA gLen (dCons (dVar 4) dNil)) (dC (.int 5))) (dCmp gEq (dOpA F__law_pick (dCons (dVar 1) (dCons (dOp2 gAdd (dOp2 gAdd (dC (.int 1)) (dOp2 gMul (dC (.int 6)) (dVar 3))) (dVar 5)) (dCons (dC (.int 3)) dNil)))) (dC (.int 0)))) (dSet 4 (dOp2 gAdd (dVar 4) (dTup (dCons (dVar 5) dNil)))) dPass)
noncomputable def l_law_1_t3 : DS := (dExpr (dMeth "list" gAppend (dVar 2) (dCons (dVar 4) dNil)))
noncomputable def l_law_1_t2 : DS := (dSeq (dIfS (dAndT (dCmp gEq (dOpA gLen (dCons (dVar 4) dNil)) (dC (.int 0))) (dCmp gGt (dOpA F__law_pick (dCons (dVar 1) (dCons (dOp2 gAdd (dC (.int 50)) (dVar 3)) (dCons (dC (.int 3)) dNil)))) (dC (.int 0)))) (dSet 4 (dTup (dCons (dOpA F__law_pick (dCons (dVar 1) (dCons (dOp2 gAdd (dC (.int 51)) (dVar 3)) (dCons (dC (.int 6)) dNil)))) dNil))) dPass) l_law_1_t3)
noncomputable def l_law_1_t1 : DS := (dSeq (dFor (dRng1 (dCons (dC (.int 6)) dNil)) (gN 5) [5] l_law_2) l_law_1_t2)
noncomputable def l_law_1_t0 : DS := (dSeq (dSet 4 (dTup dNil)) l_law_1_t1)
noncomputable def l_law_1 : DS := l_law_1_t0
noncomputable def l_law_3 : DS := (dIfS (dNotT (dTru (dOpA gIsa (dCons (dVar 4) (dCons (dC (.ty "tuple")) dNil))))) (dRet (dC (.bl false))) dPass)
noncomputable def t_9 : DS := (dRet (dOp2 gEq (dOpA F_meeting_sets (dCons (dVar 8) dNil)) (dOpA F__law_least (dCons (dVar 2) dNil))))
noncomputable def t_8 : DS := (dSeq (dFor (dSeqI (dVar 8)) (gN 4) [4] l_law_3) t_9)
noncomputable def t_7 : DS := (dSeq (dIfS (dOrT (dCmp gNe (dVar 8) (dVar 7)) (dOrT (dNotT (dTru (dOpA gIsa (dCons (dVar 8) (dCons (dC (.ty "tuple")) dNil))))) (dOrT (dCmp gNe (dOpA F_meeting_sets (dCons (dVar 6) dNil)) (dVar 7)) (dCmp gNe (dOpA F_meeting_sets (dCons (dRevT (dVar 6) (dPart (dOp1 gNeg (dC (.int 1))))) dNil)) (dVar 7))))) (dRet (dC (.bl false))) dPass) t_8)
noncomputable def t_6 : DS := (dSeq (dSet 8 (dOpA F_meeting_sets (dCons (dVar 6) dNil))) t_7)
noncomputable def t_5 : DS := (dSeq (dSet 7 (dOpA F__law_least (dCons (dComp (dSeqI (dOpA F__law_sets (dCons (dC (.int 6)) dNil))) (nmOne 4) [4] (dTru (dOpA F__law_meets (dCons (dVar 4) (dCons (dVar 6) dNil)))) (dVar 4)) dNil))) t_6)
noncomputable def t_4 : DS := (dSeq (dSet 6 (dOpA gTuple (dCons (dVar 2) dNil))) t_5)
noncomputable def t_3 : DS := (dSeq (dIfS (dAndT (dCmp gGt (dOpA gLen (dCons (dVar 2) dNil)) (dC (.int 1))) (dCmp gEq (dOpA F__law_pick (dCons (dVar 1) (dCons (dC (.int 60)) (dCons (dC (.int 3)) dNil)))) (dC (.int 0)))) (dExpr (dMeth "list" gAppend (dVar 2) (dCons (dOp2 gIx (dVar 2) (dC (.int 0))) dNil))) dPass) t_4)
noncomputable def t_2 : DS := (dSeq (dFor (dRng1 (dCons (dOpA F__law_pick (dCons (dVar 1) (dCons (dC (.int 0)) (dCons (dC (.int 7)) dNil)))) dNil)) (gN 3) [3, 4, 5] l_law_1) t_3)
noncomputable def t_1 : DS := (dSeq (dSet 2 (dLst dNil)) t_2)
noncomputable def t_0 : DS := (dSeq (dSet 1 (dOpA F__law_stream (dCons (dVar 0) dNil))) t_1)
noncomputable def b_law : DS := t_0
noncomputable def F_law : DF := dDef 1 9 b_law
/- end of the denotations -/
/-! ## the text -/
def top (i : Nat) : Stmt := PySem.Challenge.pw_diesnon_k56_sets_that_meet_sets.main.body.getD i (.Pass ⟨0, 0, 0, 0⟩)
abbrev s__law_part : Stmt := top 9
abbrev s__law_least : Stmt := top 10
abbrev s__law_meets : Stmt := top 11
abbrev s__law_pick : Stmt := top 7
abbrev s__law_sets : Stmt := top 8
abbrev s__law_stream : Stmt := top 6
abbrev s_is_part : Stmt := top 3
abbrev s_sets_of : Stmt := top 2
abbrev s_meeting_sets : Stmt := top 4
abbrev s_law : Stmt := top 12
structure Txt (w : World) (K : PySem.W.Frag) (mg : Str → Option Value) where
  m_MAX_CHOICES : ∃ t, mg "MAX_CHOICES" = some (.int 6 t)
  m_all : mg "all" = none
  m_any : mg "any" = none
  m_int : mg "int" = none
  m_isinstance : mg "isinstance" = none
  m_len : mg "len" = none
  m_range : mg "range" = none
  m_sorted : mg "sorted" = none
  m_tuple : mg "tuple" = none
section
variable {P : Program} {w : World} {K : PySem.W.Frag} {mg : Str → Option Value} {base : Heap}
abbrev N__law_part : List Str := ["_law_first", "_law_second", "_law_k"]
theorem sc__law_part : FnScope ["_law_first", "_law_second", "_law_k"] ["_law_first", "_law_second"] (defScope s__law_part) := ⟨rfl, rfl, rfl, by decide +kernel, rfl, by decide +kernel, by decide +kernel⟩
theorem ok__law_part {f : Addr} {fd : FuncData} (F : Fun K "_law_part" "_law_part" s__law_part f fd) (T : Txt w K mg) : FnOk P w K mg base (L2.CX P w) 1 f fd ["_law_first", "_law_second"] (spD K mg 2 F__law_part) := by
  have S := sc__law_part
  unfold F__law_part b__law_part l__law_part_1
  exact fn_d F S (fun cdv A outer s H E hr => (dss_cons (ds_for [2] (passes_of rfl) rfl (di_seq (de_var 0)) (dg_n 2 S.nd rfl (Or.inl rfl)) (dss_one (ds_if (dt_cmp (op_notinP (Room.units hr)) ok_in (de_var 2) (de_var 1)) (dss_one (ds_ret de_bl)) dss_nil))) (dss_one (ds_ret de_bl))))
abbrev N__law_least : List Str := ["_law_sets_here", "_law_found", "_law_chosen", "_law_good", "_law_other", "_law_pair"]
theorem sc__law_least : FnScope ["_law_sets_here", "_law_found", "_law_chosen", "_law_good", "_law_other", "_law_pair"] ["_law_sets_here"] (defScope s__law_least) := ⟨rfl, rfl, rfl, by decide +kernel, rfl, by decide +kernel, by decide +kernel⟩
theorem ok__law_least {f : Addr} {fd : FuncData} (F : Fun K "_law_least" "_law_least" s__law_least f fd) (T : Txt w K mg) {f__law_part : Addr} {fd__law_part : FuncData} (G__law_part : FnOk P w K mg base (L2.CX P w) 1 f__law_part fd__law_part ["_law_first", "_law_second"] (spD K mg 2 F__law_part)) (m__law_part : mg "_law_part" = some (.ref f__law_part)) (k__law_part : PySem.W.keepIn K (.ref f__law_part) = true) (b__law_part : Binds K fd__law_part ["_law_first", "_law_second"] []) : FnOk P w K mg base (L2.CX P w) 2 f fd ["_law_sets_here"] (spD K mg 1 F__law_least) :=
  have S := sc__law_least
  fn_d F S (fun cdv A outer s H E hr => (dss_cons (ds_set 1 S.nd rfl (Or.inl rfl) (de_lst da_nil)) (dss_cons (ds_for [2, 3, 4] (passes_of rfl) rfl (di_seq (de_var 0)) (dg_n 2 S.nd rfl (Or.inl rfl)) (dss_cons (ds_set 3 S.nd rfl (Or.inl rfl) (de_cmp (op_notinP (Room.units hr)) ok_in (de_tup (da_cons (de_bi call_len4 ok_len (by rfl) T.m_len (by decide +kernel) (da_cons (de_var 2) da_nil)) (da_cons (de_var 2) da_nil))) (de_var 1))) (dss_cons (ds_for [4] (passes_of rfl) rfl (di_seq (de_var 0)) (dg_n 4 S.nd rfl (Or.inl rfl)) (dss_one (ds_if (PWd.pt (dw_and (dt_cmp (op_neP (Room.units hr)) ok_eq (de_var 4) (de_var 2)) (dw_and1 (dt_tru (de_call G__law_part (hr.mono (by decide)) (by rfl) m__law_part k__law_part b__law_part (takes_of rfl rfl rfl rfl) (da_cons (de_var 4) (da_cons (de_var 2) da_nil)) (by rfl) dDef_len))))) (dss_one (ds_set 3 S.nd rfl (Or.inl rfl) de_bl)) dss_nil))) (dss_one (ds_if (dt_tru (de_var 3)) (dss_one (ds_expr (de_bm PySem.F.plainAttrs_list PySem.F.slot_list_append PySem.F.type_list_append mt_append ok_append (de_var 1) (da_cons (de_tup (da_cons (de_bi call_len4 ok_len (by rfl) T.m_len (by decide +kernel) (da_cons (de_var 2) da_nil)) (da_cons (de_var 2) da_nil))) da_nil)))) dss_nil))))) (dss_one (ds_ret (de_bty call_tuple_of ok_tuple (by rfl) T.m_tuple (by decide +kernel) (da_cons (de_comp (own := [("_law_pair", 5)]) rfl S.nd (di_seq (de_bi (cr_sortD (Room.units hr)) ok_sorted (by rfl) T.m_sorted (by decide +kernel) (da_cons (de_var 1) da_nil))) (blkOk_by (N := N__law_least) (sc := defScope s__law_least) (by decide +kernel)) (nm_one 5) (fun _ _ _ _ _ => (pg_name (i := 5) S.nd rfl (Or.inl rfl))) (fun _ _ _ _ _ => dts_nil) (fun _ _ _ _ _ => (de_ix ix_seq ok_ix (de_var 5) de_int))) da_nil)))))))
abbrev N__law_meets : List Str := ["_law_chosen", "_law_sets_here", "_law_other", "_law_good", "_law_k"]
theorem sc__law_meets : FnScope ["_law_chosen", "_law_sets_here", "_law_other", "_law_good", "_law_k"] ["_law_chosen", "_law_sets_here"] (defScope s__law_meets) := ⟨rfl, rfl, rfl, by decide +kernel, rfl, by decide +kernel, by decide +kernel⟩
theorem ok__law_meets {f : Addr} {fd : FuncData} (F : Fun K "_law_meets" "_law_meets" s__law_meets f fd) (T : Txt w K mg) : FnOk P w K mg base (L2.CX P w) 1 f fd ["_law_chosen", "_law_sets_here"] (spD K mg 2 F__law_meets) := by
  have S := sc__law_meets
  unfold F__law_meets b__law_meets l__law_meets_1 l__law_meets_1_t0 l__law_meets_1_t1 l__law_meets_1_t2 l__law_meets_2
  exact fn_d F S (fun cdv A outer s H E hr => (dss_cons (ds_for [2, 3, 4] (passes_of rfl) rfl (di_seq (de_var 1)) (dg_n 2 S.nd rfl (Or.inl rfl)) (dss_cons (ds_set 3 S.nd rfl (Or.inl rfl) de_bl) (dss_cons (ds_for [4] (passes_of rfl) rfl (di_seq (de_var 2)) (dg_n 4 S.nd rfl (Or.inl rfl)) (dss_one (ds_if (dt_cmp (op_inP (Room.units hr)) ok_in (de_var 4) (de_var 0)) (dss_one (ds_set 3 S.nd rfl (Or.inl rfl) de_bl)) dss_nil))) (dss_one (ds_if (dt_not (dt_tru (de_var 3))) (dss_one (ds_ret de_bl)) dss_nil))))) (dss_one (ds_ret de_bl))))
abbrev N__law_pick : List Str := ["_law_numbers", "_law_at", "_law_many"]
theorem sc__law_pick : FnScope ["_law_numbers", "_law_at", "_law_many"] ["_law_numbers", "_law_at", "_law_many"] (defScope s__law_pick) := ⟨rfl, rfl, rfl, by decide +kernel, rfl, by decide +kernel, by decide +kernel⟩
theorem ok__law_pick {f : Addr} {fd : FuncData} (F : Fun K "_law_pick" "_law_pick" s__law_pick f fd) (T : Txt w K mg) : FnOk P w K mg base (L2.CX P w) 1 f fd ["_law_numbers", "_law_at", "_law_many"] (spD K mg 3 F__law_pick) :=
  have S := sc__law_pick
  fn_d F S (fun cdv A outer s H E hr => (dss_one (ds_ret (de_op op_mod ok_mod (de_bty call_int1 ok_int (by rfl) T.m_int (by decide +kernel) (da_cons (de_ix ix_seq ok_ix (de_var 0) (de_op op_mod ok_mod (de_var 1) (de_bi call_len4 ok_len (by rfl) T.m_len (by decide +kernel) (da_cons (de_var 0) da_nil)))) da_nil)) (de_var 2)))))
abbrev N__law_sets : List Str := ["_law_many", "_law_found", "_law_k", "_law_chosen"]
theorem sc__law_sets : FnScope ["_law_many", "_law_found", "_law_k", "_law_chosen"] ["_law_many"] (defScope s__law_sets) := ⟨rfl, rfl, rfl, by decide +kernel, rfl, by decide +kernel, by decide +kernel⟩
theorem ok__law_sets {f : Addr} {fd : FuncData} (F : Fun K "_law_sets" "_law_sets" s__law_sets f fd) (T : Txt w K mg) : FnOk P w K mg base (L2.CX P w) 1 f fd ["_law_many"] (spD K mg 1 F__law_sets) := by
  have S := sc__law_sets
  unfold F__law_sets b__law_sets b__law_sets_t0 b__law_sets_t1 b__law_sets_t2 l__law_sets_1
  exact fn_d F S (fun cdv A outer s H E hr => (dss_cons (ds_set 1 S.nd rfl (Or.inl rfl) (de_lst (da_cons (de_tup da_nil) da_nil))) (dss_cons (ds_for [2] (passes_of rfl) rfl (di_rng1 (by rfl) T.m_range (da_cons (de_var 0) da_nil)) (dg_n 2 S.nd rfl (Or.inr rfl)) (dss_body [2] (dss_one (ds_set 1 S.nd rfl (Or.inl rfl) (de_op op_add4 ok_add (de_var 1) (de_comp (own := [("_law_chosen", 3)]) rfl S.nd (di_seq (de_var 1)) (blkOk_by (N := N__law_sets) (sc := defScope s__law_sets) (by decide +kernel)) (nm_one 3) (fun _ _ _ _ _ => (pg_name (i := 3) S.nd rfl (Or.inl rfl))) (fun _ _ _ _ _ => dts_nil) (fun _ _ _ _ _ => (de_op op_add4 ok_add (de_var 3) (de_tup (da_cons (de_var 2) da_nil)))))))))) (dss_one (ds_ret (de_var 1))))))
abbrev N__law_stream : List Str := ["_law_script", "_law_numbers", "_law_cell", "_law_rest", "_law_k", "_law_mixed"]
theorem sc__law_stream : FnScope ["_law_script", "_law_numbers", "_law_cell", "_law_rest", "_law_k", "_law_mixed"] ["_law_script"] (defScope s__law_stream) := ⟨rfl, rfl, rfl, by decide +kernel, rfl, by decide +kernel, by decide +kernel⟩
theorem ok__law_stream {f : Addr} {fd : FuncData} (F : Fun K "_law_stream" "_law_stream" s__law_stream f fd) (T : Txt w K mg) : FnOk P w K mg base (L2.CX P w) 1 f fd ["_law_script"] (spD K mg 1 F__law_stream) :=
  have S := sc__law_stream
  fn_d F S (fun cdv A outer s H E hr => (dss_cons (ds_set 1 S.nd rfl (Or.inl rfl) (de_lst da_nil)) (dss_cons (ds_for [2, 3, 4, 5] (passes_of rfl) rfl (di_seq (de_sl (de_var 0) do_none (do_some de_int))) (dg_n 2 S.nd rfl (Or.inl rfl)) (dss_cons (ds_set 3 S.nd rfl (Or.inl rfl) (de_bty call_int1 ok_int (by rfl) T.m_int (by decide +kernel) (da_cons (de_var 2) da_nil))) (dss_one (ds_if (dt_cmp op_ge ok_rel (de_var 3) (de_op op_pow ok_pow de_int de_int)) (dss_one (ds_for [4] (passes_of rfl) rfl (di_rng1 (by rfl) T.m_range (da_cons de_int da_nil)) (dg_n 4 S.nd rfl (Or.inl rfl)) (dss_cons (ds_expr (de_bm PySem.F.plainAttrs_list PySem.F.slot_list_append PySem.F.type_list_append mt_append ok_append (de_var 1) (da_cons (de_op op_mod ok_mod (de_bty call_int1 ok_int (by rfl) T.m_int (by decide +kernel) (da_cons (de_var 3) da_nil)) de_int) da_nil))) (dss_cons (ds_set 3 S.nd rfl (Or.inl rfl) (de_op op_fdiv ok_div (de_var 3) de_int)) (dss_one (ds_if (dt_cmp (op_eqP (Room.units hr)) ok_eq (de_var 3) de_int) (dss_one ds_brk) dss_nil)))))) (dss_cons (ds_set 5 S.nd rfl (Or.inl rfl) (de_op op_mod ok_mod (de_bty call_int1 ok_int (by rfl) T.m_int (by decide +kernel) (da_cons (de_var 3) da_nil)) de_int)) (dss_one (ds_for [4] (passes_of rfl) rfl (di_rng1 (by rfl) T.m_range (da_cons de_int da_nil)) (dg_n 4 S.nd rfl (Or.inl rfl)) (dss_cons (ds_set 5 S.nd rfl (Or.inl rfl) (de_op op_mod ok_mod (de_bty call_int1 ok_int (by rfl) T.m_int (by decide +kernel) (da_cons (de_op op_add4 ok_add (de_op op_add4 ok_add (de_op op_mul4 ok_mul (de_var 5) de_int) (de_op op_mul4 ok_mul de_int (de_var 4))) de_int) da_nil)) de_int)) (dss_one (ds_expr (de_bm PySem.F.plainAttrs_list PySem.F.slot_list_append PySem.F.type_list_append mt_append ok_append (de_var 1) (da_cons (de_op op_mod ok_mod (de_op op_mod ok_mod (de_bty call_int1 ok_int (by rfl) T.m_int (by decide +kernel) (da_cons (de_op op_add4 ok_add (de_op op_mul4 ok_mul (de_var 5) de_int) (de_var 4)) da_nil)) de_int) de_int) da_nil)))))))))))) (dss_cons (ds_if (dt_cmp (op_eqP (Room.units hr)) ok_eq (de_bi call_len4 ok_len (by rfl) T.m_len (by decide +kernel) (da_cons (de_var 1) da_nil)) de_int) (dss_one (ds_expr (de_bm PySem.F.plainAttrs_list PySem.F.slot_list_append PySem.F.type_list_append mt_append ok_append (de_var 1) (da_cons de_int da_nil)))) dss_nil) (dss_one (ds_ret (de_var 1)))))))
abbrev N_is_part : List Str := ["first", "second", "k"]
theorem sc_is_part : FnScope ["first", "second", "k"] ["first", "second"] (defScope s_is_part) := ⟨rfl, rfl, rfl, by decide +kernel, rfl, by decide +kernel, by decide +kernel⟩
theorem ok_is_part {f : Addr} {fd : FuncData} (F : Fun K "is_part" "is_part" s_is_part f fd) (T : Txt w K mg) : FnOk P w K mg base (L2.CX P w) 1 f fd ["first", "second"] (spD K mg 2 F_is_part) := by
  have S := sc_is_part
  unfold F_is_part b_is_part
  exact fn_d F S (fun cdv A outer s H E hr => (dss_one (ds_ret (de_bi (cr_all rfl) ok_allL (by rfl) T.m_all (by decide +kernel) (da_cons (de_comp (own := [("k", 2)]) rfl S.nd (di_seq (de_var 0)) (blkOk_by (N := N_is_part) (sc := defScope s_is_part) (by decide +kernel)) (nm_one 2) (fun _ _ _ _ _ => (pg_name (i := 2) S.nd rfl (Or.inl rfl))) (fun _ _ _ _ _ => dts_nil) (fun _ _ _ _ _ => (de_cmp (op_inP (Room.units hr)) ok_in (de_var 2) (de_var 1)))) da_nil)))))
abbrev N_sets_of : List Str := ["many", "found", "level", "_", "chosen", "k"]
theorem sc_sets_of : FnScope ["many", "found", "level", "_", "chosen", "k"] ["many"] (defScope s_sets_of) := ⟨rfl, rfl, rfl, by decide +kernel, rfl, by decide +kernel, by decide +kernel⟩
theorem ok_sets_of {f : Addr} {fd : FuncData} (F : Fun K "sets_of" "sets_of" s_sets_of f fd) (T : Txt w K mg) : FnOk P w K mg base (L2.CX P w) 1 f fd ["many"] (spD K mg 1 F_sets_of) := by
  have S := sc_sets_of
  unfold F_sets_of b_sets_of b_sets_of_t0 b_sets_of_t1 b_sets_of_t2 b_sets_of_t3 l_sets_of_1
  exact fn_d F S (fun cdv A outer s H E hr => (dss_cons (ds_set 1 S.nd rfl (Or.inl rfl) (de_lst (da_cons (de_tup da_nil) da_nil))) (dss_cons (ds_set 2 S.nd rfl (Or.inl rfl) (de_lst (da_cons (de_tup da_nil) da_nil))) (dss_cons (ds_for [3] (passes_of rfl) rfl (di_rng1 (by rfl) T.m_range (da_cons (de_var 0) da_nil)) (dg_n 3 S.nd rfl (Or.inl rfl)) (dss_body [3] (dss_cons (ds_setComp2 (i := 2) (own := [("chosen", 4), ("k", 5)]) (vs1 := [5]) rfl S.nd rfl rfl (sw_true rfl rfl rfl (by decide +kernel)) (di_seq (de_var 2)) (blkOk_by (N := N_sets_of) (sc := defScope s_sets_of) (by decide +kernel)) (nm_one 4) (nm_one 5) (fun _ _ _ _ _ => (pg_name (i := 4) S.nd rfl (Or.inl rfl))) (fun _ _ _ _ _ => dts_nil) (fun _ _ _ _ _ => (di_rng1 (by rfl) T.m_range (da_cons (de_var 0) da_nil))) (fun _ _ _ _ _ => (pg_name (i := 5) S.nd rfl (Or.inl rfl))) (fun _ _ _ _ _ => (dts_one (PWd.pt (dw_or (dt_cmp (op_eqP (Room.units hr)) ok_eq (de_bi call_len4 ok_len (by rfl) T.m_len (by decide +kernel) (da_cons (de_var 4) da_nil)) de_int) (dw_or1 (dt_cmp op_gt ok_rel (de_var 5) (de_ix ix_seq ok_ix (de_var 4) (de_un un_neg ok_neg de_int)))))))) (fun _ _ _ _ _ => (de_op op_add4 ok_add (de_var 4) (de_tup (da_cons (de_var 5) da_nil))))) (dss_one (ds_expr (de_bm PySem.F.plainAttrs_list PySem.F.slot_list_extend PySem.F.type_list_extend mt_extend ok_extend (de_var 1) (da_cons (de_var 2) da_nil))))))) (dss_one (ds_ret (de_var 1)))))))
abbrev N_meeting_sets : List Str := ["sets", "found", "chosen", "other", "k"]
theorem sc_meeting_sets : FnScope ["sets", "found", "chosen", "other", "k"] ["sets"] (defScope s_meeting_sets) := ⟨rfl, rfl, rfl, by decide +kernel, rfl, by decide +kernel, by decide +kernel⟩
theorem ok_meeting_sets {f : Addr} {fd : FuncData} (F : Fun K "meeting_sets" "meeting_sets" s_meeting_sets f fd) (T : Txt w K mg) {f_is_part : Addr} {fd_is_part : FuncData} (G_is_part : FnOk P w K mg base (L2.CX P w) 1 f_is_part fd_is_part ["first", "second"] (spD K mg 2 F_is_part)) (m_is_part : mg "is_part" = some (.ref f_is_part)) (k_is_part : PySem.W.keepIn K (.ref f_is_part) = true) (b_is_part : Binds K fd_is_part ["first", "second"] []) {f_sets_of : Addr} {fd_sets_of : FuncData} (G_sets_of : FnOk P w K mg base (L2.CX P w) 1 f_sets_of fd_sets_of ["many"] (spD K mg 1 F_sets_of)) (m_sets_of : mg "sets_of" = some (.ref f_sets_of)) (k_sets_of : PySem.W.keepIn K (.ref f_sets_of) = true) (b_sets_of : Binds K fd_sets_of ["many"] []) : FnOk P w K mg base (L2.CX P w) 2 f fd ["sets"] (spD K mg 1 F_meeting_sets) := by
  have S := sc_meeting_sets
  unfold F_meeting_sets b_meeting_sets b_meeting_sets_t0 b_meeting_sets_t1 b_meeting_sets_t2 l_meeting_sets_1
  exact fn_d F S (fun cdv A outer s H E hr => (dss_cons (ds_set 1 S.nd rfl (Or.inl rfl) (de_lst da_nil)) (dss_cons (ds_for [2] (passes_of rfl) rfl (di_seq (de_call G_sets_of (hr.mono (by decide)) (by rfl) m_sets_of k_sets_of b_sets_of (takes_of rfl rfl rfl rfl) (da_cons (de_gint (by rfl) T.m_MAX_CHOICES.choose_spec) da_nil) (by rfl) dDef_len)) (dg_n 2 S.nd rfl (Or.inr rfl)) (dss_body [2] (dss_cons (ds_if (dt_tru (de_bi (cr_any rfl) ok_anyL (by rfl) T.m_any (by decide +kernel) (da_cons (de_comp (own := [("other", 3)]) rfl S.nd (di_seq (de_var 1)) (blkOk_by (N := N_meeting_sets) (sc := defScope s_meeting_sets) (by decide +kernel)) (nm_one 3) (fun _ _ _ _ _ => (pg_name (i := 3) S.nd rfl (Or.inl rfl))) (fun _ _ _ _ _ => dts_nil) (fun _ _ _ _ _ => (de_call G_is_part (hr.mono (by decide)) (by rfl) m_is_part k_is_part b_is_part takes0 (da_cons (de_var 3) (da_cons (de_var 2) da_nil)) (by rfl) dDef_len))) da_nil))) (dss_one ds_ctn) dss_nil) (dss_one (ds_if (dt_tru (de_bi (cr_all rfl) ok_allL (by rfl) T.m_all (by decide +kernel) (da_cons (de_comp (own := [("other", 3)]) rfl S.nd (di_seq (de_var 0)) (blkOk_by (N := N_meeting_sets) (sc := defScope s_meeting_sets) (by decide +kernel)) (nm_one 3) (fun _ _ _ _ _ => (pg_name (i := 3) S.nd rfl (Or.inl rfl))) (fun _ _ _ _ _ => dts_nil) (fun _ _ _ _ _ => (de_gc (de_bi (cr_any rfl) ok_anyL (by rfl) T.m_any (by decide +kernel) (da_cons (de_comp (own := [("k", 4)]) rfl S.nd (di_seq (de_var 3)) (blkOk_in rfl (blkOk_by (N := N_meeting_sets) (by decide +kernel))) (nm_one 4) (fun _ _ _ _ _ => (pg_name (i := 4) S.nd rfl (Or.inl rfl))) (fun _ _ _ _ _ => dts_nil) (fun _ _ _ _ _ => (de_cmp (op_inP (Room.units hr)) ok_in (de_var 4) (de_var 2)))) da_nil))))) da_nil))) (dss_one (ds_expr (de_bm PySem.F.plainAttrs_list PySem.F.slot_list_append PySem.F.type_list_append mt_append ok_append (de_var 1) (da_cons (de_var 2) da_nil)))) dss_nil))))) (dss_one (ds_ret (de_bty call_tuple_of ok_tuple (by rfl) T.m_tuple (by decide +kernel) (da_cons (de_var 1) da_nil)))))))
abbrev N_law : List Str := ["_law_script", "_law_numbers", "_law_sets_here", "_law_k", "_law_chosen", "_law_j", "_law_handed", "_law_due", "_law_told"]
theorem sc_law : FnScope ["_law_script", "_law_numbers", "_law_sets_here", "_law_k", "_law_chosen", "_law_j", "_law_handed", "_law_due", "_law_told"] ["_law_script"] (defScope s_law) := ⟨rfl, rfl, rfl, by decide +kernel, rfl, by decide +kernel, by decide +kernel⟩
theorem ok_law {f : Addr} {fd : FuncData} (F : Fun K "law" "law" s_law f fd) (T : Txt w K mg) {f__law_least : Addr} {fd__law_least : FuncData} (G__law_least : FnOk P w K mg base (L2.CX P w) 2 f__law_least fd__law_least ["_law_sets_here"] (spD K mg 1 F__law_least)) (m__law_least : mg "_law_least" = some (.ref f__law_least)) (k__law_least : PySem.W.keepIn K (.ref f__law_least) = true) (b__law_least : Binds K fd__law_least ["_law_sets_here"] []) {f__law_meets : Addr} {fd__law_meets : FuncData} (G__law_meets : FnOk P w K mg base (L2.CX P w) 1 f__law_meets fd__law_meets ["_law_chosen", "_law_sets_here"] (spD K mg 2 F__law_meets)) (m__law_meets : mg "_law_meets" = some (.ref f__law_meets)) (k__law_meets : PySem.W.keepIn K (.ref f__law_meets) = true) (b__law_meets : Binds K fd__law_meets ["_law_chosen", "_law_sets_here"] []) {f__law_pick : Addr} {fd__law_pick : FuncData} (G__law_pick : FnOk P w K mg base (L2.CX P w) 1 f__law_pick fd__law_pick ["_law_numbers", "_law_at", "_law_many"] (spD K mg 3 F__law_pick)) (m__law_pick : mg "_law_pick" = some (.ref f__law_pick)) (k__law_pick : PySem.W.keepIn K (.ref f__law_pick) = true) (b__law_pick : Binds K fd__law_pick ["_law_numbers", "_law_at", "_law_many"] []) {f__law_sets : Addr} {fd__law_sets : FuncData} (G__law_sets : FnOk P w K mg base (L2.CX P w) 1 f__law_sets fd__law_sets ["_law_many"] (spD K mg 1 F__law_sets)) (m__law_sets : mg "_law_sets" = some (.ref f__law_sets)) (k__law_sets : PySem.W.keepIn K (.ref f__law_sets) = true) (b__law_sets : Binds K fd__law_sets ["_law_many"] []) {f__law_stream : Addr} {fd__law_stream : FuncData} (G__law_stream : FnOk P w K mg base (L2.CX P w) 1 f__law_stream fd__law_stream ["_law_script"] (spD K mg 1 F__law_stream)) (m__law_stream : mg "_law_stream" = some (.ref f__law_stream)) (k__law_stream : PySem.W.keepIn K (.ref f__law_stream) = true) (b__law_stream : Binds K fd__law_stream ["_law_script"] []) {f_meeting_sets : Addr} {fd_meeting_sets : FuncData} (G_meeting_sets : FnOk P w K mg base (L2.CX P w) 2 f_meeting_sets fd_meeting_sets ["sets"] (spD K mg 1 F_meeting_sets)) (m_meeting_sets : mg "meeting_sets" = some (.ref f_meeting_sets)) (k_meeting_sets : PySem.W.keepIn K (.ref f_meeting_sets) = true) (b_meeting_sets : Binds K fd_meeting_sets ["sets"] []) : FnOk P w K mg base (L2.CX P w) 3 f fd ["_law_script"] (spD K mg 1 F_law) := by
  have S := sc_law
  unfold F_law b_law t_0 t_1 t_2 t_3 t_4 t_5 t_6 t_7 t_8 t_9 l_law_1 l_law_1_t0 l_law_1_t1 l_law_1_t2 l_law_1_t3 l_law_2 l_law_3
  exact fn_d F S (fun cdv A outer s H E hr => (dss_cons (ds_set 1 S.nd rfl (Or.inl rfl) (de_call G__law_stream (hr.mono (by decide)) (by rfl) m__law_stream k__law_stream b__law_stream (takes_of rfl rfl rfl rfl) (da_cons (de_var 0) da_nil) (by rfl) dDef_len)) (dss_cons (ds_set 2 S.nd rfl (Or.inl rfl) (de_lst da_nil)) (dss_cons (ds_for [3, 4, 5] (passes_of rfl) rfl (di_rng1 (by rfl) T.m_range (da_cons (de_call G__law_pick (hr.mono (by decide)) (by rfl) m__law_pick k__law_pick b__law_pick (takes_of rfl rfl rfl rfl) (da_cons (de_var 1) (da_cons de_int (da_cons de_int da_nil))) (by rfl) dDef_len) da_nil)) (dg_n 3 S.nd rfl (Or.inl rfl)) (dss_cons (ds_set 4 S.nd rfl (Or.inl rfl) (de_tup da_nil)) (dss_cons (ds_for [5] (passes_of rfl) rfl (di_rng1 (by rfl) T.m_range (da_cons de_int da_nil)) (dg_n 5 S.nd rfl (Or.inl rfl)) (dss_one (ds_if (PWd.pt (dw_and (dt_cmp op_lt ok_rel (de_bi call_len4 ok_len (by rfl) T.m_len (by decide +kernel) (da_cons (de_var 4) da_nil)) de_int) (dw_and1 (dt_cmp (op_eqP (Room.units hr)) ok_eq (de_call G__law_pick (hr.mono (by decide)) (by rfl) m__law_pick k__law_pick b__law_pick (takes_of rfl rfl rfl rfl) (da_cons (de_var 1) (da_cons (de_op op_add4 ok_add (de_op op_add4 ok_add de_int (de_op op_mul4 ok_mul de_int (de_var 3))) (de_var 5)) (da_cons de_int da_nil))) (by rfl) dDef_len) de_int)))) (dss_one (ds_set 4 S.nd rfl (Or.inl rfl) (de_op op_add4 ok_add (de_var 4) (de_tup (da_cons (de_var 5) da_nil))))) dss_nil))) (dss_cons (ds_if (PWd.pt (dw_and (dt_cmp (op_eqP (Room.units hr)) ok_eq (de_bi call_len4 ok_len (by rfl) T.m_len (by decide +kernel) (da_cons (de_var 4) da_nil)) de_int) (dw_and1 (dt_cmp op_gt ok_rel (de_call G__law_pick (hr.mono (by decide)) (by rfl) m__law_pick k__law_pick b__law_pick (takes_of rfl rfl rfl rfl) (da_cons (de_var 1) (da_cons (de_op op_add4 ok_add de_int (de_var 3)) (da_cons de_int da_nil))) (by rfl) dDef_len) de_int)))) (dss_one (ds_set 4 S.nd rfl (Or.inl rfl) (de_tup (da_cons (de_call G__law_pick (hr.mono (by decide)) (by rfl) m__law_pick k__law_pick b__law_pick (takes_of rfl rfl rfl rfl) (da_cons (de_var 1) (da_cons (de_op op_add4 ok_add de_int (de_var 3)) (da_cons de_int da_nil))) (by rfl) dDef_len) da_nil)))) dss_nil) (dss_one (ds_expr (de_bm PySem.F.plainAttrs_list PySem.F.slot_list_append PySem.F.type_list_append mt_append ok_append (de_var 2) (da_cons (de_var 4) da_nil)))))))) (dss_cons (ds_if (PWd.pt (dw_and (dt_cmp op_gt ok_rel (de_bi call_len4 ok_len (by rfl) T.m_len (by decide +kernel) (da_cons (de_var 2) da_nil)) de_int) (dw_and1 (dt_cmp (op_eqP (Room.units hr)) ok_eq (de_call G__law_pick (hr.mono (by decide)) (by rfl) m__law_pick k__law_pick b__law_pick (takes_of rfl rfl rfl rfl) (da_cons (de_var 1) (da_cons de_int (da_cons de_int da_nil))) (by rfl) dDef_len) de_int)))) (dss_one (ds_expr (de_bm PySem.F.plainAttrs_list PySem.F.slot_list_append PySem.F.type_list_append mt_append ok_append (de_var 2) (da_cons (de_ix ix_seq ok_ix (de_var 2) de_int) da_nil)))) dss_nil) (dss_cons (ds_set 6 S.nd rfl (Or.inr rfl) (de_bty call_tuple_of ok_tuple (by rfl) T.m_tuple (by decide +kernel) (da_cons (de_var 2) da_nil))) (dss_cons (ds_set 7 S.nd rfl (Or.inl rfl) (de_call G__law_least (hr.mono (by decide)) (by rfl) m__law_least k__law_least b__law_least (takes_of rfl rfl rfl rfl) (da_cons (de_comp (own := [("_law_chosen", 4)]) rfl S.nd (di_seq (de_call G__law_sets (hr.mono (by decide)) (by rfl) m__law_sets k__law_sets b__law_sets (takes_of rfl rfl rfl rfl) (da_cons de_int da_nil) (by rfl) dDef_len)) (blkOk_by (N := N_law) (sc := defScope s_law) (by decide +kernel)) (nm_one 4) (fun _ _ _ _ _ => (pg_name (i := 4) S.nd rfl (Or.inl rfl))) (fun _ _ _ _ _ => (dts_one (dt_tru (de_call G__law_meets (hr.mono (by decide)) (by rfl) m__law_meets k__law_meets b__law_meets takes0 (da_cons (de_var 4) (da_cons (de_var 6) da_nil)) (by rfl) dDef_len)))) (fun _ _ _ _ _ => (de_var 4))) da_nil) (by rfl) dDef_len)) (dss_cons (ds_set 8 S.nd rfl (Or.inl rfl) (de_call G_meeting_sets (hr.mono (by decide)) (by rfl) m_meeting_sets k_meeting_sets b_meeting_sets (takes_of rfl rfl rfl rfl) (da_cons (de_var 6) da_nil) (by rfl) dDef_len)) (dss_cons (ds_if (PWd.pt (dw_or (dt_cmp (op_neP (Room.units hr)) ok_eq (de_var 8) (de_var 7)) (dw_or (dt_not (dt_tru (de_bi call_isi ok_isa (by rfl) T.m_isinstance (by decide +kernel) (da_cons (de_var 8) (da_cons (de_bltn (by rfl) T.m_tuple (by decide +kernel)) da_nil))))) (dw_or (dt_cmp (op_neP (Room.units hr)) ok_eq (de_call G_meeting_sets (hr.mono (by decide)) (by rfl) m_meeting_sets k_meeting_sets b_meeting_sets (takes_of rfl rfl rfl rfl) (da_cons (de_var 6) da_nil) (by rfl) dDef_len) (de_var 7)) (dw_or1 (dt_cmp (op_neP (Room.units hr)) ok_eq (de_call G_meeting_sets (hr.mono (by decide)) (by rfl) m_meeting_sets k_meeting_sets b_meeting_sets (takes_of rfl rfl rfl rfl) (da_cons (de_revT (de_var 6) (do_some (de_un un_neg ok_neg de_int))) da_nil) (by rfl) dDef_len) (de_var 7))))))) (dss_one (ds_ret de_bl)) dss_nil) (dss_cons (ds_for [4] (passes_of rfl) rfl (di_seq (de_var 8)) (dg_n 4 S.nd rfl (Or.inl rfl)) (dss_one (ds_if (dt_not (dt_tru (de_bi call_isi ok_isa (by rfl) T.m_isinstance (by decide +kernel) (da_cons (de_var 4) (da_cons (de_bltn (by rfl) T.m_tuple (by decide +kernel)) da_nil))))) (dss_one (ds_ret de_bl)) dss_nil))) (dss_one (ds_ret (de_cmp (op_eqP (Room.units hr)) ok_eq (de_call G_meeting_sets (hr.mono (by decide)) (by rfl) m_meeting_sets k_meeting_sets b_meeting_sets (takes_of rfl rfl rfl rfl) (da_cons (de_var 8) da_nil) (by rfl) dDef_len) (de_call G__law_least (hr.mono (by decide)) (by rfl) m__law_least k__law_least b__law_least (takes_of rfl rfl rfl rfl) (da_cons (de_var 2) da_nil) (by rfl) dDef_len))))))))))))))
end
theorem all_mk {l : PySem.W.OpenLaw} {w : World} {K : PySem.W.Frag} {h : Heap} {mg : Str → Option Value} {fa : Addr} (X : K.In h) (G : h.Ns mainGlobals mg) (hfa : mg "law" = some (.ref fa))
    {f__law_part : Addr} {od__law_part an__law_part : Option Addr} {sl__law_part : Array (Option Value)} {oc__law_part kV__law_part dc__law_part pm__law_part cd__law_part ct__law_part : Value}
    {f__law_least : Addr} {od__law_least an__law_least : Option Addr} {sl__law_least : Array (Option Value)} {oc__law_least kV__law_least dc__law_least pm__law_least cd__law_least ct__law_least : Value}
    {f__law_meets : Addr} {od__law_meets an__law_meets : Option Addr} {sl__law_meets : Array (Option Value)} {oc__law_meets kV__law_meets dc__law_meets pm__law_meets cd__law_meets ct__law_meets : Value}
    {f__law_pick : Addr} {od__law_pick an__law_pick : Option Addr} {sl__law_pick : Array (Option Value)} {oc__law_pick kV__law_pick dc__law_pick pm__law_pick cd__law_pick ct__law_pick : Value}
    {f__law_sets : Addr} {od__law_sets an__law_sets : Option Addr} {sl__law_sets : Array (Option Value)} {oc__law_sets kV__law_sets dc__law_sets pm__law_sets cd__law_sets ct__law_sets : Value}
    {f__law_stream : Addr} {od__law_stream an__law_stream : Option Addr} {sl__law_stream : Array (Option Value)} {oc__law_stream kV__law_stream dc__law_stream pm__law_stream cd__law_stream ct__law_stream : Value}
    {f_is_part : Addr} {od_is_part an_is_part : Option Addr} {sl_is_part : Array (Option Value)} {oc_is_part kV_is_part dc_is_part pm_is_part cd_is_part ct_is_part : Value}
    {f_sets_of : Addr} {od_sets_of an_sets_of : Option Addr} {sl_sets_of : Array (Option Value)} {oc_sets_of kV_sets_of dc_sets_of pm_sets_of cd_sets_of ct_sets_of : Value}
    {f_meeting_sets : Addr} {od_meeting_sets an_meeting_sets : Option Addr} {sl_meeting_sets : Array (Option Value)} {oc_meeting_sets kV_meeting_sets dc_meeting_sets pm_meeting_sets cd_meeting_sets ct_meeting_sets : Value}
    {f_law : Addr} {od_law an_law : Option Addr} {sl_law : Array (Option Value)} {oc_law kV_law dc_law pm_law cd_law ct_law : Value}
    {t_MAX_CHOICES : Tok}
    (a__law_part : PySem.W.nsIn K mainGlobals "_law_part" = some (some (.ref f__law_part)))
    (l__law_part : K.lookup f__law_part = some ⟨oc__law_part, od__law_part, .func (PySem.W.fnOf "_law_part" "_law_part" (defArgs s__law_part) (defBody s__law_part) (defScope s__law_part) .none kV__law_part dc__law_part pm__law_part an__law_part cd__law_part ct__law_part), sl__law_part⟩)
    (c__law_part : PySem.W.codeIn K cd__law_part "_law_part" = true)
    (k__law_part : PySem.W.keepIn K (.ref f__law_part) = true)
    (a__law_least : PySem.W.nsIn K mainGlobals "_law_least" = some (some (.ref f__law_least)))
    (l__law_least : K.lookup f__law_least = some ⟨oc__law_least, od__law_least, .func (PySem.W.fnOf "_law_least" "_law_least" (defArgs s__law_least) (defBody s__law_least) (defScope s__law_least) .none kV__law_least dc__law_least pm__law_least an__law_least cd__law_least ct__law_least), sl__law_least⟩)
    (c__law_least : PySem.W.codeIn K cd__law_least "_law_least" = true)
    (k__law_least : PySem.W.keepIn K (.ref f__law_least) = true)
    (a__law_meets : PySem.W.nsIn K mainGlobals "_law_meets" = some (some (.ref f__law_meets)))
    (l__law_meets : K.lookup f__law_meets = some ⟨oc__law_meets, od__law_meets, .func (PySem.W.fnOf "_law_meets" "_law_meets" (defArgs s__law_meets) (defBody s__law_meets) (defScope s__law_meets) .none kV__law_meets dc__law_meets pm__law_meets an__law_meets cd__law_meets ct__law_meets), sl__law_meets⟩)
    (c__law_meets : PySem.W.codeIn K cd__law_meets "_law_meets" = true)
    (k__law_meets : PySem.W.keepIn K (.ref f__law_meets) = true)
    (a__law_pick : PySem.W.nsIn K mainGlobals "_law_pick" = some (some (.ref f__law_pick)))
    (l__law_pick : K.lookup f__law_pick = some ⟨oc__law_pick, od__law_pick, .func (PySem.W.fnOf "_law_pick" "_law_pick" (defArgs s__law_pick) (defBody s__law_pick) (defScope s__law_pick) .none kV__law_pick dc__law_pick pm__law_pick an__law_pick cd__law_pick ct__law_pick), sl__law_pick⟩)
    (c__law_pick : PySem.W.codeIn K cd__law_pick "_law_pick" = true)
    (k__law_pick : PySem.W.keepIn K (.ref f__law_pick) = true)
    (a__law_sets : PySem.W.nsIn K mainGlobals "_law_sets" = some (some (.ref f__law_sets)))
    (l__law_sets : K.lookup f__law_sets = some ⟨oc__law_sets, od__law_sets, .func (PySem.W.fnOf "_law_sets" "_law_sets" (defArgs s__law_sets) (defBody s__law_sets) (defScope s__law_sets) .none kV__law_sets dc__law_sets pm__law_sets an__law_sets cd__law_sets ct__law_sets), sl__law_sets⟩)
    (c__law_sets : PySem.W.codeIn K cd__law_sets "_law_sets" = true)
    (k__law_sets : PySem.W.keepIn K (.ref f__law_sets) = true)
    (a__law_stream : PySem.W.nsIn K mainGlobals "_law_stream" = some (some (.ref f__law_stream)))
    (l__law_stream : K.lookup f__law_stream = some ⟨oc__law_stream, od__law_stream, .func (PySem.W.fnOf "_law_stream" "_law_stream" (defArgs s__law_stream) (defBody s__law_stream) (defScope s__law_stream) .none kV__law_stream dc__law_stream pm__law_stream an__law_stream cd__law_stream ct__law_stream), sl__law_stream⟩)
    (c__law_stream : PySem.W.codeIn K cd__law_stream "_law_stream" = true)
    (k__law_stream : PySem.W.keepIn K (.ref f__law_stream) = true)
    (a_is_part : PySem.W.nsIn K mainGlobals "is_part" = some (some (.ref f_is_part)))
    (l_is_part : K.lookup f_is_part = some ⟨oc_is_part, od_is_part, .func (PySem.W.fnOf "is_part" "is_part" (defArgs s_is_part) (defBody s_is_part) (defScope s_is_part) .none kV_is_part dc_is_part pm_is_part an_is_part cd_is_part ct_is_part), sl_is_part⟩)
    (c_is_part : PySem.W.codeIn K cd_is_part "is_part" = true)
    (k_is_part : PySem.W.keepIn K (.ref f_is_part) = true)
    (a_sets_of : PySem.W.nsIn K mainGlobals "sets_of" = some (some (.ref f_sets_of)))
    (l_sets_of : K.lookup f_sets_of = some ⟨oc_sets_of, od_sets_of, .func (PySem.W.fnOf "sets_of" "sets_of" (defArgs s_sets_of) (defBody s_sets_of) (defScope s_sets_of) .none kV_sets_of dc_sets_of pm_sets_of an_sets_of cd_sets_of ct_sets_of), sl_sets_of⟩)
    (c_sets_of : PySem.W.codeIn K cd_sets_of "sets_of" = true)
    (k_sets_of : PySem.W.keepIn K (.ref f_sets_of) = true)
    (a_meeting_sets : PySem.W.nsIn K mainGlobals "meeting_sets" = some (some (.ref f_meeting_sets)))
    (l_meeting_sets : K.lookup f_meeting_sets = some ⟨oc_meeting_sets, od_meeting_sets, .func (PySem.W.fnOf "meeting_sets" "meeting_sets" (defArgs s_meeting_sets) (defBody s_meeting_sets) (defScope s_meeting_sets) .none kV_meeting_sets dc_meeting_sets pm_meeting_sets an_meeting_sets cd_meeting_sets ct_meeting_sets), sl_meeting_sets⟩)
    (c_meeting_sets : PySem.W.codeIn K cd_meeting_sets "meeting_sets" = true)
    (k_meeting_sets : PySem.W.keepIn K (.ref f_meeting_sets) = true)
    (a_law : PySem.W.nsIn K mainGlobals "law" = some (some (.ref f_law)))
    (l_law : K.lookup f_law = some ⟨oc_law, od_law, .func (PySem.W.fnOf "law" "law" (defArgs s_law) (defBody s_law) (defScope s_law) .none kV_law dc_law pm_law an_law cd_law ct_law), sl_law⟩)
    (c_law : PySem.W.codeIn K cd_law "law" = true)
    (k_law : PySem.W.keepIn K (.ref f_law) = true)
    (g_MAX_CHOICES : PySem.W.nsIn K mainGlobals "MAX_CHOICES" = some (some (.int 6 t_MAX_CHOICES)))
    (g_all : PySem.W.nsIn K mainGlobals "all" = some none)
    (g_any : PySem.W.nsIn K mainGlobals "any" = some none)
    (g_int : PySem.W.nsIn K mainGlobals "int" = some none)
    (g_isinstance : PySem.W.nsIn K mainGlobals "isinstance" = some none)
    (g_len : PySem.W.nsIn K mainGlobals "len" = some none)
    (g_range : PySem.W.nsIn K mainGlobals "range" = some none)
    (g_sorted : PySem.W.nsIn K mainGlobals "sorted" = some none)
    (g_tuple : PySem.W.nsIn K mainGlobals "tuple" = some none)
    : ∃ fd : FuncData, (∀ (s : Shared) (u : Value), BindsTo s fd ⟨[u], []⟩ [("_law_script", u)]) ∧ ∀ base : Heap, K.In base → base.Ns mainGlobals mg → FnOk l.prog w K mg base (L2.CX l.prog w) 3 fa fd ["_law_script"] (spD K mg 1 F_law) := by
  have e := hfa.symm.trans (PySem.W.mg_of X G a_law)
  cases e
  let T : Txt w K mg := { m_MAX_CHOICES := ⟨_, PySem.W.mg_of X G g_MAX_CHOICES⟩, m_all := PySem.W.mg_none_of X G g_all, m_any := PySem.W.mg_none_of X G g_any, m_int := PySem.W.mg_none_of X G g_int, m_isinstance := PySem.W.mg_none_of X G g_isinstance, m_len := PySem.W.mg_none_of X G g_len, m_range := PySem.W.mg_none_of X G g_range, m_sorted := PySem.W.mg_none_of X G g_sorted, m_tuple := PySem.W.mg_none_of X G g_tuple }
  have F__law_part := fun_mk (st := s__law_part) l__law_part c__law_part k__law_part
  have b__law_part := F__law_part.binds (ps := ["_law_first", "_law_second"]) fun _ _ _ _ _ _ us hl => match us, hl with | [_, _], _ => rfl
  have F__law_least := fun_mk (st := s__law_least) l__law_least c__law_least k__law_least
  have b__law_least := F__law_least.binds (ps := ["_law_sets_here"]) fun _ _ _ _ _ _ us hl => match us, hl with | [_], _ => rfl
  have F__law_meets := fun_mk (st := s__law_meets) l__law_meets c__law_meets k__law_meets
  have b__law_meets := F__law_meets.binds (ps := ["_law_chosen", "_law_sets_here"]) fun _ _ _ _ _ _ us hl => match us, hl with | [_, _], _ => rfl
  have F__law_pick := fun_mk (st := s__law_pick) l__law_pick c__law_pick k__law_pick
  have b__law_pick := F__law_pick.binds (ps := ["_law_numbers", "_law_at", "_law_many"]) fun _ _ _ _ _ _ us hl => match us, hl with | [_, _, _], _ => rfl
  have F__law_sets := fun_mk (st := s__law_sets) l__law_sets c__law_sets k__law_sets
  have b__law_sets := F__law_sets.binds (ps := ["_law_many"]) fun _ _ _ _ _ _ us hl => match us, hl with | [_], _ => rfl
  have F__law_stream := fun_mk (st := s__law_stream) l__law_stream c__law_stream k__law_stream
  have b__law_stream := F__law_stream.binds (ps := ["_law_script"]) fun _ _ _ _ _ _ us hl => match us, hl with | [_], _ => rfl
  have F_is_part := fun_mk (st := s_is_part) l_is_part c_is_part k_is_part
  have b_is_part := F_is_part.binds (ps := ["first", "second"]) fun _ _ _ _ _ _ us hl => match us, hl with | [_, _], _ => rfl
  have F_sets_of := fun_mk (st := s_sets_of) l_sets_of c_sets_of k_sets_of
  have b_sets_of := F_sets_of.binds (ps := ["many"]) fun _ _ _ _ _ _ us hl => match us, hl with | [_], _ => rfl
  have F_meeting_sets := fun_mk (st := s_meeting_sets) l_meeting_sets c_meeting_sets k_meeting_sets
  have b_meeting_sets := F_meeting_sets.binds (ps := ["sets"]) fun _ _ _ _ _ _ us hl => match us, hl with | [_], _ => rfl
  have F_law := fun_mk (st := s_law) l_law c_law k_law
  have b_law := F_law.binds (ps := ["_law_script"]) fun _ _ _ _ _ _ us hl => match us, hl with | [_], _ => rfl
  refine ⟨PySem.W.fnOf "law" "law" (defArgs s_law) (defBody s_law) (defScope s_law) .none kV_law dc_law pm_law an_law cd_law ct_law, fun s u => .of_eq rfl, fun base _ _ => ?_⟩
  have G__law_part := ok__law_part (P := l.prog) (w := w) (base := base) F__law_part T
  have G__law_least := ok__law_least (P := l.prog) (w := w) (base := base) F__law_least T G__law_part (PySem.W.mg_of X G a__law_part) k__law_part b__law_part
  have G__law_meets := ok__law_meets (P := l.prog) (w := w) (base := base) F__law_meets T
  have G__law_pick := ok__law_pick (P := l.prog) (w := w) (base := base) F__law_pick T
  have G__law_sets := ok__law_sets (P := l.prog) (w := w) (base := base) F__law_sets T
  have G__law_stream := ok__law_stream (P := l.prog) (w := w) (base := base) F__law_stream T
  have G_is_part := ok_is_part (P := l.prog) (w := w) (base := base) F_is_part T
  have G_sets_of := ok_sets_of (P := l.prog) (w := w) (base := base) F_sets_of T
  have G_meeting_sets := ok_meeting_sets (P := l.prog) (w := w) (base := base) F_meeting_sets T G_is_part (PySem.W.mg_of X G a_is_part) k_is_part b_is_part G_sets_of (PySem.W.mg_of X G a_sets_of) k_sets_of b_sets_of
  have G_law := ok_law (P := l.prog) (w := w) (base := base) F_law T G__law_least (PySem.W.mg_of X G a__law_least) k__law_least b__law_least G__law_meets (PySem.W.mg_of X G a__law_meets) k__law_meets b__law_meets G__law_pick (PySem.W.mg_of X G a__law_pick) k__law_pick b__law_pick G__law_sets (PySem.W.mg_of X G a__law_sets) k__law_sets b__law_sets G__law_stream (PySem.W.mg_of X G a__law_stream) k__law_stream b__law_stream G_meeting_sets (PySem.W.mg_of X G a_meeting_sets) k_meeting_sets b_meeting_sets
  exact G_law
open D.Dat (enc)
/-! ## sets as values -/
def tupI (c : M.Se) : PV := .tup (intsP c)
def setsP (F : List M.Se) : List PV := F.map tupI
theorem nls_sets : ∀ F : List M.Se, noLocs (setsP F) = true
  | [] => rfl
  | c :: F => by
    show (noLocs (intsP c) && noLocs (setsP F)) = true
    rw [noLocs_ints, nls_sets F]
    rfl
theorem sets_len (F : List M.Se) : (setsP F).length = F.length := List.length_map ..
theorem sets_app (F G : List M.Se) : setsP (F ++ G) = setsP F ++ setsP G := List.map_append ..
theorem any_datK {α : Type} [Dat α] [DecidableEq α] (l : List α) (x : α) : ((l.map Dat.dat).any fun z => PyData.eqv z (Dat.dat x)) = decide (x ∈ l) := by
  rw [List.any_map, Bool.eq_iff_iff, List.any_eq_true, decide_eq_true_eq]
  constructor
  · rintro ⟨y, hy, h⟩
    rw [(Dat.eqv y x).mp h] at hy
    exact hy
  · intro h
    exact ⟨x, h, (Dat.eqv x x).mpr rfl⟩
theorem in_tupK {α : Type} {S : Sto} {neg : Bool} [Dat α] [DecidableEq α] {l : List α} {x : α} (h : Dat.dep α ≤ 59 := by decide) : gInN neg (enc x) (.tup (l.map enc)) S = some (.ok (.bl (if neg then !decide (x ∈ l) else decide (x ∈ l))) S) := by
  unfold gInN inP
  rw [Dat.td' 60 (by omega) S x, toD_tup (n := 59) (mapO_map fun y _ => Dat.td' 59 h S y)]
  dsimp only
  rw [any_datK]
theorem in_lstK {α : Type} {S : Sto} {neg : Bool} [Dat α] [DecidableEq α] {k : Nat} {l : List α} {x : α} (hk : S[k]? = some (.lst (l.map enc))) (h : Dat.dep α ≤ 59 := by decide) : gInN neg (enc x) (.loc k) S = some (.ok (.bl (if neg then !decide (x ∈ l) else decide (x ∈ l))) S) := by
  unfold gInN inP
  rw [Dat.td' 60 (by omega) S x, toD_lst (n := 59) hk (mapO_map fun y _ => Dat.td' 59 h S y)]
  dsimp only
  rw [any_datK]
theorem in_set {S : Sto} {c : M.Se} {k : Int} : gIn (.int k) (tupI c) S = some (.ok (.bl (decide (k ∈ c))) S) := by
  have := in_tupK (S := S) (neg := false) (l := c) (x := k)
  exact this
theorem nin_set {S : Sto} {c : M.Se} {k : Int} : gNotIn (.int k) (tupI c) S = some (.ok (.bl (!decide (k ∈ c))) S) := by
  have := in_tupK (S := S) (neg := true) (l := c) (x := k)
  exact this
theorem body_twoK {U U' : Sto} {kill : List Nat} {f : DS} {ρ ρ' : En} (h : f ρ U = some (.next ρ' U')) : dBody kill f ρ U = some (.next ρ' U') ∨ (bdE U.length (killE kill ρ') ∧ dBody kill f ρ U = some (.next (killE kill ρ') (U'.take U.length))) := by
  unfold dBody
  rw [h]
  by_cases c : Cl U U' ∧ bdE U.length (killE kill ρ')
  · exact .inr ⟨c.2, congrArg some (if_pos c)⟩
  · exact .inl (congrArg some (if_neg c))
theorem body_ctnK {U U' : Sto} {kill : List Nat} {f : DS} {ρ ρ' : En} (h : f ρ U = some (.ctn ρ' U')) : dBody kill f ρ U = some (.ctn ρ' U') ∨ dBody kill f ρ U = some (.ctn (killE kill ρ') (U'.take U.length)) := by
  unfold dBody
  rw [h]
  by_cases c : Cl U U' ∧ bdE U.length (killE kill ρ')
  · exact .inr (congrArg some (if_pos c))
  · exact .inl (congrArg some (if_neg c))
theorem blsAt_ofK {k : Nat} {S : Sto} {bs : List Bool} (h : S[k]? = some (.lst (bs.map PV.bl))) : blsAt k S = some bs := by
  unfold blsAt lstOf
  rw [h]
  exact (mapO_map (f := blP) (e := PV.bl) (d := fun x => x) (l := bs) fun x _ => rfl).trans (by simp)
theorem any_compK {α : Type} {f : PV → Option (List Nat × List PV)} {own : List Nat} {elt : DE} {ρ : En} {S : Sto} {it : DI} {keep : List (Nat × PO)} {items : List α} (e : α → PV) (t : α → Bool)
    (hi : it ρ S = some (.ok ⟨items.map e, keep⟩ S)) (hk : Kept keep S) (h : ∀ x ∈ items, ∀ acc, ∃ is l, f (e x) = some (is, l) ∧ elt (setsE is l (killE own ρ)) (S ++ [.lst acc]) = some (.ok (.bl (t x)) (S ++ [.lst acc]))) (hl : items.length ≤ 16777216) :
    dOpA gAnyL (dCons (dComp it f own dYes elt) dNil) ρ S = some (.ok (.bl (items.any t)) (S ++ [.lst ((items.map t).map PV.bl)])) ∧ dOpA gAllL (dCons (dComp it f own dYes elt) dNil) ρ S = some (.ok (.bl (items.all t)) (S ++ [.lst ((items.map t).map PV.bl)])) := by
  have c := ev_compF (f := f) (own := own) (tt := dYes) (elt := elt) (ρ := ρ) (S := S) (S1 := S) (it := it) (items := items) e (fun _ => true) (fun x => .bl (t x)) hi hk (fun x hx acc => by
    obtain ⟨is, l, h1, h2⟩ := h x hx acc
    exact ⟨is, l, h1, rfl, fun _ => h2⟩) hl
  have hm : (items.filter fun _ => true).map (fun x => PV.bl (t x)) = (items.map t).map PV.bl := by
    rw [List.filter_eq_self.mpr fun _ _ => rfl, List.map_map]
    rfl
  rw [hm] at c
  constructor
  · rw [ev_opA, ev_cons, c]
    simp only [ev_bR_ok, ev_nil]
    unfold gAnyL
    dsimp only
    rw [blsAt_ofK (at_0 (T := []))]
    simp [List.any_map]
  · rw [ev_opA, ev_cons, c]
    simp only [ev_bR_ok, ev_nil]
    unfold gAllL
    dsimp only
    rw [blsAt_ofK (at_0 (T := []))]
    simp [List.all_map]
/-! ## parts, meeting -/
theorem is_part_ok {S : Sto} {a b : M.Se} (ha : a.length ≤ 100) : F_is_part [tupI a, tupI b] S = some (.ok (.bl (M.part a b)) S) := by
  have ac := (any_compK (f := nmOne 2) (own := [2]) (elt := dOp2 gIn (dVar 2) (dVar 1)) (ρ := [some (tupI a), some (tupI b), none]) (S := S) (it := dSeqI (dVar 0)) (keep := []) (items := a) PV.int (fun k => decide (k ∈ b)) (by simp [tupI]; rfl) (by simp) (fun k _ acc => ⟨[2], [.int k], rfl, by
    simp only [setsE, ev_killC, ev_killN, List.set_cons_succ, List.set_cons_zero, ev_op2, ev_var, List.getElem?_cons_zero, List.getElem?_cons_succ, ev_bR_ok, in_set]⟩) (by omega)).2
  refine call_val (T := [.lst ((a.map fun k => decide (k ∈ b)).map PV.bl)]) ?_ rfl
  show b_is_part [some (tupI a), some (tupI b), none] S = _
  unfold b_is_part
  rw [ev_ret, ac]
  rfl
theorem lpart_loop {S : Sto} {q : Option PV} {b : M.Se} : ∀ a : M.Se, forL (gN 2) [2] l__law_part_1 [] (intsP a) [q, some (tupI b), none] S = if M.part a b = true then some (.next [q, some (tupI b), none] S) else some (.ret (.bl false) S)
  | [] => by rw [intsP_nil, forL_nil (by simp)]; rfl
  | k :: a => by
    have ih := lpart_loop (S := S) (q := q) (b := b) a
    have e : M.part (k :: a) b = (decide (k ∈ b) && M.part a b) := rfl
    rw [intsP_cons, forL_cons (by simp), e]
    by_cases h : k ∈ b
    · simp [l__law_part_1, nin_set, h] at ih ⊢
      exact ih
    · simp [l__law_part_1, nin_set, h]
theorem lpart_ok {S : Sto} {a b : M.Se} : F__law_part [tupI a, tupI b] S = some (.ok (.bl (M.part a b)) S) := by
  have lp := lpart_loop (S := S) (q := some (tupI a)) (b := b) a
  refine call_val0 ?_ rfl
  show b__law_part [some (tupI a), some (tupI b), none] S = _
  cases h : M.part a b with
  | true => rw [h] at lp; simp [b__law_part, tupI] at lp ⊢; rw [lp]; simp
  | false => rw [h] at lp; simp [b__law_part, tupI] at lp ⊢; rw [lp]; simp
theorem lm_in {S : Sto} {c : M.Se} {q v2 : Option PV} : ∀ (o : M.Se) (g : Bool), forL (gN 4) [4] l__law_meets_2 [] (intsP o) [some (tupI c), q, v2, some (.bl g), none] S = some (.next [some (tupI c), q, v2, some (.bl (g || o.any fun k => decide (k ∈ c))), none] S)
  | [], g => by rw [intsP_nil, forL_nil (by simp)]; simp
  | k :: o, g => by
    rw [intsP_cons, forL_cons (by simp), List.any_cons]
    by_cases h : k ∈ c
    · have ih := lm_in (S := S) (c := c) (q := q) (v2 := v2) o true
      simp [l__law_meets_2, in_set, h] at ih ⊢
      exact ih
    · have ih := lm_in (S := S) (c := c) (q := q) (v2 := v2) o g
      simp [l__law_meets_2, in_set, h] at ih ⊢
      exact ih
theorem lm_loop {S : Sto} {c : M.Se} {q : Option PV} : ∀ (F : List M.Se), forL (gN 2) [2, 3, 4] l__law_meets_1 [] (setsP F) [some (tupI c), q, none, none, none] S = if M.meets c F = true then some (.next [some (tupI c), q, none, none, none] S) else some (.ret (.bl false) S)
  | [] => by show forL _ _ _ _ [] _ _ = _; rw [forL_nil (by simp)]; rfl
  | o :: F => by
    have ih := lm_loop (S := S) (c := c) (q := q) F
    have li := lm_in (S := S) (c := c) (q := q) (v2 := some (tupI o)) o false
    have e : M.meets c (o :: F) = ((o.any fun k => decide (k ∈ c)) && M.meets c F) := rfl
    show forL _ _ _ _ (tupI o :: setsP F) _ _ = _
    rw [forL_cons (by simp), e]
    cases h : (o.any fun k => decide (k ∈ c)) with
    | true =>
      rw [h] at li
      simp [l__law_meets_1, l__law_meets_1_t0, l__law_meets_1_t1, l__law_meets_1_t2, tupI] at li ih ⊢
      rw [li]
      simp [ih]
    | false =>
      rw [h] at li
      simp [l__law_meets_1, l__law_meets_1_t0, l__law_meets_1_t1, l__law_meets_1_t2, tupI] at li ⊢
      rw [li]
      simp
theorem lmeets_ok {S : Sto} {c : M.Se} {F : List M.Se} : F__law_meets [tupI c, .tup (setsP F)] S = some (.ok (.bl (M.meets c F)) S) := by
  have lp := lm_loop (S := S) (q := some (.tup (setsP F))) (c := c) F
  refine call_val0 ?_ rfl
  show b__law_meets [some (tupI c), some (.tup (setsP F)), none, none, none] S = _
  cases h : M.meets c F with
  | true => rw [h] at lp; simp [b__law_meets] at lp ⊢; rw [lp]; simp
  | false => rw [h] at lp; simp [b__law_meets] at lp ⊢; rw [lp]; simp
/-! ## all sets -/
theorem comp2_go {α β : Type} {c : Nat} {f f1 : PV → Option (List Nat × List PV)} {own own1 : List Nat} {tt tt1 : DB} {it1 : DI} {elt : DE} {ρ : En} {S1 : Sto} {keep : List (Nat × PO)} (e : α → PV) (e1 : β → PV) (items1 : List β) (t : α → β → Bool) (g : α → β → PV) (hc : c = S1.length) (hk : Kept keep S1) :
    ∀ (items : List α) (acc : List PV), (∀ x ∈ items, ∃ is l, f (e x) = some (is, l) ∧ (∀ a, tt (setsE is l (killE own ρ)) (S1 ++ [.lst a]) = some (.ok true (S1 ++ [.lst a]))) ∧ (∀ a, it1 (setsE is l (killE own ρ)) (S1 ++ [.lst a]) = some (.ok ⟨items1.map e1, []⟩ (S1 ++ [.lst a]))) ∧
      ∀ y ∈ items1, ∀ a, ∃ is1 l1, f1 (e1 y) = some (is1, l1) ∧ tt1 (setsE is1 l1 (killE own1 (setsE is l (killE own ρ)))) (S1 ++ [.lst a]) = some (.ok (t x y) (S1 ++ [.lst a])) ∧ (t x y = true → elt (setsE is1 l1 (killE own1 (setsE is l (killE own ρ)))) (S1 ++ [.lst a]) = some (.ok (g x y) (S1 ++ [.lst a])))) →
      acc.length + items.length * items1.length ≤ 16777216 → compL2 c f own tt it1 f1 own1 tt1 elt keep (items.map e) ρ (S1 ++ [.lst acc]) = some (.ok (.loc c) (S1 ++ [.lst (acc ++ items.flatMap fun x => (items1.filter (t x)).map (g x))]))
  | [], acc, _, _ => by
    rw [List.map_nil]
    have kk : Kept keep (S1 ++ [.lst acc]) := fun p hp => at_old (hk p hp)
    unfold compL2
    rw [if_pos kk]
    simp
  | x :: items, acc, h, hl => by
    obtain ⟨is, l, h1, h2, h3, h4⟩ := h x List.mem_cons_self
    rw [List.length_cons, Nat.add_mul, Nat.one_mul] at hl
    rw [List.map_cons]
    have kk : Kept keep (S1 ++ [.lst acc]) := fun p hp => at_old (hk p hp)
    unfold compL2
    rw [if_pos kk, h1]
    dsimp only
    rw [h2 acc]
    dsimp only
    rw [h3 acc]
    dsimp only
    have cm := compL_fm (c := c) (f := f1) (own := own1) (tt := tt1) (elt := elt) (keep := []) (ρ := setsE is l (killE own ρ)) (fun S' => ∃ a, S' = S1 ++ [.lst a]) e1 (t x) (g x) (fun S' _ p hp => by cases hp) (fun S' a ⟨b, q⟩ => ⟨a, by rw [q, hc, put_0]⟩) items1 acc (S1 ++ [.lst acc]) (fun y hy S' ⟨a, q⟩ => by
      rw [q]
      exact h4 y hy a) ⟨acc, rfl⟩ (by rw [hc]; exact at_0 (T := [])) (by omega)
    rw [cm]
    dsimp only
    have e2 : (S1 ++ [PO.lst acc]).set c (.lst (acc ++ (items1.filter (t x)).map (g x))) = S1 ++ [.lst (acc ++ (items1.filter (t x)).map (g x))] := by rw [hc, put_0]
    rw [e2, comp2_go e e1 items1 t g hc hk items (acc ++ (items1.filter (t x)).map (g x)) (fun y hy => h y (List.mem_cons_of_mem _ hy)) (by
      have : ((items1.filter (t x)).map (g x)).length ≤ items1.length := by rw [List.length_map]; exact List.length_filter_le _ _
      rw [List.length_append]
      omega)]
    simp
theorem last_set {S : Sto} {c : M.Se} (h : c ≠ []) : gIx (tupI c) (.int (-1)) S = some (.ok (.int (c.getLastD 0)) S) := by
  have e : c = c.dropLast ++ [c.getLast h] := (List.dropLast_concat_getLast h).symm
  have e2 : c.getLastD 0 = c.getLast h := by
    rw [List.getLastD_eq_getLast?, List.getLast?_eq_some_getLast h]
    rfl
  unfold tupI
  rw [e2]
  refine ev_ixT ?_
  conv => lhs; rw [e]
  unfold intsP
  rw [List.map_append]
  exact atI_last
theorem lv_len : ∀ n, n < 7 → (M.lvl n).length ≤ 64 ∧ (M.accL n).length ≤ 64 ∧ (M.lawV n).length ≤ 64 := by decide +kernel
theorem lv_short : ∀ n, n < 7 → (∀ c ∈ M.lvl n, c.length ≤ 6) ∧ (∀ c ∈ M.lawV n, c.length ≤ 6) := by decide +kernel
theorem snoc_set {S : Sto} {c : M.Se} {k : Int} (h : c.length ≤ 100) : gAdd (tupI c) (.tup [.int k]) S = some (.ok (tupI (c ++ [k])) S) := by
  unfold tupI
  rw [ev_addT (by rw [intsP_len, List.length_singleton]; omega), intsP_append]
  rfl
theorem so_step {U : Sto} {v1 : Option PV} {k n : Nat} {x : Option PV} (hn : n < 6) (hk : U[k]? = some (.lst (setsP (M.lvl n)))) :
    dComp2 (dSeqI (dVar 2)) (nmOne 4) [4, 5] dYes (dRng1 (dCons (dVar 0) dNil)) (nmOne 5) [5] (dOrT (dCmp gEq (dOpA gLen (dCons (dVar 4) dNil)) (dC (.int 0))) (dCmp gGt (dVar 5) (dOp2 gIx (dVar 4) (dOp1 gNeg (dC (.int 1)))))) (dOp2 gAdd (dVar 4) (dTup (dCons (dVar 5) dNil))) [some (.int 6), v1, some (.loc k), x, none, none] U =
      some (.ok (.loc U.length) (U ++ [.lst (setsP (M.lvl (n + 1)))])) := by
  have go := comp2_go (c := U.length) (f := nmOne 4) (f1 := nmOne 5) (own := [4, 5]) (own1 := [5]) (tt := dYes) (tt1 := dOrT (dCmp gEq (dOpA gLen (dCons (dVar 4) dNil)) (dC (.int 0))) (dCmp gGt (dVar 5) (dOp2 gIx (dVar 4) (dOp1 gNeg (dC (.int 1)))))) (it1 := dRng1 (dCons (dVar 0) dNil)) (elt := dOp2 gAdd (dVar 4) (dTup (dCons (dVar 5) dNil))) (ρ := [some (.int 6), v1, some (.loc k), x, none, none]) (S1 := U) (keep := [(k, .lst (setsP (M.lvl n)))]) tupI PV.int ([0, 1, 2, 3, 4, 5] : List Int) (fun c k => c.length == 0 || decide (c.getLastD 0 < k)) (fun c k => tupI (c ++ [k])) rfl ((kept_one _ _).mpr hk) (M.lvl n) [] (fun c hc => by
    refine ⟨[4], [tupI c], rfl, fun _ => rfl, fun _ => rfl, fun y _ a => ⟨[5], [.int y], rfl, ?_, fun _ => ?_⟩⟩
    · cases c with
      | nil => rfl
      | cons a0 c0 =>
        have ls := last_set (S := U ++ [.lst a]) (c := a0 :: c0) (by simp)
        have ln : gLen [tupI (a0 :: c0)] (U ++ [.lst a]) = some (.ok (.int ((c0.length : Int) + 1)) (U ++ [.lst a])) := by unfold tupI; rw [ev_lenT, intsP_len]; rfl
        have ne : ¬ ((c0.length : Int) + 1 = 0) := by omega
        simp [setsE, ls, ln, ne]
    · have sn := snoc_set (S := U ++ [.lst a]) (c := c) (k := y) (by have := (lv_short n (by omega)).1 c hc; omega)
      simp [setsE, sn]) (by have := (lv_len n (by omega)).1; simp; omega)
  unfold dComp2
  have it : dSeqI (dVar 2) [some (.int 6), v1, some (.loc k), x, none, none] U = some (.ok ⟨(M.lvl n).map tupI, [(k, .lst (setsP (M.lvl n)))]⟩ U) := by
    simp only [ev_seqI, ev_var, List.getElem?_cons_zero, List.getElem?_cons_succ, ev_bR_ok, hk]
    rfl
  rw [it, ev_bR_ok]
  dsimp only
  rw [go]
  have e : M.lvl (n + 1) = M.stepL (M.lvl n) := rfl
  rw [e]
  unfold M.stepL setsP
  rw [List.nil_append, List.map_flatMap]
  simp only [List.map_map]
  rfl
theorem so_loop {S : Sto} : ∀ (m n : Nat) (lo : Int) (T : Sto) (k : Nat), n + m = 6 → (S ++ .lst (setsP (M.accL n)) :: T)[k]? = some (.lst (setsP (M.lvl n))) → ∃ T' k', forL (gN 3) [3] l_sets_of_1 [] (rangeP lo m) [some (.int 6), some (.loc S.length), some (.loc k), none, none, none] (S ++ .lst (setsP (M.accL n)) :: T) =
    some (.next [some (.int 6), some (.loc S.length), some (.loc k'), none, none, none] (S ++ .lst (setsP M.U) :: T'))
  | 0, n, lo, T, k, h, hk => ⟨T, k, by
    have : n = 6 := by omega
    subst this
    show forL _ _ _ _ [] _ _ = _
    rw [forL_nil (by simp)]
    rfl⟩
  | m + 1, n, lo, T, k, h, hk => by
    obtain ⟨U, hU⟩ : ∃ U, U = S ++ PO.lst (setsP (M.accL n)) :: T := ⟨_, rfl⟩
    have ul : U.length = S.length + 1 + T.length := by rw [hU]; simp; omega
    have st := so_step (U := U) (v1 := some (.loc S.length)) (x := some (.int lo)) (n := n) (by omega) (by rw [hU]; exact hk)
    have lens := lv_len n (by omega)
    have lens1 := lv_len (n + 1) (by omega)
    have ty : tyP "list" (.loc S.length) (U ++ [.lst (setsP (M.lvl (n + 1)))]) = true := by rw [hU]; exact ev_tyL (at_old at_0)
    have ext : gExtend (.loc S.length) [.loc U.length] (U ++ [.lst (setsP (M.lvl (n + 1)))]) = some (.ok .non (S ++ .lst (setsP (M.accL (n + 1))) :: (T ++ [.lst (setsP (M.lvl (n + 1)))]))) := by
      have a0 : (U ++ [PO.lst (setsP (M.lvl (n + 1)))])[S.length]? = some (.lst (setsP (M.accL n))) := by rw [hU]; exact at_old at_0
      unfold gExtend
      dsimp only
      rw [a0, at_0 (T := [])]
      dsimp only
      rw [if_pos (by rw [sets_len, sets_len]; omega), ← sets_app]
      have e : U ++ [PO.lst (setsP (M.lvl (n + 1)))] = S ++ .lst (setsP (M.accL n)) :: (T ++ [.lst (setsP (M.lvl (n + 1)))]) := by rw [hU]; simp
      rw [e, put_0]
      rfl
    have b : (dSeq (dSet 2 (dComp2 (dSeqI (dVar 2)) (nmOne 4) [4, 5] dYes (dRng1 (dCons (dVar 0) dNil)) (nmOne 5) [5] (dOrT (dCmp gEq (dOpA gLen (dCons (dVar 4) dNil)) (dC (.int 0))) (dCmp gGt (dVar 5) (dOp2 gIx (dVar 4) (dOp1 gNeg (dC (.int 1)))))) (dOp2 gAdd (dVar 4) (dTup (dCons (dVar 5) dNil))))) (dExpr (dMeth "list" gExtend (dVar 1) (dCons (dVar 2) dNil)))) [some (.int 6), some (.loc S.length), some (.loc k), some (.int lo), none, none] U =
        some (.next [some (.int 6), some (.loc S.length), some (.loc U.length), some (.int lo), none, none] (S ++ .lst (setsP (M.accL (n + 1))) :: (T ++ [.lst (setsP (M.lvl (n + 1)))]))) := by
      rw [ev_seq, ev_set, st]
      simp only [ev_bS_ok, ev_bN_next, List.set_cons_succ, List.set_cons_zero, ev_expr, ev_meth, ev_var, List.getElem?_cons_zero, List.getElem?_cons_succ, ev_bR_ok, ty, if_true, ev_cons, ev_nil, ext]
    have b1 : l_sets_of_1 [some (.int 6), some (.loc S.length), some (.loc k), some (.int lo), none, none] U = some (.next [some (.int 6), some (.loc S.length), some (.loc U.length), some (.int lo), none, none] (S ++ .lst (setsP (M.accL (n + 1))) :: (T ++ [.lst (setsP (M.lvl (n + 1)))]))) := by
      rcases body_twoK (kill := [3]) b with e | ⟨bd, _⟩
      · exact e
      · have : D.bd U.length (.loc U.length) := bdE_at (i := 2) bd rfl
        have : U.length < U.length := this
        omega
    have hk2 : (S ++ PO.lst (setsP (M.accL (n + 1))) :: (T ++ [.lst (setsP (M.lvl (n + 1)))]))[U.length]? = some (.lst (setsP (M.lvl (n + 1)))) := by
      rw [ul, List.getElem?_append_right (by omega)]
      rw [show S.length + 1 + T.length - S.length = T.length + 1 from by omega, List.getElem?_cons_succ]
      exact at_0 (T := [])
    obtain ⟨T2, k2, ih⟩ := so_loop m (n + 1) (lo + 1) (T ++ [.lst (setsP (M.lvl (n + 1)))]) U.length (by omega) hk2
    refine ⟨T2, k2, ?_⟩
    have rg : rangeP lo (m + 1) = .int lo :: rangeP (lo + 1) m := by
      unfold rangeP
      rw [List.range_succ_eq_map, List.map_cons, List.map_map]
      congr 1
      · simp
      · refine List.map_congr_left fun i _ => ?_
        show PV.int (lo + ((i + 1 : Nat) : Int)) = PV.int (lo + 1 + (i : Int))
        congr 1
        omega
    rw [rg, forL_cons (by simp), ← hU]
    simp only [ev_gN, List.set_cons_succ, List.set_cons_zero, b1, ev_killC, ev_killN, ih]
theorem sets_of_ok {S : Sto} : F_sets_of [.int 6] S = some (.ok (.loc S.length) (S ++ [.lst (setsP M.U)])) := by
  obtain ⟨T, k, lp⟩ := so_loop (S := S) 6 0 0 [.lst [.tup []]] (S.length + 1) rfl at_1
  have lp : forL (gN 3) [3] l_sets_of_1 [] (rangeP 0 6) [some (.int 6), some (.loc S.length), some (.loc (S.length + 1)), none, none, none] (S ++ [.lst [.tup []], .lst [.tup []]]) = _ := lp
  refine call_new (j := S.length) (T := .lst (setsP M.U) :: T) (l := setsP M.U) ?_ at_0 (Nat.le_refl _) (nls_sets _)
  simp [b_sets_of, b_sets_of_t0, b_sets_of_t1, b_sets_of_t2, b_sets_of_t3, lp]
theorem ls_loop {S : Sto} : ∀ (m n : Nat) (T : Sto) (k : Nat), n + m = 6 → (S ++ T)[k]? = some (.lst (setsP (M.lawV n))) → S.length ≤ k → ∃ T' k', S.length ≤ k' ∧ (S ++ T')[k']? = some (.lst (setsP M.V)) ∧ forL (gN 2) [2] l__law_sets_1 [] (rangeP (n : Int) m) [some (.int 6), some (.loc k), none, none] (S ++ T) =
    some (.next [some (.int 6), some (.loc k'), none, none] (S ++ T'))
  | 0, n, T, k, h, hk, le => by
    have : n = 6 := by omega
    subst this
    exact ⟨T, k, le, hk, by show forL _ _ _ _ [] _ _ = _; rw [forL_nil (by simp)]⟩
  | m + 1, n, T, k, h, hk, le => by
    obtain ⟨U, hU⟩ : ∃ U, U = S ++ T := ⟨_, rfl⟩
    rw [← hU] at hk
    have lens := lv_len n (by omega)
    have lk := lt_of_get hk
    have cm := ev_compF (f := nmOne 3) (own := [3]) (tt := dYes) (elt := dOp2 gAdd (dVar 3) (dTup (dCons (dVar 2) dNil))) (ρ := [some (.int 6), some (.loc k), some (.int (n : Int)), none]) (S := U) (S1 := U) (it := dSeqI (dVar 1)) (keep := [(k, .lst (setsP (M.lawV n)))]) (items := M.lawV n) tupI (fun _ => true) (fun c => tupI (c ++ [(n : Int)])) (by
      simp only [ev_seqI, ev_var, List.getElem?_cons_zero, List.getElem?_cons_succ, ev_bR_ok, hk]
      rfl) ((kept_one _ _).mpr hk) (fun c hc acc => ⟨[3], [tupI c], rfl, rfl, fun _ => by
        have sn := snoc_set (S := U ++ [.lst acc]) (c := c) (k := (n : Int)) (by have := (lv_short n (by omega)).2 c hc; omega)
        simp [setsE, sn]⟩) (by omega)
    have em : ((M.lawV n).filter fun _ => true).map (fun c => tupI (c ++ [(n : Int)])) = setsP ((M.lawV n).map fun c => c ++ [(n : Int)]) := by
      rw [List.filter_eq_self.mpr fun _ _ => rfl]
      unfold setsP
      rw [List.map_map]
      rfl
    rw [em] at cm
    have ad : gAdd (.loc k) (.loc U.length) (U ++ [.lst (setsP ((M.lawV n).map fun c => c ++ [(n : Int)]))]) = some (.ok (.loc (U.length + 1)) (U ++ [.lst (setsP ((M.lawV n).map fun c => c ++ [(n : Int)])), .lst (setsP (M.lawV (n + 1)))])) := by
      rw [ev_addL (l := setsP (M.lawV n)) (r := setsP ((M.lawV n).map fun c => c ++ [(n : Int)])) (at_old hk) at_0 (by rw [sets_len, sets_len, List.length_map]; omega), ← sets_app]
      simp [M.lawV]
    have b : (dSet 1 (dOp2 gAdd (dVar 1) (dComp (dSeqI (dVar 1)) (nmOne 3) [3] dYes (dOp2 gAdd (dVar 3) (dTup (dCons (dVar 2) dNil)))))) [some (.int 6), some (.loc k), some (.int (n : Int)), none] U = some (.next [some (.int 6), some (.loc (U.length + 1)), some (.int (n : Int)), none] (U ++ [.lst (setsP ((M.lawV n).map fun c => c ++ [(n : Int)])), .lst (setsP (M.lawV (n + 1)))])) := by
      rw [ev_set, ev_op2, ev_var]
      simp only [List.getElem?_cons_zero, List.getElem?_cons_succ, ev_bR_ok, cm, ad, ev_bS_ok, List.set_cons_succ, List.set_cons_zero]
    have b1 : l__law_sets_1 [some (.int 6), some (.loc k), some (.int (n : Int)), none] U = some (.next [some (.int 6), some (.loc (U.length + 1)), some (.int (n : Int)), none] (U ++ [.lst (setsP ((M.lawV n).map fun c => c ++ [(n : Int)])), .lst (setsP (M.lawV (n + 1)))])) := by
      rcases body_twoK (kill := [2]) b with e | ⟨bd, _⟩
      · exact e
      · have : D.bd U.length (.loc (U.length + 1)) := bdE_at (i := 1) bd rfl
        have : U.length + 1 < U.length := this
        omega
    have e2 : U ++ [PO.lst (setsP ((M.lawV n).map fun c => c ++ [(n : Int)])), .lst (setsP (M.lawV (n + 1)))] = S ++ (T ++ [PO.lst (setsP ((M.lawV n).map fun c => c ++ [(n : Int)])), .lst (setsP (M.lawV (n + 1)))]) := by rw [hU, List.append_assoc]
    have hl : S.length ≤ U.length := by rw [hU]; simp
    obtain ⟨T2, k2, g1, g2, ih⟩ := ls_loop m (n + 1) (T ++ [PO.lst (setsP ((M.lawV n).map fun c => c ++ [(n : Int)])), .lst (setsP (M.lawV (n + 1)))]) (U.length + 1) (by omega) (by rw [← e2]; exact at_1) (by omega)
    rw [← e2] at ih
    refine ⟨T2, k2, g1, g2, ?_⟩
    have rg : rangeP (n : Int) (m + 1) = .int (n : Int) :: rangeP ((n + 1 : Nat) : Int) m := by
      unfold rangeP
      rw [List.range_succ_eq_map, List.map_cons, List.map_map]
      congr 1
      refine List.map_congr_left fun i _ => ?_
      show PV.int ((n : Int) + ((i + 1 : Nat) : Int)) = PV.int (((n + 1 : Nat) : Int) + (i : Int))
      congr 1
      omega
    rw [rg, forL_cons (by simp), ← hU]
    simp only [ev_gN, List.set_cons_succ, List.set_cons_zero, b1, ev_killC, ev_killN, ih]
theorem law_sets_ok {S : Sto} : F__law_sets [.int 6] S = some (.ok (.loc S.length) (S ++ [.lst (setsP M.V)])) := by
  obtain ⟨T, k, h1, h2, lp⟩ := ls_loop (S := S) 6 0 [.lst [.tup []]] S.length rfl at_0 (Nat.le_refl _)
  have lp : forL (gN 2) [2] l__law_sets_1 [] (rangeP 0 6) [some (.int 6), some (.loc S.length), none, none] (S ++ [.lst [.tup []]]) = _ := lp
  refine call_new (j := k) (T := T) (l := setsP M.V) ?_ h2 h1 (nls_sets _)
  simp [b__law_sets, b__law_sets_t0, b__law_sets_t1, b__law_sets_t2, lp]
/-! ## sets that meet sets -/
theorem short_U : ∀ c ∈ M.U, c.length ≤ 6 := by decide +kernel
theorem ms_body {S T : Sto} {F found : List M.Se} {c : M.Se} (hf : ∀ o ∈ found, o ∈ M.U) (hz : found.length ≤ 64) (hF : ∀ o ∈ F, o.length ≤ 6) (hFz : F.length ≤ 1000) :
    ∃ T' v2, (l_meeting_sets_1 [some (.tup (setsP F)), some (.loc S.length), some (tupI c), none, none] (S ++ .lst (setsP found) :: .lst (setsP M.U) :: T) = some (.next [some (.tup (setsP F)), some (.loc S.length), v2, none, none] (S ++ .lst (setsP (if found.any (fun o => M.part o c) then found else if M.meets c F then found ++ [c] else found)) :: .lst (setsP M.U) :: T')) ∨
      l_meeting_sets_1 [some (.tup (setsP F)), some (.loc S.length), some (tupI c), none, none] (S ++ .lst (setsP found) :: .lst (setsP M.U) :: T) = some (.ctn [some (.tup (setsP F)), some (.loc S.length), v2, none, none] (S ++ .lst (setsP (if found.any (fun o => M.part o c) then found else if M.meets c F then found ++ [c] else found)) :: .lst (setsP M.U) :: T'))) := by
  obtain ⟨U, hU⟩ : ∃ U, U = S ++ PO.lst (setsP found) :: .lst (setsP M.U) :: T := ⟨_, rfl⟩
  have u0 : U[S.length]? = some (.lst (setsP found)) := by rw [hU]; exact at_0
  have an := (any_compK (f := nmOne 3) (own := [3]) (elt := dOpA F_is_part (dCons (dVar 3) (dCons (dVar 2) dNil))) (ρ := [some (.tup (setsP F)), some (.loc S.length), some (tupI c), none, none]) (S := U) (it := dSeqI (dVar 1)) (keep := [(S.length, .lst (setsP found))]) (items := found) tupI (fun o => M.part o c) (by
    simp only [ev_seqI, ev_var, List.getElem?_cons_zero, List.getElem?_cons_succ, ev_bR_ok, u0]
    rfl) ((kept_one _ _).mpr u0) (fun o ho acc => ⟨[3], [tupI o], rfl, by
      have ip := is_part_ok (S := U ++ [.lst acc]) (a := o) (b := c) (by have := short_U o (hf o ho); omega)
      simp only [setsE, ev_killC, ev_killN, List.set_cons_succ, List.set_cons_zero, ev_opA, ev_cons, ev_var, List.getElem?_cons_zero, List.getElem?_cons_succ, ev_bR_ok, ev_nil, ip]⟩) (by omega)).1
  obtain ⟨bs, hbs⟩ : ∃ bs, bs = PO.lst ((found.map fun o => M.part o c).map PV.bl) := ⟨_, rfl⟩
  rw [← hbs] at an
  obtain ⟨W, hW⟩ : ∃ W, W = U ++ [bs] := ⟨_, rfl⟩
  rw [← hW] at an
  have w0 : W[S.length]? = some (.lst (setsP found)) := by rw [hW]; exact at_old u0
  have al := (any_compK (f := nmOne 3) (own := [3]) (elt := dGc (dOpA gAnyL (dCons (dComp (dSeqI (dVar 3)) (nmOne 4) [4] dYes (dOp2 gIn (dVar 4) (dVar 2))) dNil))) (ρ := [some (.tup (setsP F)), some (.loc S.length), some (tupI c), none, none]) (S := W) (it := dSeqI (dVar 0)) (keep := []) (items := F) tupI (fun o => o.any fun k => decide (k ∈ c)) (by
    simp [setsP]) (by simp) (fun o ho acc => ⟨[3], [tupI o], rfl, by
      have an2 := (any_compK (f := nmOne 4) (own := [4]) (elt := dOp2 gIn (dVar 4) (dVar 2)) (ρ := [some (.tup (setsP F)), some (.loc S.length), some (tupI c), some (tupI o), none]) (S := W ++ [.lst acc]) (it := dSeqI (dVar 3)) (keep := []) (items := o) PV.int (fun k => decide (k ∈ c)) (by simp [tupI]; rfl) (by simp) (fun k _ acc2 => ⟨[4], [.int k], rfl, by
        simp only [setsE, ev_killC, ev_killN, List.set_cons_succ, List.set_cons_zero, ev_op2, ev_var, List.getElem?_cons_zero, List.getElem?_cons_succ, ev_bR_ok, in_set]⟩) (by have := hF o ho; omega)).1
      simp only [setsE, ev_killC, ev_killN, List.set_cons_succ, List.set_cons_zero, ev_gc]
      rw [an2, Option.map_some, gc_ok_val rfl]⟩) (by omega)).2
  have em : (F.all fun o => o.any fun k => decide (k ∈ c)) = M.meets c F := rfl
  rw [em] at al
  obtain ⟨cs, hcs⟩ : ∃ cs, cs = PO.lst ((F.map fun o => o.any fun k => decide (k ∈ c)).map PV.bl) := ⟨_, rfl⟩
  rw [← hcs] at al
  have tk : ∀ (g : List M.Se) (T2 : Sto), (S ++ PO.lst (setsP g) :: .lst (setsP M.U) :: (T ++ T2)).take U.length = S ++ PO.lst (setsP g) :: .lst (setsP M.U) :: T := fun g T2 => by
    rw [show S ++ PO.lst (setsP g) :: .lst (setsP M.U) :: (T ++ T2) = (S ++ PO.lst (setsP g) :: .lst (setsP M.U) :: T) ++ T2 from by simp, hU, List.take_append_of_le_length (by simp)]
    exact List.take_of_length_le (by simp)
  cases h1 : found.any (fun o => M.part o c) with
  | true =>
    rw [h1] at an
    have b : (dSeq (dIfS (dTru (dOpA gAnyL (dCons (dComp (dSeqI (dVar 1)) (nmOne 3) [3] dYes (dOpA F_is_part (dCons (dVar 3) (dCons (dVar 2) dNil)))) dNil))) dCtn dPass) (dIfS (dTru (dOpA gAllL (dCons (dComp (dSeqI (dVar 0)) (nmOne 3) [3] dYes (dGc (dOpA gAnyL (dCons (dComp (dSeqI (dVar 3)) (nmOne 4) [4] dYes (dOp2 gIn (dVar 4) (dVar 2))) dNil)))) dNil))) (dExpr (dMeth "list" gAppend (dVar 1) (dCons (dVar 2) dNil))) dPass)) [some (.tup (setsP F)), some (.loc S.length), some (tupI c), none, none] U = some (.ctn [some (.tup (setsP F)), some (.loc S.length), some (tupI c), none, none] W) := by
      rw [ev_seq, ev_ifS, ev_tru, an]
      simp only [ev_bR_ok, ev_gTru_bl, ev_bS_ok, if_true, ev_ctn]
      rfl
    have eW : W = S ++ PO.lst (setsP found) :: .lst (setsP M.U) :: (T ++ [bs]) := by rw [hW, hU]; simp
    rw [if_pos rfl]
    rcases body_ctnK (kill := [2]) b with e | e
    · exact ⟨T ++ [bs], _, .inr (by rw [← hU, ← eW]; exact e)⟩
    · refine ⟨T, none, .inr ?_⟩
      rw [eW, tk, ← hU] at e
      rw [← hU]
      exact e
  | false =>
    rw [h1] at an
    rw [if_neg Bool.false_ne_true]
    have ty : tyP "list" (.loc S.length) (W ++ [cs]) = true := ev_tyL (at_old w0)
    have ap : gAppend (.loc S.length) [tupI c] (W ++ [cs]) = some (.ok .non (S ++ PO.lst (setsP (found ++ [c])) :: .lst (setsP M.U) :: (T ++ [bs, cs]))) := by
      have e : W ++ [cs] = S ++ PO.lst (setsP found) :: .lst (setsP M.U) :: (T ++ [bs, cs]) := by rw [hW, hU]; simp
      rw [e, ev_append at_0 (by rw [sets_len]; omega), put_0, sets_app]
      rfl
    have b : ∃ T2, (dSeq (dIfS (dTru (dOpA gAnyL (dCons (dComp (dSeqI (dVar 1)) (nmOne 3) [3] dYes (dOpA F_is_part (dCons (dVar 3) (dCons (dVar 2) dNil)))) dNil))) dCtn dPass) (dIfS (dTru (dOpA gAllL (dCons (dComp (dSeqI (dVar 0)) (nmOne 3) [3] dYes (dGc (dOpA gAnyL (dCons (dComp (dSeqI (dVar 3)) (nmOne 4) [4] dYes (dOp2 gIn (dVar 4) (dVar 2))) dNil)))) dNil))) (dExpr (dMeth "list" gAppend (dVar 1) (dCons (dVar 2) dNil))) dPass)) [some (.tup (setsP F)), some (.loc S.length), some (tupI c), none, none] U = some (.next [some (.tup (setsP F)), some (.loc S.length), some (tupI c), none, none] (S ++ PO.lst (setsP (if M.meets c F then found ++ [c] else found)) :: .lst (setsP M.U) :: (T ++ T2))) := by
      cases h2 : M.meets c F with
      | true =>
        rw [h2] at al
        refine ⟨[bs, cs], ?_⟩
        rw [ev_seq, ev_ifS, ev_tru, an]
        simp only [ev_bR_ok, ev_gTru_bl, ev_bS_ok, Bool.false_eq_true, if_false, ev_pass, ev_bN_next]
        rw [ev_ifS, ev_tru, al]
        simp only [ev_bR_ok, ev_gTru_bl, ev_bS_ok, if_true, ev_expr, ev_meth, ev_var, List.getElem?_cons_zero, List.getElem?_cons_succ, ty, ev_cons, ev_nil, ap]
      | false =>
        rw [h2] at al
        refine ⟨[bs, cs], ?_⟩
        rw [ev_seq, ev_ifS, ev_tru, an]
        simp only [ev_bR_ok, ev_gTru_bl, ev_bS_ok, Bool.false_eq_true, if_false, ev_pass, ev_bN_next]
        rw [ev_ifS, ev_tru, al]
        simp only [ev_bR_ok, ev_gTru_bl, ev_bS_ok, Bool.false_eq_true, if_false, ev_pass]
        have e : W ++ [cs] = S ++ PO.lst (setsP found) :: .lst (setsP M.U) :: (T ++ [bs, cs]) := by rw [hW, hU]; simp
        rw [e]
    obtain ⟨T2, b⟩ := b
    rcases body_twoK (kill := [2]) b with e | ⟨_, e⟩
    · exact ⟨T ++ T2, _, .inl (by rw [← hU]; exact e)⟩
    · refine ⟨T, none, .inl ?_⟩
      rw [tk] at e
      rw [← hU]
      exact e
theorem ms_loop {S : Sto} {F : List M.Se} (hF : ∀ o ∈ F, o.length ≤ 6) (hFz : F.length ≤ 1000) : ∀ (cs found : List M.Se) (T : Sto), (∀ o ∈ found, o ∈ M.U) → (∀ o ∈ cs, o ∈ M.U) → found.length + cs.length ≤ 64 → ∃ T',
    forL (gN 2) [2] l_meeting_sets_1 [(S.length + 1, .lst (setsP M.U))] (setsP cs) [some (.tup (setsP F)), some (.loc S.length), none, none, none] (S ++ .lst (setsP found) :: .lst (setsP M.U) :: T) =
      some (.next [some (.tup (setsP F)), some (.loc S.length), none, none, none] (S ++ .lst (setsP (M.greedy (fun c => M.meets c F) found cs)) :: .lst (setsP M.U) :: T'))
  | [], found, T, _, _, _ => ⟨T, by show forL _ _ _ _ [] _ _ = _; rw [forL_nil ((kept_one _ _).mpr at_1)]; rfl⟩
  | c :: cs, found, T, hf, hc, hz => by
    rw [List.length_cons] at hz
    obtain ⟨T1, v2, e⟩ := ms_body (S := S) (T := T) (F := F) (found := found) (c := c) hf (by omega) hF hFz
    obtain ⟨found', hf'⟩ : ∃ found', found' = if found.any (fun o => M.part o c) then found else if M.meets c F then found ++ [c] else found := ⟨_, rfl⟩
    rw [← hf'] at e
    have hfc : (∀ o ∈ found', o ∈ M.U) ∧ found'.length ≤ found.length + 1 := by
      rw [hf']
      split
      · exact ⟨hf, by omega⟩
      · split
        · refine ⟨fun o ho => ?_, by simp⟩
          rcases List.mem_append.mp ho with h | h
          · exact hf o h
          · rw [List.mem_singleton] at h
            rw [h]
            exact hc c List.mem_cons_self
        · exact ⟨hf, by omega⟩
    obtain ⟨T2, ih⟩ := ms_loop hF hFz cs found' T1 hfc.1 (fun o ho => hc o (List.mem_cons_of_mem _ ho)) (by omega)
    refine ⟨T2, ?_⟩
    have eg : M.greedy (fun c => M.meets c F) found (c :: cs) = M.greedy (fun c => M.meets c F) found' cs := by rw [hf']; rfl
    rw [eg, ← ih]
    show forL _ _ _ _ (tupI c :: setsP cs) _ _ = _
    rw [forL_cons ((kept_one _ _).mpr at_1)]
    rcases e with e | e <;> simp only [ev_gN, List.set_cons_succ, List.set_cons_zero, e, ev_killC, ev_killN]
theorem meeting_ok {S : Sto} {F : List M.Se} (hF : ∀ o ∈ F, o.length ≤ 6) (hFz : F.length ≤ 1000) : F_meeting_sets [.tup (setsP F)] S = some (.ok (.tup (setsP (M.U.filter (M.minB fun c => M.meets c F)))) S) := by
  obtain ⟨T, lp⟩ := ms_loop (S := S) hF hFz M.U [] [] (fun o ho => by cases ho) (fun o ho => ho) (by rw [M.U_len]; decide)
  rw [M.greedy_all fun a b h => M.meets_mono h] at lp
  have so := sets_of_ok (S := S ++ [.lst []])
  have e1 : S ++ [PO.lst []] ++ [.lst (setsP M.U)] = S ++ [PO.lst [], .lst (setsP M.U)] := by simp
  have e2 : (S ++ [PO.lst []]).length = S.length + 1 := by simp
  rw [e1, e2] at so
  have lp : forL (gN 2) [2] l_meeting_sets_1 [(S.length + 1, .lst (setsP M.U))] (setsP M.U) [some (.tup (setsP F)), some (.loc S.length), none, none, none] (S ++ [.lst [], .lst (setsP M.U)]) = _ := lp
  obtain ⟨G, hG⟩ : ∃ G, G = setsP (M.U.filter (M.minB fun c => M.meets c F)) := ⟨_, rfl⟩
  rw [← hG] at lp ⊢
  have nG : noLoc (.tup G) = true := by rw [hG]; exact nls_sets _
  have tl := ev_tupleL (S := S ++ .lst G :: .lst (setsP M.U) :: T) (k := S.length) (l := G) at_0
  have a1 : (S ++ [PO.lst [], .lst (setsP M.U)])[S.length + 1]? = some (.lst (setsP M.U)) := at_1
  refine call_val (T := .lst G :: .lst (setsP M.U) :: T) ?_ nG
  show b_meeting_sets [some (.tup (setsP F)), none, none, none, none] S = _
  simp only [b_meeting_sets, b_meeting_sets_t0, b_meeting_sets_t1, b_meeting_sets_t2, ev_seq, ev_set, ev_lst, ev_nil, ev_bR_ok, ev_lst0, ev_bS_ok, ev_bN_next, List.set_cons_succ, List.set_cons_zero, ev_for, ev_seqI, ev_opA, ev_cons, ev_c, so, a1, ev_killC, ev_killN, lp, ev_ret, ev_var, List.getElem?_cons_zero, List.getElem?_cons_succ, tl]
/-! ## least sets of a list -/
abbrev LP := Int × Tp Int
def mkP (c : M.Se) : LP := ((c.length : Int), ⟨c⟩)
def datP (p : LP) : PyData := .tuple [.int p.1, .tuple (p.2.l.map .int)]
theorem alike_i (i j : Int) : PySem.W.alike (.int i) (.int j) = true := by simp [PySem.W.alike]
theorem alikeAll_is : ∀ a b : List Int, PySem.W.alikeAll (a.map .int) (b.map .int) = true
  | [], _ => by simp [PySem.W.alikeAll]
  | _ :: _, [] => by simp [PySem.W.alikeAll]
  | i :: a, j :: b => by
    rw [List.map_cons, List.map_cons]
    unfold PySem.W.alikeAll
    rw [alike_i, alikeAll_is a b]
    rfl
theorem alike_is (a b : List Int) : PySem.W.alike (.tuple (a.map .int)) (.tuple (b.map .int)) = true := by
  unfold PySem.W.alike
  exact alikeAll_is a b
theorem alike_LP (l : List LP) : alikeB (l.map datP) = true := by
  unfold alikeB
  rw [List.all_eq_true]
  intro x hx
  rw [List.all_eq_true]
  intro y hy
  obtain ⟨p, _, rfl⟩ := List.mem_map.mp hx
  obtain ⟨q, _, rfl⟩ := List.mem_map.mp hy
  unfold datP PySem.W.alike
  unfold PySem.W.alikeAll
  rw [alike_i]
  unfold PySem.W.alikeAll
  rw [alike_is]
  rfl
theorem sortable_LP (l : List LP) : sortableB (l.map datP) = true := by
  unfold sortableB
  rw [Bool.or_eq_true]
  refine .inl ?_
  rw [List.all_eq_true]
  intro x hx
  obtain ⟨p, _, rfl⟩ := List.mem_map.mp hx
  rfl
def sortLP (l : List LP) : List LP := l.mergeSort (PySem.W.dataLe false datP)
def ltP (p q : LP) : Prop := p.1 < q.1 ∨ (p.1 = q.1 ∧ p.2.l < q.2.l)
theorem eqv_is (a b : List Int) : PyData.eqv (.tuple (a.map .int)) (.tuple (b.map .int)) = true ↔ a = b := by
  have := Dat.eqv (⟨a⟩ : Tp Int) ⟨b⟩
  refine this.trans ⟨fun h => by cases h; rfl, fun h => by rw [h]⟩
theorem dataLt_LP (p q : LP) : PySem.W.dataLt (datP p) (datP q) = true ↔ ltP p q := by
  obtain ⟨i, ⟨a⟩⟩ := p
  obtain ⟨j, ⟨b⟩⟩ := q
  unfold datP ltP
  rw [PySem.W.dataLt_pair (alike_i i j) (alike_is a b)]
  dsimp only
  by_cases h : i = j
  · subst h
    rw [if_pos (by simp)]
    have dl : PySem.W.dataLt (.tuple (a.map .int)) (.tuple (b.map .int)) = decide (a < b) := by
      rw [PySem.W.dataLt_tuple]
      exact PySem.W.dataLt_ints a b
    by_cases e : a = b
    · subst e
      rw [if_pos ((eqv_is a a).mpr rfl)]
      have : ¬ a < a := List.lt_irrefl a
      simp [this]
    · rw [if_neg fun z => e ((eqv_is a b).mp z), dl]
      simp
  · rw [if_neg (by simpa using h), PySem.W.dataLt_int]
    simp [h]
theorem leP_iff (p q : LP) : PySem.W.dataLe false datP p q = true ↔ ¬ ltP q p := by
  rw [PySem.W.dataLe_eq]
  show (!PySem.W.dataLt (datP q) (datP p)) = true ↔ _
  rw [← dataLt_LP, Bool.not_eq_true', Bool.not_eq_true]
theorem ltP_trans {a b c : LP} (h1 : ¬ ltP b a) (h2 : ¬ ltP c b) : ¬ ltP c a := by
  unfold ltP at *
  rintro (h | ⟨h, k⟩)
  · exact h1 (.inl (by
      have : ¬ c.1 < b.1 := fun z => h2 (.inl z)
      omega))
  · have n1 : ¬ b.1 < a.1 := fun z => h1 (.inl z)
    have n2 : ¬ c.1 < b.1 := fun z => h2 (.inl z)
    have e1 : b.1 = a.1 := by omega
    have e2 : c.1 = b.1 := by omega
    have m1 : ¬ b.2.l < a.2.l := fun z => h1 (.inr ⟨e1, z⟩)
    have m2 : ¬ c.2.l < b.2.l := fun z => h2 (.inr ⟨e2, z⟩)
    exact List.not_lt.mpr (List.le_trans (List.not_lt.mp m1) (List.not_lt.mp m2)) k
theorem ltP_total (a b : LP) : ¬ ltP b a ∨ ¬ ltP a b := by
  unfold ltP
  by_cases h : ltP b a
  · refine .inr ?_
    rintro (k | ⟨k, k2⟩) <;> rcases h with h | ⟨h, h2⟩
    · omega
    · omega
    · omega
    · exact List.not_lt.mpr (List.not_lt.mp fun z => List.lt_irrefl _ (List.lt_trans k2 z)) h2
  · exact .inl h
theorem ltP_anti {a b : LP} (h1 : ¬ ltP b a) (h2 : ¬ ltP a b) : a = b := by
  unfold ltP at *
  have n1 : ¬ b.1 < a.1 := fun z => h1 (.inl z)
  have n2 : ¬ a.1 < b.1 := fun z => h2 (.inl z)
  have e1 : a.1 = b.1 := by omega
  have m1 : ¬ b.2.l < a.2.l := fun z => h1 (.inr ⟨e1.symm, z⟩)
  have m2 : ¬ a.2.l < b.2.l := fun z => h2 (.inr ⟨e1, z⟩)
  have e2 : a.2.l = b.2.l := List.le_antisymm (List.not_lt.mp m1) (List.not_lt.mp m2)
  obtain ⟨i, ⟨x⟩⟩ := a
  obtain ⟨j, ⟨y⟩⟩ := b
  dsimp only at e1 e2
  rw [e1, e2]
theorem sort_uniq {l r : List LP} (hp : l.Perm r) (hr : r.Pairwise ltP) : sortLP l = r := by
  have h1 := List.pairwise_mergeSort (le := PySem.W.dataLe false datP) (fun a b c h1 h2 => by
    rw [leP_iff] at *
    exact ltP_trans h1 h2) (fun a b => by
    rw [Bool.or_eq_true, leP_iff, leP_iff]
    exact ltP_total a b) l
  have h2 : r.Pairwise fun a b => PySem.W.dataLe false datP a b = true := hr.imp fun {a b} h => by
    rw [leP_iff]
    rcases ltP_total a b with z | z
    · exact z
    · exact absurd h z
  exact ((List.mergeSort_perm l _).trans hp).eq_of_pairwise (fun a b _ _ k1 k2 => ltP_anti ((leP_iff a b).mp k1) ((leP_iff b a).mp k2)) h1 h2
def goodL (L : List M.Se) (c : M.Se) : Bool := L.all fun o => decide (o = c) || !M.part o c
def foundL (L : List M.Se) : List LP → List M.Se → List LP
  | acc, [] => acc
  | acc, c :: cs => foundL L (if (!decide (mkP c ∈ acc) && goodL L c) = true then acc ++ [mkP c] else acc) cs
theorem mkP_inj {a b : M.Se} (h : mkP a = mkP b) : a = b := by
  have := congrArg (fun p : LP => p.2.l) h
  exact this
theorem found_fact {L : List M.Se} : ∀ (cs : List M.Se) (acc : List LP), acc.Nodup → (foundL L acc cs).Nodup ∧ ∀ p, p ∈ foundL L acc cs ↔ p ∈ acc ∨ ∃ c ∈ cs, p = mkP c ∧ goodL L c = true
  | [], acc, h => ⟨h, fun p => by simp [foundL]⟩
  | c :: cs, acc, h => by
    unfold foundL
    by_cases g : (!decide (mkP c ∈ acc) && goodL L c) = true
    · rw [if_pos g]
      rw [Bool.and_eq_true, Bool.not_eq_true', decide_eq_false_iff_not] at g
      have nd : (acc ++ [mkP c]).Nodup := List.nodup_append.mpr ⟨h, by simp, fun a ha b hb => by
        rw [List.mem_singleton] at hb
        rw [hb]
        exact fun z => g.1 (z ▸ ha)⟩
      obtain ⟨i1, i2⟩ := found_fact cs _ nd
      refine ⟨i1, fun p => ?_⟩
      rw [i2, List.mem_append, List.mem_singleton]
      constructor
      · rintro ((k | k) | ⟨d, k1, k2⟩)
        · exact .inl k
        · exact .inr ⟨c, List.mem_cons_self, k, g.2⟩
        · exact .inr ⟨d, List.mem_cons_of_mem _ k1, k2⟩
      · rintro (k | ⟨d, k1, k2, k3⟩)
        · exact .inl (.inl k)
        · rcases List.mem_cons.mp k1 with e | e
          · exact .inl (.inr (by rw [k2, e]))
          · exact .inr ⟨d, e, k2, k3⟩
    · rw [if_neg g]
      obtain ⟨i1, i2⟩ := found_fact cs acc h
      refine ⟨i1, fun p => ?_⟩
      rw [i2]
      constructor
      · rintro (k | ⟨d, k1, k2⟩)
        · exact .inl k
        · exact .inr ⟨d, List.mem_cons_of_mem _ k1, k2⟩
      · rintro (k | ⟨d, k1, k2, k3⟩)
        · exact .inl k
        · rcases List.mem_cons.mp k1 with e | e
          · subst e
            refine .inl (Classical.byContradiction fun z => g ?_)
            rw [Bool.and_eq_true, Bool.not_eq_true', decide_eq_false_iff_not]
            exact ⟨fun y => z (k2 ▸ y), k3⟩
          · exact .inr ⟨d, e, k2, k3⟩
theorem good_least {L : List M.Se} {c : M.Se} : (c ∈ L ∧ goodL L c = true) ↔ M.leastB L c = true := by
  rw [M.leastB_iff]
  unfold goodL
  rw [List.all_eq_true]
  refine and_congr Iff.rfl ⟨fun h o ho k => ?_, fun h o ho => ?_⟩
  · have := h o ho
    rw [k] at this
    simpa using this
  · cases k : M.part o c with
    | false => simp
    | true => simp [h o ho k]
theorem least_plain {L : List M.Se} (hL : ∀ c ∈ L, c ∈ M.U) : (sortLP (foundL L [] L)).map (fun p => p.2.l) = M.U.filter (M.leastB L) := by
  have f := found_fact (L := L) L [] List.nodup_nil
  have s : sortLP (foundL L [] L) = (M.U.filter (M.leastB L)).map mkP := by
    refine sort_uniq ?_ ?_
    · refine (List.perm_ext_iff_of_nodup f.1 ?_).mpr fun p => ?_
      · exact List.pairwise_map.mpr ((List.Pairwise.filter _ M.U_nodup).imp fun h z => h (mkP_inj z))
      · rw [f.2, List.mem_map]
        constructor
        · rintro (k | ⟨c, k1, k2, k3⟩)
          · cases k
          · exact ⟨c, List.mem_filter.mpr ⟨hL c k1, good_least.mp ⟨k1, k3⟩⟩, k2.symm⟩
        · rintro ⟨c, k1, k2⟩
          obtain ⟨k3, k4⟩ := good_least.mpr (List.mem_filter.mp k1).2
          exact .inr ⟨c, k3, k2.symm, k4⟩
    · rw [List.pairwise_map]
      refine (M.U_sort.filter _).imp fun {a b} h => ?_
      show ((a.length : Int) < (b.length : Int)) ∨ ((a.length : Int) = (b.length : Int) ∧ a < b)
      rcases h with h | ⟨h1, h2⟩
      · exact .inl (by omega)
      · exact .inr ⟨by omega, h2⟩
  rw [s, List.map_map]
  have : ((fun p : LP => p.2.l) ∘ mkP) = id := rfl
  rw [this, List.map_id]
theorem ne_set {S : Sto} {a b : M.Se} : gNe (tupI a) (tupI b) S = some (.ok (.bl (!decide (a = b))) S) := by
  have h := eq_dat (S := S) (neg := true) (⟨a⟩ : Tp Int) ⟨b⟩
  have e : decide ((⟨a⟩ : Tp Int) = ⟨b⟩) = decide (a = b) := by
    rw [decide_eq_decide]
    exact ⟨fun h => by cases h; rfl, fun h => by rw [h]⟩
  rw [e] at h
  exact h
theorem ll_in {S : Sto} {k f : Nat} {c : M.Se} {L : List M.Se} (hk : S[k]? = some (.lst (setsP L))) : ∀ (M1 : List M.Se) (g : Bool), forL (gN 4) [4] l__law_least_1 [(k, .lst (setsP L))] (setsP M1) [some (.loc k), some (.loc f), some (tupI c), some (.bl g), none, none] S =
    some (.next [some (.loc k), some (.loc f), some (tupI c), some (.bl (g && goodL M1 c)), none, none] S)
  | [], g => by show forL _ _ _ _ [] _ _ = _; rw [forL_nil ((kept_one _ _).mpr hk)]; simp [goodL]
  | o :: M1, g => by
    have e : goodL (o :: M1) c = ((decide (o = c) || !M.part o c) && goodL M1 c) := rfl
    show forL _ _ _ _ (tupI o :: setsP M1) _ _ = _
    rw [forL_cons ((kept_one _ _).mpr hk), e]
    by_cases h : o = c
    · subst h
      have ih := ll_in (c := o) (f := f) hk M1 g
      simp [l__law_least_1, ne_set] at ih ⊢
      exact ih
    · have lp := lpart_ok (S := S) (a := o) (b := c)
      cases hp : M.part o c with
      | true =>
        rw [hp] at lp
        have ih := ll_in (c := c) (f := f) hk M1 false
        simp [l__law_least_1, ne_set, h, lp] at ih ⊢
        exact ih
      | false =>
        rw [hp] at lp
        have ih := ll_in (c := c) (f := f) hk M1 g
        simp [l__law_least_1, ne_set, h, lp] at ih ⊢
        exact ih
theorem ll_loop {S : Sto} {k : Nat} {L : List M.Se} (hk : S[k]? = some (.lst (setsP L))) : ∀ (cs : List M.Se) (found : List LP), found.length + cs.length ≤ 1000 → forL (gN 2) [2, 3, 4] l__law_least_2 [(k, .lst (setsP L))] (setsP cs) [some (.loc k), some (.loc S.length), none, none, none, none] (S ++ [.lst (found.map enc)]) =
    some (.next [some (.loc k), some (.loc S.length), none, none, none, none] (S ++ [.lst ((foundL L found cs).map enc)]))
  | [], found, _ => by show forL _ _ _ _ [] _ _ = _; rw [forL_nil ((kept_one _ _).mpr (at_old hk))]; rfl
  | c :: cs, found, hz => by
    rw [List.length_cons] at hz
    obtain ⟨U, hU⟩ : ∃ U, U = S ++ [PO.lst (found.map enc)] := ⟨_, rfl⟩
    have uk : U[k]? = some (.lst (setsP L)) := by rw [hU]; exact at_old hk
    have u0 : U[S.length]? = some (.lst (found.map enc)) := by rw [hU]; exact at_0
    have ni := in_lstK (S := U) (neg := true) (k := S.length) (l := found) (x := mkP c) u0
    simp only [if_true] at ni
    have same : ∀ (i j : Decidable (mkP c ∈ found)), (!@decide _ i) = (!@decide _ j) := fun i j => by congr
    have ni : gNotIn (.tup [.int (c.length : Int), tupI c]) (.loc S.length) U = some (.ok (.bl (!decide (mkP c ∈ found))) U) := Eq.trans ni (congrArg (fun b => some (R.ok (PV.bl b) U)) (same _ _))
    have li := ll_in (f := S.length) (c := c) uk L (!decide (mkP c ∈ found))
    have ln : gLen [tupI c] U = some (.ok (.int (c.length : Int)) U) := by unfold tupI; rw [ev_lenT, intsP_len]
    have ty : tyP "list" (.loc S.length) U = true := ev_tyL u0
    have ap : gAppend (.loc S.length) [.tup [.int (c.length : Int), tupI c]] U = some (.ok .non (S ++ [.lst ((found ++ [mkP c]).map enc)])) := by
      rw [hU, ev_append at_0 (by rw [List.length_map]; omega), put_0, List.map_append]
      rfl
    obtain ⟨found', hf⟩ : ∃ found', found' = if (!decide (mkP c ∈ found) && goodL L c) = true then found ++ [mkP c] else found := ⟨_, rfl⟩
    have ih := ll_loop hk cs found' (by
      rw [hf]
      split
      · rw [List.length_append, List.length_singleton]; omega
      · omega)
    have eg : foundL L found (c :: cs) = foundL L found' cs := by rw [hf]; rfl
    rw [eg, ← ih]
    show forL _ _ _ _ (tupI c :: setsP cs) _ _ = _
    rw [forL_cons ((kept_one _ _).mpr (at_old hk)), ← hU]
    have b : ∃ v2 v3, l__law_least_2 [some (.loc k), some (.loc S.length), some (tupI c), none, none, none] U = some (.next [some (.loc k), some (.loc S.length), v2, v3, none, none] (S ++ [.lst (found'.map enc)])) := by
      cases g : (!decide (mkP c ∈ found) && goodL L c) with
      | true =>
        rw [g] at li
        rw [g, if_pos rfl] at hf
        rw [hf]
        refine ⟨some (tupI c), some (.bl true), ?_⟩
        simp only [l__law_least_2, ev_seq, ev_set, ev_op2, ev_tup, ev_cons, ev_opA, ev_var, List.getElem?_cons_zero, List.getElem?_cons_succ, ev_bR_ok, ev_nil, ln, ev_tup2, ni, ev_bS_ok, ev_bN_next, List.set_cons_succ, List.set_cons_zero, ev_for, ev_seqI, uk, ev_killC, ev_killN, li, ev_ifS, ev_tru, ev_gTru_bl, if_true, ev_expr, ev_meth, ty, ap]
      | false =>
        rw [g] at li
        rw [g, if_neg Bool.false_ne_true] at hf
        rw [hf, ← hU]
        refine ⟨some (tupI c), some (.bl false), ?_⟩
        simp only [l__law_least_2, ev_seq, ev_set, ev_op2, ev_tup, ev_cons, ev_opA, ev_var, List.getElem?_cons_zero, List.getElem?_cons_succ, ev_bR_ok, ev_nil, ln, ev_tup2, ni, ev_bS_ok, ev_bN_next, List.set_cons_succ, List.set_cons_zero, ev_for, ev_seqI, uk, ev_killC, ev_killN, li, ev_ifS, ev_tru, ev_gTru_bl, Bool.false_eq_true, if_false, ev_pass]
    obtain ⟨v2, v3, b⟩ := b
    simp only [ev_gN, List.set_cons_succ, List.set_cons_zero, b, ev_killC, ev_killN]
theorem least_ok {S : Sto} {k : Nat} {L : List M.Se} (hk : S[k]? = some (.lst (setsP L))) (hz : L.length ≤ 1000) (hL : ∀ c ∈ L, c ∈ M.U) : F__law_least [.loc k] S = some (.ok (.tup (setsP (M.U.filter (M.leastB L)))) S) := by
  have lp := ll_loop hk L [] (by simpa using hz)
  have hp := least_plain hL
  obtain ⟨found, hf⟩ : ∃ found, found = foundL L [] L := ⟨_, rfl⟩
  rw [← hf] at lp hp
  have lp : forL (gN 2) [2, 3, 4] l__law_least_2 [(k, .lst (setsP L))] (setsP L) [some (.loc k), some (.loc S.length), none, none, none, none] (S ++ [.lst []]) = _ := lp
  obtain ⟨X, hX⟩ : ∃ X, X = S ++ [PO.lst (found.map enc)] := ⟨_, rfl⟩
  rw [← hX] at lp
  have x0 : X[S.length]? = some (.lst (found.map enc)) := by rw [hX]; exact at_0
  have so := ev_sorted (S := X) (k := S.length) (e := (enc : LP → PV)) (d := datP) (l := found) x0 (fun p _ => Dat.td' 40 (by decide) X p) (alike_LP found) (sortable_LP found)
  have so : gSorted [.loc S.length] X = some (.ok (.loc X.length) (X ++ [.lst ((sortLP found).map enc)])) := so
  have fz : found.length ≤ L.length := by
    rw [hf]
    have : ∀ (cs : List M.Se) (acc : List LP), (foundL L acc cs).length ≤ acc.length + cs.length := by
      intro cs
      induction cs with
      | nil => intro acc; simp [foundL]
      | cons c cs ih =>
        intro acc
        unfold foundL
        refine Nat.le_trans (ih _) ?_
        rw [List.length_cons]
        split
        · rw [List.length_append, List.length_singleton]; omega
        · omega
    simpa using this L []
  have sz : (sortLP found).length = found.length := (List.mergeSort_perm found _).length_eq
  have y0 : (X ++ [PO.lst ((sortLP found).map enc)])[X.length]? = some (.lst ((sortLP found).map enc)) := at_0
  have cm := ev_compF (f := nmOne 5) (own := [5]) (tt := dYes) (elt := dOp2 gIx (dVar 5) (dC (.int 1))) (ρ := [some (.loc k), some (.loc S.length), none, none, none, none]) (S := X) (S1 := X ++ [.lst ((sortLP found).map enc)]) (it := dSeqI (dOpA gSorted (dCons (dVar 1) dNil))) (keep := [(X.length, .lst ((sortLP found).map enc))]) (items := sortLP found) enc (fun _ => true) (fun p => tupI p.2.l) (by
    simp only [ev_seqI, ev_opA, ev_cons, ev_var, List.getElem?_cons_zero, List.getElem?_cons_succ, ev_bR_ok, ev_nil, so, y0]) ((kept_one _ _).mpr y0) (fun p _ acc => ⟨[5], [enc p], rfl, rfl, fun _ => rfl⟩) (by omega)
  have em : ((sortLP found).filter fun _ => true).map (fun p : LP => tupI p.2.l) = setsP (M.U.filter (M.leastB L)) := by
    rw [List.filter_eq_self.mpr fun _ _ => rfl, ← hp]
    unfold setsP
    rw [List.map_map]
    rfl
  rw [em] at cm
  obtain ⟨Y, hY⟩ : ∃ Y, Y = X ++ [PO.lst ((sortLP found).map enc)] := ⟨_, rfl⟩
  rw [← hY] at cm
  have tl := ev_tupleL (S := Y ++ [.lst (setsP (M.U.filter (M.leastB L)))]) (k := Y.length) (l := setsP (M.U.filter (M.leastB L))) at_0
  refine call_val (T := [.lst (found.map enc), .lst ((sortLP found).map enc), .lst (setsP (M.U.filter (M.leastB L)))]) ?_ (nls_sets _)
  show b__law_least [some (.loc k), none, none, none, none, none] S = _
  have hk1 : (S ++ [PO.lst []])[k]? = some (.lst (setsP L)) := at_old hk
  have eY : S ++ [PO.lst (found.map enc), .lst ((sortLP found).map enc), .lst (setsP (M.U.filter (M.leastB L)))] = Y ++ [.lst (setsP (M.U.filter (M.leastB L)))] := by rw [hY, hX]; simp
  rw [eY]
  simp only [b__law_least, ev_seq, ev_set, ev_lst, ev_nil, ev_bR_ok, ev_lst0, ev_bS_ok, ev_bN_next, List.set_cons_succ, List.set_cons_zero, ev_for, ev_seqI, ev_var, List.getElem?_cons_zero, List.getElem?_cons_succ, hk1, ev_killC, ev_killN, lp, ev_ret, ev_opA, ev_cons, cm, tl]
/-! ## the law -/
section
variable {S : Sto} {ns : List Int}
theorem in_loop (h1 : S[1]? = some (.lst (intsP ns))) (hn : ns ≠ []) {k : Int} : ∀ (m j : Nat) (c : M.Se), j + m = 6 → c ∈ M.U → (∀ y ∈ c, y < (j : Int)) → ∃ c' ∈ M.U, forL (gN 5) [5] l_law_2 [] (rangeP (j : Int) m) [some (.loc 0), some (.loc 1), some (.loc 2), some (.int k), some (tupI c), none, none, none, none] S =
    some (.next [some (.loc 0), some (.loc 1), some (.loc 2), some (.int k), some (tupI c'), none, none, none, none] S)
  | 0, j, c, _, hc, _ => ⟨c, hc, by show forL _ _ _ _ [] _ _ = _; rw [forL_nil (by simp)]⟩
  | m + 1, j, c, hj, hc, hy => by
    have rg : rangeP (j : Int) (m + 1) = .int (j : Int) :: rangeP ((j + 1 : Nat) : Int) m := by
      unfold rangeP
      rw [List.range_succ_eq_map, List.map_cons, List.map_map]
      congr 1
      refine List.map_congr_left fun i _ => ?_
      show PV.int ((j : Int) + ((i + 1 : Nat) : Int)) = PV.int (((j + 1 : Nat) : Int) + (i : Int))
      congr 1
      omega
    have ln : gLen [tupI c] S = some (.ok (.int (c.length : Int)) S) := by unfold tupI; rw [ev_lenT, intsP_len]
    have m6 := ev_mulL (S := S) (i := 6) (j := k) (by omega)
    have pk := pick_spec (S := S) (k := 1) (ns := ns) (a := 1 + 6 * k + (j : Int)) (m := 3) h1 hn (by omega)
    generalize pick ns (1 + 6 * k + (j : Int)) 3 = x at pk
    have sn := snoc_set (S := S) (c := c) (k := (j : Int)) (by have := short_U c hc; omega)
    have hU : c ++ [(j : Int)] ∈ M.U := M.U_snoc c hc (j : Int) (by
      have : j < 6 := by omega
      have h : ∀ j : Nat, j < 6 → ((j : Int)) ∈ ([0, 1, 2, 3, 4, 5] : List Int) := by decide
      exact h j this) (List.all_eq_true.mpr fun y h => decide_eq_true (hy y h))
    rw [rg]
    by_cases g : (c.length : Int) < 5 ∧ x = 0
    · obtain ⟨c', h2, ih⟩ := in_loop h1 hn m (j + 1) (c ++ [(j : Int)]) (by omega) hU (fun y h => by
        rcases List.mem_append.mp h with z | z
        · have := hy y z; omega
        · rw [List.mem_singleton] at z; omega) (k := k)
      refine ⟨c', h2, ?_⟩
      rw [forL_cons (by simp), ← ih]
      have b : l_law_2 [some (.loc 0), some (.loc 1), some (.loc 2), some (.int k), some (tupI c), some (.int (j : Int)), none, none, none] S = some (.next [some (.loc 0), some (.loc 1), some (.loc 2), some (.int k), some (tupI (c ++ [(j : Int)])), some (.int (j : Int)), none, none, none] S) := by
        simp only [l_law_2, ev_ifS, ev_andT, ev_cmp, ev_opA, ev_cons, ev_var, List.getElem?_cons_zero, List.getElem?_cons_succ, ev_bR_ok, ev_nil, ln, ev_c, ev_rel, g.1, decide_true, ev_asB, if_true, ev_op2, m6, ev_addI, pk, ev_eqI, g.2, ev_bS_ok, ev_set, ev_tup, ev_tup1, sn, List.set_cons_succ, List.set_cons_zero]
      simp only [ev_gN, List.set_cons_succ, List.set_cons_zero, b, ev_killC, ev_killN]
    · obtain ⟨c', h2, ih⟩ := in_loop h1 hn m (j + 1) c (by omega) hc (fun y h => by have := hy y h; omega) (k := k)
      refine ⟨c', h2, ?_⟩
      rw [forL_cons (by simp), ← ih]
      have b : l_law_2 [some (.loc 0), some (.loc 1), some (.loc 2), some (.int k), some (tupI c), some (.int (j : Int)), none, none, none] S = some (.next [some (.loc 0), some (.loc 1), some (.loc 2), some (.int k), some (tupI c), some (.int (j : Int)), none, none, none] S) := by
        by_cases g1 : (c.length : Int) < 5
        · have g2 : ¬ x = 0 := fun z => g ⟨g1, z⟩
          simp only [l_law_2, ev_ifS, ev_andT, ev_cmp, ev_opA, ev_cons, ev_var, List.getElem?_cons_zero, List.getElem?_cons_succ, ev_bR_ok, ev_nil, ln, ev_c, ev_rel, g1, decide_true, ev_asB, if_true, ev_op2, m6, ev_addI, pk, ev_eqI, g2, decide_false, Bool.false_eq_true, if_false, ev_bS_ok, ev_pass]
        · simp only [l_law_2, ev_ifS, ev_andT, ev_cmp, ev_opA, ev_cons, ev_var, List.getElem?_cons_zero, List.getElem?_cons_succ, ev_bR_ok, ev_nil, ln, ev_c, ev_rel, g1, decide_false, ev_asB, Bool.false_eq_true, if_false, ev_bS_ok, ev_pass]
      simp only [ev_gN, List.set_cons_succ, List.set_cons_zero, b, ev_killC, ev_killN]
end
theorem out_loop {s0 : PO} {ns : List Int} (hn : ns ≠ []) : ∀ (ks : List Int) (F : List M.Se), (∀ c ∈ F, c ∈ M.U) → F.length + ks.length ≤ 100 → ∃ F', (∀ c ∈ F', c ∈ M.U) ∧ F'.length = F.length + ks.length ∧
    forL (gN 3) [3, 4, 5] l_law_1 [] (intsP ks) [some (.loc 0), some (.loc 1), some (.loc 2), none, none, none, none, none, none] [s0, .lst (intsP ns), .lst (setsP F)] = some (.next [some (.loc 0), some (.loc 1), some (.loc 2), none, none, none, none, none, none] [s0, .lst (intsP ns), .lst (setsP F')])
  | [], F, h, _ => ⟨F, h, rfl, by rw [intsP_nil, forL_nil (by simp)]⟩
  | k :: ks, F, h, hz => by
    rw [List.length_cons] at hz
    obtain ⟨S, hS⟩ : ∃ S : Sto, S = [s0, .lst (intsP ns), .lst (setsP F)] := ⟨_, rfl⟩
    have h1 : S[1]? = some (.lst (intsP ns)) := by rw [hS]; rfl
    have h2 : S[2]? = some (.lst (setsP F)) := by rw [hS]; rfl
    obtain ⟨c1, hc1, li⟩ := in_loop (S := S) h1 hn (k := k) 6 0 [] rfl M.U_nil (fun y h => by cases h)
    have li : forL (gN 5) [5] l_law_2 [] (rangeP 0 6) [some (.loc 0), some (.loc 1), some (.loc 2), some (.int k), some (.tup []), none, none, none, none] S = _ := li
    have ln : gLen [tupI c1] S = some (.ok (.int (c1.length : Int)) S) := by unfold tupI; rw [ev_lenT, intsP_len]
    have p1 := pick_spec (S := S) (k := 1) (ns := ns) (a := 50 + k) (m := 3) h1 hn (by omega)
    have p2 := pick_spec (S := S) (k := 1) (ns := ns) (a := 51 + k) (m := 6) h1 hn (by omega)
    have b2 := pick_lt ns (51 + k) (m := 6) (by omega)
    generalize pick ns (50 + k) 3 = x at p1
    generalize pick ns (51 + k) 6 = y at p2 b2
    have ty : tyP "list" (.loc 2) S = true := ev_tyL h2
    have step : ∃ c2 ∈ M.U, l_law_1_t2 [some (.loc 0), some (.loc 1), some (.loc 2), some (.int k), some (tupI c1), none, none, none, none] S = l_law_1_t3 [some (.loc 0), some (.loc 1), some (.loc 2), some (.int k), some (tupI c2), none, none, none, none] S := by
      by_cases g1 : (c1.length : Int) = 0
      · by_cases g2 : 0 < x
        · refine ⟨[y], M.U_one y ?_, ?_⟩
          · have h : ∀ y : Int, 0 ≤ y ∧ y < 6 → y ∈ ([0, 1, 2, 3, 4, 5] : List Int) := fun y hy => by
              have : y = 0 ∨ y = 1 ∨ y = 2 ∨ y = 3 ∨ y = 4 ∨ y = 5 := by omega
              rcases this with rfl | rfl | rfl | rfl | rfl | rfl <;> decide
            exact h y b2
          · simp only [l_law_1_t2, ev_seq, ev_ifS, ev_andT, ev_cmp, ev_opA, ev_cons, ev_var, List.getElem?_cons_zero, List.getElem?_cons_succ, ev_bR_ok, ev_nil, ln, ev_c, ev_eqI, g1, decide_true, ev_asB, if_true, ev_op2, ev_addI, p1, ev_rel, g2, ev_bS_ok, ev_set, ev_tup, p2, ev_tup1, List.set_cons_succ, List.set_cons_zero, ev_bN_next]
            rfl
        · refine ⟨c1, hc1, ?_⟩
          simp only [l_law_1_t2, ev_seq, ev_ifS, ev_andT, ev_cmp, ev_opA, ev_cons, ev_var, List.getElem?_cons_zero, List.getElem?_cons_succ, ev_bR_ok, ev_nil, ln, ev_c, ev_eqI, g1, decide_true, ev_asB, if_true, ev_op2, ev_addI, p1, ev_rel, g2, decide_false, Bool.false_eq_true, if_false, ev_bS_ok, ev_pass, ev_bN_next]
      · refine ⟨c1, hc1, ?_⟩
        simp only [l_law_1_t2, ev_seq, ev_ifS, ev_andT, ev_cmp, ev_opA, ev_cons, ev_var, List.getElem?_cons_zero, List.getElem?_cons_succ, ev_bR_ok, ev_nil, ln, ev_c, ev_eqI, g1, decide_false, ev_asB, Bool.false_eq_true, if_false, ev_bS_ok, ev_pass, ev_bN_next]
    obtain ⟨c2, hc2, e2⟩ := step
    have ap : gAppend (.loc 2) [tupI c2] S = some (.ok .non [s0, .lst (intsP ns), .lst (setsP (F ++ [c2]))]) := by
      rw [ev_append h2 (by rw [sets_len]; omega), hS, sets_app]
      rfl
    have b : l_law_1 [some (.loc 0), some (.loc 1), some (.loc 2), some (.int k), none, none, none, none, none] S = some (.next [some (.loc 0), some (.loc 1), some (.loc 2), some (.int k), some (tupI c2), none, none, none, none] [s0, .lst (intsP ns), .lst (setsP (F ++ [c2]))]) := by
      simp only [l_law_1, l_law_1_t0, ev_seq, ev_set, ev_tup, ev_nil, ev_bR_ok, ev_tup0, ev_bS_ok, ev_bN_next, List.set_cons_succ, List.set_cons_zero, l_law_1_t1, ev_for, ev_rng1, ev_cons, ev_c, ev_killC, ev_killN]
      have li : forL (gN 5) [5] l_law_2 [] (rangeP 0 (6 : Int).toNat) [some (.loc 0), some (.loc 1), some (.loc 2), some (.int k), some (.tup []), none, none, none, none] S = _ := li
      rw [li, ev_bN_next, e2]
      simp only [l_law_1_t3, ev_expr, ev_meth, ev_var, List.getElem?_cons_zero, List.getElem?_cons_succ, ev_bR_ok, ty, if_true, ev_cons, ev_nil, ap, ev_bS_ok]
    obtain ⟨F', i1, i2, ih⟩ := out_loop (s0 := s0) hn ks (F ++ [c2]) (fun c h' => by
      rcases List.mem_append.mp h' with z | z
      · exact h c z
      · rw [List.mem_singleton] at z; rw [z]; exact hc2) (by rw [List.length_append, List.length_singleton]; omega)
    refine ⟨F', i1, by rw [i2, List.length_append, List.length_singleton, List.length_cons]; omega, ?_⟩
    rw [intsP_cons, forL_cons (by simp), ← hS]
    simp only [ev_gN, List.set_cons_succ, List.set_cons_zero, b, ev_killC, ev_killN, ih]
theorem tup_loop {S : Sto} {v0 v1 v2 v6 v7 v8 : Option PV} : ∀ F : List M.Se, forL (gN 4) [4] l_law_3 [] (setsP F) [v0, v1, v2, none, none, none, v6, v7, v8] S = some (.next [v0, v1, v2, none, none, none, v6, v7, v8] S)
  | [] => by show forL _ _ _ _ [] _ _ = _; rw [forL_nil (by simp)]
  | o :: F => by
    have ih := tup_loop (S := S) (v0 := v0) (v1 := v1) (v2 := v2) (v6 := v6) (v7 := v7) (v8 := v8) F
    show forL _ _ _ _ (tupI o :: setsP F) _ _ = _
    rw [forL_cons (by simp), ← ih]
    simp [l_law_3, tupI]
theorem eq_setsP {S : Sto} {neg : Bool} {F : List M.Se} : gEqN neg (.tup (setsP F)) (.tup (setsP F)) S = some (.ok (.bl (!neg)) S) := by
  have h := eq_dat (S := S) (neg := neg) (⟨F.map fun c => (⟨c⟩ : Tp Int)⟩ : Tp (Tp Int)) ⟨F.map fun c => (⟨c⟩ : Tp Int)⟩
  have e : (enc (⟨F.map fun c => (⟨c⟩ : Tp Int)⟩ : Tp (Tp Int)) : PV) = .tup (setsP F) := by
    show PV.tup ((F.map fun c => (⟨c⟩ : Tp Int)).map enc) = _
    unfold setsP
    rw [List.map_map]
    rfl
  rw [e, decide_eq_true rfl] at h
  rw [h]
  cases neg <;> rfl
theorem law_d : LawD F_law := by
  intro ns0 hl
  obtain ⟨ns, hn, _, _, e0⟩ := stream_spec (S := [.fz (ns0.map PV.int)]) (k := 0) (ns := ns0) rfl
  obtain ⟨s0, hs0⟩ : ∃ s0 : PO, s0 = .fz (ns0.map PV.int) := ⟨_, rfl⟩
  rw [← hs0] at e0 ⊢
  have e0 : F__law_stream [.loc 0] [s0] = some (.ok (.loc 1) [s0, .lst (intsP ns)]) := e0
  have pk7 := pick_spec (S := [s0, .lst (intsP ns), .lst []]) (k := 1) (ns := ns) (a := 0) (m := 7) rfl hn (by omega)
  have b7 := pick_lt ns 0 (m := 7) (by omega)
  generalize pick ns 0 7 = many at pk7 b7
  have rg : rangeP 0 many.toNat = intsP ((List.range many.toNat).map fun i : Nat => 0 + (i : Int)) := range_ints _ _
  obtain ⟨F1, hF1, lF1, lp⟩ := out_loop (s0 := s0) hn ((List.range many.toNat).map fun i : Nat => 0 + (i : Int)) [] (fun c h => by cases h) (by simp; omega)
  rw [← rg] at lp
  have lp : forL (gN 3) [3, 4, 5] l_law_1 [] (rangeP 0 many.toNat) [some (.loc 0), some (.loc 1), some (.loc 2), none, none, none, none, none, none] [s0, .lst (intsP ns), .lst []] = _ := lp
  have zF1 : F1.length ≤ 7 := by simp at lF1; omega
  -- one of them twice
  obtain ⟨S1, hS1⟩ : ∃ S1 : Sto, S1 = [s0, .lst (intsP ns), .lst (setsP F1)] := ⟨_, rfl⟩
  have s1 : S1[1]? = some (.lst (intsP ns)) := by rw [hS1]; rfl
  have s2 : S1[2]? = some (.lst (setsP F1)) := by rw [hS1]; rfl
  have pk3 := pick_spec (S := S1) (k := 1) (ns := ns) (a := 60) (m := 3) s1 hn (by omega)
  generalize pick ns 60 3 = z at pk3
  have ln := ev_lenL s2
  rw [sets_len] at ln
  have step : ∃ F, (∀ c ∈ F, c ∈ M.U) ∧ F.length ≤ 8 ∧ t_3 [some (.loc 0), some (.loc 1), some (.loc 2), none, none, none, none, none, none] S1 = t_4 [some (.loc 0), some (.loc 1), some (.loc 2), none, none, none, none, none, none] [s0, .lst (intsP ns), .lst (setsP F)] := by
    by_cases g1 : (1 : Int) < (F1.length : Int)
    · by_cases g2 : z = 0
      · obtain ⟨c, hc⟩ : ∃ c, F1[0]? = some c := ⟨F1[0]'(by omega), List.getElem?_eq_getElem (by omega)⟩
        have cU := hF1 c (List.mem_of_getElem? hc)
        have ix : gIx (.loc 2) (.int 0) S1 = some (.ok (tupI c) S1) := ev_ixL s2 (by
          rw [atI_nat (by omega) (by rw [sets_len]; show 0 < F1.length; omega)]
          congr 1
          have h0 : 0 < F1.length := by omega
          have e1 : F1[0] = c := by
            rw [List.getElem?_eq_getElem h0] at hc
            exact Option.some.inj hc
          show (setsP F1)[0]'_ = _
          unfold setsP
          rw [List.getElem_map, e1])
        have ty : tyP "list" (.loc 2) S1 = true := ev_tyL s2
        have ap : gAppend (.loc 2) [tupI c] S1 = some (.ok .non [s0, .lst (intsP ns), .lst (setsP (F1 ++ [c]))]) := by
          rw [ev_append s2 (by rw [sets_len]; omega), hS1, sets_app]
          rfl
        refine ⟨F1 ++ [c], fun d hd => ?_, by rw [List.length_append, List.length_singleton]; omega, ?_⟩
        · rcases List.mem_append.mp hd with y | y
          · exact hF1 d y
          · rw [List.mem_singleton] at y; rw [y]; exact cU
        · simp only [t_3, ev_seq, ev_ifS, ev_andT, ev_cmp, ev_opA, ev_cons, ev_var, List.getElem?_cons_zero, List.getElem?_cons_succ, ev_bR_ok, ev_nil, ln, ev_c, ev_rel, g1, decide_true, ev_asB, if_true, pk3, g2, ev_eqI, ev_bS_ok, ev_expr, ev_meth, ty, ev_op2, ix, ap, ev_bN_next]
      · refine ⟨F1, hF1, by omega, ?_⟩
        rw [← hS1]
        simp only [t_3, ev_seq, ev_ifS, ev_andT, ev_cmp, ev_opA, ev_cons, ev_var, List.getElem?_cons_zero, List.getElem?_cons_succ, ev_bR_ok, ev_nil, ln, ev_c, ev_rel, g1, decide_true, ev_asB, if_true, pk3, g2, ev_eqI, decide_false, Bool.false_eq_true, if_false, ev_bS_ok, ev_pass, ev_bN_next]
    · refine ⟨F1, hF1, by omega, ?_⟩
      rw [← hS1]
      simp only [t_3, ev_seq, ev_ifS, ev_andT, ev_cmp, ev_opA, ev_cons, ev_var, List.getElem?_cons_zero, List.getElem?_cons_succ, ev_bR_ok, ev_nil, ln, ev_c, ev_rel, g1, decide_false, ev_asB, Bool.false_eq_true, if_false, ev_bS_ok, ev_pass, ev_bN_next]
  obtain ⟨F, hF, zF, e3⟩ := step
  have shF : ∀ o ∈ F, o.length ≤ 6 := fun o ho => short_U o (hF o ho)
  obtain ⟨S, hS⟩ : ∃ S : Sto, S = [s0, .lst (intsP ns), .lst (setsP F)] := ⟨_, rfl⟩
  rw [← hS] at e3
  have q2 : S[2]? = some (.lst (setsP F)) := by rw [hS]; rfl
  have tl := ev_tupleL (S := S) (k := 2) (l := setsP F) q2
  -- what is due
  have lv := law_sets_ok (S := S)
  have v0 : (S ++ [PO.lst (setsP M.V)])[S.length]? = some (.lst (setsP M.V)) := at_0
  obtain ⟨L, hL⟩ : ∃ L, L = M.V.filter fun c => M.meets c F := ⟨_, rfl⟩
  have zV : M.V.length = 64 := by decide +kernel
  have cm := ev_compF (f := nmOne 4) (own := [4]) (tt := dTru (dOpA F__law_meets (dCons (dVar 4) (dCons (dVar 6) dNil)))) (elt := dVar 4) (ρ := [some (.loc 0), some (.loc 1), some (.loc 2), none, none, none, some (.tup (setsP F)), none, none]) (S := S) (S1 := S ++ [.lst (setsP M.V)]) (it := dSeqI (dOpA F__law_sets (dCons (dC (.int 6)) dNil))) (keep := [(S.length, .lst (setsP M.V))]) (items := M.V) tupI (fun c => M.meets c F) tupI (by
    simp only [ev_seqI, ev_opA, ev_cons, ev_c, ev_bR_ok, ev_nil, lv, v0]
    rfl) ((kept_one _ _).mpr v0) (fun c _ acc => ⟨[4], [tupI c], rfl, by
      have lm := lmeets_ok (S := S ++ [.lst (setsP M.V)] ++ [.lst acc]) (c := c) (F := F)
      simp only [setsE, ev_killC, ev_killN, List.set_cons_succ, List.set_cons_zero, ev_tru, ev_opA, ev_cons, ev_var, List.getElem?_cons_zero, List.getElem?_cons_succ, ev_bR_ok, ev_nil, lm, ev_gTru_bl], fun _ => rfl⟩) (by omega)
  rw [← hL] at cm
  obtain ⟨X, hX⟩ : ∃ X : Sto, X = S ++ [.lst (setsP M.V)] := ⟨_, rfl⟩
  rw [← hX] at cm
  obtain ⟨Y, hY⟩ : ∃ Y : Sto, Y = X ++ [.lst (setsP L)] := ⟨_, rfl⟩
  have cm : dComp _ _ _ _ _ _ S = some (.ok (.loc X.length) (X ++ [.lst (setsP L)])) := cm
  rw [← hY] at cm
  have y0 : Y[X.length]? = some (.lst (setsP L)) := by rw [hY]; exact at_0
  have lo := least_ok (S := Y) y0 (by rw [hL]; have := List.length_filter_le (fun c => M.meets c F) M.V; omega) (fun c hc => by
    rw [hL] at hc
    exact M.V_in c (List.mem_filter.mp hc).1)
  have eL : M.U.filter (M.leastB L) = M.U.filter (M.minB fun c => M.meets c F) := by rw [hL]; exact M.least_V
  rw [eL] at lo
  have mt := meeting_ok (S := Y) shF (by omega)
  have mtr := meeting_ok (S := Y) (F := F.reverse) (fun o ho => shF o (List.mem_reverse.mp ho)) (by rw [List.length_reverse]; omega)
  have er : (fun c => M.meets c F.reverse) = fun c => M.meets c F := by
    funext c
    unfold M.meets
    rw [List.all_reverse]
  rw [er] at mtr
  have sr : (setsP F).reverse = setsP F.reverse := by unfold setsP; rw [List.map_reverse]
  obtain ⟨G, hG⟩ : ∃ G, G = M.U.filter (M.minB fun c => M.meets c F) := ⟨_, rfl⟩
  have gU : ∀ o ∈ G, o ∈ M.U := fun o ho => by rw [hG] at ho; exact (List.mem_filter.mp ho).1
  have zG : G.length ≤ 64 := by
    have := List.length_filter_le (M.minB fun c => M.meets c F) M.U
    rw [← hG, M.U_len] at this
    exact this
  have mt2 := meeting_ok (S := Y) (F := G) (fun o ho => short_U o (gU o ho)) (by omega)
  have yF : Y[2]? = some (.lst (setsP F)) := by rw [hY, hX]; exact at_old (at_old q2)
  have lo2 := least_ok (S := Y) yF (by omega) hF
  have bk := M.back hF
  rw [← hG] at lo mt mtr bk
  rw [bk] at mt2
  have eqG := fun neg => eq_setsP (S := Y) (neg := neg) (F := G)
  have eqE := eq_setsP (S := Y) (neg := false) (F := M.U.filter (M.leastB F))
  have tp := tup_loop (S := Y) (v0 := some (.loc 0)) (v1 := some (.loc 1)) (v2 := some (.loc 2)) (v6 := some (.tup (setsP F))) (v7 := some (.tup (setsP G))) (v8 := some (.tup (setsP G))) G
  refine law_ret (S' := Y) ?_
  have f1 : b_law ([PV.loc 0].map some ++ List.replicate (9 - 1) none) [s0] = t_3 [some (.loc 0), some (.loc 1), some (.loc 2), none, none, none, none, none, none] S1 := by
    simp only [b_law, t_0, List.map_cons, List.map_nil, List.replicate, Nat.reduceSub, List.cons_append, List.nil_append, ev_seq, ev_set, ev_opA, ev_cons, ev_var, List.getElem?_cons_zero, List.getElem?_cons_succ, ev_bR_ok, ev_nil, e0, ev_bS_ok, ev_bN_next, List.set_cons_succ, List.set_cons_zero]
    simp only [t_1, ev_seq, ev_set, ev_lst, ev_nil, ev_bR_ok, ev_lst0, ev_bS_ok, ev_bN_next, List.set_cons_succ, List.set_cons_zero, List.cons_append, List.nil_append, List.length_cons, List.length_nil, Nat.zero_add, Nat.reduceAdd]
    simp only [t_2, ev_seq, ev_for, ev_rng1, ev_cons, ev_opA, ev_var, List.getElem?_cons_zero, List.getElem?_cons_succ, ev_bR_ok, ev_c, ev_nil, pk7, ev_bS_ok, ev_killC, ev_killN, List.set_cons_succ, List.set_cons_zero, lp, ev_bN_next, hS1]
  refine f1.trans (e3.trans ?_)
  simp only [t_4, ev_seq, ev_set, ev_opA, ev_cons, ev_var, List.getElem?_cons_zero, List.getElem?_cons_succ, ev_bR_ok, ev_nil, tl, ev_bS_ok, ev_bN_next, List.set_cons_succ, List.set_cons_zero]
  simp only [t_5, ev_seq, ev_set, ev_opA, ev_cons, cm, ev_bR_ok, ev_nil, lo, ev_bS_ok, ev_bN_next, List.set_cons_succ, List.set_cons_zero]
  simp only [t_6, ev_seq, ev_set, ev_opA, ev_cons, ev_var, List.getElem?_cons_zero, List.getElem?_cons_succ, ev_bR_ok, ev_nil, mt, ev_bS_ok, ev_bN_next, List.set_cons_succ, List.set_cons_zero]
  have rv : ∀ ρ : En, ρ[6]? = some (some (.tup (setsP F))) → dRevT (dVar 6) (dPart (dOp1 gNeg (dC (.int 1)))) ρ Y = some (.ok (.tup (setsP F.reverse)) Y) := fun ρ h => by
    unfold dRevT
    simp only [ev_var, h, ev_bR_ok, ev_part, ev_op1, ev_c, ev_neg]
    unfold gRevT
    rw [if_pos rfl]
    dsimp only
    rw [sr]
  simp only [t_7, ev_seq, ev_ifS, ev_orT, ev_notT, ev_tru, ev_cmp, ev_opA, ev_cons, ev_var, List.getElem?_cons_zero, List.getElem?_cons_succ, ev_bR_ok, ev_nil, eqG, Bool.not_true, ev_asB, Bool.false_eq_true, if_false, ev_c, ev_isaT, ev_gTru_bl, mt, rv, mtr, ev_bS_ok, ev_pass, ev_bN_next]
  simp only [t_8, ev_seq, ev_for, ev_seqI, ev_var, List.getElem?_cons_zero, List.getElem?_cons_succ, ev_bR_ok, ev_bS_ok, ev_killC, ev_killN, List.set_cons_succ, List.set_cons_zero, tp, ev_bN_next]
  simp only [t_9, ev_ret, ev_op2, ev_opA, ev_cons, ev_var, List.getElem?_cons_zero, List.getElem?_cons_succ, ev_bR_ok, ev_nil, mt2, lo2, eqE, Bool.not_false, ev_bS_ok]
end Lk56
open PySem PySem.W PyProof.Rows in
set_option maxHeartbeats 0 in
theorem PySem.Challenge.cw_diesnon_k56_sets_that_meet_sets_holds : PySem.Challenge.rw_diesnon_k56_sets_that_meet_sets.Holds := by
  w_on; o_law; k_head; (case hw => w_witness2)
  k_fill
  refine D.law_walk (l := PySem.Challenge.rw_diesnon_k56_sets_that_meet_sets) (k := 3) (x := "_law_script") (F := Lk56.F_law) Lk56.law_d rfl rfl ⟨rfl, by decide, by decide⟩ (fun w h Y => PySem.W.kIn_of Y) ?F
  case F =>
    intro w mg fa h KX G hmg
    refine' Lk56.all_mk KX G hmg ?a__law_part ?l__law_part ?c__law_part ?k__law_part ?a__law_least ?l__law_least ?c__law_least ?k__law_least ?a__law_meets ?l__law_meets ?c__law_meets ?k__law_meets ?a__law_pick ?l__law_pick ?c__law_pick ?k__law_pick ?a__law_sets ?l__law_sets ?c__law_sets ?k__law_sets ?a__law_stream ?l__law_stream ?c__law_stream ?k__law_stream ?a_is_part ?l_is_part ?c_is_part ?k_is_part ?a_sets_of ?l_sets_of ?c_sets_of ?k_sets_of ?a_meeting_sets ?l_meeting_sets ?c_meeting_sets ?k_meeting_sets ?a_law ?l_law ?c_law ?k_law ?g_MAX_CHOICES ?g_all ?g_any ?g_int ?g_isinstance ?g_len ?g_range ?g_sorted ?g_tuple
    (case a__law_part => k_is)
    (case l__law_part => k_is)
    (case c__law_part => k_is)
    (case k__law_part => k_is)
    (case a__law_least => k_is)
    (case l__law_least => k_is)
    (case c__law_least => k_is)
    (case k__law_least => k_is)
    (case a__law_meets => k_is)
    (case l__law_meets => k_is)
    (case c__law_meets => k_is)
    (case k__law_meets => k_is)
    (case a__law_pick => k_is)
    (case l__law_pick => k_is)
    (case c__law_pick => k_is)
    (case k__law_pick => k_is)
    (case a__law_sets => k_is)
    (case l__law_sets => k_is)
    (case c__law_sets => k_is)
    (case k__law_sets => k_is)
    (case a__law_stream => k_is)
    (case l__law_stream => k_is)
    (case c__law_stream => k_is)
    (case k__law_stream => k_is)
    (case a_is_part => k_is)
    (case l_is_part => k_is)
    (case c_is_part => k_is)
    (case k_is_part => k_is)
    (case a_sets_of => k_is)
    (case l_sets_of => k_is)
    (case c_sets_of => k_is)
    (case k_sets_of => k_is)
    (case a_meeting_sets => k_is)
    (case l_meeting_sets => k_is)
    (case c_meeting_sets => k_is)
    (case k_meeting_sets => k_is)
    (case a_law => k_is)
    (case l_law => k_is)
    (case c_law => k_is)
    (case k_law => k_is)
    (case g_MAX_CHOICES => k_is)
    (case g_all => k_is)
    (case g_any => k_is)
    (case g_int => k_is)
    (case g_isinstance => k_is)
    (case g_len => k_is)
    (case g_range => k_is)
    (case g_sorted => k_is)
    (case g_tuple => k_is)
#print axioms PySem.Challenge.cw_diesnon_k56_sets_that_meet_sets_holds
