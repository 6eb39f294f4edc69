import PyProof.Rows.All
import Wide.All
import OpenK.AllK
import Wide.FinOn
import HandS.ForMost
import HandS.ForExc
import HandS.Walk
import HandS.CallSlots
import HandS.Style
import HandS.Wide
import HandS.TupAny
import KE.DataEq
import HandS.IsInst
import KE.SortData
import HandS.Zip
import HandS.Rev
import HandS.TupLen
import PyProof.LongRange
import HandS.ExcIs
import HandS.TryMany
import HandS.TryOnly
import HandS.ExcOwn
import HandS.ExcField
import HandS.SortKw
import KE.GoesMore
import KE.DataMinMax
import HandS.More
import HandS.Dict
import HandS.Small
import HandS.Call
import HandS.Conv
import KE.KExcIs
import HandS.ExcInit
import HandS.List
import KE.KRevSl
import PySem.Challenge.RW_diesnon_k20_whole_ring_or_values
set_option Elab.async false
set_option linter.all false
set_option maxRecDepth 100000
set_option maxHeartbeats 4000000
set_option autoImplicit false
/-! D0: values by value, a store, what stands for them in the abstract heap. -/
namespace D
open PySem L2

inductive PV where
  | non | bl (b : Bool) | int (i : Int) | str (s : Str) | tup (l : List PV) | loc (n : Nat) | ty (n : String) | xc (a : Addr) (d : Option Addr) (fv : List (Str × V))
  deriving Inhabited
inductive PO where
  | lst (l : List PV) | fz (l : List PV) | dct (t : Bool) (l : List (PV × PV)) | ins (c : Str) (fs : List (Str × PV))
  deriving Inhabited
abbrev Sto := List PO
abbrev En := List (Option PV)
structure Xn where
  c : Str
  fs : List (Str × PV)
inductive R (α : Type) where
  | ok (v : α) (S : Sto) | exc (e : Xn) (S : Sto)
abbrev RE := R PV
abbrev RA := R (List PV)
abbrev RB := R Bool
def bR {α β : Type} (r : Option (R α)) (k : α → Sto → Option (R β)) : Option (R β) :=
  match r with
  | some (.ok v S) => k v S
  | some (.exc e S) => some (.exc e S)
  | none => none
inductive RS where
  | next (ρ : En) (S : Sto) | ret (v : PV) (S : Sto) | brk (ρ : En) (S : Sto) | ctn (ρ : En) (S : Sto) | exc (e : Xn) (ρ : En) (S : Sto)
abbrev DE := En → Sto → Option RE
abbrev DA := En → Sto → Option RA
abbrev DB := En → Sto → Option RB
abbrev DS := En → Sto → Option RS
abbrev DF := List PV → Sto → Option RE

/-! ### what stands for what -/
section
variable (K : PySem.W.Frag) (H : Hp) (m : Nat → Addr) (n : Nat)
mutual
inductive Rp : PV → V → Prop
  | non : Rp .non .non
  | bl (b : Bool) : Rp (.bl b) (.bl b)
  | int (i : Int) : Rp (.int i) (.int i)
  | str (s : Str) : Rp (.str s) (.str s)
  | ty (s : String) : Rp (.ty s) (.ty s)
  | tup {l : List PV} {a : Addr} {xs : List V} : SqT K H a xs → RpL l xs → Rp (.tup l) (.ref a)
  | loc {k : Nat} : k < n → Rp (.loc k) (.ref (m k))
  | xc {a : Addr} {d : Option Addr} {fv : List (Str × V)} : (∀ dd, d = some dd → H dd = some (.xd fv)) → Rp (.xc a d fv) (.ref a)
inductive RpL : List PV → List V → Prop
  | nil : RpL [] []
  | cons {d : PV} {v : V} {ds : List PV} {vs : List V} : Rp d v → RpL ds vs → RpL (d :: ds) (v :: vs)
end
end

def FzL (K : PySem.W.Frag) (H : Hp) (a : Addr) (xs : List V) : Prop :=
  (∃ o, H a = some (.frz o (.lst xs))) ∨
    ∃ (o : Obj) (its : Array Value) (n : Nat), K.lookup a = some o ∧ o.cls = .type "list" ∧ o.dict = none ∧ o.data = .seq its n ∧ its.size ≤ sizeLine ∧ Vals xs its.toList
theorem FzL.sq {K : PySem.W.Frag} {H : Hp} {a : Addr} {xs : List V} (h : FzL K H a xs) : SqL K H a xs := by
  rcases h with ⟨o, h⟩ | h
  · exact .inl (.inr ⟨o, h⟩)
  · exact .inr h

def kP : PV → Option Key
  | .int i => some (.inl i)
  | .str s => some (.inr s)
  | _ => none
def kPs : List PV → Option (List Key)
  | [] => some []
  | d :: ds => match kP d, kPs ds with
    | some k, some ks => some (k :: ks)
    | _, _ => none
def kT : PV → Option (List Key)
  | .tup l => kPs l
  | _ => none

section
variable (K : PySem.W.Frag) (mg : Str → Option Value) (H : Hp) (m : Nat → Addr) (n : Nat)
def RpK : List (PV × PV) → List (Key × V) → Prop := Paired fun p q => kP p.1 = some q.1 ∧ Rp K H m n p.2 q.2
def RpT : List (PV × PV) → List (List Key × V) → Prop := Paired fun p q => kT p.1 = some q.1 ∧ Rp K H m n p.2 q.2
def RpF : List (Str × PV) → List (Str × V) → Prop := Paired fun p q => p.1 = q.1 ∧ Rp K H m n p.2 q.2
def Ro : PO → Addr → Prop
  | .lst l, a => ∃ xs, H a = some (.lst xs) ∧ RpL K H m n l xs
  | .fz l, a => ∃ xs, FzL K H a xs ∧ RpL K H m n l xs
  | .dct t kvs, a => (t = false ∧ ∃ kv, H a = some (.dK kv) ∧ RpK K H m n kvs kv) ∨ (t = true ∧ ∃ kv, H a = some (.dT kv) ∧ RpT K H m n kvs kv)
  | .ins c fs, a => ∃ C dx fv, H a = some (.ins C dx fv) ∧ mg c = some (.ref C) ∧ RpF K H m n fs fv
end
def isMut : PO → Bool
  | .fz _ => false
  | _ => true

structure StS (K : PySem.W.Frag) (mg : Str → Option Value) (m : Nat → Addr) (S : Sto) (H : Hp) : Prop where
  obj : ∀ (k : Nat) (o : PO), S[k]? = some o → Ro K mg H m S.length o (m k)
  inj : ∀ (j k : Nat) (oj ok : PO), S[j]? = some oj → S[k]? = some ok → isMut oj = true → isMut ok = true → m j = m k → j = k

structure EnR (K : PySem.W.Frag) (H : Hp) (m : Nat → Addr) (n : Nat) (ρ : En) (σ : L2.St) : Prop where
  len : ρ.length = σ.length
  at_ : ∀ (i : Nat) (v : PV), ρ[i]? = some (some v) → ∃ x, σ[i]? = some (some x) ∧ Rp K H m n v x

structure Ext (K : PySem.W.Frag) (n : Nat) (m : Nat → Addr) (H : Hp) (m' : Nat → Addr) (H' : Hp) : Prop where
  mp : ∀ k, k < n → m' k = m k
  tp : ∀ a xs, SqT K H a xs → SqT K H' a xs
  xd : ∀ d fv, H d = some (.xd fv) → H' d = some (.xd fv)

section
variable {K : PySem.W.Frag} {mg : Str → Option Value} {H H' H'' : Hp} {m m' m'' : Nat → Addr} {n n' : Nat}
theorem Ext.refl : Ext K n m H m H := ⟨fun _ _ => rfl, fun _ _ h => h, fun _ _ h => h⟩
theorem Ext.trans (a : Ext K n m H m' H') (b : Ext K n' m' H' m'' H'') (h : n ≤ n') : Ext K n m H m'' H'' :=
  ⟨fun k hk => (b.mp k (Nat.lt_of_lt_of_le hk h)).trans (a.mp k hk), fun _ _ q => b.tp _ _ (a.tp _ _ q), fun _ _ q => b.xd _ _ (a.xd _ _ q)⟩
theorem Ext.less (a : Ext K n' m H m' H') (h : n ≤ n') : Ext K n m H m' H' := ⟨fun k hk => a.mp k (Nat.lt_of_lt_of_le hk h), a.tp, a.xd⟩

mutual
theorem Rp.mono (e : Ext K n m H m' H') (hn : n ≤ n') : ∀ {d : PV} {v : V}, Rp K H m n d v → Rp K H' m' n' d v
  | _, _, .non => .non
  | _, _, .bl b => .bl b
  | _, _, .int i => .int i
  | _, _, .str s => .str s
  | _, _, .ty s => .ty s
  | _, _, .tup h r => .tup (e.tp _ _ h) (RpL.mono e hn r)
  | _, _, .loc h => by
    rw [← e.mp _ h]
    exact .loc (Nat.lt_of_lt_of_le h hn)
  | _, _, .xc h => .xc fun dd q => e.xd _ _ (h dd q)
theorem RpL.mono (e : Ext K n m H m' H') (hn : n ≤ n') : ∀ {d : List PV} {v : List V}, RpL K H m n d v → RpL K H' m' n' d v
  | _, _, .nil => .nil
  | _, _, .cons h r => .cons (Rp.mono e hn h) (RpL.mono e hn r)
end
theorem paired_imp {α β : Type} {F G : α → β → Prop} (f : ∀ a b, F a b → G a b) : ∀ {l₁ : List α} {l₂ : List β}, Paired F l₁ l₂ → Paired G l₁ l₂
  | _, _, .nil => .nil
  | _, _, .cons r t => .cons (f _ _ r) (paired_imp f t)
theorem RpK.mono (e : Ext K n m H m' H') (hn : n ≤ n') {d : List (PV × PV)} {v : List (Key × V)} (h : RpK K H m n d v) : RpK K H' m' n' d v := paired_imp (fun _ _ q => ⟨q.1, q.2.mono e hn⟩) h
theorem RpT.mono (e : Ext K n m H m' H') (hn : n ≤ n') {d : List (PV × PV)} {v : List (List Key × V)} (h : RpT K H m n d v) : RpT K H' m' n' d v := paired_imp (fun _ _ q => ⟨q.1, q.2.mono e hn⟩) h
theorem RpF.mono (e : Ext K n m H m' H') (hn : n ≤ n') {d : List (Str × PV)} {v : List (Str × V)} (h : RpF K H m n d v) : RpF K H' m' n' d v := paired_imp (fun _ _ q => ⟨q.1, q.2.mono e hn⟩) h
theorem EnR.mono (e : Ext K n m H m' H') (hn : n ≤ n') {ρ : En} {σ : L2.St} (h : EnR K H m n ρ σ) : EnR K H' m' n' ρ σ :=
  ⟨h.len, fun i v q => let ⟨x, a, b⟩ := h.at_ i v q; ⟨x, a, b.mono e hn⟩⟩

/-! ### lists of values -/
theorem RpL.length : ∀ {l : List PV} {xs : List V}, RpL K H m n l xs → l.length = xs.length
  | _, _, .nil => rfl
  | _, _, .cons _ r => by rw [List.length_cons, List.length_cons, RpL.length r]
theorem RpL.append : ∀ {l l' : List PV} {xs ys : List V}, RpL K H m n l xs → RpL K H m n l' ys → RpL K H m n (l ++ l') (xs ++ ys)
  | _, _, _, _, .nil, s => s
  | _, _, _, _, .cons a r, s => .cons a (RpL.append r s)
theorem RpL.get : ∀ {l : List PV} {xs : List V} {i : Nat} {d : PV}, RpL K H m n l xs → l[i]? = some d → ∃ x, xs[i]? = some x ∧ Rp K H m n d x
  | _, _, _, _, .nil, e => by simp at e
  | _, _, 0, _, .cons a _, e => by
    simp at e; subst e; exact ⟨_, rfl, a⟩
  | _, _, i + 1, _, .cons _ r, e => by
    obtain ⟨x, h1, h2⟩ := RpL.get (i := i) r (by simpa using e)
    exact ⟨x, by simpa using h1, h2⟩
theorem RpL.drop : ∀ {l : List PV} {xs : List V} (i : Nat), RpL K H m n l xs → RpL K H m n (l.drop i) (xs.drop i)
  | _, _, 0, r => r
  | _, _, _ + 1, .nil => .nil
  | _, _, i + 1, .cons _ r => RpL.drop i r
theorem RpL.take : ∀ {l : List PV} {xs : List V} (i : Nat), RpL K H m n l xs → RpL K H m n (l.take i) (xs.take i)
  | _, _, 0, _ => .nil
  | _, _, _ + 1, .nil => .nil
  | _, _, i + 1, .cons a r => .cons a (RpL.take i r)
theorem RpL.set {d : PV} {x : V} (a : Rp K H m n d x) : ∀ {l : List PV} {xs : List V} (i : Nat), RpL K H m n l xs → RpL K H m n (l.set i d) (xs.set i x)
  | _, _, _, .nil => .nil
  | _, _, 0, .cons _ r => .cons a r
  | _, _, i + 1, .cons b r => .cons b (RpL.set a i r)
theorem RpL.eraseIdx : ∀ {l : List PV} {xs : List V} (i : Nat), RpL K H m n l xs → RpL K H m n (l.eraseIdx i) (xs.eraseIdx i)
  | _, _, _, .nil => .nil
  | _, _, 0, .cons _ r => r
  | _, _, i + 1, .cons b r => .cons b (RpL.eraseIdx i r)
theorem RpL.reverse : ∀ {l : List PV} {xs : List V}, RpL K H m n l xs → RpL K H m n l.reverse xs.reverse
  | _, _, .nil => .nil
  | _, _, .cons b r => by
    rw [List.reverse_cons, List.reverse_cons]
    exact RpL.append (RpL.reverse r) (.cons b .nil)
theorem RpL.dropLast {l : List PV} {xs : List V} (r : RpL K H m n l xs) : RpL K H m n l.dropLast xs.dropLast := by
  rw [List.dropLast_eq_take, List.dropLast_eq_take, r.length]
  exact r.take _
theorem RpL.flat_rep {l : List PV} {xs : List V} (r : RpL K H m n l xs) : ∀ k : Nat, RpL K H m n (List.replicate k l).flatten (List.replicate k xs).flatten
  | 0 => .nil
  | k + 1 => by
    rw [List.replicate_succ, List.replicate_succ, List.flatten_cons, List.flatten_cons]
    exact r.append (flat_rep r k)
theorem RpL.one {d : PV} {x : V} (h : Rp K H m n d x) : RpL K H m n [d] [x] := .cons h .nil
theorem RpL.ints : ∀ {ns : List Int} {xs : List V}, RpL K H m n (ns.map PV.int) xs → xs = ns.map V.int
  | [], _, .nil => rfl
  | _ :: _, _, .cons (.int _) r => by rw [List.map_cons, RpL.ints r]
theorem RpL.of_ints : ∀ {ns : List Int}, RpL K H m n (ns.map PV.int) (ns.map V.int)
  | [] => .nil
  | i :: _ => .cons (.int i) RpL.of_ints
theorem RpL.bls : ∀ {ns : List Bool} {xs : List V}, RpL K H m n (ns.map PV.bl) xs → xs = ns.map V.bl
  | [], _, .nil => rfl
  | _ :: _, _, .cons (.bl _) r => by rw [List.map_cons, RpL.bls r]
theorem RpL.strs : ∀ {ns : List Str} {xs : List V}, RpL K H m n (ns.map PV.str) xs → xs = ns.map V.str
  | [], _, .nil => rfl
  | _ :: _, _, .cons (.str _) r => by rw [List.map_cons, RpL.strs r]

/-! ### heaps -/
theorem sqT_upd {p a : Addr} {o : HO} {xs : List V} (hp : H p = none ∨ Mut (H p)) (h : SqT K H a xs) : SqT K (upd H p o) a xs := by
  have ne : ∀ u, H a = some u → ¬ Mut (some u) → a ≠ p := by
    intro u e nm q
    subst q
    rcases hp with hp | hp
    · rw [hp] at e; cases e
    · rw [e] at hp; exact nm hp
  rcases h with (h | ⟨ob, h⟩) | h
  · exact .inl (.inl (by rw [upd_ne (ne _ h (fun z => z))]; exact h))
  · exact .inl (.inr ⟨ob, by rw [upd_ne (ne _ h (fun z => z))]; exact h⟩)
  · exact .inr h
theorem fzL_upd {p a : Addr} {o : HO} {xs : List V} (hp : H p = none ∨ Mut (H p)) (h : FzL K H a xs) : FzL K (upd H p o) a xs := by
  rcases h with ⟨ob, h⟩ | h
  · have ne : a ≠ p := by
      intro q; subst q
      rcases hp with hp | hp
      · rw [hp] at h; cases h
      · rw [h] at hp; exact hp
    exact .inl ⟨ob, by rw [upd_ne ne]; exact h⟩
  · exact .inr h
theorem ext_upd {p : Addr} {o : HO} (hp : H p = none ∨ Mut (H p)) : Ext K n m H m (upd H p o) :=
  ⟨fun _ _ => rfl, fun _ _ h => sqT_upd hp h, fun d fv h => by
    have ne : d ≠ p := by
      intro q; subst q
      rcases hp with hp | hp
      · rw [hp] at h; cases h
      · rw [h] at hp; exact hp
    rw [upd_ne ne]; exact h⟩

/-- an object elsewhere stays what it is -/
theorem Ro.upd {p a : Addr} {o : HO} {po : PO} (hp : H p = none ∨ Mut (H p)) (ha : isMut po = true → a ≠ p) (h : Ro K mg H m n po a) : Ro K mg (upd H p o) m n po a := by
  have e : Ext K n m H m (L2.upd H p o) := ext_upd hp
  cases po with
  | lst l =>
    obtain ⟨xs, h1, h2⟩ := h
    exact ⟨xs, by rw [upd_ne (ha rfl)]; exact h1, h2.mono e (Nat.le_refl _)⟩
  | fz l =>
    obtain ⟨xs, h1, h2⟩ := h
    exact ⟨xs, fzL_upd hp h1, h2.mono e (Nat.le_refl _)⟩
  | dct t l =>
    rcases h with ⟨ht, xs, h1, h2⟩ | ⟨ht, xs, h1, h2⟩
    · exact .inl ⟨ht, xs, by rw [upd_ne (ha rfl)]; exact h1, h2.mono e (Nat.le_refl _)⟩
    · exact .inr ⟨ht, xs, by rw [upd_ne (ha rfl)]; exact h1, h2.mono e (Nat.le_refl _)⟩
  | ins c fs =>
    obtain ⟨C, dx, fv, h1, h2, h3⟩ := h
    exact ⟨C, dx, fv, by rw [upd_ne (ha rfl)]; exact h1, h2, h3.mono e (Nat.le_refl _)⟩
theorem Ro.mono (e : Ext K n m H m' H) (hn : n ≤ n') {po : PO} {a : Addr} (h : Ro K mg H m n po a) : Ro K mg H m' n' po a := by
  cases po with
  | lst l =>
    obtain ⟨xs, h1, h2⟩ := h
    exact ⟨xs, h1, h2.mono e hn⟩
  | fz l =>
    obtain ⟨xs, h1, h2⟩ := h
    exact ⟨xs, h1, h2.mono e hn⟩
  | dct t l =>
    rcases h with ⟨ht, xs, h1, h2⟩ | ⟨ht, xs, h1, h2⟩
    · exact .inl ⟨ht, xs, h1, h2.mono e hn⟩
    · exact .inr ⟨ht, xs, h1, h2.mono e hn⟩
  | ins c fs =>
    obtain ⟨C, dx, fv, h1, h2, h3⟩ := h
    exact ⟨C, dx, fv, h1, h2, h3.mono e hn⟩
theorem Ro.there {po : PO} {a : Addr} (h : Ro K mg H m n po a) (hm : isMut po = true) : Mut (H a) ∧ H a ≠ none := by
  cases po with
  | fz l => cases hm
  | lst l => obtain ⟨xs, h1, _⟩ := h; rw [h1]; exact ⟨trivial, by simp⟩
  | dct t l =>
    rcases h with ⟨_, xs, h1, _⟩ | ⟨_, xs, h1, _⟩ <;> (rw [h1]; exact ⟨trivial, by simp⟩)
  | ins c fs => obtain ⟨C, dx, fv, h1, _⟩ := h; rw [h1]; exact ⟨trivial, by simp⟩

/-- the map with one more place -/
def mext (m : Nat → Addr) (n : Nat) (p : Addr) : Nat → Addr := fun k => if k = n then p else m k
theorem mext_same {p : Addr} : mext m n p n = p := if_pos rfl
theorem mext_lt {p : Addr} {k : Nat} (h : k < n) : mext m n p k = m k := if_neg (Nat.ne_of_lt h)
theorem ext_mext {p : Addr} : Ext K n m H (mext m n p) H := ⟨fun _ hk => mext_lt hk, fun _ _ h => h, fun _ _ h => h⟩

theorem get_snoc {α : Type} {S : List α} {o x : α} {k : Nat} (h : (S ++ [o])[k]? = some x) : (k < S.length ∧ S[k]? = some x) ∨ (k = S.length ∧ x = o) := by
  by_cases hk : k < S.length
  · rw [List.getElem?_append_left hk] at h
    exact .inl ⟨hk, h⟩
  · rw [List.getElem?_append_right (by omega)] at h
    have h2 : k - S.length = 0 := by
      cases q : k - S.length with
      | zero => rfl
      | succ j => rw [q] at h; simp at h
    rw [h2] at h
    simp at h
    exact .inr ⟨by omega, h.symm⟩
theorem lt_of_get {α : Type} {S : List α} {x : α} {k : Nat} (h : S[k]? = some x) : k < S.length := (List.getElem?_eq_some_iff.mp h).1

/-- a new object joins the store -/
theorem StS.push {S : Sto} {p : Addr} {ho : HO} {po : PO} (st : StS K mg m S H) (hp : H p = none) (hm : isMut po = true)
    (new : Ro K mg (upd H p ho) (mext m S.length p) (S.length + 1) po p) : StS K mg (mext m S.length p) (S ++ [po]) (upd H p ho) := by
  have nep : ∀ (k : Nat) (o : PO), S[k]? = some o → isMut o = true → m k ≠ p := fun k o e hmu q => by
    have := ((st.obj k o e).there hmu).2
    rw [q, hp] at this; exact this rfl
  refine ⟨fun k o e => ?_, fun j k oj ok ej ek mj mk q => ?_⟩
  · rw [List.length_append, List.length_singleton]
    rcases get_snoc e with ⟨hk, eo⟩ | ⟨hk, eo⟩
    · rw [mext_lt hk]
      exact ((st.obj k o eo).upd (o := ho) (.inl hp) (fun hmu => nep k o eo hmu)).mono ext_mext (Nat.le_succ _)
    · subst hk; subst eo
      rw [mext_same]; exact new
  · rcases get_snoc ej with ⟨hj, ej⟩ | ⟨hj, ej⟩ <;> rcases get_snoc ek with ⟨hk, ek⟩ | ⟨hk, ek⟩
    · rw [mext_lt hj, mext_lt hk] at q
      exact st.inj j k oj ok ej ek mj mk q
    · subst hk
      rw [mext_lt hj, mext_same] at q
      exact absurd q (nep j oj ej mj)
    · subst hj
      rw [mext_same, mext_lt hk] at q
      exact absurd q.symm (nep k ok ek mk)
    · rw [hj, hk]
theorem ext_push {p : Addr} {ho : HO} (hp : H p = none) : Ext K n m H (mext m n p) (upd H p ho) :=
  (ext_upd (m := m) (.inl hp)).trans ext_mext (Nat.le_refl _)
/-- an object of the store is written -/
theorem StS.write {S : Sto} {k : Nat} {ho : HO} {po po' : PO} (st : StS K mg m S H) (hk : S[k]? = some po) (hm : isMut po = true) (hm' : isMut po' = true)
    (new : Ro K mg (upd H (m k) ho) m S.length po' (m k)) : StS K mg m (S.set k po') (upd H (m k) ho) := by
  have mu := ((st.obj k po hk).there hm).1
  have hlt := lt_of_get hk
  refine ⟨fun j o e => ?_, fun i j oi oj ei ej mi mj q => ?_⟩
  · rw [List.length_set]
    by_cases hj : j = k
    · subst hj
      rw [List.getElem?_set_self hlt] at e
      cases e; exact new
    · rw [List.getElem?_set_ne (Ne.symm hj)] at e
      exact (st.obj j o e).upd (.inr mu) fun hmo q => hj (st.inj j k o po e hk hmo hm q)
  · have old : ∀ (i : Nat) (oi : PO), (S.set k po')[i]? = some oi → isMut oi = true → ∃ o, S[i]? = some o ∧ isMut o = true := fun i oi e mi => by
      by_cases hi : i = k
      · subst hi; exact ⟨po, hk, hm⟩
      · rw [List.getElem?_set_ne (Ne.symm hi)] at e
        exact ⟨oi, e, mi⟩
    obtain ⟨o1, e1, m1⟩ := old i oi ei mi
    obtain ⟨o2, e2, m2⟩ := old j oj ej mj
    exact st.inj i j o1 o2 e1 e2 m1 m2 q
theorem StS.mut {S : Sto} {k : Nat} {po : PO} (st : StS K mg m S H) (hk : S[k]? = some po) (hm : isMut po = true) : Mut (H (m k)) := ((st.obj k po hk).there hm).1
end

/-! ### what is wanted behind an expression -/
section
variable (K : PySem.W.Frag) (mg : Str → Option Value)
def RX (H : Hp) (m : Nat → Addr) (n : Nat) (e : Xn) (cls : Value) (dd : Option Addr) : Prop :=
  ∃ C, cls = .ref C ∧ mg e.c = some (.ref C) ∧ ((e.fs = [] ∧ dd = none) ∨ (e.fs ≠ [] ∧ ∃ d fv, dd = some d ∧ H d = some (.xd fv) ∧ RpF K H m n e.fs fv))
def PostX (W : WX) (σ : L2.St) (m : Nat → Addr) (S : Sto) (H : Hp) (e : Xn) (S' : Sto) : Prop :=
  ∀ cls dd m' H', S.length ≤ S'.length → Ext K S.length m H m' H' → StS K mg m' S' H' → RX K mg H' m' S'.length e cls dd → W cls dd σ H'
/-- how a result stands in the heap -/
abbrev Rel (α β : Type) := Hp → (Nat → Addr) → Nat → α → β → Prop
def rE : Rel PV V := fun H m n d v => Rp K H m n d v
def rA : Rel (List PV) (List V) := fun H m n d v => RpL K H m n d v
def rB : Rel Bool Bool := fun _ _ _ d v => d = v
def PostG {α β : Type} (rel : Rel α β) (W : WX) (σ : L2.St) (m : Nat → Addr) (S : Sto) (H : Hp) (r : R α) (Q : β → Hp → Prop) : Prop :=
  match r with
  | .ok d S' => ∀ v m' H', S.length ≤ S'.length → Ext K S.length m H m' H' → StS K mg m' S' H' → rel H' m' S'.length d v → Q v H'
  | .exc e S' => PostX K mg W σ m S H e S'
def PostS (W : WX) (m : Nat → Addr) (S : Sto) (H : Hp) (r : RS) (D : Ends) : Prop :=
  match r with
  | .next ρ' S' => ∀ σ' m' H', S.length ≤ S'.length → Ext K S.length m H m' H' → StS K mg m' S' H' → EnR K H' m' S'.length ρ' σ' → D.nx σ' H'
  | .ret d S' => ∀ v m' H', S.length ≤ S'.length → Ext K S.length m H m' H' → StS K mg m' S' H' → Rp K H' m' S'.length d v → D.rt v H'
  | .brk ρ' S' => ∀ σ' m' H', S.length ≤ S'.length → Ext K S.length m H m' H' → StS K mg m' S' H' → EnR K H' m' S'.length ρ' σ' → D.bk σ' H'
  | .ctn ρ' S' => ∀ σ' m' H', S.length ≤ S'.length → Ext K S.length m H m' H' → StS K mg m' S' H' → EnR K H' m' S'.length ρ' σ' → D.ct σ' H'
  | .exc e ρ' S' => ∀ cls dd σ' m' H', S.length ≤ S'.length → Ext K S.length m H m' H' → StS K mg m' S' H' → EnR K H' m' S'.length ρ' σ' → RX K mg H' m' S'.length e cls dd → W cls dd σ' H'
def tG {α β : Type} (rel : Rel α β) (W : WX) (f : En → Sto → Option (R α)) : L2.St → Hp → (β → Hp → Prop) → Prop :=
  fun σ H Q => ∃ m ρ S r, StS K mg m S H ∧ EnR K H m S.length ρ σ ∧ f ρ S = some r ∧ PostG K mg rel W σ m S H r Q
abbrev tD (W : WX) (f : DE) : TE := tG K mg (rE K) W f
abbrev tA (W : WX) (f : DA) : TA := tG K mg (rA K) W f
abbrev tT (W : WX) (f : DB) : TT := tG K mg rB W f
def tS (W : WX) (f : DS) : TS := fun D σ H => ∃ m ρ S r, StS K mg m S H ∧ EnR K H m S.length ρ σ ∧ f ρ S = some r ∧ PostS K mg W m S H r D
end

section
variable {K : PySem.W.Frag} {mg : Str → Option Value} {W : WX} {σ : L2.St} {m m' : Nat → Addr} {S S' : Sto} {H H' : Hp}
/-- seen from further on -/
theorem PostX.on {e : Xn} {T : Sto} (le : S.length ≤ S'.length) (x : Ext K S.length m H m' H') (h : PostX K mg W σ m S H e T) : PostX K mg W σ m' S' H' e T :=
  fun cls dd m2 H2 l e2 s r => h cls dd m2 H2 (Nat.le_trans le l) (x.trans e2 le) s r
theorem PostG.on {α β : Type} {rel : Rel α β} {r : R α} {Q : β → Hp → Prop} (le : S.length ≤ S'.length) (x : Ext K S.length m H m' H') (h : PostG K mg rel W σ m S H r Q) : PostG K mg rel W σ m' S' H' r Q := by
  cases r with
  | ok d T => exact fun v m2 H2 l e2 s r => h v m2 H2 (Nat.le_trans le l) (x.trans e2 le) s r
  | exc e T => exact PostX.on le x h
theorem PostS.on {r : RS} {D : Ends} (le : S.length ≤ S'.length) (x : Ext K S.length m H m' H') (h : PostS K mg W m S H r D) : PostS K mg W m' S' H' r D := by
  cases r with
  | next ρ T => exact fun s2 m2 H2 l e2 s => h s2 m2 H2 (Nat.le_trans le l) (x.trans e2 le) s
  | ret v T => exact fun v m2 H2 l e2 s => h v m2 H2 (Nat.le_trans le l) (x.trans e2 le) s
  | brk ρ T => exact fun s2 m2 H2 l e2 s => h s2 m2 H2 (Nat.le_trans le l) (x.trans e2 le) s
  | ctn ρ T => exact fun s2 m2 H2 l e2 s => h s2 m2 H2 (Nat.le_trans le l) (x.trans e2 le) s
  | exc e ρ T => exact fun cls dd s2 m2 H2 l e2 s => h cls dd s2 m2 H2 (Nat.le_trans le l) (x.trans e2 le) s
end
/-- a relation that later heaps keep -/
def Keeps (K : PySem.W.Frag) {α β : Type} (rel : Rel α β) : Prop := ∀ H m n H' m' n' d v, Ext K n m H m' H' → n ≤ n' → rel H m n d v → rel H' m' n' d v
theorem keeps_E {K : PySem.W.Frag} : Keeps K (rE K) := fun _ _ _ _ _ _ _ _ e h r => Rp.mono e h r
theorem keeps_A {K : PySem.W.Frag} : Keeps K (rA K) := fun _ _ _ _ _ _ _ _ e h r => RpL.mono e h r
theorem keeps_B {K : PySem.W.Frag} : Keeps K rB := fun _ _ _ _ _ _ _ _ _ _ r => r
section
variable {K : PySem.W.Frag} {mg : Str → Option Value} {W : WX} {σ : L2.St} {H : Hp} {α β γ α' β' γ' : Type} {ra : Rel α α'} {rb : Rel β β'} {rc : Rel γ γ'}
/-- one part, then the rest -/
theorem bind1 {f : En → Sto → Option (R α)} {k : En → α → Sto → Option (R γ)} {Q : γ' → Hp → Prop} (h : tG K mg rc W (fun ρ S => bR (f ρ S) (k ρ)) σ H Q) :
    tG K mg ra W f σ H fun v H1 => ∃ m ρ S d r, StS K mg m S H1 ∧ EnR K H1 m S.length ρ σ ∧ ra H1 m S.length d v ∧ k ρ d S = some r ∧ PostG K mg rc W σ m S H1 r Q := by
  obtain ⟨m, ρ, S, r, s, e, hf, p⟩ := h
  have hf : bR (f ρ S) (k ρ) = some r := hf
  cases q : f ρ S with
  | none => rw [q] at hf; cases hf
  | some z =>
    rw [q] at hf
    cases z with
    | exc x T =>
      cases hf
      exact ⟨m, ρ, S, .exc x T, s, e, q, p⟩
    | ok d T => exact ⟨m, ρ, S, .ok d T, s, e, q, fun v m' H' le x s' rv => ⟨m', ρ, T, d, r, s', e.mono x le, rv, hf, p.on le x⟩⟩
/-- two parts -/
theorem bind2 (ka : Keeps K ra) {f : En → Sto → Option (R α)} {g : En → Sto → Option (R β)} {k : En → α → β → Sto → Option (R γ)} {Q : γ' → Hp → Prop}
    (h : tG K mg rc W (fun ρ S => bR (f ρ S) fun x S1 => bR (g ρ S1) fun y S2 => k ρ x y S2) σ H Q) :
    tG K mg ra W f σ H fun v H1 => tG K mg rb W g σ H1 fun u H2 => ∃ m ρ S d d' r, StS K mg m S H2 ∧ EnR K H2 m S.length ρ σ ∧ ra H2 m S.length d v ∧ rb H2 m S.length d' u ∧ k ρ d d' S = some r ∧ PostG K mg rc W σ m S H2 r Q := by
  obtain ⟨m, ρ, S, r, s, e, hf, p⟩ := bind1 (ra := ra) h
  refine ⟨m, ρ, S, r, s, e, hf, ?_⟩
  cases r with
  | exc x T => exact p
  | ok d T =>
    intro v m1 H1 le x s1 rv
    obtain ⟨m2, ρ2, S2, d2, r2, s2, e2, rv2, hk, p2⟩ := p v m1 H1 le x s1 rv
    have hk : bR (g ρ2 S2) (fun y S3 => k ρ2 d2 y S3) = some r2 := hk
    cases q : g ρ2 S2 with
    | none => rw [q] at hk; cases hk
    | some z =>
      rw [q] at hk
      cases z with
      | exc x T =>
        cases hk
        exact ⟨m2, ρ2, S2, .exc x T, s2, e2, q, p2⟩
      | ok d' T' => exact ⟨m2, ρ2, S2, .ok d' T', s2, e2, q, fun u m' H' le' x' s' ru => ⟨m', ρ2, T', d2, d', r2, s', e2.mono x' le', ka _ _ _ _ _ _ _ _ x' le' rv2, ru, hk, p2.on le' x'⟩⟩
end
theorem _root_.L2.PE.imp {X : Cx} {e : Expr} {t t' : TE} (h : PE X e t) (i : ∀ σ H Q, t' σ H Q → t σ H Q) : PE X e t' := ⟨fun pins s σ H Q I q => h.run pins s σ H Q I (i _ _ _ q)⟩
theorem _root_.L2.PT.imp {X : Cx} {e : Expr} {t t' : TT} (h : PT X e t) (i : ∀ σ H Q, t' σ H Q → t σ H Q) : PT X e t' := ⟨fun pins s σ H Q I q => h.run pins s σ H Q I (i _ _ _ q)⟩
theorem _root_.L2.PW.imp {X : Cx} {e : Expr} {t t' : TT} (h : PW X e t) (i : ∀ σ H Q, t' σ H Q → t σ H Q) : PW X e t' := ⟨fun whole pins s σ H Q I q => h.run whole pins s σ H Q I (i _ _ _ q)⟩
theorem _root_.L2.PA.imp {X : Cx} {e : List Expr} {t t' : TA} (h : PA X e t) (i : ∀ σ H Q, t' σ H Q → t σ H Q) : PA X e t' := ⟨fun pos pins s σ H Q I q => h.run pos pins s σ H Q I (i _ _ _ q)⟩
theorem _root_.L2.PS.imp {X : Cx} {e : Stmt} {t t' : TS} (h : PS X e t) (i : ∀ D σ H, t' D σ H → t D σ H) : PS X e t' := ⟨fun pins s σ H Q I q => h.run pins s σ H Q I (i _ _ _ q)⟩
theorem _root_.L2.PSs.imp {X : Cx} {e : List Stmt} {t t' : TS} (h : PSs X e t) (i : ∀ D σ H, t' D σ H → t D σ H) : PSs X e t' := ⟨fun pins s σ H Q I q => h.run pins s σ H Q I (i _ _ _ q)⟩
end D

/-! D1: expressions: their denotations. -/
namespace D
open PySem L2

abbrev PEd (X : Cx) (W : WX) (e : Expr) (f : DE) : Prop := PE X e (tD X.K X.mg W f)
abbrev PTd (X : Cx) (W : WX) (e : Expr) (f : DB) : Prop := PT X e (tT X.K X.mg W f)
abbrev PWd (X : Cx) (W : WX) (e : Expr) (f : DB) : Prop := PW X e (tT X.K X.mg W f)
abbrev PAd (X : Cx) (W : WX) (es : List Expr) (f : DA) : Prop := PA X es (tA X.K X.mg W f)

theorem tG.mono {K : PySem.W.Frag} {mg : Str → Option Value} {W : WX} {α β : Type} {rel : Rel α β} {f : En → Sto → Option (R α)} {σ : L2.St} {H : Hp} {Q Q' : β → Hp → Prop} (h : tG K mg rel W f σ H Q) (q : ∀ v H, Q v H → Q' v H) :
    tG K mg rel W f σ H Q' := by
  obtain ⟨m, ρ, S, r, s, e, hf, p⟩ := h
  refine ⟨m, ρ, S, r, s, e, hf, ?_⟩
  cases r with
  | ok d T => exact fun v m' H' a b c d => q _ _ (p v m' H' a b c d)
  | exc x T => exact p

/-! ### names, constants -/
def dVar (i : Nat) : DE := fun ρ S => match ρ[i]? with
  | some (some v) => some (.ok v S)
  | _ => none
def dC (v : PV) : DE := fun _ S => some (.ok v S)
section
variable {X : Cx} {W : WX} {pos : Pos}
theorem de_var (i : Nat) {x : Str} (hN : X.N[i]? = some x := by rfl) (hv : Vis X.env.scope x := by first | exact Or.inl rfl | exact Or.inr (Or.inl rfl) | exact Or.inr (Or.inr rfl)) (hd : (x == ("__debug__" : Str)) = false := by decide)
    (hcd : (x == ("__classdict__" : Str)) = false := by decide) : PEd X W (.Name x pos) (dVar i) := by
  refine (pe_var hN hv hd hcd).imp fun σ H Q h => ?_
  obtain ⟨m, ρ, S, r, s, e, hf, p⟩ := h
  unfold dVar at hf
  split at hf
  · rename_i v hv
    cases hf
    obtain ⟨x, hx, rx⟩ := e.at_ i v hv
    exact ⟨x, hx, p x m H (Nat.le_refl _) Ext.refl s rx⟩
  · cases hf
theorem de_c {e : Expr} {v : V} {d : PV} (h : PE X e (tC v)) (hr : ∀ K H m n, Rp K H m n d v) : PEd X W e (dC d) := by
  refine h.imp fun σ H Q h => ?_
  obtain ⟨m, ρ, S, r, s, e, hf, p⟩ := h
  cases hf
  exact p v m H (Nat.le_refl _) Ext.refl s (hr _ _ _ _)
theorem de_int {i : Int} {j : Nat} : PEd X W (.Constant (.int i) j pos) (dC (.int i)) := de_c pe_int fun _ _ _ _ => .int i
theorem de_bl {i : Bool} {j : Nat} : PEd X W (.Constant (.bool i) j pos) (dC (.bl i)) := de_c pe_bl fun _ _ _ _ => .bl i
theorem de_str {i : Str} {j : Nat} : PEd X W (.Constant (.str i) j pos) (dC (.str i)) := de_c pe_str fun _ _ _ _ => .str i
theorem de_non {j : Nat} : PEd X W (.Constant .none j pos) (dC .non) := de_c pe_non fun _ _ _ _ => .non
/-- a module's constant -/
theorem de_gint {x : Str} {i : Int} {t : Tok} (hg : Gl X x) (hm : X.mg x = some (.int i t)) (hd : (x == ("__debug__" : Str)) = false := by decide) : PEd X W (.Name x pos) (dC (.int i)) :=
  de_c (pe_glob (v := .int i) hg hm ⟨_, rfl⟩ hd) fun _ _ _ _ => .int i
theorem de_gstr {x : Str} {i : Str} {t : Tok} (hg : Gl X x) (hm : X.mg x = some (.str i t)) (hd : (x == ("__debug__" : Str)) = false := by decide) : PEd X W (.Name x pos) (dC (.str i)) :=
  de_c (pe_glob (v := .str i) hg hm ⟨_, rfl⟩ hd) fun _ _ _ _ => .str i
end

/-! ### operators by values -/
abbrev G2 := PV → PV → Sto → Option (R PV)
abbrev G1 := PV → Sto → Option (R PV)
abbrev GA := List PV → Sto → Option (R PV)
def OkG2 (K : PySem.W.Frag) (mg : Str → Option Value) (r : R2) (g : G2) : Prop :=
  ∀ (W : WX) (σ : L2.St) (m : Nat → Addr) (S : Sto) (H : Hp) (x y : V) (d d' : PV) (z : R PV) (Q : VK), StS K mg m S H → Rp K H m S.length d x → Rp K H m S.length d' y → g d d' S = some z → PostG K mg (rE K) W σ m S H z Q → r x y H Q
def OkG1 (K : PySem.W.Frag) (mg : Str → Option Value) (r : V → Hp → VK → Prop) (g : G1) : Prop :=
  ∀ (W : WX) (σ : L2.St) (m : Nat → Addr) (S : Sto) (H : Hp) (x : V) (d : PV) (z : R PV) (Q : VK), StS K mg m S H → Rp K H m S.length d x → g d S = some z → PostG K mg (rE K) W σ m S H z Q → r x H Q
def OkGA (K : PySem.W.Frag) (mg : Str → Option Value) (r : List V → Hp → VK → Prop) (g : GA) : Prop :=
  ∀ (W : WX) (σ : L2.St) (m : Nat → Addr) (S : Sto) (H : Hp) (x : List V) (d : List PV) (z : R PV) (Q : VK), StS K mg m S H → RpL K H m S.length d x → g d S = some z → PostG K mg (rE K) W σ m S H z Q → r x H Q
def dOp2 (g : G2) (a b : DE) : DE := fun ρ S => bR (a ρ S) fun x S1 => bR (b ρ S1) fun y S2 => g x y S2
def dOp1 (g : G1) (a : DE) : DE := fun ρ S => bR (a ρ S) fun x S1 => g x S1
def dOpA (g : GA) (a : DA) : DE := fun ρ S => bR (a ρ S) fun x S1 => g x S1
/-- one way or the other -/
def gOr2 (g h : G2) : G2 := fun x y S => match g x y S with
  | some z => some z
  | none => h x y S
def gOr1 (g h : G1) : G1 := fun x S => match g x S with
  | some z => some z
  | none => h x S
def gOrA (g h : GA) : GA := fun x S => match g x S with
  | some z => some z
  | none => h x S
section
variable {K : PySem.W.Frag} {mg : Str → Option Value} {W : WX} {σ : L2.St} {H : Hp}
theorem OkG2.or {r r' : R2} {g h : G2} (a : OkG2 K mg r g) (b : OkG2 K mg r' h) : OkG2 K mg (fun x y H Q => r x y H Q ∨ r' x y H Q) (gOr2 g h) := fun W σ m S H x y d d' z Q s r1 r2 e p => by
  unfold gOr2 at e
  cases q : g d d' S with
  | some z' =>
    rw [q] at e
    cases e
    exact .inl (a W σ m S H x y d d' _ Q s r1 r2 q p)
  | none =>
    rw [q] at e
    exact .inr (b W σ m S H x y d d' _ Q s r1 r2 e p)
theorem OkG1.or {r r' : V → Hp → VK → Prop} {g h : G1} (a : OkG1 K mg r g) (b : OkG1 K mg r' h) : OkG1 K mg (fun x H Q => r x H Q ∨ r' x H Q) (gOr1 g h) := fun W σ m S H x d z Q s r1 e p => by
  unfold gOr1 at e
  cases q : g d S with
  | some z' =>
    rw [q] at e
    cases e
    exact .inl (a W σ m S H x d _ Q s r1 q p)
  | none =>
    rw [q] at e
    exact .inr (b W σ m S H x d _ Q s r1 e p)
theorem OkGA.or {r r' : List V → Hp → VK → Prop} {g h : GA} (a : OkGA K mg r g) (b : OkGA K mg r' h) : OkGA K mg (fun x H Q => r x H Q ∨ r' x H Q) (gOrA g h) := fun W σ m S H x d z Q s r1 e p => by
  unfold gOrA at e
  cases q : g d S with
  | some z' =>
    rw [q] at e
    cases e
    exact .inl (a W σ m S H x d _ Q s r1 q p)
  | none =>
    rw [q] at e
    exact .inr (b W σ m S H x d _ Q s r1 e p)
theorem lift2 {r : R2} {g : G2} (hg : OkG2 K mg r g) {fa fb : DE} {Q : VK} (h : tD K mg W (dOp2 g fa fb) σ H Q) : tOp r (tD K mg W fa) (tD K mg W fb) σ H Q :=
  (bind2 (ra := rE K) (rb := rE K) keeps_E h).mono fun v H1 h1 => h1.mono fun u H2 ⟨m, ρ, S, d, d', z, s, e, r1, r2, hk, p⟩ => hg W σ m S H2 v u d d' z Q s r1 r2 hk p
theorem lift1 {r : V → Hp → VK → Prop} {g : G1} (hg : OkG1 K mg r g) {fa : DE} {Q : VK} (h : tD K mg W (dOp1 g fa) σ H Q) : tUn r (tD K mg W fa) σ H Q :=
  (bind1 (ra := rE K) h).mono fun v H1 ⟨m, ρ, S, d, z, s, e, r1, hk, p⟩ => hg W σ m S H1 v d z Q s r1 hk p
theorem liftA {r : List V → Hp → VK → Prop} {g : GA} (hg : OkGA K mg r g) {fa : DA} {Q : VK} (h : tD K mg W (dOpA g fa) σ H Q) : tCB r (tA K mg W fa) σ H Q :=
  (bind1 (ra := rA K) h).mono fun v H1 ⟨m, ρ, S, d, z, s, e, r1, hk, p⟩ => hg W σ m S H1 v d z Q s r1 hk p
/-- the answer changes nothing -/
theorem post_here {m : Nat → Addr} {S : Sto} {d : PV} {v : V} {Q : VK} (s : StS K mg m S H) (r : Rp K H m S.length d v) (p : PostG K mg (rE K) W σ m S H (.ok d S) Q) : Q v H := p v m H (Nat.le_refl _) Ext.refl s r
end
section
variable {X : Cx} {W : WX} {pos : Pos} {a b c : Expr} {fa fb fc : DE}
theorem de_op {op : Operator} {r : R2} {g : G2} (ho : OpR X (binaryOp op) r) (hg : OkG2 X.K X.mg r g) (ha : PEd X W a fa) (hb : PEd X W b fb) : PEd X W (.BinOp a op b pos) (dOp2 g fa fb) := (pe_op ho ha hb).imp fun _ _ _ h => lift2 hg h
theorem de_un {op : UnaryOp} {r : V → Hp → VK → Prop} {g : G1} (ho : UnR X (unaryOp op) r) (hg : OkG1 X.K X.mg r g) (ha : PEd X W a fa) : PEd X W (.UnaryOp op a pos) (dOp1 g fa) := (pe_un ho ha).imp fun _ _ _ h => lift1 hg h
theorem de_cmp {op : CmpOp} {r : R2} {g : G2} (ho : OpR X (compareOp op) r) (hg : OkG2 X.K X.mg r g) (ha : PEd X W a fa) (hb : PEd X W b fb) (hm : behindInMarks op b = false := by with_unfolding_all rfl) : PEd X W (.Compare a [op] [b] pos) (dOp2 g fa fb) :=
  (pe_cmpR ho ha hb hm).imp fun _ _ _ h => lift2 hg h
theorem de_ix {r : R2} {g : G2} (ho : IxR X r) (hg : OkG2 X.K X.mg r g) (ha : PEd X W a fa) (hb : PEd X W b fb) (hs : PlainIx b := by intro _ _; rfl) : PEd X W (.Subscript a b pos) (dOp2 g fa fb) := (pe_ix ho ha hb hs).imp fun _ _ _ h => lift2 hg h

/-! ### tests -/
def asB (r : Option (R PV)) : Option (R Bool) := bR r fun x S => match x with
  | .bl b => some (.ok b S)
  | _ => none
theorem tT_of_test {r : R2} {g : G2} (hg : OkG2 X.K X.mg r g) {σ : L2.St} {H : Hp} {Q : Bool → Hp → Prop} (h : tT X.K X.mg W (fun ρ S => asB (dOp2 g fa fb ρ S)) σ H Q) :
    tTest (tOp r (tD X.K X.mg W fa) (tD X.K X.mg W fb)) σ H Q := by
  refine lift2 hg ((bind1 (ra := rE X.K) h).mono fun v H1 ⟨m, ρ, S, d, z, s, e, r1, hk, p⟩ => ?_)
  cases d <;> try cases hk
  cases r1
  exact ⟨_, rfl, p _ m H1 (Nat.le_refl _) Ext.refl s rfl⟩
/-- a comparison as a test -/
def dCmp (g : G2) (a b : DE) : DB := fun ρ S => asB (dOp2 g a b ρ S)
theorem dt_cmp {op : CmpOp} {r : R2} {g : G2} (ho : OpR X (compareOp op) r) (hg : OkG2 X.K X.mg r g) (ha : PEd X W a fa) (hb : PEd X W b fb) (hm : behindInMarks op b = false := by with_unfolding_all rfl) : PTd X W (.Compare a [op] [b] pos) (dCmp g fa fb) :=
  (pt_cmpR ho ha hb hm).imp fun _ _ _ h => tT_of_test hg h
/-- the truth of a value -/
def truP (x : PV) (S : Sto) : Option Bool := match x with
  | .non => some false
  | .bl b => some b
  | .int i => some (i != 0)
  | .str y => if y.length ≤ 16777216 then some ((y.length : Int) != 0) else none
  | .tup l => some (!l.isEmpty)
  | .ty _ => none
  | .xc _ _ _ => none
  | .loc k => match S[k]? with
    | some (.lst l) => some (!l.isEmpty)
    | some (.fz l) => some (!l.isEmpty)
    | _ => none
def gTru (x : PV) (S : Sto) : Option (R Bool) := match truP x S with
  | some b => some (.ok b S)
  | none => none
theorem isEmpty_rp {K : PySem.W.Frag} {H : Hp} {m : Nat → Addr} {n : Nat} {l : List PV} {xs : List V} (r : RpL K H m n l xs) : (!l.isEmpty) = !xs.isEmpty := by cases r <;> rfl
theorem tru_ok {K : PySem.W.Frag} {mg : Str → Option Value} {H : Hp} {m : Nat → Addr} {S : Sto} {x : PV} {v : V} {b : Bool} (s : StS K mg m S H) (r : Rp K H m S.length x v) (h : truP x S = some b) : TruV K v H b := by
  cases r with
  | non => cases h; rfl
  | bl b => cases h; rfl
  | int i => cases h; rfl
  | ty i => cases h
  | xc _ => cases h
  | str y =>
    unfold truP at h
    dsimp only at h
    split at h
    · rename_i hy
      cases h
      exact ⟨Nat.le_trans hy (by decide), rfl⟩
    · cases h
  | tup hs hl =>
    cases h
    exact .inr (.inl ⟨_, hs, isEmpty_rp hl⟩)
  | @loc k hk =>
    unfold truP at h
    dsimp only at h
    split at h
    · rename_i l e
      cases h
      obtain ⟨xs, h1, h2⟩ := s.obj _ _ e
      exact .inl ⟨xs, .inl (.inl h1), isEmpty_rp h2⟩
    · rename_i l e
      cases h
      obtain ⟨xs, h1, h2⟩ := s.obj _ _ e
      exact .inl ⟨xs, h1.sq, isEmpty_rp h2⟩
    · cases h
def dTru (f : DE) : DB := fun ρ S => bR (f ρ S) fun x S1 => gTru x S1
theorem dt_tru (ha : PEd X W a fa) (he : ∀ whole, isTrue a X.env whole = (do let v ← whole; standAt a.pos; holding [v] (truthy v)) := by intro _; rfl) : PTd X W a (dTru fa) := by
  refine (pt_truth ha he).imp fun σ H Q h => ?_
  refine (bind1 (ra := rE X.K) h).mono fun v H1 ⟨m, ρ, S, d, z, s, e, r1, hk, p⟩ => ?_
  unfold gTru at hk
  split at hk
  · rename_i bb hb
    cases hk
    exact ⟨bb, tru_ok s r1 hb, p _ m H1 (Nat.le_refl _) Ext.refl s rfl⟩
  · cases hk
def dNotT (f : DB) : DB := fun ρ S => bR (f ρ S) fun x S1 => some (.ok (!x) S1)
def dAndT (f g : DB) : DB := fun ρ S => bR (f ρ S) fun x S1 => if x = true then g ρ S1 else some (.ok false S1)
def dOrT (f g : DB) : DB := fun ρ S => bR (f ρ S) fun x S1 => if x = true then some (.ok true S1) else g ρ S1
theorem dt_not {f : DB} (h : PTd X W a f) : PTd X W (.UnaryOp .Not a pos) (dNotT f) := by
  refine (pt_not h).imp fun σ H Q h => ?_
  refine (bind1 (ra := rB) h).mono fun v H1 ⟨m, ρ, S, d, z, s, e, r1, hk, p⟩ => ?_
  cases hk
  cases r1
  exact p _ m H1 (Nat.le_refl _) Ext.refl s rfl
theorem dw_and1 {f : DB} (ha : PTd X W a f) : PWd X W (.BoolOp .And [a] pos) f := pw_and1 ha
theorem dw_or1 {f : DB} (ha : PTd X W a f) : PWd X W (.BoolOp .Or [a] pos) f := pw_or1 ha
theorem dw_and {f g : DB} {rest : List Expr} (ha : PTd X W a f) (hb : PWd X W (.BoolOp .And (b :: rest) pos) g) : PWd X W (.BoolOp .And (a :: b :: rest) pos) (dAndT f g) := by
  refine (pw_and ha hb).imp fun σ H Q h => ?_
  refine (bind1 (ra := rB) h).mono fun v H1 ⟨m, ρ, S, d, z, s, e, r1, hk, p⟩ => ?_
  cases r1
  cases v with
  | true => exact ⟨m, ρ, S, z, s, e, hk, p⟩
  | false =>
    cases hk
    exact p _ m H1 (Nat.le_refl _) Ext.refl s rfl
theorem dw_or {f g : DB} {rest : List Expr} (ha : PTd X W a f) (hb : PWd X W (.BoolOp .Or (b :: rest) pos) g) : PWd X W (.BoolOp .Or (a :: b :: rest) pos) (dOrT f g) := by
  refine (pw_or ha hb).imp fun σ H Q h => ?_
  refine (bind1 (ra := rB) h).mono fun v H1 ⟨m, ρ, S, d, z, s, e, r1, hk, p⟩ => ?_
  cases r1
  cases v with
  | false => exact ⟨m, ρ, S, z, s, e, hk, p⟩
  | true =>
    cases hk
    exact p _ m H1 (Nat.le_refl _) Ext.refl s rfl
theorem PWd.pt {f : DB} (h : PWd X W a f) : PTd X W a f := PW.pt h

/-! ### values of and, or, not, if -/
def dAndV (f g : DE) : DE := fun ρ S => bR (f ρ S) fun x S1 => match truP x S1 with
  | some true => g ρ S1
  | some false => some (.ok x S1)
  | none => none
def dOrV (f g : DE) : DE := fun ρ S => bR (f ρ S) fun x S1 => match truP x S1 with
  | some false => g ρ S1
  | some true => some (.ok x S1)
  | none => none
def dNotV (f : DE) : DE := fun ρ S => bR (f ρ S) fun x S1 => match truP x S1 with
  | some b => some (.ok (.bl (!b)) S1)
  | none => none
def dIf (c : DB) (f g : DE) : DE := fun ρ S => bR (c ρ S) fun x S1 => if x = true then f ρ S1 else g ρ S1
theorem de_if {f : DB} (hc : PTd X W c f) (ha : PEd X W a fa) (hb : PEd X W b fb) : PEd X W (.IfExp c a b pos) (dIf f fa fb) := by
  refine (pe_ifExp hc ha hb).imp fun σ H Q h => ?_
  refine (bind1 (ra := rB) h).mono fun v H1 ⟨m, ρ, S, d, z, s, e, r1, hk, p⟩ => ?_
  cases r1
  cases v with
  | false => exact ⟨m, ρ, S, z, s, e, hk, p⟩
  | true => exact ⟨m, ρ, S, z, s, e, hk, p⟩

/-! ### argument lists, displays -/
def dNil : DA := fun _ S => some (.ok [] S)
def dCons (f : DE) (g : DA) : DA := fun ρ S => bR (f ρ S) fun x S1 => bR (g ρ S1) fun xs S2 => some (.ok (x :: xs) S2)
theorem da_nil : PAd X W [] dNil := by
  refine pa_nil.imp fun σ H Q h => ?_
  obtain ⟨m, ρ, S, r, s, e, hf, p⟩ := h
  cases hf
  exact p _ m H (Nat.le_refl _) Ext.refl s .nil
theorem da_cons {es : List Expr} {g : DA} (ha : PEd X W a fa) (hb : PAd X W es g) (hs : starEach (a :: es) X.env = (false, eval a X.env) :: starEach es X.env := by rfl) : PAd X W (a :: es) (dCons fa g) := by
  refine (pa_cons ha hb hs).imp fun σ H Q h => ?_
  refine (bind2 (ra := rE X.K) (rb := rA X.K) keeps_E h).mono fun v H1 h1 => h1.mono fun u H2 ⟨m, ρ, S, d, d', z, s, e, r1, r2, hk, p⟩ => ?_
  cases hk
  exact p _ m H2 (Nat.le_refl _) Ext.refl s (.cons r1 r2)
def gTupP : GA := fun l S => if l.length ≤ 16777216 then some (.ok (.tup l) S) else none
def gLstP : GA := fun l S => if l.length ≤ 16777216 then some (.ok (.loc S.length) (S ++ [.lst l])) else none
theorem new_list {K : PySem.W.Frag} {mg : Str → Option Value} {σ : L2.St} {H : Hp} {m : Nat → Addr} {S : Sto} {l : List PV} {xs : List V} {Q : VK} (s : StS K mg m S H) (r : RpL K H m S.length l xs)
    (p : PostG K mg (rE K) W σ m S H (.ok (.loc S.length) (S ++ [.lst l])) Q) (q : Addr) (hq : H q = none) : Q (.ref q) (upd H q (.lst xs)) := by
  have st := s.push (p := q) (ho := .lst xs) (po := .lst l) hq rfl ⟨xs, upd_same, r.mono (ext_push hq) (Nat.le_succ _)⟩
  have rp : Rp K (upd H q (.lst xs)) (mext m S.length q) (S ++ [PO.lst l]).length (.loc S.length) (.ref (mext m S.length q S.length)) := .loc (by simp)
  rw [mext_same] at rp
  exact p _ (mext m S.length q) _ (by simp) (ext_push hq) st rp
theorem new_tup {K : PySem.W.Frag} {mg : Str → Option Value} {σ : L2.St} {H : Hp} {m : Nat → Addr} {S : Sto} {l : List PV} {xs : List V} {Q : VK} (s : StS K mg m S H) (r : RpL K H m S.length l xs)
    (p : PostG K mg (rE K) W σ m S H (.ok (.tup l) S) Q) (q : Addr) (hq : H q = none) : Q (.ref q) (upd H q (.tup xs)) := by
  have ex : Ext K S.length m H m (upd H q (.tup xs)) := ext_upd (.inl hq)
  refine p _ m _ (Nat.le_refl _) ex ⟨fun k o e => (s.obj k o e).upd (.inl hq) (fun hm z => ?_), s.inj⟩ (.tup (.inl (.inl upd_same)) (r.mono ex (Nat.le_refl _)))
  have := ((s.obj k o e).there hm).2
  rw [z, hq] at this
  exact this rfl
def dTup (f : DA) : DE := dOpA gTupP f
def dLst (f : DA) : DE := dOpA gLstP f
theorem de_tup {es : List Expr} {f : DA} {x1 : Nat} (h : PAd X W es f) : PEd X W (.Tuple es x1 pos) (dTup f) := by
  refine (pe_tup h).imp fun σ H Q h => ?_
  refine (bind1 (ra := rA X.K) h).mono fun v H1 ⟨m, ρ, S, d, z, s, e, r1, hk, p⟩ => ?_
  unfold gTupP at hk
  split at hk
  · rename_i hl
    cases hk
    exact ⟨by rw [← r1.length]; exact Nat.le_trans hl (by decide), fun q hq => new_tup s r1 p q hq⟩
  · cases hk
theorem de_lst {es : List Expr} {f : DA} (h : PAd X W es f) : PEd X W (.List es pos) (dLst f) := by
  refine (pe_lst h).imp fun σ H Q h => ?_
  refine (bind1 (ra := rA X.K) h).mono fun v H1 ⟨m, ρ, S, d, z, s, e, r1, hk, p⟩ => ?_
  unfold gLstP at hk
  split at hk
  · rename_i hl
    cases hk
    exact ⟨by rw [← r1.length]; exact Nat.le_trans hl (by decide), fun q hq => new_list s r1 p q hq⟩
  · cases hk
end
end D

/-! D2: statements, loops, defs. -/
namespace D
open PySem L2

abbrev PSd (X : Cx) (W : WX) (st : Stmt) (f : DS) : Prop := PS X st (tS X.K X.mg W f)
abbrev PSsd (X : Cx) (W : WX) (sts : List Stmt) (f : DS) : Prop := PSs X sts (tS X.K X.mg W f)
def bS {α : Type} (ρ : En) (r : Option (R α)) (k : α → Sto → Option RS) : Option RS :=
  match r with
  | some (.ok v S) => k v S
  | some (.exc e S) => some (.exc e ρ S)
  | none => none
/-- a statement, then the next -/
def bN (r : Option RS) (k : En → Sto → Option RS) : Option RS :=
  match r with
  | some (.next ρ S) => k ρ S
  | r => r
section
variable {K : PySem.W.Frag} {mg : Str → Option Value} {W : WX} {σ : L2.St} {H : Hp} {α α' : Type} {ra : Rel α α'}
theorem post_exc {m : Nat → Addr} {S S' : Sto} {e : Xn} {ρ : En} {D : Ends} (en : EnR K H m S.length ρ σ) (p : PostS K mg W m S H (.exc e ρ S') D) : PostX K mg W σ m S H e S' :=
  fun cls dd m' H' le x s r => p cls dd σ m' H' le x s (en.mono x le) r
theorem bindS {f : En → Sto → Option (R α)} {k : En → α → Sto → Option RS} {D : Ends} (h : tS K mg W (fun ρ S => bS ρ (f ρ S) (k ρ)) D σ H) :
    tG K mg ra W f σ H fun v H1 => ∃ m ρ S d r, StS K mg m S H1 ∧ EnR K H1 m S.length ρ σ ∧ ra H1 m S.length d v ∧ k ρ d S = some r ∧ PostS K mg W m S H1 r D := by
  obtain ⟨m, ρ, S, r, s, e, hf, p⟩ := h
  have hf : bS ρ (f ρ S) (k ρ) = some r := hf
  cases q : f ρ S with
  | none => rw [q] at hf; cases hf
  | some z =>
    rw [q] at hf
    cases z with
    | exc x T =>
      cases hf
      exact ⟨m, ρ, S, .exc x T, s, e, q, post_exc e p⟩
    | ok d T => exact ⟨m, ρ, S, .ok d T, s, e, q, fun v m' H' le x s' rv => ⟨m', ρ, T, d, r, s', e.mono x le, rv, hf, p.on le x⟩⟩
end

/-! ### simple statements -/
def dPass : DS := fun ρ S => some (.next ρ S)
def dBrk : DS := fun ρ S => some (.brk ρ S)
def dCtn : DS := fun ρ S => some (.ctn ρ S)
def dSeq (f g : DS) : DS := fun ρ S => bN (f ρ S) g
def dRet (f : DE) : DS := fun ρ S => bS ρ (f ρ S) fun v S1 => some (.ret v S1)
def dRetN : DS := fun _ S => some (.ret .non S)
def dExpr (f : DE) : DS := fun ρ S => bS ρ (f ρ S) fun _ S1 => some (.next ρ S1)
def dIfS (c : DB) (f g : DS) : DS := fun ρ S => bS ρ (c ρ S) fun b S1 => if b = true then f ρ S1 else g ρ S1
def dSet (i : Nat) (f : DE) : DS := fun ρ S => bS ρ (f ρ S) fun v S1 => some (.next (ρ.set i (some v)) S1)
section
variable {X : Cx} {W : WX} {pos : Pos} {e : Expr} {fe : DE} {f g : DS} {st : Stmt} {sts : List Stmt}
theorem EnR.set {K : PySem.W.Frag} {H : Hp} {m : Nat → Addr} {n i : Nat} {ρ : En} {σ : L2.St} {d : PV} {v : V} (h : EnR K H m n ρ σ) (r : Rp K H m n d v) : EnR K H m n (ρ.set i (some d)) (σ.set i (some v)) := by
  refine ⟨by rw [List.length_set, List.length_set]; exact h.len, fun j w e => ?_⟩
  by_cases hj : i = j
  · subst hj
    by_cases hl : i < ρ.length
    · rw [List.getElem?_set_self hl] at e
      cases e
      exact ⟨v, by rw [List.getElem?_set_self (h.len ▸ hl)], r⟩
    · rw [List.set_eq_of_length_le (by omega)] at e
      exact absurd (List.getElem?_eq_some_iff.mp e).1 hl
  · rw [List.getElem?_set_ne hj] at e
    rw [List.getElem?_set_ne hj]
    exact h.at_ j w e
theorem EnR.unset {K : PySem.W.Frag} {H : Hp} {m : Nat → Addr} {n : Nat} {ρ : En} {σ : L2.St} {o : Option V} (i : Nat) (h : EnR K H m n ρ σ) (ho : o = none ∨ σ.set i o = σ ∨ True) : EnR K H m n (ρ.set i none) σ := by
  refine ⟨by rw [List.length_set]; exact h.len, fun j w e => ?_⟩
  by_cases hj : i = j
  · subst hj
    by_cases hl : i < ρ.length
    · rw [List.getElem?_set_self hl] at e
      cases e
    · rw [List.set_eq_of_length_le (by omega)] at e
      exact h.at_ i w e
  · rw [List.getElem?_set_ne hj] at e
    exact h.at_ j w e
def killE (l : List Nat) (ρ : En) : En := l.foldl (fun ρ i => ρ.set i none) ρ
theorem EnR.kill {K : PySem.W.Frag} {H : Hp} {m : Nat → Addr} {n : Nat} {σ : L2.St} : ∀ (l : List Nat) {ρ : En}, EnR K H m n ρ σ → EnR K H m n (killE l ρ) σ
  | [], _, h => h
  | i :: l, ρ, h => EnR.kill l (ρ := ρ.set i none) (h.unset (o := none) i (.inl rfl))
theorem ds_pass : PSd X W (.Pass pos) dPass := ps_pass.imp fun D σ H h => by
  obtain ⟨m, ρ, S, r, s, e, hf, p⟩ := h
  cases hf
  exact p σ m H (Nat.le_refl _) Ext.refl s e
theorem ds_brk : PSd X W (.Break pos) dBrk := ps_break.imp fun D σ H h => by
  obtain ⟨m, ρ, S, r, s, e, hf, p⟩ := h
  cases hf
  exact p σ m H (Nat.le_refl _) Ext.refl s e
theorem ds_ctn : PSd X W (.Continue pos) dCtn := ps_continue.imp fun D σ H h => by
  obtain ⟨m, ρ, S, r, s, e, hf, p⟩ := h
  cases hf
  exact p σ m H (Nat.le_refl _) Ext.refl s e
theorem ds_expr (h : PEd X W e fe) (hs : swapsWith e none pos.line X.env = pure false := by rfl) : PSd X W (.Expr e pos) (dExpr fe) := (ps_expr h hs).imp fun D σ H h =>
  (bindS (ra := rE X.K) h).mono fun v H1 ⟨m, ρ, S, d, r, s, en, r1, hk, p⟩ => by
    cases hk
    exact p σ m H1 (Nat.le_refl _) Ext.refl s en
theorem ds_ret (h : PEd X W e fe) : PSd X W (.Return (some e) pos) (dRet fe) := (ps_ret h).imp fun D σ H h =>
  (bindS (ra := rE X.K) h).mono fun v H1 ⟨m, ρ, S, d, r, s, en, r1, hk, p⟩ => by
    cases hk
    exact p v m H1 (Nat.le_refl _) Ext.refl s r1
theorem ds_retN : PSd X W (.Return none pos) dRetN := ps_retN.imp fun D σ H h => by
  obtain ⟨m, ρ, S, r, s, e, hf, p⟩ := h
  cases hf
  exact p .non m H (Nat.le_refl _) Ext.refl s .non
theorem ds_if {c : Expr} {a b : List Stmt} {fc : DB} (hc : PTd X W c fc) (ha : PSsd X W a f) (hb : PSsd X W b g) : PSd X W (.If c a b pos) (dIfS fc f g) := (ps_if hc ha hb).imp fun D σ H h =>
  (bindS (ra := rB) h).mono fun v H1 ⟨m, ρ, S, d, r, s, en, r1, hk, p⟩ => by
    cases r1
    cases v with
    | true => exact ⟨m, ρ, S, r, s, en, hk, p⟩
    | false => exact ⟨m, ρ, S, r, s, en, hk, p⟩
theorem dss_nil : PSsd X W [] dPass := pss_nil.imp fun D σ H h => by
  obtain ⟨m, ρ, S, r, s, e, hf, p⟩ := h
  cases hf
  exact p σ m H (Nat.le_refl _) Ext.refl s e
theorem dss_one (h : PSd X W st f) : PSsd X W [st] f := pss_one h
theorem dss_cons (h : PSd X W st f) (h2 : PSsd X W sts g) : PSsd X W (st :: sts) (dSeq f g) := (pss_cons h h2).imp fun D σ H h => by
  obtain ⟨m, ρ, S, r, s, e, hf, p⟩ := h
  have hf : bN (f ρ S) g = some r := hf
  show tS X.K X.mg W f { D with nx := tS X.K X.mg W g D } σ H
  cases q : f ρ S with
  | none => rw [q] at hf; cases hf
  | some z =>
    rw [q] at hf
    refine ⟨m, ρ, S, z, s, e, q, ?_⟩
    cases z with
    | next ρ' S' => exact fun σ' m' H' le x s' e' => ⟨m', ρ', S', r, s', e', hf, p.on le x⟩
    | ret v S' => cases hf; exact p
    | brk ρ' S' => cases hf; exact p
    | ctn ρ' S' => cases hf; exact p
    | exc x ρ' S' => cases hf; exact p
theorem ds_set (i : Nat) {x : Str} {pos' : Pos} (hN : X.N.Nodup) (hi : X.N[i]? = some x) (hx : Loc X.env.scope x) (he : PEd X W e fe) (hs : swapsWith e (some (.Name x pos')) pos.line X.env = pure false := by rfl)
    (hf : X.fn x = true ∨ X.env.scope.names.lookup x = some .local := by first | exact .inl rfl | exact .inr rfl | assumption) : PSd X W (.Assign [.Name x pos'] e pos) (dSet i fe) := (ps_set hN hi hx he hs hf).imp fun D σ H h =>
  (bindS (ra := rE X.K) h).mono fun v H1 ⟨m, ρ, S, d, r, s, en, r1, hk, p⟩ => by
    cases hk
    exact p _ m H1 (Nat.le_refl _) Ext.refl s (en.set r1)
end

/-! ### targets -/
abbrev DG := PV → En → Sto → Option (En × Sto)
abbrev DGs := List PV → En → Sto → Option (En × Sto)
def tGt (K : PySem.W.Frag) (mg : Str → Option Value) (g : DG) : TG := fun v σ H Q => ∃ m ρ S d ρ' S', StS K mg m S H ∧ EnR K H m S.length ρ σ ∧ Rp K H m S.length d v ∧ g d ρ S = some (ρ', S') ∧
  ∀ σ' m' H', S.length ≤ S'.length → Ext K S.length m H m' H' → StS K mg m' S' H' → EnR K H' m' S'.length ρ' σ' → Q σ' H'
def tGts (K : PySem.W.Frag) (mg : Str → Option Value) (g : DGs) : TGs := fun v σ H Q => ∃ m ρ S d ρ' S', StS K mg m S H ∧ EnR K H m S.length ρ σ ∧ RpL K H m S.length d v ∧ g d ρ S = some (ρ', S') ∧
  ∀ σ' m' H', S.length ≤ S'.length → Ext K S.length m H m' H' → StS K mg m' S' H' → EnR K H' m' S'.length ρ' σ' → Q σ' H'
theorem _root_.L2.PG.imp {X : Cx} {e : Expr} {t t' : TG} (h : PG X e t) (i : ∀ v σ H Q, t' v σ H Q → t v σ H Q) : PG X e t' := ⟨fun pins s σ H v u Q I r q => h.run pins s σ H v u Q I r (i _ _ _ _ q)⟩
theorem _root_.L2.PGs.imp {X : Cx} {e : List Expr} {t t' : TGs} (h : PGs X e t) (i : ∀ v σ H Q, t' v σ H Q → t v σ H Q) : PGs X e t' := ⟨fun pins s σ H v u Q I r q => h.run pins s σ H v u Q I r (i _ _ _ _ q)⟩
abbrev PGd (X : Cx) (e : Expr) (g : DG) : Prop := PG X e (tGt X.K X.mg g)
abbrev PGsd (X : Cx) (e : List Expr) (g : DGs) : Prop := PGs X e (tGts X.K X.mg g)
def gN (i : Nat) : DG := fun v ρ S => some (ρ.set i (some v), S)
def gsNil : DGs := fun l ρ S => match l with
  | [] => some (ρ, S)
  | _ => none
def gsCons (g : DG) (h : DGs) : DGs := fun l ρ S => match l with
  | v :: r => match g v ρ S with
    | some (ρ1, S1) => h r ρ1 S1
    | none => none
  | [] => none
/-- a tuple's or a list's items -/
def itemsP (v : PV) (S : Sto) : Option (List PV) := match v with
  | .tup l => some l
  | .loc k => match S[k]? with
    | some (.lst l) => some l
    | some (.fz l) => some l
    | _ => none
  | _ => none
def gT (n : Nat) (h : DGs) : DG := fun v ρ S => match v with
  | .tup l => if l.length = n then h l ρ S else none
  | _ => none
section
variable {X : Cx} {W : WX} {pos : Pos} {e : Expr} {es : List Expr} {g : DG} {h : DGs}
theorem dg_n (i : Nat) {x : Str} (hN : X.N.Nodup) (hi : X.N[i]? = some x) (hx : Loc X.env.scope x) (hf : X.fn x = true ∨ X.env.scope.names.lookup x = some .local := by first | exact .inl rfl | exact .inr rfl | assumption) : PGd X (.Name x pos) (gN i) :=
  (pg_name hN hi hx hf).imp fun v σ H Q h => by
    obtain ⟨m, ρ, S, d, ρ', S', s, e, r, hk, p⟩ := h
    cases hk
    exact p _ m H (Nat.le_refl _) Ext.refl s (e.set r)
theorem dgs_nil : PGsd X [] gsNil := pgs_nil.imp fun v σ H Q h => by
  obtain ⟨m, ρ, S, d, ρ', S', s, e, r, hk, p⟩ := h
  cases r with
  | nil =>
    cases hk
    exact ⟨rfl, p _ m H (Nat.le_refl _) Ext.refl s e⟩
  | cons a b => cases hk
theorem dgs_cons (h1 : PGd X e g) (h2 : PGsd X es h) (hs : (assignEach (e :: es) X.env).map (·.2) = assign e X.env :: (assignEach es X.env).map (·.2) := by rfl) : PGsd X (e :: es) (gsCons g h) := (pgs_cons h1 h2 hs).imp fun v σ H Q h => by
  obtain ⟨m, ρ, S, d, ρ', S', s, e, r, hk, p⟩ := h
  cases r with
  | nil => cases hk
  | @cons d v ds vs a b =>
    unfold gsCons at hk
    dsimp only at hk
    split at hk
    · rename_i ρ1 S1 q
      refine ⟨v, vs, rfl, m, ρ, S, d, ρ1, S1, s, e, a, q, fun σ' m' H' le x s' e' => ?_⟩
      exact ⟨m', ρ1, S1, ds, ρ', S', s', e', b.mono x le, hk, fun σ2 m2 H2 le2 x2 s2 e2 => p σ2 m2 H2 (Nat.le_trans le le2) (x.trans x2 le) s2 e2⟩
    · cases hk
theorem dg_t {k n : Nat} (hc : X.calm = true) (h1 : PGsd X es h) (hn : (assignEach es X.env).length = n := by rfl) (hst : (assignEach es X.env).findIdx? (·.1) = none := by rfl) : PGd X (.Tuple es k pos) (gT n h) := (pg_tup hc h1 hn hst).imp fun v σ H Q h => by
  obtain ⟨m, ρ, S, d, ρ', S', s, e, r, hk, p⟩ := h
  unfold gT at hk
  cases r <;> dsimp only at hk <;> try cases hk
  rename_i l a xs hs hl
  split at hk
  · rename_i hn
    exact ⟨a, xs, rfl, hs, by rw [← hl.length]; exact hn, m, ρ, S, l, ρ', S', s, e, hl, hk, p⟩
  · cases hk
/-- a target is given a value -/
def dAsg (g : DG) (f : DE) : DS := fun ρ S => bS ρ (f ρ S) fun v S1 => match g v ρ S1 with
  | some (ρ', S') => some (.next ρ' S')
  | none => none
theorem ds_asg {tg : Expr} {fe : DE} (he : PEd X W e fe) (hg : PGd X tg g) (hs : swapsWithSole [tg] e pos.line X.env = pure false := by rfl) (hw : swappedStores [tg] e X.env = pure none := by rfl) (h1 : (assignEach [tg] X.env).map (·.2) = [assign tg X.env] := by rfl) : PSd X W (.Assign [tg] e pos) (dAsg g fe) :=
  (ps_asg he hg hs hw h1).imp fun D σ H h => (bindS (ra := rE X.K) h).mono fun v H1 ⟨m, ρ, S, d, r, s, en, r1, hk, p⟩ => by
    split at hk
    · rename_i ρ' S' q
      cases hk
      exact ⟨m, ρ, S, d, ρ', S', s, en, r1, q, p⟩
    · cases hk
end

/-! ### what a for walks -/
structure Src where
  items : List PV
  keep : List (Nat × PO)
def Kept (l : List (Nat × PO)) (S : Sto) : Prop := ∀ p ∈ l, S[p.1]? = some p.2
structure ItOk (K : PySem.W.Frag) (mg : Str → Option Value) (J : It) (src : Src) (n : Nat) (m : Nat → Addr) (H : Hp) : Prop where
  go : ∀ (i : Nat) (d : PV) (m' : Nat → Addr) (S : Sto) (H' : Hp), n ≤ S.length → Ext K n m H m' H' → StS K mg m' S H' → Kept src.keep S → src.items[i]? = some d →
    J.go i H' ∧ ∀ x H2, J.yld i H' x H2 → ∃ m2, Ext K S.length m' H' m2 H2 ∧ StS K mg m2 S H2 ∧ Rp K H2 m2 S.length d x
  stop : ∀ (m' : Nat → Addr) (S : Sto) (H' : Hp), n ≤ S.length → Ext K n m H m' H' → StS K mg m' S H' → Kept src.keep S → J.stop src.items.length H'
def rItr (K : PySem.W.Frag) (mg : Str → Option Value) : Rel Src It := fun H m n d J => ItOk K mg J d n m H
theorem keeps_I {K : PySem.W.Frag} {mg : Str → Option Value} : Keeps K (rItr K mg) := fun H m n H' m' n' d v e h r =>
  ⟨fun i d' m2 S H2 le x => r.go i d' m2 S H2 (Nat.le_trans h le) (e.trans x h), fun m2 S H2 le x => r.stop m2 S H2 (Nat.le_trans h le) (e.trans x h)⟩
abbrev DI := En → Sto → Option (R Src)
abbrev PId (X : Cx) (W : WX) (tg iter : Expr) (f : DI) : Prop := PI X tg iter (tG X.K X.mg (rItr X.K X.mg) W f)
theorem _root_.L2.PI.imp {X : Cx} {tg e : Expr} {t t' : TI} (h : PI X tg e t) (i : ∀ σ H Q, t' σ H Q → t σ H Q) : PI X tg e t' := ⟨fun pins s σ H Q I q => h.run pins s σ H Q I (i _ _ _ q)⟩

open Classical in
noncomputable def forL (g : DG) (kill : List Nat) (body : DS) (keep : List (Nat × PO)) : List PV → DS
  | [], ρ, S => if Kept keep S then some (.next ρ S) else none
  | x :: xs, ρ, S => if Kept keep S then match g x ρ S with
    | some (ρ1, S1) => match body ρ1 S1 with
      | some (.next ρ2 S2) => forL g kill body keep xs (killE kill ρ2) S2
      | some (.ctn ρ2 S2) => forL g kill body keep xs (killE kill ρ2) S2
      | some (.brk ρ2 S2) => some (.next (killE kill ρ2) S2)
      | r => r
    | none => none else none
noncomputable def dFor (it : DI) (g : DG) (kill : List Nat) (body : DS) : DS := fun ρ S => bS ρ (it ρ S) fun src S1 => forL g kill body src.keep src.items (killE kill ρ) S1
theorem ds_for {X : Cx} {W : WX} {pos : Pos} {tg iter : Expr} {body : List Stmt} {it : DI} {g : DG} {f : DS} (kill : List Nat) (hp : PassesOwn (model X.prog X.w) X.A X.env X.xe) (hc : X.calm = true) (hi : PId X W tg iter it) (hg : PGd X tg g) (hb : PSsd X W body f)
    (hs : ∀ x, foldedSetIterable iter X.env x = pure x := by intro _; rfl) : PSd X W (.For tg iter body [] pos) (dFor it g kill f) := (ps_for hp hc hi hg hb hs).imp fun D σ H h => by
  refine (bindS (ra := rItr X.K X.mg) h).mono fun J H0 ⟨m0, ρ0, S0, src, r0, s0, e0, ok, hk, p0⟩ => ?_
  refine ⟨fun i c σ H => c = src.items.length - i ∧ i ≤ src.items.length ∧ ∃ m ρ S r, StS X.K X.mg m S H ∧ EnR X.K H m S.length ρ σ ∧ S0.length ≤ S.length ∧ Ext X.K S0.length m0 H0 m H ∧ forL g kill f src.keep (src.items.drop i) ρ S = some r ∧ PostS X.K X.mg W m S H r D,
    ⟨src.items.length, rfl, Nat.zero_le _, m0, _, S0, r0, s0, e0.kill kill, Nat.le_refl _, Ext.refl, hk, p0⟩, ?_⟩
  rintro i c σ H ⟨rfl, hi, m, ρ, S, r, s, e, le, x, hf, p⟩
  by_cases hlt : i < src.items.length
  · have ed : src.items.drop i = src.items[i] :: src.items.drop (i + 1) := List.drop_eq_getElem_cons hlt
    rw [ed] at hf
    unfold forL at hf
    split at hf
    · rename_i kp
      obtain ⟨go, yl⟩ := ok.go i src.items[i] m S H le x s kp (List.getElem?_eq_getElem hlt)
      split at hf
      · rename_i ρ1 S1 hg1
        refine .inr ⟨go, fun σ' H' => ∃ m' ρ' S', StS X.K X.mg m' S' H' ∧ EnR X.K H' m' S'.length ρ' σ' ∧ S0.length ≤ S'.length ∧ Ext X.K S0.length m0 H0 m' H' ∧ forL g kill f src.keep (src.items.drop (i + 1)) ρ' S' = some r ∧ PostS X.K X.mg W m' S' H' r D, ?_, fun y H2 hy => ?_⟩
        · rintro σ' H' ⟨m', ρ', S', s', e', le', x', hf', p'⟩
          exact ⟨src.items.length - (i + 1), by omega, rfl, hlt, m', ρ', S', r, s', e', le', x', hf', p'⟩
        · obtain ⟨m2, x2, s2, r2⟩ := yl y H2 hy
          refine ⟨m2, ρ, S, _, ρ1, S1, s2, e.mono x2 (Nat.le_refl _), r2, hg1, fun σ3 m3 H3 le3 x3 s3 e3 => ?_⟩
          have le03 : S0.length ≤ S1.length := Nat.le_trans le le3
          have x03 : Ext X.K S.length m H m3 H3 := x2.trans x3 (Nat.le_refl _)
          cases q : f ρ1 S1 with
          | none => rw [q] at hf; cases hf
          | some z =>
            rw [q] at hf
            refine ⟨m3, ρ1, S1, z, s3, e3, q, ?_⟩
            cases z with
            | next ρ4 S4 =>
              intro σ4 m4 H4 le4 x4 s4 e4
              have x04 := x03.trans x4 le3
              exact ⟨m4, killE kill ρ4, S4, s4, e4.kill kill, Nat.le_trans le03 le4, x.trans x04 le, hf, p.on (Nat.le_trans le3 le4) x04⟩
            | ctn ρ4 S4 =>
              intro σ4 m4 H4 le4 x4 s4 e4
              have x04 := x03.trans x4 le3
              exact ⟨m4, killE kill ρ4, S4, s4, e4.kill kill, Nat.le_trans le03 le4, x.trans x04 le, hf, p.on (Nat.le_trans le3 le4) x04⟩
            | brk ρ4 S4 =>
              cases hf
              exact fun σ4 m4 H4 le4 x4 s4 e4 => p σ4 m4 H4 (Nat.le_trans le3 le4) (x03.trans x4 le3) s4 (e4.kill kill)
            | ret v S4 =>
              cases hf
              exact fun v m4 H4 le4 x4 => p v m4 H4 (Nat.le_trans le3 le4) (x03.trans x4 le3)
            | exc ex ρ4 S4 =>
              cases hf
              exact fun cls dd σ4 m4 H4 le4 x4 => p cls dd σ4 m4 H4 (Nat.le_trans le3 le4) (x03.trans x4 le3)
      · cases hf
    · cases hf
  · have ei : i = src.items.length := by omega
    subst ei
    rw [List.drop_length] at hf
    unfold forL at hf
    split at hf
    · rename_i kp
      cases hf
      exact .inl ⟨ok.stop m S H le x s kp, p σ m H (Nat.le_refl _) Ext.refl s e⟩
    · cases hf

/-! ### while -/
def whN (c : DB) (kill : List Nat) (body : DS) : Nat → DS
  | 0, _, _ => none
  | n + 1, ρ, S => bS ρ (c ρ S) fun b S1 => if b = true then match body ρ S1 with
      | some (.next ρ2 S2) => whN c kill body n (killE kill ρ2) S2
      | some (.ctn ρ2 S2) => whN c kill body n (killE kill ρ2) S2
      | some (.brk ρ2 S2) => some (.next (killE kill ρ2) S2)
      | r => r
    else some (.next ρ S1)
open Classical in
noncomputable def dWhile (c : DB) (kill : List Nat) (body : DS) : DS := fun ρ S =>
  if h : ∃ n, (whN c kill body n (killE kill ρ) S).isSome = true then whN c kill body h.choose (killE kill ρ) S else none
theorem whN_mono {c : DB} {kill : List Nat} {body : DS} : ∀ {n k : Nat} {ρ : En} {S : Sto} {r : RS}, n ≤ k → whN c kill body n ρ S = some r → whN c kill body k ρ S = some r := by
  intro n
  induction n with
  | zero => intro k ρ S r _ h; cases h
  | succ n ih =>
    intro k ρ S r hk h
    obtain ⟨k, rfl⟩ : ∃ k', k = k' + 1 := ⟨k - 1, by omega⟩
    have hk : n ≤ k := by omega
    unfold whN at h ⊢
    cases q : c ρ S with
    | none => rw [q] at h; cases h
    | some z =>
      rw [q] at h
      cases z with
      | exc e T => exact h
      | ok b T =>
        unfold bS at h ⊢
        dsimp only at h ⊢
        cases b with
        | false => exact h
        | true =>
          rw [if_pos rfl] at h ⊢
          cases q2 : body ρ T with
          | none => rw [q2] at h; cases h
          | some z2 =>
            rw [q2] at h
            cases z2 with
            | next ρ2 S2 => exact ih hk h
            | ctn ρ2 S2 => exact ih hk h
            | brk ρ2 S2 => exact h
            | ret v S2 => exact h
            | exc e ρ2 S2 => exact h
theorem dWhile_eq {c : DB} {kill : List Nat} {body : DS} {n : Nat} {ρ : En} {S : Sto} {r : RS} (h : whN c kill body n (killE kill ρ) S = some r) : dWhile c kill body ρ S = some r := by
  unfold dWhile
  have hx : ∃ n, (whN c kill body n (killE kill ρ) S).isSome = true := ⟨n, by rw [h]; rfl⟩
  rw [dif_pos hx]
  have h2 := hx.choose_spec
  cases q : whN c kill body hx.choose (killE kill ρ) S with
  | none => rw [q] at h2; cases h2
  | some z =>
    rcases Nat.le_total n hx.choose with hl | hl
    · rw [whN_mono hl h] at q; exact q.symm
    · rw [whN_mono hl q] at h; exact h
theorem ds_while {X : Cx} {W : WX} {pos : Pos} {c : Expr} {body : List Stmt} {fc : DB} {f : DS} (kill : List Nat) (hp : PassesOwn (model X.prog X.w) X.A X.env X.xe) (hc : PTd X W c fc) (hb : PSsd X W body f) : PSd X W (.While c body [] pos) (dWhile fc kill f) :=
  (ps_while hp hc hb).imp fun D σ H h => by
  obtain ⟨m0, ρ0, S0, r0, s0, e0, hf0, p0⟩ := h
  unfold dWhile at hf0
  split at hf0
  · refine ⟨fun n σ H => ∃ m ρ S r, StS X.K X.mg m S H ∧ EnR X.K H m S.length ρ σ ∧ whN fc kill f n ρ S = some r ∧ PostS X.K X.mg W m S H r D, ⟨_, m0, _, S0, r0, s0, e0.kill kill, hf0, p0⟩, ?_⟩
    rintro n σ H ⟨m, ρ, S, r, s, e, hf, p⟩
    cases n with
    | zero => cases hf
    | succ n =>
      refine (bindS (ra := rB) (f := fc) (k := fun ρ b S1 => if b = true then match f ρ S1 with
        | some (.next ρ2 S2) => whN fc kill f n (killE kill ρ2) S2
        | some (.ctn ρ2 S2) => whN fc kill f n (killE kill ρ2) S2
        | some (.brk ρ2 S2) => some (.next (killE kill ρ2) S2)
        | r => r
        else some (.next ρ S1)) ⟨m, ρ, S, r, s, e, hf, p⟩).mono fun b H1 ⟨m1, ρ1, S1, d, r1, s1, e1, rb, hk, p1⟩ => ?_
      cases rb
      cases b with
      | false =>
        cases hk
        exact p1 σ m1 H1 (Nat.le_refl _) Ext.refl s1 e1
      | true =>
        rw [if_pos rfl] at hk ⊢
        refine ⟨fun σ' H' => ∃ m' ρ' S', StS X.K X.mg m' S' H' ∧ EnR X.K H' m' S'.length ρ' σ' ∧ whN fc kill f n ρ' S' = some r1 ∧ PostS X.K X.mg W m' S' H' r1 D, fun σ' H' ⟨m', ρ', S', s', e', h', p'⟩ => ⟨n, Nat.lt_succ_self n, m', ρ', S', r1, s', e', h', p'⟩, ?_⟩
        cases q : f ρ1 S1 with
        | none => rw [q] at hk; cases hk
        | some z =>
          rw [q] at hk
          refine ⟨m1, ρ1, S1, z, s1, e1, q, ?_⟩
          cases z with
          | next ρ4 S4 => exact fun σ4 m4 H4 le4 x4 s4 e4 => ⟨m4, killE kill ρ4, S4, s4, e4.kill kill, hk, p1.on le4 x4⟩
          | ctn ρ4 S4 => exact fun σ4 m4 H4 le4 x4 s4 e4 => ⟨m4, killE kill ρ4, S4, s4, e4.kill kill, hk, p1.on le4 x4⟩
          | brk ρ4 S4 =>
            cases hk
            exact fun σ4 m4 H4 le4 x4 s4 e4 => p1 σ4 m4 H4 le4 x4 s4 (e4.kill kill)
          | ret v S4 =>
            cases hk
            exact p1
          | exc ex ρ4 S4 =>
            cases hk
            exact p1
  · cases hf0
end D

/-! D3: defs, calls, what is let go behind a call. -/
namespace D
open PySem PySem.Spec PyProof.Rows L2

mutual
def noLoc : PV → Bool
  | .tup l => noLocs l
  | .loc _ => false
  | .non => true
  | .bl _ => true
  | .int _ => true
  | .str _ => true
  | .ty _ => true
  | .xc _ _ _ => true
def noLocs : List PV → Bool
  | [] => true
  | d :: ds => noLoc d && noLocs ds
end
mutual
def bd (n : Nat) : PV → Prop
  | .tup l => bds n l
  | .loc k => k < n
  | .non => True
  | .bl _ => True
  | .int _ => True
  | .str _ => True
  | .ty _ => True
  | .xc _ _ _ => True
def bds (n : Nat) : List PV → Prop
  | [] => True
  | d :: ds => bd n d ∧ bds n ds
end
mutual
theorem bd_noLoc (n : Nat) : ∀ d : PV, noLoc d = true → bd n d
  | .tup l, h => bds_noLoc n l h
  | .loc _, h => nomatch h
  | .non, _ => trivial
  | .bl _, _ => trivial
  | .int _, _ => trivial
  | .str _, _ => trivial
  | .ty _, _ => trivial
  | .xc _ _ _, _ => trivial
theorem bds_noLoc (n : Nat) : ∀ d : List PV, noLocs d = true → bds n d
  | [], _ => trivial
  | d :: ds, h => by
    have h2 : (noLoc d && noLocs ds) = true := h
    rw [Bool.and_eq_true] at h2
    exact ⟨bd_noLoc n d h2.1, bds_noLoc n ds h2.2⟩
end
section
variable {K : PySem.W.Frag} {mg : Str → Option Value} {H H' : Hp} {m m' : Nat → Addr} {n n' : Nat}
mutual
theorem Rp.bd : ∀ {d : PV} {v : V}, Rp K H m n d v → bd n d
  | _, _, .non => trivial
  | _, _, .bl _ => trivial
  | _, _, .int _ => trivial
  | _, _, .str _ => trivial
  | _, _, .ty _ => trivial
  | _, _, .xc _ => trivial
  | _, _, .tup _ r => RpL.bd r
  | _, _, .loc h => h
theorem RpL.bd : ∀ {d : List PV} {v : List V}, RpL K H m n d v → bds n d
  | _, _, .nil => trivial
  | _, _, .cons a r => ⟨Rp.bd a, RpL.bd r⟩
end
mutual
theorem Rp.cut : ∀ {d : PV} {v : V}, Rp K H m n' d v → D.bd n d → Rp K H m n d v
  | _, _, .non, _ => .non
  | _, _, .bl b, _ => .bl b
  | _, _, .int i, _ => .int i
  | _, _, .str s, _ => .str s
  | _, _, .ty s, _ => .ty s
  | _, _, .xc h, _ => .xc h
  | _, _, .tup s r, h => .tup s (RpL.cut r h)
  | _, _, .loc _, h => .loc h
theorem RpL.cut : ∀ {d : List PV} {v : List V}, RpL K H m n' d v → bds n d → RpL K H m n d v
  | _, _, .nil, _ => .nil
  | _, _, .cons a r, h => .cons (Rp.cut a h.1) (RpL.cut r h.2)
end
def bdO (n : Nat) : PO → Prop
  | .lst l => bds n l
  | .fz l => bds n l
  | .dct _ kvs => ∀ p ∈ kvs, D.bd n p.2
  | .ins _ fs => ∀ p ∈ fs, D.bd n p.2
theorem paired_mem {α β : Type} {F : α → β → Prop} : ∀ {l₁ : List α} {l₂ : List β} {a : α}, Paired F l₁ l₂ → a ∈ l₁ → ∃ b, F a b
  | _, _, a, .cons r t, h => by
    rcases List.mem_cons.mp h with rfl | h
    · exact ⟨_, r⟩
    · exact paired_mem t h
theorem paired_impM {α β : Type} {F G : α → β → Prop} : ∀ {l₁ : List α} {l₂ : List β}, (∀ a ∈ l₁, ∀ b, F a b → G a b) → Paired F l₁ l₂ → Paired G l₁ l₂
  | _, _, _, .nil => .nil
  | _, _, f, .cons r t => .cons (f _ List.mem_cons_self _ r) (paired_impM (fun a h b => f a (List.mem_cons_of_mem _ h) b) t)
theorem Ro.bd {po : PO} {a : Addr} (h : Ro K mg H m n po a) : bdO n po := by
  cases po with
  | lst l => obtain ⟨xs, _, r⟩ := h; exact r.bd
  | fz l => obtain ⟨xs, _, r⟩ := h; exact r.bd
  | dct t l =>
    rcases h with ⟨_, xs, _, r⟩ | ⟨_, xs, _, r⟩
    · exact fun p hp => let ⟨b, q⟩ := paired_mem r hp; q.2.bd
    · exact fun p hp => let ⟨b, q⟩ := paired_mem r hp; q.2.bd
  | ins c fs => obtain ⟨C, dx, fv, _, _, r⟩ := h; exact fun p hp => let ⟨b, q⟩ := paired_mem r hp; q.2.bd
theorem Ro.cut {po : PO} {a : Addr} (h : Ro K mg H m n' po a) (b : bdO n po) : Ro K mg H m n po a := by
  cases po with
  | lst l => obtain ⟨xs, h1, r⟩ := h; exact ⟨xs, h1, r.cut b⟩
  | fz l => obtain ⟨xs, h1, r⟩ := h; exact ⟨xs, h1, r.cut b⟩
  | dct t l =>
    rcases h with ⟨ht, xs, h1, r⟩ | ⟨ht, xs, h1, r⟩
    · exact .inl ⟨ht, xs, h1, paired_impM (fun p hp q z => ⟨z.1, z.2.cut (b p hp)⟩) r⟩
    · exact .inr ⟨ht, xs, h1, paired_impM (fun p hp q z => ⟨z.1, z.2.cut (b p hp)⟩) r⟩
  | ins c fs => obtain ⟨C, dx, fv, h1, h2, r⟩ := h; exact ⟨C, dx, fv, h1, h2, paired_impM (fun p hp q z => ⟨z.1, z.2.cut (b p hp)⟩) r⟩
theorem Ro.to {po : PO} {a : Addr} (e : Ext K n m H m' H') (h : Ro K mg H' m n po a) : Ro K mg H' m' n po a :=
  h.mono ⟨e.mp, fun _ _ q => q, fun _ _ q => q⟩ (Nat.le_refl _)
end

/-! ### what a call leaves -/
/-- of S: what is other than in S speaks of what was in S alone -/
def Cl (S S' : Sto) : Prop := ∀ k o, k < S.length → S'[k]? = some o → S[k]? = some o ∨ bdO S.length o
open Classical in
noncomputable def gc2 (S S' : Sto) : Sto := if Cl S S' then S'.take S.length else S'
open Classical in
noncomputable def gcE (S : Sto) : RE → RE
  | .ok v S' => if S'.take S.length = S then (if noLoc v = true then .ok v S else match v with
    | .loc k => match S'[k]? with
      | some (.lst l) => if S.length ≤ k ∧ noLocs l = true then .ok (.loc S.length) (S ++ [.lst l]) else .ok v S'
      | _ => .ok v S'
    | _ => .ok v S') else if noLoc v = true then .ok v (gc2 S S') else .ok v S'
  | .exc e S' => if S'.take S.length = S ∧ e.fs.all (fun p => noLoc p.2) = true then .exc e S else .exc e S'

section
variable {K : PySem.W.Frag} {mg : Str → Option Value} {H H' : Hp} {m m' : Nat → Addr} {S S' : Sto} {W : WX} {σ : L2.St} {Q : VK}
theorem take_get {k : Nat} {o : PO} (ht : S'.take S.length = S) (h : S[k]? = some o) : S'[k]? = some o := by
  have q : (S'.take S.length)[k]? = some o := by rw [ht]; exact h
  rw [List.getElem?_take] at q
  split at q
  · exact q
  · cases q
/-- the store of the beginning, at the end -/
theorem StS.back (s : StS K mg m S H) (s' : StS K mg m' S' H') (x : Ext K S.length m H m' H') (ht : S'.take S.length = S) : StS K mg m' S H' := by
  refine ⟨fun k o e => (s'.obj k o (take_get ht e)).cut (s.obj k o e).bd, fun j k oj ok ej ek => s'.inj j k oj ok (take_get ht ej) (take_get ht ek)⟩
theorem StS.cutT (s : StS K mg m S H) (s' : StS K mg m' S' H') (le : S.length ≤ S'.length) (hb : Cl S S') : StS K mg m' (S'.take S.length) H' := by
  have hl : (S'.take S.length).length = S.length := by rw [List.length_take]; exact Nat.min_eq_left le
  have old : ∀ (k : Nat) (o : PO), (S'.take S.length)[k]? = some o → k < S.length ∧ S'[k]? = some o := fun k o e => by
    rw [List.getElem?_take] at e
    split at e
    · rename_i h; exact ⟨h, e⟩
    · cases e
  refine ⟨fun k o e => ?_, fun j k oj ok ej ek => s'.inj j k oj ok (old _ _ ej).2 (old _ _ ek).2⟩
  rw [hl]
  obtain ⟨h1, h2⟩ := old k o e
  rcases hb k o h1 h2 with h | h
  · exact (s'.obj k o h2).cut (s.obj k o h).bd
  · exact (s'.obj k o h2).cut h
theorem gc_ok {r : RE} (s : StS K mg m S H) (p : PostG K mg (rE K) W σ m S H (gcE S r) Q) : PostG K mg (rE K) W σ m S H r Q := by
  cases r with
  | ok v S' =>
    intro x m' H' le ex s' rx
    have hpl : ∀ {r : RE}, gcE S (.ok v S') = r → PostG K mg (rE K) W σ m S H r Q := fun e => e ▸ p
    by_cases ht : S'.take S.length = S
    · have sb := s.back s' ex ht
      by_cases hn : noLoc v = true
      · exact (hpl (by unfold gcE; (try dsimp only); rw [if_pos ht, if_pos hn]) : PostG K mg (rE K) W σ m S H (.ok v S) Q) x m' H' (Nat.le_refl _) ex sb (Rp.cut rx (bd_noLoc _ _ hn))
      · cases rx with
        | @loc k hk =>
          cases q : S'[k]? with
          | none => exact (hpl (by unfold gcE; (try dsimp only); rw [if_pos ht, if_neg hn]; (try dsimp only); rw [q]) : PostG K mg (rE K) W σ m S H (.ok (.loc k) S') Q) _ m' H' le ex s' (.loc hk)
          | some o =>
            cases o with
            | lst l =>
              by_cases hc : S.length ≤ k ∧ noLocs l = true
              · have hp : PostG K mg (rE K) W σ m S H (.ok (.loc S.length) (S ++ [.lst l])) Q := hpl (by unfold gcE; (try dsimp only); rw [if_pos ht, if_neg hn]; (try dsimp only); rw [q]; (try dsimp only); rw [if_pos hc])
                obtain ⟨xs, h1, h2⟩ := s'.obj k _ q
                have em : Ext K S.length m' H' (mext m' S.length (m' k)) H' := ext_mext
                have st : StS K mg (mext m' S.length (m' k)) (S ++ [PO.lst l]) H' := by
                  refine ⟨fun j o e => ?_, fun i j oi oj ei ej mi mj e => ?_⟩
                  · rw [List.length_append, List.length_singleton]
                    rcases get_snoc e with ⟨hj, eo⟩ | ⟨hj, eo⟩
                    · rw [mext_lt hj]
                      exact (sb.obj j o eo).mono em (Nat.le_succ _)
                    · subst hj; subst eo
                      rw [mext_same]
                      exact ⟨xs, h1, (RpL.cut h2 (bds_noLoc S.length _ hc.2)).mono em (Nat.le_succ _)⟩
                  · rcases get_snoc ei with ⟨hi, fi⟩ | ⟨hi, fi⟩ <;> rcases get_snoc ej with ⟨hj, fj⟩ | ⟨hj, fj⟩
                    · rw [mext_lt hi, mext_lt hj] at e
                      exact sb.inj i j oi oj fi fj mi mj e
                    · subst hj; subst fj
                      rw [mext_lt hi, mext_same] at e
                      have := s'.inj i k oi _ (take_get ht fi) q mi mj e
                      omega
                    · subst hi; subst fi
                      rw [mext_same, mext_lt hj] at e
                      have := s'.inj k j _ oj q (take_get ht fj) mi mj e
                      omega
                    · omega
                have rr : Rp K H' (mext m' S.length (m' k)) (S ++ [PO.lst l]).length (.loc S.length) (.ref (mext m' S.length (m' k) S.length)) := .loc (by simp)
                rw [mext_same] at rr
                exact hp _ _ H' (by simp) (ex.trans em (Nat.le_refl _)) st rr
              · exact (hpl (by unfold gcE; (try dsimp only); rw [if_pos ht, if_neg hn]; (try dsimp only); rw [q]; (try dsimp only); rw [if_neg hc]) : PostG K mg (rE K) W σ m S H (.ok (.loc k) S') Q) _ m' H' le ex s' (.loc hk)
            | fz l => exact (hpl (by unfold gcE; (try dsimp only); rw [if_pos ht, if_neg hn]; (try dsimp only); rw [q]) : PostG K mg (rE K) W σ m S H (.ok (.loc k) S') Q) _ m' H' le ex s' (.loc hk)
            | dct t l => exact (hpl (by unfold gcE; (try dsimp only); rw [if_pos ht, if_neg hn]; (try dsimp only); rw [q]) : PostG K mg (rE K) W σ m S H (.ok (.loc k) S') Q) _ m' H' le ex s' (.loc hk)
            | ins c l => exact (hpl (by unfold gcE; (try dsimp only); rw [if_pos ht, if_neg hn]; (try dsimp only); rw [q]) : PostG K mg (rE K) W σ m S H (.ok (.loc k) S') Q) _ m' H' le ex s' (.loc hk)
        | tup h1 h2 => exact (hpl (by unfold gcE; (try dsimp only); rw [if_pos ht, if_neg hn]) : PostG K mg (rE K) W σ m S H (.ok _ S') Q) _ m' H' le ex s' (.tup h1 h2)
        | non => exact absurd rfl hn
        | bl _ => exact absurd rfl hn
        | int _ => exact absurd rfl hn
        | str _ => exact absurd rfl hn
        | ty _ => exact absurd rfl hn
        | xc _ => exact absurd rfl hn
    · by_cases hn : noLoc v = true
      · have hp : PostG K mg (rE K) W σ m S H (.ok v (gc2 S S')) Q := hpl (by unfold gcE; (try dsimp only); rw [if_neg ht, if_pos hn])
        unfold gc2 at hp
        split at hp
        · rename_i hb
          have hl : (S'.take S.length).length = S.length := by rw [List.length_take]; exact Nat.min_eq_left le
          have st := s.cutT s' le hb
          refine hp x m' H' (by rw [hl]; exact Nat.le_refl _) ex st ?_
          rw [hl]
          exact Rp.cut rx (bd_noLoc _ _ hn)
        · exact hp x m' H' le ex s' rx
      · exact (hpl (by unfold gcE; (try dsimp only); rw [if_neg ht, if_neg hn]) : PostG K mg (rE K) W σ m S H (.ok v S') Q) x m' H' le ex s' rx
  | exc e S' =>
    intro cls dd m' H' le ex s' rx
    by_cases hc : S'.take S.length = S ∧ e.fs.all (fun p => noLoc p.2) = true
    · have hp : PostG K mg (rE K) W σ m S H (.exc e S) Q := by
        have : gcE S (.exc e S') = .exc e S := by unfold gcE; dsimp only; rw [if_pos hc]
        exact this ▸ p
      refine hp cls dd m' H' (Nat.le_refl _) ex (s.back s' ex hc.1) ?_
      obtain ⟨C, h1, h2, h3⟩ := rx
      refine ⟨C, h1, h2, ?_⟩
      rcases h3 with h3 | ⟨hne, d, fv, h3, h4, h5⟩
      · exact .inl h3
      · exact .inr ⟨hne, d, fv, h3, h4, paired_impM (fun p hp q z => ⟨z.1, z.2.cut (bd_noLoc _ _ (List.all_eq_true.mp hc.2 p hp))⟩) h5⟩
    · have hp : PostG K mg (rE K) W σ m S H (.exc e S') Q := by
        have : gcE S (.exc e S') = .exc e S' := by unfold gcE; (try dsimp only); rw [if_neg hc]
        exact this ▸ p
      exact hp cls dd m' H' le ex s' rx
end
/-- .. of an expression, at any place -/
noncomputable def dGc (f : DE) : DE := fun ρ S => (f ρ S).map (gcE S)
theorem de_gc {X : Cx} {W : WX} {e : Expr} {f : DE} (h : PEd X W e f) : PEd X W e (dGc f) := h.imp fun σ H Q h => by
  obtain ⟨m, ρ, S, r, s, e, hf, p⟩ := h
  have hf : (f ρ S).map (gcE S) = some r := hf
  cases q : f ρ S with
  | none => rw [q] at hf; cases hf
  | some z =>
    rw [q] at hf
    cases hf
    exact ⟨m, ρ, S, z, s, e, q, gc_ok s p⟩

/-! ### a def -/
noncomputable def dDef (k n : Nat) (body : DS) : DF := fun args S => if args.length = k then (match body (args.map some ++ List.replicate (n - k) none) S with
    | some (.ret v S') => some (gcE S (.ok v S'))
    | some (.next _ S') => some (gcE S (.ok .non S'))
    | some (.exc e _ S') => some (gcE S (.exc e S'))
    | _ => none) else none
/-- a def's promise -/
def spD (K : PySem.W.Frag) (mg : Str → Option Value) (k : Nat) (F : DF) : Sp := fun vs H Q E => vs.length = k ∧ ∃ m S args r, StS K mg m S H ∧ RpL K H m S.length args vs ∧ F args S = some r ∧ PostG K mg (rE K) (fun c d _ H => E c d H) [] m S H r Q
theorem envStart {K : PySem.W.Frag} {H : Hp} {m : Nat → Addr} {n : Nat} {N : List Str} {args : List PV} {vs : List V} (r : RpL K H m n args vs) (k : Nat) (hk : vs.length = k) : EnR K H m n (args.map some ++ List.replicate (N.length - k) none) (L2.start N vs) := by
  subst hk
  refine ⟨by simp [L2.start, r.length], fun i v e => ?_⟩
  have hl := r.length
  by_cases hi : i < args.length
  · rw [List.getElem?_append_left (by simpa using hi), List.getElem?_map] at e
    cases q : args[i]? with
    | none => rw [q] at e; cases e
    | some d =>
      rw [q] at e
      cases e
      obtain ⟨x, hx, rx⟩ := r.get q
      refine ⟨x, ?_, rx⟩
      unfold L2.start
      rw [List.getElem?_append_left (by rw [List.length_map]; omega), List.getElem?_map, hx]
      rfl
  · rw [List.getElem?_append_right (by simpa using hi), List.getElem?_replicate] at e
    split at e <;> cases e
section
variable {P : Program} {w : World} {K : PySem.W.Frag} {mg : Str → Option Value} {base : Heap}
theorem fn_d {x qual : Str} {st : Stmt} {f : Addr} {fd : FuncData} {N ps : List Str} {k : Nat} {body : DS} (F : Fun K x qual st f fd) (S : FnScope N ps (defScope st))
    (hb : ∀ (cdv : Value) (A : Around) (outer : List Env) (s : Shared) (H : Hp) (E : XK), Room k (A.deeper (envOfC qual (defScope st) s.heap.objs.size f cdv)) →
      PSsd (cxOf (L2.CX P w) P w K mg base N qual (defScope st) f cdv A outer s H E) (fun c d _ H => E c d H) (defBody st) body) :
    FnOk P w K mg base (L2.CX P w) (k + 1) f fd ps (spD K mg ps.length (dDef ps.length N.length body)) := by
  refine F.okX S (fun vs H Q E h => h.1) (fun cdv A outer s H vs Q E hr h => ⟨_, hb cdv A outer s H E hr, ?_⟩)
  obtain ⟨hl, m, S0, args, r, st, ra, hF, p⟩ := h
  unfold dDef at hF
  split at hF
  · rename_i ha
    have en := envStart (N := N) ra ps.length hl
    cases q : body (args.map some ++ List.replicate (N.length - ps.length) none) S0 with
    | none => rw [q] at hF; cases hF
    | some z =>
      rw [q] at hF
      refine ⟨m, _, S0, z, st, en, q, ?_⟩
      cases z with
      | next ρ S1 =>
        cases hF
        have p' := gc_ok st p
        exact fun σ' m' H' le x s' e' => p' .non m' H' le x s' .non
      | ret v S1 =>
        cases hF
        have p' := gc_ok st p
        exact fun v m' H' le x s' r' => p' v m' H' le x s' r'
      | brk ρ S1 => cases hF
      | ctn ρ S1 => cases hF
      | exc e ρ S1 =>
        cases hF
        have p' := gc_ok st p
        exact fun cls dd σ' m' H' le x s' e' r' => p' cls dd m' H' le x s' r'
  · cases hF
end
/-! ### a call of a def -/
theorem post_sw {K : PySem.W.Frag} {mg : Str → Option Value} {W : WX} {σ : L2.St} {m : Nat → Addr} {S : Sto} {H : Hp} {r : RE} {Q : VK} (p : PostG K mg (rE K) W σ m S H r Q) : PostG K mg (rE K) (fun c d _ H => WE W σ c d H) [] m S H r Q := by
  cases r with
  | ok v S' => exact p
  | exc e S' => exact fun cls dd m' H' le x s' r' => p cls dd m' H' le x s' r'
section
variable {X : Cx} {W : WX} {k n : Nat} {f : Addr} {fd : FuncData} {ps : List Str} {F : DF} {x : Str} {p pos : Pos} {e : Expr} {es : List Expr} {fa : DA}
theorem de_call (G : FnOk X.prog X.w X.K X.mg X.base (L2.CX X.prog X.w) k f fd ps (spD X.K X.mg n F)) (hr : Room k X.A) (hg : Gl X x) (hm : X.mg x = some (.ref f)) (hk : PySem.W.keepIn X.K (.ref f) = true) (hb : Binds X.K fd ps []) (tk : Takes X W)
    (ha : PAd X W (e :: es) fa) (hl : (e :: es).length = n := by rfl) (hF : ∀ args S r, F args S = some r → args.length = n) (hdb : (x == ("__debug__" : Str)) = false := by decide) (he : starEach (e :: es) X.env = (false, eval e X.env) :: starEach es X.env := by rfl) (hpl : (backTo pos (starEach es X.env)).any (·.1) = false := by rfl) :
    PEd X W (.Call (.Name x p) (e :: es) [] pos) (dOpA F fa) := (pe_callS G hr hg hm hk hb (fun σ => passAt tk σ) ha hdb he hpl).imp fun σ H Q h =>
  (bind1 (ra := rA X.K) h).mono fun v H1 ⟨m, ρ, S, d, z, s, e, r1, hk, p⟩ => ⟨by rw [← r1.length]; exact hF _ _ _ hk, m, S, d, z, s, r1, hk, post_sw p⟩
end
theorem dDef_len {k n : Nat} {body : DS} (args : List PV) (S : Sto) (r : RE) (h : dDef k n body args S = some r) : args.length = k := by
  unfold dDef at h
  split at h
  · assumption
  · cases h
end D

/-! D4: what operators and built-ins do to values. -/
namespace D
open PySem PySem.Spec PyProof.Rows L2

/-! ### arithmetic -/
def gAdd : G2 := fun x y S => match x, y with
  | .int i, .int j => some (.ok (.int (i + j)) S)
  | .str i, .str j => if i.length + j.length ≤ 16777216 then some (.ok (.str (i ++ j)) S) else none
  | .tup l, .tup r => if l.length + r.length ≤ 16777216 then some (.ok (.tup (l ++ r)) S) else none
  | .loc j, .loc k => match S[j]?, S[k]? with
    | some (.lst l), some (.lst r) => if l.length + r.length ≤ 16777216 then some (.ok (.loc S.length) (S ++ [.lst (l ++ r)])) else none
    | _, _ => none
  | _, _ => none
def rAdd4 (K : PySem.W.Frag) : R2 := fun x y H Q => (rI0 fun i j => .int (i + j)) x y H Q ∨ ((∃ i j, x = .str i ∧ y = .str j ∧ i.length + j.length ≤ sizeLine ∧ Q (.str (i ++ j)) H) ∨ (rCatA K x y H Q ∨ rCat x y H Q))
theorem op_add4 {X : Cx} : OpR X (binaryOp .Add) (rAdd4 X.K) := op_add.or (op_add_str.or (op_catA.or op_cat))
theorem nil_iff {K : PySem.W.Frag} {H : Hp} {m : Nat → Addr} {n : Nat} {l : List PV} {xs : List V} (r : RpL K H m n l xs) : l = [] ↔ xs = [] := by cases r <;> simp
theorem ok_add {K : PySem.W.Frag} {mg : Str → Option Value} : OkG2 K mg (rAdd4 K) gAdd := fun W σ m S H x y d d' z Q s r1 r2 e p => by
  unfold gAdd at e
  split at e
  · cases e; cases r1; cases r2
    exact .inl ⟨_, _, rfl, rfl, post_here s (.int _) p⟩
  · cases r1; cases r2
    split at e
    · rename_i h
      cases e
      exact .inr (.inl ⟨_, _, rfl, rfl, Nat.le_trans h (by decide), post_here s (.str _) p⟩)
    · cases e
  · rename_i l r
    cases r1 with
    | @tup _ a xs h1 q1 => cases r2 with
      | @tup _ b ys h2 q2 =>
        split at e
        · rename_i h
          cases e
          refine .inr (.inr (.inl ⟨a, b, xs, ys, rfl, rfl, h1, h2, by rw [← q1.length, ← q2.length]; exact Nat.le_trans h (by decide), fun e1 => ?_, fun n1 e2 => ?_, fun _ _ => ?_⟩))
          · have := (nil_iff q1).mpr e1
            subst this
            exact post_here s (.tup h2 q2) p
          · have := (nil_iff q2).mpr e2
            subst this
            rw [List.append_nil] at p
            exact post_here s (.tup h1 q1) p
          · exact new_tup s (q1.append q2) p
        · cases e
  · cases r1 with
    | loc k1 => cases r2 with
      | loc k2 =>
        split at e
        · rename_i l r e1 e2
          split at e
          · rename_i h
            cases e
            obtain ⟨xs, h1, q1⟩ := s.obj _ _ e1
            obtain ⟨ys, h2, q2⟩ := s.obj _ _ e2
            exact .inr (.inr (.inr ⟨_, _, xs, ys, rfl, rfl, h1, h2, by rw [← q1.length, ← q2.length]; exact Nat.le_trans h (by decide), new_list s (q1.append q2) p⟩))
          · cases e
        · cases e
  · cases e
/-- two ints -/
def gI2 (C : Int → Int → Prop) [∀ i j, Decidable (C i j)] (g : Int → Int → PV) : G2 := fun x y S => match x, y with
  | .int i, .int j => if C i j then some (.ok (g i j) S) else none
  | _, _ => none
theorem ok_I2 {K : PySem.W.Frag} {mg : Str → Option Value} {C : Int → Int → Prop} [∀ i j, Decidable (C i j)] {g : Int → Int → PV} {r : R2} {gv : Int → Int → V} (hr : ∀ i j H Q, C i j → Q (gv i j) H → r (.int i) (.int j) H Q)
    (hg : ∀ i j K H m n, Rp K H m n (g i j) (gv i j)) : OkG2 K mg r (gI2 C g) := fun W σ m S H x y d d' z Q s r1 r2 e p => by
  unfold gI2 at e
  split at e
  · cases r1; cases r2
    split at e
    · rename_i h
      cases e
      exact hr _ _ _ _ h (post_here s (hg _ _ _ _ _ _) p)
    · cases e
  · cases e
def gSub : G2 := gI2 (fun _ _ => True) fun i j => .int (i - j)
theorem ok_sub {K : PySem.W.Frag} {mg : Str → Option Value} : OkG2 K mg (rI0 fun i j => .int (i - j)) gSub := ok_I2 (gv := fun i j => .int (i - j)) (fun i j H Q _ q => ⟨i, j, rfl, rfl, q⟩) fun _ _ _ _ _ _ => .int _
def CMulD (i j : Int) : Prop := (-(2 ^ 64) < i ∧ i < 2 ^ 64) ∨ (-(2 ^ 64) < j ∧ j < 2 ^ 64)
instance (i j : Int) : Decidable (CMulD i j) := by unfold CMulD; infer_instance
def gMulI : G2 := gI2 CMulD fun i j => .int (i * j)
def gMulL : G2 := fun x y S => match x, y with
  | .loc k, .int i => match S[k]? with
    | some (.lst l) => if -(2 ^ 63) ≤ i ∧ i < 2 ^ 63 ∧ l.length * i.toNat ≤ 16777216 then some (.ok (.loc S.length) (S ++ [.lst (List.replicate i.toNat l).flatten])) else none
    | _ => none
  | _, _ => none
def gMul : G2 := gOr2 gMulI gMulL
theorem ok_mulL {K : PySem.W.Frag} {mg : Str → Option Value} : OkG2 K mg rRep gMulL := fun W σ m S H x y d d' z Q s r1 r2 e p => by
  unfold gMulL at e
  split at e
  · cases r1 with
    | loc k1 => cases r2 with
      | int i =>
        split at e
        · rename_i l e1
          split at e
          · rename_i h
            cases e
            obtain ⟨xs, h1, q1⟩ := s.obj _ _ e1
            exact ⟨_, _, xs, rfl, rfl, h1, h.1, h.2.1, by rw [← q1.length]; exact Nat.le_trans h.2.2 (by decide), new_list s (q1.flat_rep _) p⟩
          · cases e
        · cases e
  · cases e
theorem ok_mul {K : PySem.W.Frag} {mg : Str → Option Value} : OkG2 K mg (fun x y H Q => rI CMul (fun i j => .int (i * j)) x y H Q ∨ rRep x y H Q) gMul :=
  OkG2.or (ok_I2 (gv := fun i j => .int (i * j)) (fun i j H Q c q => ⟨i, j, rfl, rfl, c, q⟩) fun _ _ _ _ _ _ => .int _) ok_mulL
theorem op_mul4 {X : Cx} : OpR X (binaryOp .Mult) (fun x y H Q => rI CMul (fun i j => .int (i * j)) x y H Q ∨ rRep x y H Q) := op_mul.or op_rep
def CDivD (i j : Int) : Prop := 0 < j ∧ j < 1073741824
instance (i j : Int) : Decidable (CDivD i j) := by unfold CDivD; infer_instance
def gDiv : G2 := gI2 CDivD fun i j => .int (i / j)
theorem ok_div {K : PySem.W.Frag} {mg : Str → Option Value} : OkG2 K mg (rI CDiv fun i j => .int (i / j)) gDiv := ok_I2 (gv := fun i j => .int (i / j)) (fun i j H Q c q => ⟨i, j, rfl, rfl, c, q⟩) fun _ _ _ _ _ _ => .int _
def gMod : G2 := gI2 (fun _ j => 0 < j) fun i j => .int (i % j)
theorem ok_mod {K : PySem.W.Frag} {mg : Str → Option Value} : OkG2 K mg (rI (fun _ j => 0 < j) fun i j => .int (i % j)) gMod := ok_I2 (gv := fun i j => .int (i % j)) (fun i j H Q c q => ⟨i, j, rfl, rfl, c, q⟩) fun _ _ _ _ _ _ => .int _
def CPowD (i j : Int) : Prop := 0 ≤ j ∧ j ≤ 1000000 ∧ i.natAbs < 2 ^ 64
instance (i j : Int) : Decidable (CPowD i j) := by unfold CPowD; infer_instance
def gPow : G2 := gI2 CPowD fun i j => .int (i ^ j.toNat)
theorem ok_pow {K : PySem.W.Frag} {mg : Str → Option Value} : OkG2 K mg (rI CPow fun i j => .int (i ^ j.toNat)) gPow := ok_I2 (gv := fun i j => .int (i ^ j.toNat)) (fun i j H Q c q => ⟨i, j, rfl, rfl, c, q⟩) fun _ _ _ _ _ _ => .int _
def gNeg : G1 := fun x S => match x with
  | .int i => some (.ok (.int (-i)) S)
  | _ => none
theorem ok_neg {K : PySem.W.Frag} {mg : Str → Option Value} : OkG1 K mg (rU fun i => .int (-i)) gNeg := fun W σ m S H x d z Q s r e p => by
  unfold gNeg at e
  split at e
  · cases e; cases r
    exact ⟨_, rfl, post_here s (.int _) p⟩
  · cases e

/-! ### order -/
def gRel (f : Int → Int → Bool) : G2 := gI2 (fun _ _ => True) fun i j => .bl (f i j)
theorem ok_rel {K : PySem.W.Frag} {mg : Str → Option Value} {f : Int → Int → Bool} : OkG2 K mg (rI0 fun i j => .bl (f i j)) (gRel f) := ok_I2 (gv := fun i j => .bl (f i j)) (fun i j H Q _ q => ⟨i, j, rfl, rfl, q⟩) fun _ _ _ _ _ _ => .bl _
abbrev gLt : G2 := gRel fun i j => decide (i < j)
abbrev gLe : G2 := gRel fun i j => decide (i ≤ j)
abbrev gGt : G2 := gRel fun i j => decide (j < i)
abbrev gGe : G2 := gRel fun i j => decide (j ≤ i)

/-! ### data: ==, in -/
def mapO {α β : Type} (f : α → Option β) : List α → Option (List β)
  | [] => some []
  | x :: xs => match f x, mapO f xs with
    | some y, some ys => some (y :: ys)
    | _, _ => none
def toD : Nat → Sto → PV → Option PyData
  | _, _, .non => some .none
  | _, _, .bl b => some (.bool b)
  | _, _, .int i => some (.int i)
  | _, _, .str s => some (.str s)
  | n + 1, S, .tup l => (mapO (toD n S) l).map .tuple
  | n + 1, S, .loc k => match S[k]? with
    | some (.lst l) => (mapO (toD n S) l).map .list
    | some (.fz l) => (mapO (toD n S) l).map .list
    | _ => none
  | _, _, _ => none
theorem mapO_dp {K : PySem.W.Frag} {H : Hp} {m : Nat → Addr} {N c : Nat} {f : PV → Option PyData} (hf : ∀ d q x, f d = some q → Rp K H m N d x → L2.Dp K H x q ∧ q.plain = true ∧ q.depth ≤ c) :
    ∀ {l : List PV} {qs : List PyData} {xs : List V}, mapO f l = some qs → RpL K H m N l xs → L2.DpAll K H xs qs ∧ PyData.plainAll qs = true ∧ PyData.depthAll qs ≤ c
  | [], _, _, h, .nil => by
    cases h
    exact ⟨.nil, by simp [PyData.plainAll], by simp [PyData.depthAll]⟩
  | d :: ds, qs, _, h, .cons r rs => by
    unfold mapO at h
    split at h
    · rename_i y ys e1 e2
      cases h
      obtain ⟨a1, a2, a3⟩ := hf _ _ _ e1 r
      obtain ⟨b1, b2, b3⟩ := mapO_dp hf e2 rs
      exact ⟨.cons a1 b1, by rw [PyData.plainAll, a2, b2]; rfl, by rw [PyData.depthAll]; omega⟩
    · cases h
theorem toD_dp {K : PySem.W.Frag} {mg : Str → Option Value} {H : Hp} {m : Nat → Addr} {S : Sto} (s : StS K mg m S H) : ∀ (n : Nat) (d : PV) (q : PyData) (x : V), toD n S d = some q → Rp K H m S.length d x → L2.Dp K H x q ∧ q.plain = true ∧ q.depth ≤ n
  | n, .non, q, x, h, r => by
    cases r; unfold toD at h; cases h
    exact ⟨.non, by simp [PyData.plain], by simp [PyData.depth]⟩
  | n, .bl b, q, x, h, r => by
    cases r; unfold toD at h; cases h
    exact ⟨.bl _, by simp [PyData.plain], by simp [PyData.depth]⟩
  | n, .int b, q, x, h, r => by
    cases r; unfold toD at h; cases h
    exact ⟨.int _, by simp [PyData.plain], by simp [PyData.depth]⟩
  | n, .str b, q, x, h, r => by
    cases r; unfold toD at h; cases h
    exact ⟨.str _, by simp [PyData.plain], by simp [PyData.depth]⟩
  | 0, .tup l, q, x, h, r => by unfold toD at h; cases h
  | 0, .loc l, q, x, h, r => by unfold toD at h; cases h
  | n, .ty l, q, x, h, r => by cases n <;> (unfold toD at h; cases h)
  | n, .xc _ _ _, q, x, h, r => by cases n <;> (unfold toD at h; cases h)
  | n + 1, .tup l, q, x, h, r => by
    cases r with
    | tup hs hl =>
      unfold toD at h
      cases e : mapO (toD n S) l with
      | none => rw [e] at h; cases h
      | some qs =>
        rw [e] at h
        cases h
        obtain ⟨a1, a2, a3⟩ := mapO_dp (toD_dp s n) e hl
        exact ⟨.tup hs a1, by rw [PyData.plain]; exact a2, by rw [PyData.depth]; omega⟩
  | n + 1, .loc k, q, x, h, r => by
    cases r with
    | loc hk =>
      unfold toD at h
      split at h
      · rename_i l e1
        obtain ⟨xs, h1, hl⟩ := s.obj _ _ e1
        cases e : mapO (toD n S) l with
        | none => rw [e] at h; cases h
        | some qs =>
          rw [e] at h
          cases h
          obtain ⟨a1, a2, a3⟩ := mapO_dp (toD_dp s n) e hl
          exact ⟨.lst (SqL.of h1) a1, by rw [PyData.plain]; exact a2, by rw [PyData.depth]; omega⟩
      · rename_i l e1
        obtain ⟨xs, h1, hl⟩ := s.obj _ _ e1
        cases e : mapO (toD n S) l with
        | none => rw [e] at h; cases h
        | some qs =>
          rw [e] at h
          cases h
          obtain ⟨a1, a2, a3⟩ := mapO_dp (toD_dp s n) e hl
          exact ⟨.lst h1.sq a1, by rw [PyData.plain]; exact a2, by rw [PyData.depth]; omega⟩
      · cases h
def rEqP (K : PySem.W.Frag) (neg : Bool) : R2 := fun x y H Q => ∃ d e, L2.Dp K H x d ∧ L2.Dp K H y e ∧ d.plain = true ∧ e.plain = true ∧ d.depth ≤ 60 ∧ Q (.bl (if neg then !PyData.eqv d e else PyData.eqv d e)) H
theorem op_eqP {X : Cx} (hu : X.A.units + 64 < cLine) : OpR X (compareOp .Eq) (rEqP X.K false) := by
  intro pins s σ H x y v u Q I rx ry h
  obtain ⟨d, e, hd, he, pd, pe, dd, q⟩ := h
  obtain ⟨as, r1⟩ := Dp.reads I d x v hd rx
  obtain ⟨bs, r2⟩ := Dp.reads I e y u he ry
  exact SeqAt.eq_plain r1 r2 pd pe (by omega) ⟨.bl _, H, I, rfl, q⟩
theorem op_neP {X : Cx} (hu : X.A.units + 64 < cLine) : OpR X (compareOp .NotEq) (rEqP X.K true) := by
  intro pins s σ H x y v u Q I rx ry h
  obtain ⟨d, e, hd, he, pd, pe, dd, q⟩ := h
  obtain ⟨as, r1⟩ := Dp.reads I d x v hd rx
  obtain ⟨bs, r2⟩ := Dp.reads I e y u he ry
  exact SeqAt.rcNe_plain r1 r2 pd pe (by omega) X.prog X.w X.xe _ ⟨.bl _, H, I, rfl, q⟩
def eqP (x y : PV) (S : Sto) : Option Bool := match toD 60 S x, toD 60 S y with
  | some d, some e => some (PyData.eqv d e)
  | _, _ => none
def gEqN (neg : Bool) : G2 := fun x y S => match eqP x y S with
  | some b => some (.ok (.bl (if neg then !b else b)) S)
  | none => none
abbrev gEq : G2 := gEqN false
abbrev gNe : G2 := gEqN true
theorem ok_eq {K : PySem.W.Frag} {mg : Str → Option Value} {neg : Bool} : OkG2 K mg (rEqP K neg) (gEqN neg) := fun W σ m S H x y d d' z Q s r1 r2 e p => by
  unfold gEqN at e
  split at e
  · rename_i b hb
    cases e
    unfold eqP at hb
    split at hb
    · rename_i q1 q2 e1 e2
      cases hb
      obtain ⟨a1, a2, a3⟩ := toD_dp s 60 _ _ _ e1 r1
      obtain ⟨b1, b2, b3⟩ := toD_dp s 60 _ _ _ e2 r2
      exact ⟨q1, q2, a1, b1, a2, b2, a3, post_here s (.bl _) p⟩
    · cases hb
  · cases e
/-- is, is not: None, and truth values -/
def gIsN (neg : Bool) : G2 := fun x y S => match x, y with
  | .bl a, .bl b => some (.ok (.bl (if neg then !decide (a = b) else decide (a = b))) S)
  | .non, .non => some (.ok (.bl (!neg)) S)
  | _, .non => some (.ok (.bl neg) S)
  | _, _ => none
abbrev gIs : G2 := gIsN false
abbrev gIsNot : G2 := gIsN true
theorem rp_non {K : PySem.W.Frag} {H : Hp} {m : Nat → Addr} {n : Nat} {d : PV} {v : V} (r : Rp K H m n d v) (h : d ≠ .non) : v ≠ .non := by cases r <;> simp at h ⊢
theorem op_is4 {X : Cx} : OpR X (compareOp .Is) (fun x y H Q => (y = .non ∧ Q (.bl (decide (x = .non))) H) ∨ rIsB x y H Q) := op_isN.or op_isBl
theorem op_isnot4 {X : Cx} : OpR X (compareOp .IsNot) (fun x y H Q => (y = .non ∧ Q (.bl (!decide (x = .non))) H) ∨ rNotB x y H Q) := op_notN.or op_notBl
theorem ok_is {K : PySem.W.Frag} {mg : Str → Option Value} : OkG2 K mg (fun x y H Q => (y = .non ∧ Q (.bl (decide (x = .non))) H) ∨ rIsB x y H Q) gIs := fun W σ m S H x y d d' z Q s r1 r2 e p => by
  unfold gIs gIsN at e
  split at e
  · cases e; cases r1; cases r2
    exact .inr ⟨_, _, rfl, rfl, post_here s (.bl _) p⟩
  · cases e; cases r1; cases r2
    exact .inl ⟨rfl, post_here s (.bl _) p⟩
  · rename_i h1 h2
    cases e; cases r2
    refine .inl ⟨rfl, ?_⟩
    rw [decide_eq_false (rp_non r1 fun z => h2 z)]
    exact post_here s (.bl _) p
  · cases e
theorem ok_isnot {K : PySem.W.Frag} {mg : Str → Option Value} : OkG2 K mg (fun x y H Q => (y = .non ∧ Q (.bl (!decide (x = .non))) H) ∨ rNotB x y H Q) gIsNot := fun W σ m S H x y d d' z Q s r1 r2 e p => by
  unfold gIsNot gIsN at e
  split at e
  · cases e; cases r1; cases r2
    exact .inr ⟨_, _, rfl, rfl, post_here s (.bl _) p⟩
  · cases e; cases r1; cases r2
    exact .inl ⟨rfl, post_here s (.bl _) p⟩
  · rename_i h1 h2
    cases e; cases r2
    refine .inl ⟨rfl, ?_⟩
    rw [decide_eq_false (rp_non r1 fun z => h2 z)]
    exact post_here s (.bl _) p
  · cases e

/-! ### subscripts -/
def gIx : G2 := fun x y S => match x, y with
  | .tup l, .int i => match atI l i with
    | some v => some (.ok v S)
    | none => none
  | .loc k, .int i => match S[k]? with
    | some (.lst l) => match atI l i with
      | some v => some (.ok v S)
      | none => none
    | some (.fz l) => match atI l i with
      | some v => some (.ok v S)
      | none => none
    | _ => none
  | .str z, .int i => if z.length ≤ 16777216 then match atI z.cps.toList i with
      | some c => some (.ok (.str ⟨#[c]⟩) S)
      | none => none else none
  | _, _ => none
theorem atI_rp {K : PySem.W.Frag} {H : Hp} {m : Nat → Addr} {n : Nat} {l : List PV} {xs : List V} {i : Int} {d : PV} (r : RpL K H m n l xs) (h : atI l i = some d) : ∃ x, atI xs i = some x ∧ Rp K H m n d x := by
  unfold atI at h ⊢
  rw [r.length] at h
  cases q : ixN xs.length i with
  | none => rw [q] at h; cases h
  | some j =>
    rw [q] at h
    obtain ⟨x, h1, h2⟩ := r.get (show l[j]? = some d from h)
    exact ⟨x, h1, h2⟩
theorem ok_ix {K : PySem.W.Frag} {mg : Str → Option Value} : OkG2 K mg (rIx K) gIx := fun W σ m S H x y d d' z Q s r1 r2 e p => by
  unfold gIx at e
  split at e
  · cases r1 with
    | tup hs hl =>
      cases r2
      split at e
      · rename_i v hv
        cases e
        obtain ⟨x, h1, h2⟩ := atI_rp hl hv
        exact .inr (.inl ⟨_, _, _, _, rfl, rfl, hs, h1, post_here s h2 p⟩)
      · cases e
  · cases r1 with
    | loc hk =>
      cases r2
      split at e
      · rename_i l e1
        obtain ⟨xs, hs, hl⟩ := s.obj _ _ e1
        split at e
        · rename_i v hv
          cases e
          obtain ⟨x, h1, h2⟩ := atI_rp hl hv
          exact .inl ⟨_, _, _, _, rfl, rfl, SqL.of hs, h1, post_here s h2 p⟩
        · cases e
      · rename_i l e1
        obtain ⟨xs, hs, hl⟩ := s.obj _ _ e1
        split at e
        · rename_i v hv
          cases e
          obtain ⟨x, h1, h2⟩ := atI_rp hl hv
          exact .inl ⟨_, _, _, _, rfl, rfl, hs.sq, h1, post_here s h2 p⟩
        · cases e
      · cases e
  · cases r1; cases r2
    split at e
    · rename_i hz
      split at e
      · rename_i v hv
        cases e
        exact .inr (.inr ⟨_, _, _, rfl, rfl, Nat.le_trans hz (by decide), hv, post_here s (.str _) p⟩)
      · cases e
    · cases e
  · cases e

/-! ### slices -/
abbrev DO := En → Sto → Option (R (Option Int))
def rO : Rel (Option Int) (Option Int) := fun _ _ _ d v => d = v
abbrev POd (X : Cx) (W : WX) (e : Option Expr) (f : DO) : Prop := L2.PO X e (tG X.K X.mg rO W f)
theorem _root_.L2.PO.imp {X : Cx} {e : Option Expr} {t t' : TO} (h : L2.PO X e t) (i : ∀ σ H Q, t' σ H Q → t σ H Q) : L2.PO X e t' := ⟨fun pins s σ H Q I q => h.run pins s σ H Q I (i _ _ _ q)⟩
def dNoPart : DO := fun _ S => some (.ok none S)
def dPart (f : DE) : DO := fun ρ S => bR (f ρ S) fun x S1 => match x with
  | .int i => some (.ok (some i) S1)
  | _ => none
section
variable {X : Cx} {W : WX} {e : Expr} {f : DE}
theorem do_none : POd X W none dNoPart := po_none.imp fun σ H Q h => by
  obtain ⟨m, ρ, S, r, s, e, hf, p⟩ := h
  cases hf
  exact p _ m H (Nat.le_refl _) Ext.refl s rfl
theorem do_some (h : PEd X W e f) : POd X W (some e) (dPart f) := (po_some h).imp fun σ H Q h => by
  refine (bind1 (ra := rE X.K) h).mono fun v H1 ⟨m, ρ, S, d, z, s, e, r1, hk, p⟩ => ?_
  split at hk
  · cases hk; cases r1
    exact ⟨_, rfl, p _ m H1 (Nat.le_refl _) Ext.refl s rfl⟩
  · cases hk
end
def cutP (l : List PV) (lo hi : Option Int) : List PV := (l.drop (HT.sIx l.length 0 lo)).take (HT.sIx l.length l.length hi - HT.sIx l.length 0 lo)
theorem cut_rp {K : PySem.W.Frag} {H : Hp} {m : Nat → Addr} {n : Nat} {l : List PV} {xs : List V} (r : RpL K H m n l xs) (lo hi : Option Int) : RpL K H m n (cutP l lo hi) (cutV xs lo hi) := by
  unfold cutP cutV
  rw [r.length]
  exact (r.drop _).take _
abbrev G3 := PV → Option Int → Option Int → Sto → Option (R PV)
def gSl : G3 := fun x lo hi S => match x with
  | .tup l => some (.ok (.tup (cutP l lo hi)) S)
  | .loc k => match S[k]? with
    | some (.lst l) => some (.ok (.loc S.length) (S ++ [.lst (cutP l lo hi)]))
    | some (.fz l) => some (.ok (.loc S.length) (S ++ [.lst (cutP l lo hi)]))
    | _ => none
  | _ => none
def dSl (a : DE) (lo hi : DO) : DE := fun ρ S => bR (a ρ S) fun x S1 => bR (lo ρ S1) fun l S2 => bR (hi ρ S2) fun h S3 => gSl x l h S3
def rSl4 (K : PySem.W.Frag) : V → Option Int → Option Int → Hp → VK → Prop := fun x lo hi H Q => rSlL K x lo hi H Q ∨ rSlA K x lo hi H Q
theorem cut_whole (l : List PV) (lo hi : Option Int) (h : HT.sIx l.length 0 lo = 0 ∧ HT.sIx l.length l.length hi = l.length) : cutP l lo hi = l := by
  unfold cutP
  rw [h.1, h.2]
  simp
theorem ok_sl {K : PySem.W.Frag} {mg : Str → Option Value} {W : WX} {σ : L2.St} {m : Nat → Addr} {S : Sto} {H : Hp} {x : V} {d : PV} {lo hi : Option Int} {z : R PV} {Q : VK} (s : StS K mg m S H) (r : Rp K H m S.length d x) (e : gSl d lo hi S = some z)
    (p : PostG K mg (rE K) W σ m S H z Q) : rSl4 K x lo hi H Q := by
  unfold gSl at e
  split at e
  · cases r with
    | tup hs hl =>
      cases e
      refine .inr ⟨_, _, rfl, hs, fun h => ?_, fun _ => ?_⟩
      · rw [← hl.length] at h
        rw [cut_whole _ _ _ h] at p
        exact post_here s (.tup hs hl) p
      · exact new_tup s (cut_rp hl lo hi) p
  · cases r with
    | loc hk =>
      split at e
      · rename_i l e1
        obtain ⟨xs, hs, hl⟩ := s.obj _ _ e1
        cases e
        exact .inl ⟨_, _, rfl, SqL.of hs, new_list s (cut_rp hl lo hi) p⟩
      · rename_i l e1
        obtain ⟨xs, hs, hl⟩ := s.obj _ _ e1
        cases e
        exact .inl ⟨_, _, rfl, hs.sq, new_list s (cut_rp hl lo hi) p⟩
      · cases e
  · cases e
theorem keeps_O {K : PySem.W.Frag} : Keeps K rO := fun _ _ _ _ _ _ _ _ _ _ r => r
theorem de_sl {X : Cx} {W : WX} {e : Expr} {lo hi : Option Expr} {p2 pos : Pos} {fa : DE} {fl fh : DO} (ha : PEd X W e fa) (hl : POd X W lo fl) (hh : POd X W hi fh) : PEd X W (.Subscript e (.Slice lo hi none p2) pos) (dSl fa fl fh) :=
  (pe_slice (sl_list.or sl_tupA) ha hl hh).imp fun σ H Q h => by
  refine (bind1 (ra := rE X.K) (k := fun ρ x S1 => bR (fl ρ S1) fun l S2 => bR (fh ρ S2) fun h S3 => gSl x l h S3) h).mono fun v H1 ⟨m, ρ, S, d, z, s, e, r1, hk, p⟩ => ?_
  have h2 : tG X.K X.mg (rE X.K) W (fun ρ S => bR (fl ρ S) fun l S2 => bR (fh ρ S2) fun h S3 => gSl d l h S3) σ H1 Q := ⟨m, ρ, S, z, s, e, hk, p⟩
  -- the value stays what it is: keep it beside
  have h3 : tG X.K X.mg rO W fl σ H1 fun l H2 => tG X.K X.mg rO W fh σ H2 fun h H3 => ∃ m S z, StS X.K X.mg m S H3 ∧ Rp X.K H3 m S.length d v ∧ gSl d l h S = some z ∧ PostG X.K X.mg (rE X.K) W σ m S H3 z Q := by
    have hk : bR (fl ρ S) (fun l S2 => bR (fh ρ S2) fun h S3 => gSl d l h S3) = some z := hk
    cases q : fl ρ S with
    | none => rw [q] at hk; cases hk
    | some z1 =>
      rw [q] at hk
      cases z1 with
      | exc x T =>
        cases hk
        exact ⟨m, ρ, S, .exc x T, s, e, q, p⟩
      | ok l T =>
        refine ⟨m, ρ, S, .ok l T, s, e, q, fun l' m2 H2 le x s2 rl => ?_⟩
        cases rl
        have hk : bR (fh ρ T) (fun h S3 => gSl d l h S3) = some z := hk
        cases q2 : fh ρ T with
        | none => rw [q2] at hk; cases hk
        | some z2 =>
          rw [q2] at hk
          cases z2 with
          | exc x2 T2 =>
            cases hk
            exact ⟨m2, ρ, T, .exc x2 T2, s2, e.mono x le, q2, p.on le x⟩
          | ok h T2 =>
            refine ⟨m2, ρ, T, .ok h T2, s2, e.mono x le, q2, fun h' m3 H3 le3 x3 s3 rh => ?_⟩
            cases rh
            exact ⟨m3, T2, z, s3, r1.mono (x.trans x3 le) (Nat.le_trans le le3), hk, p.on (Nat.le_trans le le3) (x.trans x3 le)⟩
  exact h3.mono fun l H2 h4 => h4.mono fun h H3 ⟨m, S, z, s, r, hk, p⟩ => ok_sl s r hk p
end D

/-! D5: calls of built-ins, methods, what is walked, comprehensions. -/
namespace D
open PySem PySem.Spec PyProof.Rows L2

/-! ### calls of built-ins -/
section
variable {X : Cx} {W : WX} {pos p : Pos} {x : Str} {e : Expr} {es : List Expr} {fa : DA} {id T : String} {r : List V → Hp → VK → Prop} {g : GA}
theorem de_bi (hc : CallR X (.builtin id) r) (hr : OkGA X.K X.mg r g) (hg : Gl X x) (hm : X.mg x = none) (hv : bootBuiltins x = some (.builtin id)) (ha : PAd X W (e :: es) fa) (hn : x ≠ "__name__" := by decide) (hdb : (x == ("__debug__" : Str)) = false := by decide)
    (he : starEach (e :: es) X.env = (false, eval e X.env) :: starEach es X.env := by rfl) (hpl : (backTo pos (starEach es X.env)).any (·.1) = false := by rfl) : PEd X W (.Call (.Name x p) (e :: es) [] pos) (dOpA g fa) :=
  (pe_callB hc hg hm hv ha hn hdb he hpl).imp fun σ H Q h => liftA hr h
theorem de_bty (hc : CallR X (.type T) r) (hr : OkGA X.K X.mg r g) (hg : Gl X x) (hm : X.mg x = none) (hv : bootBuiltins x = some (.type T)) (ha : PAd X W (e :: es) fa) (hn : x ≠ "__name__" := by decide) (hdb : (x == ("__debug__" : Str)) = false := by decide)
    (he : starEach (e :: es) X.env = (false, eval e X.env) :: starEach es X.env := by rfl) (hpl : (backTo pos (starEach es X.env)).any (·.1) = false := by rfl) : PEd X W (.Call (.Name x p) (e :: es) [] pos) (dOpA g fa) :=
  (pe_callTy hc hg hm hv ha hn hdb he hpl).imp fun σ H Q h => liftA hr h
end
section
variable {K : PySem.W.Frag} {mg : Str → Option Value}
def gLen : GA := fun l S => match l with
  | [.tup l] => some (.ok (.int l.length) S)
  | [.str z] => if z.length ≤ 16777216 then some (.ok (.int z.length) S) else none
  | [.loc k] => match S[k]? with
    | some (.lst l) => some (.ok (.int l.length) S)
    | some (.fz l) => some (.ok (.int l.length) S)
    | some (.dct _ l) => some (.ok (.int l.length) S)
    | _ => none
  | _ => none
def rLen4 (K : PySem.W.Frag) : List V → Hp → VK → Prop := fun xs H Q => (∃ p ys, xs = [.ref p] ∧ (SqL K H p ys ∨ SqT K H p ys) ∧ Q (.int ys.length) H) ∨ ((∃ z, xs = [.str z] ∧ z.length ≤ sizeLine ∧ Q (.int z.length) H) ∨
  ((∃ a kvs, xs = [V.ref a] ∧ H a = some (.dK kvs) ∧ Q (.int kvs.length) H) ∨ rLenT xs H Q))
theorem call_len4 {X : Cx} : CallR X (.builtin "len") (rLen4 X.K) := call_len_seq.or (call_len_str.or (call_lenD.or call_len_dT))
theorem paired_len {α β : Type} {F : α → β → Prop} : ∀ {l₁ : List α} {l₂ : List β}, Paired F l₁ l₂ → l₁.length = l₂.length
  | _, _, .nil => rfl
  | _, _, .cons _ t => by rw [List.length_cons, List.length_cons, paired_len t]
theorem ok_len : OkGA K mg (rLen4 K) gLen := fun W σ m S H x d z Q s r e p => by
  unfold gLen at e
  split at e
  · cases e
    cases r with
    | cons a b =>
      cases b
      cases a with
      | tup h1 h2 => exact .inl ⟨_, _, rfl, .inr h1, by rw [← h2.length]; exact post_here s (.int _) p⟩
  · split at e
    · rename_i hz
      cases e
      cases r with
      | cons a b =>
        cases b; cases a
        exact .inr (.inl ⟨_, rfl, Nat.le_trans hz (by decide), post_here s (.int _) p⟩)
    · cases e
  · cases r with
    | cons a b =>
      cases b; cases a
      split at e
      · rename_i l e1
        cases e
        obtain ⟨xs, h1, h2⟩ := s.obj _ _ e1
        exact .inl ⟨_, _, rfl, .inl (SqL.of h1), by rw [← h2.length]; exact post_here s (.int _) p⟩
      · rename_i l e1
        cases e
        obtain ⟨xs, h1, h2⟩ := s.obj _ _ e1
        exact .inl ⟨_, _, rfl, .inl h1.sq, by rw [← h2.length]; exact post_here s (.int _) p⟩
      · rename_i l e1
        cases e
        rcases s.obj _ _ e1 with ⟨_, kv, h1, h2⟩ | ⟨_, kv, h1, h2⟩
        · exact .inr (.inr (.inl ⟨_, kv, rfl, h1, by rw [← paired_len h2]; exact post_here s (.int _) p⟩))
        · exact .inr (.inr (.inr ⟨_, kv, rfl, h1, by rw [← paired_len h2]; exact post_here s (.int _) p⟩))
      · cases e
  · cases e
/-- int(x) of a number or a truth value -/
def gInt : GA := fun l S => match l with
  | [.int i] => some (.ok (.int i) S)
  | [.bl b] => some (.ok (.int (if b then 1 else 0)) S)
  | _ => none
theorem ok_int : OkGA K mg (fun xs H Q => (∃ i, xs = [.int i] ∧ Q (.int i) H) ∨ ∃ k, xs = [.bl k] ∧ Q (.int (if k then 1 else 0)) H) gInt := fun W σ m S H x d z Q s r e p => by
  unfold gInt at e
  split at e
  · cases e
    cases r with
    | cons a b =>
      cases b; cases a
      exact .inl ⟨_, rfl, post_here s (.int _) p⟩
  · cases e
    cases r with
    | cons a b =>
      cases b; cases a
      exact .inr ⟨_, rfl, post_here s (.int _) p⟩
  · cases e
def gAbs : GA := fun l S => match l with
  | [.int i] => some (.ok (.int (if i < 0 then -i else i)) S)
  | _ => none
theorem ok_abs : OkGA K mg (fun xs H Q => ∃ i, xs = [.int i] ∧ Q (.int (if i < 0 then -i else i)) H) gAbs := fun W σ m S H x d z Q s r e p => by
  unfold gAbs at e
  split at e
  · cases e
    cases r with
    | cons a b =>
      cases b; cases a
      exact ⟨_, rfl, post_here s (.int _) p⟩
  · cases e
def gMax2 : GA := fun l S => match l with
  | [.int i, .int j] => some (.ok (.int (if j > i then j else i)) S)
  | _ => none
theorem ok_max2 : OkGA K mg (fun xs H Q => ∃ i j, xs = [.int i, .int j] ∧ Q (.int (if j > i then j else i)) H) gMax2 := fun W σ m S H x d z Q s r e p => by
  unfold gMax2 at e
  split at e
  · cases e
    cases r with
    | cons a b => cases b with
      | cons b c =>
        cases a; cases b; cases c
        exact ⟨_, _, rfl, post_here s (.int _) p⟩
  · cases e
def gMin2 : GA := fun l S => match l with
  | [.int i, .int j] => some (.ok (.int (if j < i then j else i)) S)
  | _ => none
theorem ok_min2 : OkGA K mg (fun xs H Q => ∃ i j, xs = [.int i, .int j] ∧ Q (.int (if j < i then j else i)) H) gMin2 := fun W σ m S H x d z Q s r e p => by
  unfold gMin2 at e
  split at e
  · cases e
    cases r with
    | cons a b => cases b with
      | cons b c =>
        cases a; cases b; cases c
        exact ⟨_, _, rfl, post_here s (.int _) p⟩
  · cases e
/-- list(x) of a list or tuple -/
def gList : GA := fun l S => match l with
  | [d] => match itemsP d S with
    | some l => some (.ok (.loc S.length) (S ++ [.lst l]))
    | none => none
  | _ => none
theorem items_rp {H : Hp} {m : Nat → Addr} {S : Sto} {d : PV} {v : V} {l : List PV} (s : StS K mg m S H) (r : Rp K H m S.length d v) (e : itemsP d S = some l) : ∃ a xs, v = .ref a ∧ (SqL K H a xs ∨ SqT K H a xs) ∧ RpL K H m S.length l xs := by
  unfold itemsP at e
  split at e
  · cases e
    cases r with
    | tup h1 h2 => exact ⟨_, _, rfl, .inr h1, h2⟩
  · cases r
    split at e
    · rename_i e1
      cases e
      obtain ⟨xs, h1, h2⟩ := s.obj _ _ e1
      exact ⟨_, _, rfl, .inl (SqL.of h1), h2⟩
    · rename_i e1
      cases e
      obtain ⟨xs, h1, h2⟩ := s.obj _ _ e1
      exact ⟨_, _, rfl, .inl h1.sq, h2⟩
    · cases e
  · cases e
theorem ok_list : OkGA K mg (fun xs H Q => ∃ p ys, xs = [.ref p] ∧ (SqL K H p ys ∨ SqT K H p ys) ∧ ∀ l, H l = none → Q (.ref l) (upd H l (.lst ys))) gList := fun W σ m S H x d z Q s r e p => by
  unfold gList at e
  split at e
  · split at e
    · rename_i hl
      cases e
      cases r with
      | cons a b =>
        cases b
        obtain ⟨q, xs, rfl, hs, rl⟩ := items_rp s a hl
        exact ⟨q, xs, rfl, hs, new_list s rl p⟩
    · cases e
  · cases e
def gTuple : GA := fun l S => match l with
  | [d] => match itemsP d S with
    | some l => some (.ok (.tup l) S)
    | none => none
  | _ => none
theorem ok_tuple : OkGA K mg (fun xs H Q => ∃ p ys, xs = [.ref p] ∧ ((SqL K H p ys ∧ ∀ l, H l = none → Q (.ref l) (upd H l (.tup ys))) ∨ (SqT K H p ys ∧ Q (.ref p) H))) gTuple := fun W σ m S H x d z Q s r e p => by
  unfold gTuple at e
  split at e
  · split at e
    · rename_i hl
      cases e
      cases r with
      | cons a b =>
        cases b
        obtain ⟨q, xs, rfl, hs, rl⟩ := items_rp s a hl
        rcases hs with hs | hs
        · exact ⟨q, xs, rfl, .inl ⟨hs, new_tup s rl p⟩⟩
        · exact ⟨q, xs, rfl, .inr ⟨hs, post_here s (.tup hs rl) p⟩⟩
    · cases e
  · cases e
/-- a stored list -/
def lstOf (k : Nat) (S : Sto) : Option (List PV) := match S[k]? with
  | some (.lst l) => some l
  | some (.fz l) => some l
  | _ => none
theorem lst_rp {H : Hp} {m : Nat → Addr} {S : Sto} {k : Nat} {l : List PV} (s : StS K mg m S H) (e : lstOf k S = some l) : ∃ xs, SqL K H (m k) xs ∧ RpL K H m S.length l xs := by
  unfold lstOf at e
  split at e
  · rename_i e1
    cases e
    obtain ⟨xs, h1, h2⟩ := s.obj _ _ e1
    exact ⟨_, SqL.of h1, h2⟩
  · rename_i e1
    cases e
    obtain ⟨xs, h1, h2⟩ := s.obj _ _ e1
    exact ⟨_, h1.sq, h2⟩
  · cases e
/-! ### sorted -/
def rSortD (K : PySem.W.Frag) : List V → Hp → VK → Prop := fun vs H Q => ∃ (a : Addr) (xs : List V) (ds : List PyData), vs = [V.ref a] ∧ SqL K H a xs ∧ L2.DpAll K H xs ds ∧ PySem.W.AllAlike ds ∧ PySem.W.Sortable ds ∧ (∀ d ∈ ds, d.depth ≤ 40) ∧
  ∀ p, H p = none → Q (.ref p) (upd H p (.lst (((xs.zip ds).mergeSort (PySem.W.dataLe false Prod.snd)).map Prod.fst)))
theorem dpAll_len {H : Hp} : ∀ {xs : List V} {ds : List PyData}, L2.DpAll K H xs ds → xs.length = ds.length
  | _, _, .nil => rfl
  | _, _, .cons _ t => by rw [List.length_cons, List.length_cons, dpAll_len t]
theorem each_vals : ∀ {xs : List V} {ds : List PyData} {us : List Value}, xs.length = ds.length → Vals xs us → PySem.W.EachIs (fun u (b : V × PyData) => RelV b.1 u) us (xs.zip ds)
  | [], [], _, _, .nil => .nil
  | [], _ :: _, _, h, _ => by simp at h
  | _ :: _, [], _, h, _ => by simp at h
  | x :: xs, d :: ds, _, h, .cons r t => .cons r (each_vals (by simpa using h) t)
theorem vals_each : ∀ {bs : List (V × PyData)} {us : List Value}, PySem.W.EachIs (fun u (b : V × PyData) => RelV b.1 u) us bs → Vals (bs.map Prod.fst) us
  | _, _, .nil => .nil
  | _, _, .cons r t => .cons r (vals_each t)
theorem each_reads {X : Cx} {pins : List (Addr × Obj)} {σ : L2.St} {H : Hp} {s : Shared} (I : Inv X pins σ H s) : ∀ {xs : List V} {ds : List PyData} {us : List Value}, L2.DpAll X.K H xs ds → Vals xs us → PySem.W.EachIs (fun u (b : V × PyData) => ∃ as, Reads s.heap u b.2 as) us (xs.zip ds)
  | _, _, _, .nil, .nil => .nil
  | _, _, _, .cons a b, .cons r t => .cons (Dp.reads I _ _ _ a r) (each_reads I b t)
theorem zip_snd : ∀ {xs : List V} {ds : List PyData}, xs.length = ds.length → (xs.zip ds).map Prod.snd = ds
  | [], [], _ => rfl
  | [], _ :: _, h => by simp at h
  | _ :: _, [], h => by simp at h
  | x :: xs, d :: ds, h => by
    rw [List.zip_cons_cons, List.map_cons, zip_snd (by simpa using h)]
theorem cr_sortD {X : Cx} (hu : X.A.units + 64 < cLine) : CallR X (.builtin "sorted") (rSortD X.K) := by
  intro pins s σ H vs us Q I r h
  obtain ⟨a, xs, ds, rfl, hs, hd, hal, hk, hdep, q⟩ := h
  obtain ⟨its, rv, hl, hz⟩ := I.list hs
  rw [Vals.ref1 r]
  have hlen := dpAll_len hd
  have e1 := each_vals hlen rv
  have e2 := each_reads I hd rv
  have hzip : (xs.zip ds).map Prod.snd = ds := zip_snd hlen
  refine PySem.W.sorted_data (enc := Prod.snd) hl.isList e1 e2 (by rw [hzip]; exact hal) (by rw [hzip]; exact hk) (by rw [List.length_zip]; omega) (fun b hb => ?_) fun out h1 h2 => ?_
  · have := hdep b.2 (List.of_mem_zip hb).2
    omega
  · obtain ⟨ep, he'⟩ := PyProof.Rows.sortedAll_at s.heap its out.toArray
    have rv2 := vals_each h2
    have hlen2 : (((xs.zip ds).mergeSort (PySem.W.dataLe false Prod.snd)).map Prod.fst).length ≤ sizeLine := by
      rw [List.length_map, List.length_mergeSort, List.length_zip]
      omega
    exact ⟨.ref _, upd H (s.heap.objs.size + 1) (.lst _), I.laid (t' := s.toks) (fun _ _ => PyProof.Rows.sortedAll_old) (Nat.le_succ _) ⟨hlen2, out, ep, rv2, he'⟩, rfl, q _ (I.hok.fresh (Nat.le_succ _))⟩
def alikeB (ds : List PyData) : Bool := ds.all fun d => ds.all fun d' => PySem.W.alike d d'
def sortableB (ds : List PyData) : Bool := ds.all (fun d => match d with | .tuple (_ :: _) => true | _ => false) || ds.all (fun d => match d with | .none => false | .tuple _ => false | _ => true)
theorem alike_of {ds : List PyData} (h : alikeB ds = true) : PySem.W.AllAlike ds := fun d hd d' hd' => List.all_eq_true.mp (List.all_eq_true.mp h d hd) d' hd'
theorem sortable_of {ds : List PyData} (h : sortableB ds = true) : PySem.W.Sortable ds := by
  unfold sortableB at h
  rw [Bool.or_eq_true] at h
  rcases h with h | h
  · refine .inl fun d hd => ?_
    have := List.all_eq_true.mp h d hd
    split at this
    · exact ⟨_, _, rfl⟩
    · cases this
  · refine .inr fun d hd => ?_
    have := List.all_eq_true.mp h d hd
    split at this
    · cases this
    · cases this
    · rename_i h1 h2
      exact ⟨h1, h2⟩
def sortP (l : List PV) (ds : List PyData) : List PV := ((l.zip ds).mergeSort (PySem.W.dataLe false Prod.snd)).map Prod.fst
def gSorted : GA := fun l S => match l with
  | [.loc k] => match lstOf k S with
    | some l => match mapO (toD 40 S) l with
      | some ds => if alikeB ds = true ∧ sortableB ds = true then some (.ok (.loc S.length) (S ++ [.lst (sortP l ds)])) else none
      | none => none
    | none => none
  | _ => none
theorem rpl_of_mem {H : Hp} {m : Nat → Addr} {n : Nat} : ∀ {T : List (PV × V)}, (∀ t ∈ T, Rp K H m n t.1 t.2) → RpL K H m n (T.map Prod.fst) (T.map Prod.snd)
  | [], _ => .nil
  | t :: T, h => .cons (h t List.mem_cons_self) (rpl_of_mem fun u hu => h u (List.mem_cons_of_mem _ hu))
theorem sort_rp {H : Hp} {m : Nat → Addr} {n : Nat} {l : List PV} {xs : List V} {ds : List PyData} (r : RpL K H m n l xs) (hl : xs.length = ds.length) : RpL K H m n (sortP l ds) (((xs.zip ds).mergeSort (PySem.W.dataLe false Prod.snd)).map Prod.fst) := by
  have T : List ((PV × V) × PyData) := (l.zip xs).zip ds
  have h1 : (((l.zip xs).zip ds).map fun t => (t.1.1, t.2)) = l.zip ds := by
    have : ∀ (l : List PV) (xs : List V) (ds : List PyData), l.length = xs.length → xs.length = ds.length → (((l.zip xs).zip ds).map fun t => (t.1.1, t.2)) = l.zip ds := by
      intro l
      induction l with
      | nil => intro xs ds _ _; simp
      | cons a l ih =>
        intro xs ds h1 h2
        cases xs with
        | nil => simp at h1
        | cons b xs => cases ds with
          | nil => simp at h2
          | cons c ds => simp [ih xs ds (by simpa using h1) (by simpa using h2)]
    exact this l xs ds r.length hl
  have h2 : (((l.zip xs).zip ds).map fun t => (t.1.2, t.2)) = xs.zip ds := by
    have : ∀ (l : List PV) (xs : List V) (ds : List PyData), l.length = xs.length → xs.length = ds.length → (((l.zip xs).zip ds).map fun t => (t.1.2, t.2)) = xs.zip ds := by
      intro l
      induction l with
      | nil => intro xs ds h1 _; cases xs with
        | nil => simp
        | cons b xs => simp at h1
      | cons a l ih =>
        intro xs ds h1 h2
        cases xs with
        | nil => simp at h1
        | cons b xs => cases ds with
          | nil => simp at h2
          | cons c ds => simp [ih xs ds (by simpa using h1) (by simpa using h2)]
    exact this l xs ds r.length hl
  have hm : ∀ t ∈ (l.zip xs).zip ds, Rp K H m n t.1.1 t.1.2 := by
    have hz : ∀ (l : List PV) (xs : List V), RpL K H m n l xs → ∀ t ∈ l.zip xs, Rp K H m n t.1 t.2 := by
      intro l xs r
      induction l generalizing xs with
      | nil => intro t ht; simp at ht
      | cons a l ih =>
        cases r with
        | cons q r =>
          intro t ht
          rw [List.zip_cons_cons] at ht
          rcases List.mem_cons.mp ht with rfl | ht
          · exact q
          · exact ih _ r t ht
    exact fun t ht => hz l xs r t.1 (List.of_mem_zip ht).1
  unfold sortP
  rw [← h1, ← h2]
  rw [← List.map_mergeSort (f := fun t : (PV × V) × PyData => (t.1.1, t.2)) (r := PySem.W.dataLe false Prod.snd) (s := PySem.W.dataLe false Prod.snd) (fun a _ b _ => rfl), ← List.map_mergeSort (f := fun t : (PV × V) × PyData => (t.1.2, t.2)) (r := PySem.W.dataLe false Prod.snd) (s := PySem.W.dataLe false Prod.snd) (fun a _ b _ => rfl)]
  rw [List.map_map, List.map_map]
  have hm2 : ∀ t ∈ ((l.zip xs).zip ds).mergeSort (PySem.W.dataLe false Prod.snd), Rp K H m n t.1.1 t.1.2 := fun t ht => hm t (List.mem_mergeSort.mp ht)
  have q := rpl_of_mem (K := K) (H := H) (m := m) (n := n) (T := (((l.zip xs).zip ds).mergeSort (PySem.W.dataLe false Prod.snd)).map Prod.fst) (fun t ht => by
    obtain ⟨u, hu, rfl⟩ := List.mem_map.mp ht
    exact hm2 u hu)
  rw [List.map_map, List.map_map] at q
  exact q
theorem mapO_len {α β : Type} {f : α → Option β} : ∀ {l : List α} {r : List β}, mapO f l = some r → l.length = r.length
  | [], _, h => by cases h; rfl
  | x :: xs, r, h => by
    unfold mapO at h
    split at h
    · rename_i y ys _ e2
      cases h
      rw [List.length_cons, List.length_cons, mapO_len e2]
    · cases h
theorem depthAll_mem : ∀ {ds : List PyData} {c : Nat}, PyData.depthAll ds ≤ c → ∀ d ∈ ds, d.depth ≤ c
  | _ :: _, _, h, d, hd => by
    rw [PyData.depthAll] at h
    rcases List.mem_cons.mp hd with rfl | hd
    · omega
    · exact depthAll_mem (by omega) d hd
theorem ok_sorted : OkGA K mg (rSortD K) gSorted := fun W σ m S H x d z Q s r e p => by
  unfold gSorted at e
  split at e
  · rename_i k
    split at e
    · rename_i l hl
      split at e
      · rename_i ds hds
        split at e
        · rename_i hc
          cases e
          cases r with
          | cons a b =>
            cases b; cases a
            obtain ⟨xs, h1, h2⟩ := lst_rp s hl
            obtain ⟨a1, a2, a3⟩ := mapO_dp (c := 40) (toD_dp s 40) hds h2
            exact ⟨_, xs, ds, rfl, h1, a1, alike_of hc.1, sortable_of hc.2, depthAll_mem a3, new_list s (sort_rp h2 (dpAll_len a1)) p⟩
        · cases e
      · cases e
    · cases e
  · cases e
end
end D

/-! D6: what is walked; comprehensions; methods of lists; stores. -/
namespace D
open PySem PySem.Spec PyProof.Rows L2

/-! ### ranges of any size -/
theorem turn_long {P : Program} {w : World} {K : PySem.W.Frag} {tg : Expr} (it : Addr) (lo : Int) (n : Nat) : Turn P w K tg (Itr lo n) [it] it (fun i h => IsLongIter h it (lo + (i : Nat) * 1) ((n : Int) - (i : Nat)) 1) where
  mem := by simp
  obj := fun i h st b hb => by
    have e : b = it := by simpa using hb
    subst e
    exact ⟨_, st, fun v z => by
      have z' : Data.fields _ = Data.cell v := z
      cases z'⟩
  keep := fun i h h' st k => k it (by simp) _ st
  item := by
    intro X hP hw hK hc i pins s σ H E I hf st hg
    subst hP hw hK
    obtain ⟨f0, f1, f2, f3, f4, f5⟩ := hf it (by simp)
    have W := Walks.longrange (prog := X.prog) (w := X.w) (I.ok.hd hc) it lo 1 n
    refine W.item i s _ _ hg st fun v h' tk hv st' kk => ?_
    obtain ⟨t, rfl⟩ := hv
    have I1 : Inv X pins σ H { s with heap := h', toks := tk } := I.turned (fun b o hb e => kk b o (by simpa using hb) e) f0 f1 f3 f4 f5
    refine ⟨_, rfl, go_of (s := { s with heap := h', toks := tk }) (n := "longrange_iterator") st' rfl rfl (by decide) ⟨.int (lo + i), H, I1, ⟨t, ?_⟩, ⟨rfl, rfl⟩, st', fun b hb => (hf b hb).1⟩⟩
    rw [Int.mul_one]
  done := by
    intro X hP hw hK hc i pins s σ H E I hf st hg
    subst hP hw hK
    obtain ⟨f0, f1, f2, f3, f4, f5⟩ := hf it (by simp)
    exact wpAny_pyNext_long_end (I.ok.hd hc) st (by have : n ≤ i := hg; omega) fun h' eb => ⟨rfl, I.turned (t' := s.toks) (fun b o hb e => eb b o hb e) f0 f1 f3 f4 f5⟩
  self := fun _ _ _ _ _ st h => wpAny_pyIter_longiter st h
section
variable {X : Cx} {tg : Expr}
theorem range_itA {pins : List (Addr × Obj)} {σ : L2.St} {H : Hp} {s : Shared} {R : It → Hp → Prop} {E : Value → Shared → Prop} {lo hi : Int} {t u v : Tok} {tk : Nat} (I : Inv X pins σ H s)
    (q : R (Itr lo (hi - lo).toNat) H) : wpAny (model X.prog X.w) X.A (pyIter (.ref s.heap.objs.size)) (PIE X pins σ tg R) E { s with heap := s.heap.push { cls := .type "range", data := .fields #[.int lo t, .int hi u, .int 1 v] }, toks := tk } := by
  have I1 : Inv X pins σ H { s with heap := s.heap.push { cls := .type "range", data := .fields #[.int lo t, .int hi u, .int 1 v] }, toks := tk } := I.kept fun b o e => Heap.get?_push_of_some _ e
  have e1 : lo + ((0 : Nat) : Int) * 1 = lo := by simp
  have e2 : (((hi - lo).toNat : Nat) : Int) - ((0 : Nat) : Int) = Builtin.Range.rangeSize lo hi 1 := by rw [rangeSize_one]; split <;> omega
  cases hs : Builtin.Range.small lo hi 1 with
  | true =>
    refine wpAny_pyIter_range (IsRange.new ..) hs ?_
    refine ⟨(s.heap.push { cls := .type "range", data := .fields #[.int lo t, .int hi u, .int 1 v] }).objs.size, [(s.heap.push { cls := .type "range", data := .fields #[.int lo t, .int hi u, .int 1 v] }).objs.size], _, _, H, rfl,
      I1.kept (t' := tk) fun b o e => Heap.get?_push_of_some _ e, turn_range _ lo (hi - lo).toNat, ?_, fun b hb => ?_, q⟩
    · show IsRangeIter _ _ (lo + ((0 : Nat) : Int) * 1) ((((hi - lo).toNat : Nat) : Int) - ((0 : Nat) : Int)) 1
      rw [e1, e2]
      exact Heap.get?_push_size _ rfl
    · have e : b = (s.heap.push { cls := .type "range", data := .fields #[.int lo t, .int hi u, .int 1 v] }).objs.size := by simpa using hb
      subst e
      exact I1.fpOk (Nat.le_refl _) (I1.hok.fresh (Nat.le_refl _))
  | false =>
    refine wpAny_pyIter_longrange (IsRange.new ..) hs ?_
    refine ⟨(s.heap.push { cls := .type "range", data := .fields #[.int lo t, .int hi u, .int 1 v] }).objs.size, [(s.heap.push { cls := .type "range", data := .fields #[.int lo t, .int hi u, .int 1 v] }).objs.size], _, _, H, rfl,
      I1.kept (t' := tk) fun b o e => Heap.get?_push_of_some _ e, turn_long _ lo (hi - lo).toNat, ?_, fun b hb => ?_, q⟩
    · show IsLongIter _ _ (lo + ((0 : Nat) : Int) * 1) ((((hi - lo).toNat : Nat) : Int) - ((0 : Nat) : Int)) 1
      rw [e1, e2]
      exact Heap.get?_push_size _ rfl
    · have e : b = (s.heap.push { cls := .type "range", data := .fields #[.int lo t, .int hi u, .int 1 v] }).objs.size := by simpa using hb
      subst e
      exact I1.fpOk (Nat.le_refl _) (I1.hok.fresh (Nat.le_refl _))
def iRngA1 (ta : TA) : TI := fun σ H R => ta σ H fun vs H1 => ∃ j : Int, vs = [.int j] ∧ R (Itr 0 j.toNat) H1
def iRngA2 (ta : TA) : TI := fun σ H R => ta σ H fun vs H1 => ∃ i j : Int, vs = [.int i, .int j] ∧ R (Itr i (j - i).toNat) H1
theorem pi_rangeA1 {a : Expr} {ta : TA} {p pos : Pos} (hg : Gl X "range") (hm : X.mg "range" = none) (ha : PA X [a] ta) (hs : starEach [a] X.env = [(false, eval a X.env)] := by rfl) : PI X tg (.Call (.Name "range" p) [a] [] pos) (iRngA1 ta) := by
  refine ⟨fun pins s σ H R I h => ?_⟩
  refine Call_ (ld_blt I hg hm boot_range (PyProof.Rows.callWith_type1 (thn (ha.run pos pins s σ H _ I h) fun us s1 ⟨vs, H1, I1, r1, q1⟩ => ?_) hs rfl))
  obtain ⟨j, e, q⟩ := q1
  subst e
  cases r1 with
  | cons r rr =>
    cases rr
    obtain ⟨t, rfl⟩ := r
    exact call_range_1 (range_itA I1 (by simpa using q))
theorem pi_rangeA2 {a b : Expr} {ta : TA} {p pos : Pos} (hg : Gl X "range") (hm : X.mg "range" = none) (ha : PA X [a, b] ta) (hs : starEach [a, b] X.env = [(false, eval a X.env), (false, eval b X.env)] := by rfl) (hs2 : starEach [b] X.env = [(false, eval b X.env)] := by rfl) :
    PI X tg (.Call (.Name "range" p) [a, b] [] pos) (iRngA2 ta) := by
  refine ⟨fun pins s σ H R I h => ?_⟩
  refine Call_ (ld_blt I hg hm boot_range (PyProof.Rows.callWith_type1 (thn (ha.run pos pins s σ H _ I h) fun us s1 ⟨vs, H1, I1, r1, q1⟩ => ?_) (by rw [hs, hs2]) (by rw [hs2]; rfl)))
  obtain ⟨i, j, e, q⟩ := q1
  subst e
  cases r1 with
  | cons r rr =>
    cases rr with
    | cons r' rr =>
      cases rr
      obtain ⟨t, rfl⟩ := r
      obtain ⟨t', rfl⟩ := r'
      exact call_range_2 (range_itA I1 q)
/-- a list or a tuple -/
def iSeq (K : PySem.W.Frag) (tl : TE) : TI := fun σ H R => tl σ H fun x H1 => ∃ a, x = .ref a ∧ (((∃ xs, SqL K H1 a xs) ∧ R (Itl K a) H1) ∨ ((∃ xs, SqT K H1 a xs) ∧ R (Itt K a) H1))
theorem pi_seq {l : Expr} {tl : TE} (hl : PE X l tl) : PI X tg l (iSeq X.K tl) := by
  refine ⟨fun pins s σ H R I h => ?_⟩
  refine thn (hl.run pins s σ H _ I h) fun v s1 ⟨x, H1, I1, r1, q1⟩ => ?_
  obtain ⟨a, e, q1⟩ := q1
  subst e
  cases r1
  rcases q1 with ⟨⟨xs, hq⟩, q⟩ | ⟨⟨xs, hq⟩, q⟩
  · obtain ⟨its, rv, p, hz⟩ := I1.list hq
    refine wpAny_pyIter_list p.isList ?_
    refine ⟨s1.heap.objs.size, [s1.heap.objs.size], _, _, H1, rfl, I1.kept (t' := s1.toks) fun b o e => Heap.get?_push_of_some _ e, turn_list a _, ⟨_, Heap.get?_push_size _ rfl, rfl, rfl⟩, fun b hb => ?_, q⟩
    have e : b = s1.heap.objs.size := by simpa using hb
    subst e
    exact I1.fpOk (Nat.le_refl _) (I1.hok.fresh (Nat.le_refl _))
  · obtain ⟨its, rv, p, hz⟩ := I1.tuple hq
    refine wpAny_pyIter_tuple (show s1.heap.IsTuple a its.toArray from p) ?_
    refine ⟨s1.heap.objs.size, [s1.heap.objs.size], _, _, H1, rfl, I1.kept (t' := s1.toks) fun b o e => Heap.get?_push_of_some _ e, turn_tuple a _, ⟨_, Heap.get?_push_size _ rfl, rfl, rfl⟩, fun b hb => ?_, q⟩
    have e : b = s1.heap.objs.size := by simpa using hb
    subst e
    exact I1.fpOk (Nat.le_refl _) (I1.hok.fresh (Nat.le_refl _))
end

/-! ### sources -/
section
variable {K : PySem.W.Frag} {mg : Str → Option Value} {m : Nat → Addr} {n : Nat} {H : Hp} {S : Sto}
theorem itOk_tup {a : Addr} {xs : List V} {l : List PV} (hs : SqT K H a xs) (r : RpL K H m n l xs) : ItOk K mg (Itt K a) ⟨l, []⟩ n m H where
  go := fun i d m' S H' le x s _ e => by
    have hs' := x.tp _ _ hs
    obtain ⟨v, h1, h2⟩ := (r.mono x le).get e
    refine ⟨⟨xs, v, hs', h1⟩, fun y H2 hy => ?_⟩
    obtain ⟨e1, e2⟩ := hy
    subst e1
    have : xs[i]? = some y := e2 xs hs'
    rw [h1] at this
    cases this
    exact ⟨m', Ext.refl, s, h2⟩
  stop := fun m' S H' le x s _ => ⟨xs, x.tp _ _ hs, by rw [← r.length]; exact Nat.le_refl _⟩
theorem itOk_lst {k : Nat} {l : List PV} {po : PO} (s0 : StS K mg m S H) (e0 : S[k]? = some po) (hl : lstOf k S = some l) : ItOk K mg (Itl K (m k)) ⟨l, [(k, po)]⟩ S.length m H where
  go := fun i d m' S' H' le x s kp e => by
    have e1 : S'[k]? = some po := kp (k, po) (by simp)
    have hl' : lstOf k S' = some l := by
      unfold lstOf at hl ⊢
      rw [e0] at hl
      rw [e1]; exact hl
    obtain ⟨xs, h1, h2⟩ := lst_rp s hl'
    obtain ⟨v, h3, h4⟩ := h2.get e
    rw [x.mp k (lt_of_get e0)] at h1
    refine ⟨⟨xs, v, h1, h3⟩, fun y H2 hy => ?_⟩
    obtain ⟨e1, e2⟩ := hy
    subst e1
    have : xs[i]? = some y := e2 xs h1
    rw [h3] at this
    cases this
    exact ⟨m', Ext.refl, s, h4⟩
  stop := fun m' S' H' le x s kp => by
    have e1 : S'[k]? = some po := kp (k, po) (by simp)
    have hl' : lstOf k S' = some l := by
      unfold lstOf at hl ⊢
      rw [e0] at hl
      rw [e1]; exact hl
    obtain ⟨xs, h1, h2⟩ := lst_rp s hl'
    rw [x.mp k (lt_of_get e0)] at h1
    exact ⟨xs, h1, by rw [← h2.length]; exact Nat.le_refl _⟩
def rangeP (lo : Int) (n : Nat) : List PV := (List.range n).map fun i : Nat => PV.int (lo + (i : Int))
theorem itOk_rng {lo : Int} {c : Nat} : ItOk K mg (Itr lo c) ⟨rangeP lo c, []⟩ n m H where
  go := fun i d m' S' H' le x s kp e => by
    have hi : i < c := by
      have := lt_of_get e
      simpa [rangeP] using this
    have e' : d = .int (lo + i) := by
      have e' : (rangeP lo c)[i]? = some d := e
      unfold rangeP at e'
      rw [List.getElem?_map, List.getElem?_range hi] at e'
      cases e'; rfl
    subst e'
    refine ⟨hi, fun y H2 hy => ?_⟩
    obtain ⟨e1, e2⟩ := hy
    subst e1; subst e2
    exact ⟨m', Ext.refl, s, .int _⟩
  stop := fun m' S' H' le x s kp => by
    show c ≤ (rangeP lo c).length
    simp [rangeP]
theorem itOk_str {z : Str} : ItOk K mg (Its z) ⟨z.cps.toList.map fun c => .str ⟨#[c]⟩, []⟩ n m H where
  go := fun i d m' S' H' le x s kp e => by
    have e' : (z.cps.toList.map fun c => PV.str ⟨#[c]⟩)[i]? = some d := e
    rw [List.getElem?_map] at e'
    cases q : z.cps.toList[i]? with
    | none => rw [q] at e'; cases e'
    | some c =>
      rw [q] at e'
      cases e'
      have hi : i < z.cps.size := by simpa using lt_of_get q
      refine ⟨hi, fun y H2 hy => ?_⟩
      obtain ⟨e1, c', e2, e3⟩ := hy
      subst e1; subst e3
      have : c' = c := by
        rw [Array.getElem?_toList] at q
        rw [q] at e2; cases e2; rfl
      subst this
      exact ⟨m', Ext.refl, s, .str _⟩
  stop := fun m' S' H' le x s kp => by
    show z.cps.size ≤ _
    simp
end
section
variable {X : Cx} {W : WX} {tg e : Expr} {fe : DE}
theorem lstOf1 {S : Sto} {k : Nat} {l : List PV} (e : S[k]? = some (.lst l)) : lstOf k S = some l := by unfold lstOf; rw [e]
theorem lstOf2 {S : Sto} {k : Nat} {l : List PV} (e : S[k]? = some (.fz l)) : lstOf k S = some l := by unfold lstOf; rw [e]
/-- a list or a tuple -/
def dSeqI (f : DE) : DI := fun ρ S => bR (f ρ S) fun x S1 => match x with
  | .tup l => some (.ok ⟨l, []⟩ S1)
  | .loc k => match S1[k]? with
    | some (.lst l) => some (.ok ⟨l, [(k, .lst l)]⟩ S1)
    | some (.fz l) => some (.ok ⟨l, [(k, .fz l)]⟩ S1)
    | _ => none
  | _ => none
theorem di_seq (h : PEd X W e fe) : PId X W tg e (dSeqI fe) := (pi_seq h).imp fun σ H Q h => by
  refine (bind1 (ra := rE X.K) h).mono fun v H1 ⟨m, ρ, S, d, z, s, en, r1, hk, p⟩ => ?_
  split at hk
  · cases r1 with
    | @tup l a xs h1 h2 =>
      cases hk
      exact ⟨a, rfl, .inr ⟨⟨xs, h1⟩, p _ m H1 (Nat.le_refl _) Ext.refl s (itOk_tup h1 h2)⟩⟩
  · cases r1 with
    | loc hk' =>
      split at hk
      · rename_i e1
        cases hk
        have hl := lstOf1 e1
        obtain ⟨xs, h1, h2⟩ := lst_rp s hl
        exact ⟨_, rfl, .inl ⟨⟨xs, h1⟩, p _ m H1 (Nat.le_refl _) Ext.refl s (itOk_lst s e1 hl)⟩⟩
      · rename_i e1
        cases hk
        have hl := lstOf2 e1
        obtain ⟨xs, h1, h2⟩ := lst_rp s hl
        exact ⟨_, rfl, .inl ⟨⟨xs, h1⟩, p _ m H1 (Nat.le_refl _) Ext.refl s (itOk_lst s e1 hl)⟩⟩
      · cases hk
  · cases hk
def dStrI (f : DE) : DI := fun ρ S => bR (f ρ S) fun x S1 => match x with
  | .str z => some (.ok ⟨z.cps.toList.map fun c => .str ⟨#[c]⟩, []⟩ S1)
  | _ => none
theorem di_str (h : PEd X W e fe) : PId X W tg e (dStrI fe) := (pi_str h).imp fun σ H Q h => by
  refine (bind1 (ra := rE X.K) h).mono fun v H1 ⟨m, ρ, S, d, z, s, en, r1, hk, p⟩ => ?_
  split at hk
  · cases hk; cases r1
    exact ⟨_, rfl, p _ m H1 (Nat.le_refl _) Ext.refl s itOk_str⟩
  · cases hk
def dRng1 (f : DA) : DI := fun ρ S => bR (f ρ S) fun x S1 => match x with
  | [.int j] => some (.ok ⟨rangeP 0 j.toNat, []⟩ S1)
  | _ => none
def dRng2 (f : DA) : DI := fun ρ S => bR (f ρ S) fun x S1 => match x with
  | [.int i, .int j] => some (.ok ⟨rangeP i (j - i).toNat, []⟩ S1)
  | _ => none
theorem di_rng1 {a : Expr} {f : DA} {p pos : Pos} (hg : Gl X "range") (hm : X.mg "range" = none) (ha : PAd X W [a] f) (hs : starEach [a] X.env = [(false, eval a X.env)] := by rfl) : PId X W tg (.Call (.Name "range" p) [a] [] pos) (dRng1 f) :=
  (pi_rangeA1 hg hm ha hs).imp fun σ H Q h => by
  refine (bind1 (ra := rA X.K) h).mono fun v H1 ⟨m, ρ, S, d, z, s, en, r1, hk, p⟩ => ?_
  split at hk
  · cases hk
    cases r1 with
    | cons a b =>
      cases a; cases b
      exact ⟨_, rfl, p _ m H1 (Nat.le_refl _) Ext.refl s itOk_rng⟩
  · cases hk
theorem di_rng2 {a b : Expr} {f : DA} {p pos : Pos} (hg : Gl X "range") (hm : X.mg "range" = none) (ha : PAd X W [a, b] f) (hs : starEach [a, b] X.env = [(false, eval a X.env), (false, eval b X.env)] := by rfl) (hs2 : starEach [b] X.env = [(false, eval b X.env)] := by rfl) :
    PId X W tg (.Call (.Name "range" p) [a, b] [] pos) (dRng2 f) :=
  (pi_rangeA2 hg hm ha hs hs2).imp fun σ H Q h => by
  refine (bind1 (ra := rA X.K) h).mono fun v H1 ⟨m, ρ, S, d, z, s, en, r1, hk, p⟩ => ?_
  split at hk
  · cases hk
    cases r1 with
    | cons a b => cases b with
      | cons b c =>
        cases a; cases b; cases c
        exact ⟨_, _, rfl, p _ m H1 (Nat.le_refl _) Ext.refl s itOk_rng⟩
  · cases hk
end

/-! ### comprehensions -/
abbrev PTsd (X : Cx) (W : WX) (ifs : List Expr) (f : DB) : Prop := PTs X ifs (tT X.K X.mg W f)
theorem _root_.L2.PTs.imp {X : Cx} {e : List Expr} {t t' : TT} (h : PTs X e t) (i : ∀ σ H Q, t' σ H Q → t σ H Q) : PTs X e t' := ⟨fun pins s σ H Q I q => h.run pins s σ H Q I (i _ _ _ q)⟩
def dYes : DB := fun _ S => some (.ok true S)
theorem dts_nil {X : Cx} {W : WX} : PTsd X W [] dYes := pts_nil.imp fun σ H Q h => by
  obtain ⟨m, ρ, S, r, s, e, hf, p⟩ := h
  cases hf
  exact p _ m H (Nat.le_refl _) Ext.refl s rfl
theorem dts_one {X : Cx} {W : WX} {c : Expr} {f : DB} (h : PTd X W c f) : PTsd X W [c] f := pts_one h
abbrev W0 : WX := fun _ _ _ _ => False

/-- names that are set -/
def setsE : List Nat → List PV → En → En
  | i :: is, v :: vs, ρ => setsE is vs (ρ.set i (some v))
  | _, _, ρ => ρ
def setsV : List Nat → List V → L2.St → L2.St
  | i :: is, v :: vs, σ => setsV is vs (σ.set i (some v))
  | _, _, σ => σ
theorem wipe_set (σ : L2.St) (i : Nat) (o : Option V) : ∀ vs : List Nat, i ∈ vs → wipe (σ.set i o) vs = wipe σ vs
  | [], h => absurd h (by simp)
  | v :: vs, h => by
    unfold wipe
    by_cases hm : i ∈ vs
    · rw [wipe_set σ i o vs hm]
    · have hv : i = v := by
        rcases List.mem_cons.mp h with e | e
        · exact e
        · exact absurd e hm
      subst hv
      have : ∀ (vs : List Nat) (σ : L2.St), i ∉ vs → wipe (σ.set i o) vs = (wipe σ vs).set i o := by
        intro vs
        induction vs with
        | nil => intro σ _; rfl
        | cons u us ih =>
          intro σ hn
          unfold wipe
          rw [ih σ (fun q => hn (List.mem_cons_of_mem _ q)), List.set_comm _ _ (fun q => hn (by rw [q]; exact List.mem_cons_self))]
      rw [this vs σ hm, List.set_set]
theorem wipe_wipe (σ : L2.St) : ∀ vs ws : List Nat, (∀ i ∈ vs, i ∈ ws) → wipe (wipe σ vs) ws = wipe σ ws
  | [], _, _ => rfl
  | v :: vs, ws, h => by
    show wipe ((wipe σ vs).set v none) ws = _
    rw [wipe_set _ _ _ ws (h v List.mem_cons_self), wipe_wipe σ vs ws fun i hi => h i (List.mem_cons_of_mem _ hi)]
theorem wipe_sets : ∀ (is : List Nat) (xs : List V) (σ : L2.St) (vs : List Nat), (∀ i ∈ is, i ∈ vs) → wipe (setsV is xs σ) vs = wipe σ vs
  | [], _, _, _, _ => rfl
  | _ :: _, [], _, _, _ => rfl
  | i :: is, x :: xs, σ, vs, h => by
    show wipe (setsV is xs (σ.set i (some x))) vs = _
    rw [wipe_sets is xs _ vs fun j hj => h j (List.mem_cons_of_mem _ hj), wipe_set _ _ _ vs (h i List.mem_cons_self)]
theorem EnR.sets {K : PySem.W.Frag} {H : Hp} {m : Nat → Addr} {n : Nat} : ∀ (is : List Nat) {l : List PV} {xs : List V} {ρ : En} {σ : L2.St}, RpL K H m n l xs → EnR K H m n ρ σ → EnR K H m n (setsE is l ρ) (setsV is xs σ)
  | [], _, _, _, _, _, h => by
    unfold setsE setsV; exact h
  | i :: is, _, _, _, _, .nil, h => h
  | i :: is, _, _, _, _, .cons a r, h => EnR.sets is r (h.set a)
theorem EnR.wipe {K : PySem.W.Frag} {H : Hp} {m : Nat → Addr} {n : Nat} {ρ : En} {σ : L2.St} (h : EnR K H m n ρ σ) : ∀ vs : List Nat, EnR K H m n (killE vs ρ) (L2.wipe σ vs) := fun vs => by
  refine ⟨?_, fun i v e => ?_⟩
  · have : ∀ (vs : List Nat) (ρ : En), (killE vs ρ).length = ρ.length := by
      intro vs
      induction vs with
      | nil => intro ρ; rfl
      | cons v vs ih => intro ρ; show (killE vs (ρ.set v none)).length = _; rw [ih, List.length_set]
    rw [this, wipe_length, h.len]
  · have key : ∀ (vs : List Nat) (ρ : En), (killE vs ρ)[i]? = some (some v) → ρ[i]? = some (some v) ∧ i ∉ vs := by
      intro vs
      induction vs with
      | nil => intro ρ e; exact ⟨e, by simp⟩
      | cons u us ih =>
        intro ρ e
        obtain ⟨e1, e2⟩ := ih (ρ.set u none) e
        by_cases hu : u = i
        · subst hu
          by_cases hl : u < ρ.length
          · rw [List.getElem?_set_self hl] at e1; cases e1
          · rw [List.set_eq_of_length_le (by omega)] at e1
            exact absurd (lt_of_get e1) hl
        · rw [List.getElem?_set_ne hu] at e1
          exact ⟨e1, fun q => (List.mem_cons.mp q).elim (fun z => hu z.symm) e2⟩
    obtain ⟨e1, e2⟩ := key vs ρ e
    obtain ⟨x, h1, h2⟩ := h.at_ i v e1
    refine ⟨x, ?_, h2⟩
    have : ∀ vs : List Nat, i ∉ vs → (L2.wipe σ vs)[i]? = σ[i]? := by
      intro vs
      induction vs with
      | nil => intro _; rfl
      | cons u us ih =>
        intro hn
        show ((L2.wipe σ us).set u none)[i]? = _
        rw [List.getElem?_set_ne (fun q => hn (by rw [← q]; exact List.mem_cons_self)), ih fun q => hn (List.mem_cons_of_mem _ q)]
    rw [this vs e2]; exact h1
/-- a target of names alone: one name, or a tuple of names -/
structure NmT (K : PySem.W.Frag) (mg : Str → Option Value) (g : TG) (f : PV → Option (List Nat × List PV)) (own : List Nat) : Prop where
  run : ∀ (m : Nat → Addr) (S : Sto) (H : Hp) (d : PV) (v : V) (is : List Nat) (l : List PV) (σ : L2.St) (Q : L2.St → Hp → Prop), StS K mg m S H → Rp K H m S.length d v → f d = some (is, l) →
    (∀ i ∈ is, i ∈ own) ∧ ((∀ xs, RpL K H m S.length l xs → Q (setsV is xs σ) H) → g v σ H Q)
def nmOne (i : Nat) : PV → Option (List Nat × List PV) := fun d => some ([i], [d])
def nmTup (is : List Nat) : PV → Option (List Nat × List PV) := fun d => match d with
  | .tup l => if l.length = is.length then some (is, l) else none
  | _ => none
theorem nm_one {K : PySem.W.Frag} {mg : Str → Option Value} (i : Nat) : NmT K mg (gName i) (nmOne i) [i] := ⟨fun m S H d v is l σ Q s r e => by
  cases e
  exact ⟨by simp, fun q => q [v] (.cons r .nil)⟩⟩
def gNames : List Nat → TGs
  | [] => gNil
  | i :: is => gCons (gName i) (gNames is)
theorem names_run : ∀ (is : List Nat) (xs : List V) (σ : L2.St) (H : Hp) (Q : L2.St → Hp → Prop), xs.length = is.length → Q (setsV is xs σ) H → gNames is xs σ H Q
  | [], [], _, _, _, _, q => ⟨rfl, q⟩
  | [], _ :: _, _, _, _, h, _ => by simp at h
  | _ :: _, [], _, _, _, h, _ => by simp at h
  | i :: is, x :: xs, σ, H, Q, h, q => ⟨x, xs, rfl, names_run is xs _ H Q (by simpa using h) q⟩
theorem nm_tup {K : PySem.W.Frag} {mg : Str → Option Value} (is : List Nat) {c : Nat} (hc : c = is.length := by rfl) : NmT K mg (gTup K c (gNames is)) (nmTup is) is := ⟨fun m S H d v is' l σ Q s r e => by
  unfold nmTup at e
  split at e
  · split at e
    · rename_i hl
      cases e
      cases r with
      | @tup _ a xs h1 h2 =>
        refine ⟨fun _ h => h, fun q => ⟨a, xs, rfl, h1, by rw [hc, ← hl]; exact h2.length.symm, names_run _ _ _ _ _ (by rw [← h2.length]; exact hl) (q xs h2)⟩⟩
    · cases e
  · cases e⟩
open Classical in
noncomputable def compL (c : Nat) (f : PV → Option (List Nat × List PV)) (own : List Nat) (tt : DB) (elt : DE) (keep : List (Nat × PO)) : List PV → En → Sto → Option (R PV)
  | [], ρ, S => if Kept keep S then some (.ok (.loc c) S) else none
  | x :: xs, ρ, S => if Kept keep S then match f x with
    | some (is, l) => match tt (setsE is l (killE own ρ)) S with
      | some (.ok true S2) => match elt (setsE is l (killE own ρ)) S2 with
        | some (.ok v S3) => match S3[c]? with
          | some (.lst acc) => if acc.length < 16777216 then compL c f own tt elt keep xs ρ (S3.set c (.lst (acc ++ [v]))) else none
          | _ => none
        | _ => none
      | some (.ok false S2) => compL c f own tt elt keep xs ρ S2
      | _ => none
    | none => none else none
noncomputable def dComp (it : DI) (f : PV → Option (List Nat × List PV)) (own : List Nat) (tt : DB) (elt : DE) : DE := fun ρ S => bR (it ρ S) fun src S1 => compL S1.length f own tt elt src.keep src.items ρ (S1 ++ [.lst []])
theorem lift_comp {K : PySem.W.Frag} {mg : Str → Option Value} {W : WX} {it : DI} {g : TG} {f : PV → Option (List Nat × List PV)} {own ownG : List Nat} {tt : DB} {elt : DE} {σ : L2.St} {H : Hp} {Q : VK} (hg : NmT K mg g f ownG) (ho : ∀ i ∈ ownG, i ∈ own)
    (h : tD K mg W (dComp it f own tt elt) σ H Q) : tLc (tG K mg (rItr K mg) W it) g (tT K mg W0 tt) (tD K mg W0 elt) own σ H Q := by
  refine (bind1 (ra := rItr K mg) h).mono fun J H0 ⟨m0, ρ, S0, src, r, s0, e0, ok, hk, p0⟩ => ?_
  intro D hD
  have st0 := s0.push (p := D) (ho := .lst []) (po := .lst []) hD rfl ⟨[], upd_same, .nil⟩
  have x0 : Ext K S0.length m0 H0 (mext m0 S0.length D) (upd H0 D (.lst [])) := ext_push hD
  have hlen0 : (S0 ++ [PO.lst []]).length = S0.length + 1 := by simp
  refine ⟨fun i c H => c = src.items.length - i ∧ i ≤ src.items.length ∧ ∃ m S, StS K mg m S H ∧ S0.length + 1 ≤ S.length ∧ Ext K (S0.length + 1) (mext m0 S0.length D) (upd H0 D (.lst [])) m H ∧ compL S0.length f own tt elt src.keep (src.items.drop i) ρ S = some r,
    ⟨src.items.length, rfl, Nat.zero_le _, _, _, st0, by simp, Ext.refl, hk⟩, ?_⟩
  rintro i c H ⟨rfl, hi, m, S, s, le, x, hf⟩
  have x1 : Ext K S0.length m0 H0 m H := x0.trans x (Nat.le_succ _)
  have le1 : S0.length ≤ S.length := by omega
  have hmD : m S0.length = D := by
    rw [x.mp _ (Nat.lt_succ_self _), mext_same]
  by_cases hlt : i < src.items.length
  · have ed : src.items.drop i = src.items[i] :: src.items.drop (i + 1) := List.drop_eq_getElem_cons hlt
    rw [ed] at hf
    unfold compL at hf
    split at hf
    · rename_i kp
      obtain ⟨go, yl⟩ := ok.go i src.items[i] m S H le1 x1 s kp (List.getElem?_eq_getElem hlt)
      split at hf
      · rename_i is l hfl
        refine .inr ⟨go, fun H' => ∃ m' S', StS K mg m' S' H' ∧ S0.length + 1 ≤ S'.length ∧ Ext K (S0.length + 1) (mext m0 S0.length D) (upd H0 D (.lst [])) m' H' ∧ compL S0.length f own tt elt src.keep (src.items.drop (i + 1)) ρ S' = some r, ?_, fun y H2 hy => ?_⟩
        · rintro H' ⟨m', S', s', le', x', hf'⟩
          exact ⟨src.items.length - (i + 1), by omega, rfl, hlt, m', S', s', le', x', hf'⟩
        · obtain ⟨m2, x2, s2, r2⟩ := yl y H2 hy
          have x02 : Ext K (S0.length + 1) (mext m0 S0.length D) (upd H0 D (.lst [])) m2 H2 := x.trans x2 le
          obtain ⟨hin, hrun⟩ := hg.run m2 S H2 src.items[i] y is l (wipe σ own) (fun σ2 H2 => wipe σ2 own = wipe σ own ∧ tT K mg W0 tt σ2 H2 fun b H3 =>
            if b = true then tD K mg W0 elt σ2 H3 fun y H4 => ∃ acc, H4 D = some (.lst acc) ∧ acc.length < sizeLine ∧ ∃ m' S', StS K mg m' S' (upd H4 D (.lst (acc ++ [y]))) ∧ S0.length + 1 ≤ S'.length ∧ Ext K (S0.length + 1) (mext m0 S0.length D) (upd H0 D (.lst [])) m' (upd H4 D (.lst (acc ++ [y]))) ∧ compL S0.length f own tt elt src.keep (src.items.drop (i + 1)) ρ S' = some r
            else ∃ m' S', StS K mg m' S' H3 ∧ S0.length + 1 ≤ S'.length ∧ Ext K (S0.length + 1) (mext m0 S0.length D) (upd H0 D (.lst [])) m' H3 ∧ compL S0.length f own tt elt src.keep (src.items.drop (i + 1)) ρ S' = some r) s2 r2 hfl
          refine hrun fun xs rxs => ⟨?_, ?_⟩
          · rw [wipe_sets is xs _ own fun i hi => ho i (hin i hi), wipe_wipe σ own own fun _ h => h]
          · have en2 : EnR K H2 m2 S.length (setsE is l (killE own ρ)) (setsV is xs (wipe σ own)) := EnR.sets is rxs ((e0.mono (x1.trans x2 le1) le1).wipe own)
            cases q : tt (setsE is l (killE own ρ)) S with
            | none => rw [q] at hf; cases hf
            | some z =>
              rw [q] at hf
              cases z with
              | exc ex T => cases hf
              | ok b S2 =>
                refine ⟨m2, _, S, .ok b S2, s2, en2, q, fun b' m3 H3 le3 x3 s3 rb => ?_⟩
                cases rb
                have x03 := x02.trans x3 le
                have le03 : S0.length + 1 ≤ S2.length := Nat.le_trans le le3
                cases b with
                | false =>
                  rw [if_neg Bool.false_ne_true]
                  exact ⟨m3, S2, s3, le03, x03, hf⟩
                | true =>
                  rw [if_pos rfl]
                  dsimp only at hf
                  have en3 := en2.mono x3 le3
                  cases q2 : elt (setsE is l (killE own ρ)) S2 with
                  | none => rw [q2] at hf; cases hf
                  | some z2 =>
                    rw [q2] at hf
                    cases z2 with
                    | exc ex T => cases hf
                    | ok v S3 =>
                      refine ⟨m3, _, S2, .ok v S3, s3, en3, q2, fun v' m4 H4 le4 x4 s4 rv => ?_⟩
                      have x04 := x03.trans x4 le03
                      have le04 : S0.length + 1 ≤ S3.length := Nat.le_trans le03 le4
                      dsimp only at hf
                      split at hf
                      · rename_i acc hacc
                        split at hf
                        · rename_i hz
                          have hm4 : m4 S0.length = D := by rw [x04.mp _ (Nat.lt_succ_self _), mext_same]
                          obtain ⟨ys, h1, h2⟩ := s4.obj _ _ hacc
                          rw [hm4] at h1
                          have mu : Mut (H4 D) := by rw [h1]; trivial
                          have ex5 : Ext K S3.length m4 H4 m4 (upd H4 D (.lst (ys ++ [v']))) := ext_upd (.inr mu)
                          refine ⟨ys, h1, by rw [← h2.length]; exact Nat.lt_of_lt_of_le hz (by decide), m4, S3.set S0.length (.lst (acc ++ [v])), ?_, by rw [List.length_set]; exact le04, x04.trans ex5 le04, hf⟩
                          have := s4.write (k := S0.length) (ho := .lst (ys ++ [v'])) (po' := .lst (acc ++ [v])) hacc rfl rfl ⟨ys ++ [v'], by rw [hm4]; exact upd_same, by
                            rw [hm4]
                            exact (h2.mono ex5 (Nat.le_refl _)).append (.cons (Rp.mono ex5 (Nat.le_refl _) rv) .nil)⟩
                          rw [hm4] at this
                          exact this
                        · cases hf
                      · cases hf
      · cases hf
    · cases hf
  · have ei : i = src.items.length := by omega
    subst ei
    rw [List.drop_length] at hf
    unfold compL at hf
    split at hf
    · rename_i kp
      cases hf
      refine .inl ⟨ok.stop m S H le1 x1 s kp, ?_⟩
      have rp : Rp K H m S.length (.loc S0.length) (.ref (m S0.length)) := .loc (by omega)
      rw [hmD] at rp
      exact p0 _ m H le1 x1 s rp
    · cases hf
section
variable {X : Cx} {W : WX} {elt tg iter : Expr} {ifs : List Expr} {scope : Scope} {own : List (Str × Nat)} {pos : Pos} {it : DI} {g : TG} {f : PV → Option (List Nat × List PV)} {ownG : List Nat} {tt : DB} {te : DE}
theorem de_comp (hc : X.calm = true) (hN : X.N.Nodup) (hi : PId X W tg iter it) (ok : BlkOk X.N X.env.scope scope own) (hn : NmT X.K X.mg g f ownG)
    (hg : ∀ (s : Shared) (H : Hp) (C : Addr) (cl : List (Str × Addr)) (fp : List Addr), PG (X.blk s H scope (compEnvC scope cl C X.env) fp) tg g)
    (ht : ∀ (s : Shared) (H : Hp) (C : Addr) (cl : List (Str × Addr)) (fp : List Addr), PTsd (X.blk s H scope (compEnvC scope cl C X.env) fp) W0 ifs tt)
    (he : ∀ (s : Shared) (H : Hp) (C : Addr) (cl : List (Str × Addr)) (fp : List Addr), PEd (X.blk s H scope (compEnvC scope cl C X.env) fp) W0 elt te) (ho : ∀ i ∈ ownG, i ∈ own.map (·.2) := by decide) (hs : ∀ x, foldedSetIterable iter X.env x = pure x := by intro _; rfl) :
    PEd X W (.ListComp elt [⟨tg, iter, ifs, 0⟩] scope pos) (dComp it f (own.map (·.2)) tt te) :=
  (pe_lc hc hN hi ok hg ht he hs).imp fun σ H Q h => lift_comp hn ho h
theorem ds_setComp {i : Nat} {y : Str} {py spos : Pos} (hc : X.calm = true) (hN : X.N.Nodup) (hy : X.N[i]? = some y) (hyl : X.env.scope.names.lookup y = some .local)
    (hsw : swapsWith (.ListComp elt [⟨tg, iter, ifs, 0⟩] scope pos) (some (.Name y py)) spos.line X.env = pure true) (hi : PId X W tg iter it) (ok : BlkOk X.N X.env.scope scope own) (hn : NmT X.K X.mg g f ownG)
    (hg : ∀ (s : Shared) (H : Hp) (C : Addr) (cl : List (Str × Addr)) (fp : List Addr), PG (X.blk s H scope (compEnvC scope cl C X.env) fp) tg g)
    (ht : ∀ (s : Shared) (H : Hp) (C : Addr) (cl : List (Str × Addr)) (fp : List Addr), PTsd (X.blk s H scope (compEnvC scope cl C X.env) fp) W0 ifs tt)
    (he : ∀ (s : Shared) (H : Hp) (C : Addr) (cl : List (Str × Addr)) (fp : List Addr), PEd (X.blk s H scope (compEnvC scope cl C X.env) fp) W0 elt te) (ho : ∀ i ∈ ownG, i ∈ own.map (·.2) := by decide) (hs : ∀ x, foldedSetIterable iter X.env x = pure x := by intro _; rfl) :
    PSd X W (.Assign [.Name y py] (.ListComp elt [⟨tg, iter, ifs, 0⟩] scope pos) spos) (dSet i (dComp it f (own.map (·.2)) tt te)) :=
  (ps_setLc hc hN hy hyl hsw hi ok hg ht he hs).imp fun D σ H h => by
  have h2 : tD X.K X.mg W (dComp it f (own.map (·.2)) tt te) σ H fun v H1 => ∃ m ρ S d r, StS X.K X.mg m S H1 ∧ EnR X.K H1 m S.length ρ σ ∧ rE X.K H1 m S.length d v ∧ some (RS.next (ρ.set i (some d)) S) = some r ∧ PostS X.K X.mg W m S H1 r D := bindS (ra := rE X.K) h
  have h3 : tD X.K X.mg W (dComp it f (own.map (·.2)) tt te) σ H fun v H1 => gName i v σ H1 D.nx := h2.mono fun v H1 ⟨m, ρ, S, d, r, s, en, r1, hk, p⟩ => by
    cases hk
    exact p _ m H1 (Nat.le_refl _) Ext.refl s (en.set r1)
  exact lift_comp hn ho h3
end
end D

/-! D7: chains, methods, stores, isinstance, exceptions. -/
namespace D
open PySem PySem.Spec PyProof.Rows L2

/-! ### a < b < c -/
def dChain (g g' : G2) (a b c : DE) : DE := fun ρ S => bR (a ρ S) fun x S1 => bR (b ρ S1) fun y S2 => bR (g x y S2) fun z S3 => match z with
  | .bl true => bR (c ρ S3) fun w S4 => g' y w S4
  | .bl false => some (.ok (.bl false) S3)
  | _ => none
theorem lift_chain {K : PySem.W.Frag} {mg : Str → Option Value} {W : WX} {σ : L2.St} {H : Hp} {Q : VK} {r r' : R2} {g g' : G2} {fa fb fc : DE} (hg : OkG2 K mg r g) (hg' : OkG2 K mg r' g') (h : tD K mg W (dChain g g' fa fb fc) σ H Q) :
    tChain r r' (tD K mg W fa) (tD K mg W fb) (tD K mg W fc) σ H Q := by
  refine (bind2 (ra := rE K) (rb := rE K) keeps_E (k := fun ρ x y S2 => bR (g x y S2) fun z S3 => match z with
    | .bl true => bR (fc ρ S3) fun w S4 => g' y w S4
    | .bl false => some (.ok (.bl false) S3)
    | _ => none) h).mono fun v H1 h1 => h1.mono fun u H2 ⟨m, ρ, S, d, d', z, s, e, r1, r2, hk, p⟩ => ?_
  have hk : bR (g d d' S) (fun z S3 => match z with
    | .bl true => bR (fc ρ S3) fun w S4 => g' d' w S4
    | .bl false => some (.ok (.bl false) S3)
    | _ => none) = some z := hk
  cases q : g d d' S with
  | none => rw [q] at hk; cases hk
  | some z1 =>
    rw [q] at hk
    refine hg W σ m S H2 v u d d' z1 _ s r1 r2 q ?_
    cases z1 with
    | exc x T => cases hk; exact p
    | ok z2 T =>
      intro v2 m2 H3 le x s2 rv
      unfold bR at hk
      dsimp only at hk
      split at hk
      · cases rv
        refine ⟨true, rfl, ?_⟩
        rw [if_pos rfl]
        cases q3 : fc ρ T with
        | none => rw [q3] at hk; cases hk
        | some z3 =>
          rw [q3] at hk
          refine ⟨m2, ρ, T, z3, s2, e.mono x le, q3, ?_⟩
          cases z3 with
          | exc ex T => cases hk; exact p.on le x
          | ok w T2 => exact fun w' m3 H4 le3 x3 s3 rw => hg' W σ m3 T2 H4 _ _ _ _ _ _ s3 (r2.mono (x.trans x3 le) (Nat.le_trans le le3)) rw hk (p.on (Nat.le_trans le le3) (x.trans x3 le))
      · cases rv
        cases hk
        refine ⟨false, rfl, ?_⟩
        rw [if_neg Bool.false_ne_true]
        exact p _ m2 H3 le x s2 (.bl _)
      · cases hk
theorem de_chain {X : Cx} {W : WX} {pos : Pos} {a b c : Expr} {op op' : CmpOp} {r r' : R2} {g g' : G2} {fa fb fc : DE} (ho : OpR X (compareOp op) r) (ho' : OpR X (compareOp op') r') (hg : OkG2 X.K X.mg r g) (hg' : OkG2 X.K X.mg r' g') (ha : PEd X W a fa) (hb : PEd X W b fb) (hc : PEd X W c fc)
    (hm : lastMarks [op, op'] [b, c] = false := by with_unfolding_all rfl) : PEd X W (.Compare a [op, op'] [b, c] pos) (dChain g g' fa fb fc) := (pe_chain ho ho' ha hb hc hm).imp fun _ _ _ h => lift_chain hg hg' h
def dChainT (g g' : G2) (a b c : DE) : DB := fun ρ S => asB (dChain g g' a b c ρ S)
theorem dt_chain {X : Cx} {W : WX} {pos : Pos} {a b c : Expr} {op op' : CmpOp} {r r' : R2} {g g' : G2} {fa fb fc : DE} (ho : OpR X (compareOp op) r) (ho' : OpR X (compareOp op') r') (hg : OkG2 X.K X.mg r g) (hg' : OkG2 X.K X.mg r' g') (ha : PEd X W a fa) (hb : PEd X W b fb) (hc : PEd X W c fc)
    (hm : lastMarks [op, op'] [b, c] = false := by with_unfolding_all rfl) : PTd X W (.Compare a [op, op'] [b, c] pos) (dChainT g g' fa fb fc) := (pt_chain ho ho' ha hb hc hm).imp fun σ H Q h => by
  refine lift_chain hg hg' ((bind1 (ra := rE X.K) h).mono fun v H1 ⟨m, ρ, S, d, z, s, e, r1, hk, p⟩ => ?_)
  cases d <;> try cases hk
  cases r1
  exact ⟨_, rfl, p _ m H1 (Nat.le_refl _) Ext.refl s rfl⟩
/-! ### and, or, not of values that are truth values -/
def isBl (r : Option (R PV)) (k : Bool → Sto → Option (R PV)) : Option (R PV) := bR r fun x S => match x with
  | .bl b => k b S
  | _ => none
def dAnd2 (f g : DE) : DE := fun ρ S => isBl (f ρ S) fun b S1 => if b = true then g ρ S1 else some (.ok (.bl false) S1)
def dOr2 (f g : DE) : DE := fun ρ S => isBl (f ρ S) fun b S1 => if b = true then some (.ok (.bl true) S1) else g ρ S1
def dNot2 (f : DE) : DE := fun ρ S => isBl (f ρ S) fun b S1 => some (.ok (.bl (!b)) S1)
section
variable {X : Cx} {W : WX} {pos : Pos} {a b : Expr} {fa fb : DE} {rest : List Expr}
theorem de_and (ha : PEd X W a fa) (hb : PEd X W (.BoolOp .And (b :: rest) pos) fb) : PEd X W (.BoolOp .And (a :: b :: rest) pos) (dAnd2 fa fb) := (pe_and ha hb).imp fun σ H Q h => by
  refine (bind1 (ra := rE X.K) h).mono fun v H1 ⟨m, ρ, S, d, z, s, e, r1, hk, p⟩ => ?_
  cases d <;> try cases hk
  rename_i c
  cases r1
  refine ⟨_, rfl, ?_⟩
  cases c with
  | true => exact ⟨m, ρ, S, z, s, e, hk, p⟩
  | false =>
    cases hk
    exact p _ m H1 (Nat.le_refl _) Ext.refl s (.bl _)
theorem de_or (ha : PEd X W a fa) (hb : PEd X W (.BoolOp .Or (b :: rest) pos) fb) : PEd X W (.BoolOp .Or (a :: b :: rest) pos) (dOr2 fa fb) := (pe_or ha hb).imp fun σ H Q h => by
  refine (bind1 (ra := rE X.K) h).mono fun v H1 ⟨m, ρ, S, d, z, s, e, r1, hk, p⟩ => ?_
  cases d <;> try cases hk
  rename_i c
  cases r1
  refine ⟨_, rfl, ?_⟩
  cases c with
  | false => exact ⟨m, ρ, S, z, s, e, hk, p⟩
  | true =>
    cases hk
    exact p _ m H1 (Nat.le_refl _) Ext.refl s (.bl _)
theorem de_not (ha : PEd X W a fa) : PEd X W (.UnaryOp .Not a pos) (dNot2 fa) := (pe_not ha).imp fun σ H Q h => by
  refine (bind1 (ra := rE X.K) h).mono fun v H1 ⟨m, ρ, S, d, z, s, e, r1, hk, p⟩ => ?_
  cases d <;> try cases hk
  cases r1
  exact ⟨_, rfl, p _ m H1 (Nat.le_refl _) Ext.refl s (.bl _)⟩
theorem de_one {op : BoolOp} (ha : PEd X W a fa) : PEd X W (.BoolOp op [a] pos) fa := pe_one ha
end
/-! ### isinstance -/
def tyName (x : PV) (S : Sto) : Option String := match x with
  | .non => some "NoneType"
  | .bl _ => some "bool"
  | .int _ => some "int"
  | .str _ => some "str"
  | .tup _ => some "tuple"
  | .loc k => match S[k]? with
    | some (.lst _) => some "list"
    | some (.fz _) => some "list"
    | some (.dct _ _) => some "dict"
    | _ => none
  | .ty _ => none
  | .xc _ _ _ => none
def isaP (a b : String) : Option Bool :=
  if a ∈ ["NoneType", "bool", "int", "str", "tuple", "list", "dict"] ∧ b ∈ ["bool", "int", "str", "tuple", "list", "dict"] then some (a == b || (a == "bool" && b == "int")) else none
def gIsa : GA := fun l S => match l with
  | [x, .ty b] => match tyName x S with
    | some a => match isaP a b with
      | some k => some (.ok (.bl k) S)
      | none => none
    | none => none
  | _ => none
theorem isaP_kit {a b : String} {k : Bool} (h : isaP a b = some k) : kitB a b = some k := by
  unfold isaP at h
  split at h
  · rename_i hc
    obtain ⟨h1, h2⟩ := hc
    cases h
    simp only [List.mem_cons, List.mem_nil_iff, or_false] at h1 h2
    rcases h1 with rfl | rfl | rfl | rfl | rfl | rfl | rfl <;> rcases h2 with rfl | rfl | rfl | rfl | rfl | rfl <;> decide +kernel
  · cases h
section
variable {K : PySem.W.Frag} {mg : Str → Option Value}
theorem tyX_of {H : Hp} {m : Nat → Addr} {S : Sto} {x : PV} {v : V} {a : String} (s : StS K mg m S H) (r : Rp K H m S.length x v) (h : tyName x S = some a) : TyX K H v (.type a) := by
  cases r with
  | non => cases h; exact .base .non
  | bl b => cases h; exact .base (.bl b)
  | int b => cases h; exact .base (.int b)
  | str b => cases h; exact .base (.str b)
  | ty b => cases h
  | xc _ => cases h
  | tup hs hl =>
    cases h
    rcases hs with (hs | ⟨o, hs⟩) | ⟨o, its, n, h1, h2, _⟩
    · exact .base (.tup hs)
    · exact .fTuple hs
    · exact .kTuple h1 h2
  | loc hk =>
    unfold tyName at h
    dsimp only at h
    split at h
    · rename_i e
      cases h
      obtain ⟨xs, h1, _⟩ := s.obj _ _ e
      exact .base (.lst h1)
    · rename_i e
      cases h
      obtain ⟨xs, h1, _⟩ := s.obj _ _ e
      rcases h1 with ⟨o, h1⟩ | ⟨o, its, n, h1, h2, _⟩
      · exact .base (.frz h1)
      · exact .kList h1 h2
    · rename_i e
      cases h
      rcases s.obj _ _ e with ⟨_, xs, h1, _⟩ | ⟨_, xs, h1, _⟩
      · exact .base (.dK h1)
      · exact .base (.dT h1)
    · cases h
theorem ok_isa : OkGA K mg (rIsi K) gIsa := fun W σ m S H x d z Q s r e p => by
  unfold gIsa at e
  split at e
  · rename_i x b
    split at e
    · rename_i a ha
      split at e
      · rename_i k hk
        cases e
        cases r with
        | cons r1 r2 => cases r2 with
          | cons r2 r3 =>
            cases r2; cases r3
            exact ⟨_, _, _, _, k, rfl, .ty _, tyX_of s r1 ha, kit_ty (isaP_kit hk), post_here s (.bl _) p⟩
      · cases e
    · cases e
  · cases e
end
theorem de_bltn {X : Cx} {W : WX} {x : Str} {n : String} {pos : Pos} (hg : Gl X x) (hm : X.mg x = none) (hv : bootBuiltins x = some (.type n)) (hn : x ≠ "__name__" := by decide) (hd : (x == ("__debug__" : Str)) = false := by decide) : PEd X W (.Name x pos) (dC (.ty n)) :=
  de_c (pe_bltn (v := .ty n) hg hm hv rfl hn hd) fun _ _ _ _ => .ty n

/-! ### methods of built-in types -/
abbrev GM := PV → List PV → Sto → Option (R PV)
def OkGM (K : PySem.W.Frag) (mg : Str → Option Value) (r : V → List V → Hp → VK → Prop) (g : GM) : Prop :=
  ∀ (W : WX) (σ : L2.St) (m : Nat → Addr) (S : Sto) (H : Hp) (o : V) (x : List V) (c : PV) (d : List PV) (z : R PV) (Q : VK), StS K mg m S H → Rp K H m S.length c o → RpL K H m S.length d x → g c d S = some z → PostG K mg (rE K) W σ m S H z Q → r o x H Q
def tyP (T : String) (x : PV) (S : Sto) : Bool := match x with
  | .str _ => T == "str"
  | .loc k => match S[k]? with
    | some (.lst _) => T == "list"
    | some (.fz _) => T == "list"
    | some (.dct _ _) => T == "dict"
    | _ => false
  | _ => false
theorem tyV_of {K : PySem.W.Frag} {mg : Str → Option Value} {H : Hp} {m : Nat → Addr} {S : Sto} {x : PV} {v : V} {T : String} (s : StS K mg m S H) (r : Rp K H m S.length x v) (h : tyP T x S = true) : tyV K T v H := by
  unfold tyP at h
  split at h
  · cases r
    exact beq_iff_eq.mp h
  · cases r
    split at h
    · rename_i e
      obtain ⟨xs, h1, _⟩ := s.obj _ _ e
      exact .inl ⟨beq_iff_eq.mp h, xs, SqL.of h1⟩
    · rename_i e
      obtain ⟨xs, h1, _⟩ := s.obj _ _ e
      exact .inl ⟨beq_iff_eq.mp h, xs, h1.sq⟩
    · rename_i e
      rcases s.obj _ _ e with ⟨_, xs, h1, _⟩ | ⟨_, xs, h1, _⟩
      · exact .inr (.inr (.inl ⟨beq_iff_eq.mp h, .inl ⟨xs, h1⟩⟩))
      · exact .inr (.inr (.inl ⟨beq_iff_eq.mp h, .inr ⟨xs, h1⟩⟩))
    · cases h
  · cases h
def dMeth (T : String) (g : GM) (o : DE) (a : DA) : DE := fun ρ S => bR (o ρ S) fun x S1 => if tyP T x S1 = true then bR (a ρ S1) fun xs S2 => g x xs S2 else none
theorem lift_meth {K : PySem.W.Frag} {mg : Str → Option Value} {W : WX} {σ : L2.St} {H : Hp} {Q : VK} {T : String} {r : V → List V → Hp → VK → Prop} {g : GM} {fo : DE} {fa : DA} (hg : OkGM K mg r g) (h : tD K mg W (dMeth T g fo fa) σ H Q) :
    tBM K T r (tD K mg W fo) (tA K mg W fa) σ H Q := by
  refine (bind1 (ra := rE K) (k := fun ρ x S1 => if tyP T x S1 = true then bR (fa ρ S1) fun xs S2 => g x xs S2 else none) h).mono fun v H1 ⟨m, ρ, S, d, z, s, e, r1, hk, p⟩ => ?_
  have hk : (if tyP T d S = true then bR (fa ρ S) fun xs S2 => g d xs S2 else none) = some z := hk
  split at hk
  · rename_i hT
    refine ⟨tyV_of s r1 hT, ?_⟩
    cases q : fa ρ S with
    | none => rw [q] at hk; cases hk
    | some z1 =>
      rw [q] at hk
      refine ⟨m, ρ, S, z1, s, e, q, ?_⟩
      cases z1 with
      | exc x T2 => cases hk; exact p
      | ok l T2 => exact fun xs m2 H2 le x s2 rx => hg W σ m2 T2 H2 v xs d l z Q s2 (r1.mono x le) rx hk (p.on le x)
  · cases hk
section
variable {X : Cx} {W : WX} {o e : Expr} {es : List Expr} {fo : DE} {fa : DA} {name : Str} {apos cpos : Pos} {T id : String} {r : V → List V → Hp → VK → Prop} {g : GM}
theorem de_bm (pa : PlainAttrs T) (slot : Slot T name id) (hty : typeOf (.builtin id) = pure (.type "method_descriptor")) (hm : MtR X id r) (hg : OkGM X.K X.mg r g) (ho : PEd X W o fo) (ha : PAd X W (e :: es) fa)
    (hbase : attributeBase o name X.env (eval o X.env) = eval o X.env := by rfl)
    (hfew : ((backTo cpos (starEach (e :: es) X.env)).all (fun x => !x.1) && (backToKw cpos (keywordEach [] X.env)).all (fun x => x.1.isSome)
      && decide ((e :: es).length + ([] : List Keyword).length + (if ([] : List Keyword).isEmpty then 0 else 1) < 30)) = true := by rfl)
    (hline : (apos.endLine == cpos.line) = true := by rfl) (hs : starEach (e :: es) X.env = (false, eval e X.env) :: starEach es X.env := by rfl) (hplain : (backTo cpos (starEach es X.env)).any (·.1) = false := by rfl) :
    PEd X W (.Call (.Attribute o name apos) (e :: es) [] cpos) (dMeth T g fo fa) := (pe_bm pa slot hty hm ho ha hbase hfew hline hs hplain).imp fun _ _ _ h => lift_meth hg h
theorem de_bm0 (pa : PlainAttrs T) (slot : Slot T name id) (hty : typeOf (.builtin id) = pure (.type "method_descriptor")) (hm : MtR X id r) (hg : OkGM X.K X.mg r g) (ho : PEd X W o fo)
    (hbase : attributeBase o name X.env (eval o X.env) = eval o X.env := by rfl) (hline : (apos.endLine == cpos.line) = true := by rfl) : PEd X W (.Call (.Attribute o name apos) [] [] cpos) (dMeth T g fo dNil) :=
  (pe_bm0 pa slot hty hm ho hbase hline).imp fun σ H Q h => by
  refine (bind1 (ra := rE X.K) (k := fun ρ x S1 => if tyP T x S1 = true then bR (dNil ρ S1) fun xs S2 => g x xs S2 else none) h).mono fun v H1 ⟨m, ρ, S, d, z, s, e, r1, hk, p⟩ => ?_
  have hk : (if tyP T d S = true then bR (dNil ρ S) fun xs S2 => g d xs S2 else none) = some z := hk
  split at hk
  · rename_i hT
    exact ⟨tyV_of s r1 hT, hg W σ m S H1 v [] d [] z Q s r1 .nil hk p⟩
  · cases hk
end
section
variable {K : PySem.W.Frag} {mg : Str → Option Value} {W : WX} {σ : L2.St} {m : Nat → Addr} {S : Sto} {H : Hp}
/-- a stored list is changed -/
theorem list_set {k : Nat} {l l' : List PV} {xs' : List V} {v : V} {dv : PV} {Q : VK} (s : StS K mg m S H) (e : S[k]? = some (.lst l)) (r : RpL K H m S.length l' xs') (rv : Rp K H m S.length dv v) (p : PostG K mg (rE K) W σ m S H (.ok dv (S.set k (.lst l'))) Q) : Q v (upd H (m k) (.lst xs')) := by
  have mu := s.mut e rfl
  have x : Ext K S.length m H m (upd H (m k) (.lst xs')) := ext_upd (.inr mu)
  have st := s.write (ho := .lst xs') (po' := .lst l') e rfl rfl ⟨xs', upd_same, r.mono x (Nat.le_refl _)⟩
  refine p v m _ (by rw [List.length_set]; exact Nat.le_refl _) x st ?_
  rw [List.length_set]
  exact rv.mono x (Nat.le_refl _)
def gAppend : GM := fun c d S => match c, d with
  | .loc k, [y] => match S[k]? with
    | some (.lst l) => if l.length < 16777216 then some (.ok .non (S.set k (.lst (l ++ [y])))) else none
    | _ => none
  | _, _ => none
theorem ok_append : OkGM K mg rAppend gAppend := fun W σ m S H o x c d z Q s ro r e p => by
  unfold gAppend at e
  split at e
  · cases ro with
    | loc hk =>
      cases r with
      | cons a b =>
        cases b
        split at e
        · rename_i l e1
          split at e
          · rename_i hl
            cases e
            obtain ⟨xs, h1, h2⟩ := s.obj _ _ e1
            exact ⟨_, xs, _, rfl, rfl, h1, by rw [← h2.length]; exact Nat.lt_of_lt_of_le hl (by decide), list_set s e1 (h2.append (.one a)) .non p⟩
          · cases e
        · cases e
  · cases e
def gExtend : GM := fun c d S => match c, d with
  | .loc k, [.loc j] => match S[k]?, S[j]? with
    | some (.lst l), some (.lst r) => if l.length + r.length ≤ 16777216 then some (.ok .non (S.set k (.lst (l ++ r)))) else none
    | _, _ => none
  | _, _ => none
theorem ok_extend : OkGM K mg rExtend gExtend := fun W σ m S H o x c d z Q s ro r e p => by
  unfold gExtend at e
  split at e
  · cases ro with
    | loc hk =>
      cases r with
      | cons a b =>
        cases b; cases a
        split at e
        · rename_i l r e1 e2
          split at e
          · rename_i hl
            cases e
            obtain ⟨xs, h1, h2⟩ := s.obj _ _ e1
            obtain ⟨ys, h3, h4⟩ := s.obj _ _ e2
            exact ⟨_, _, xs, ys, rfl, rfl, h1, h3, by rw [← h2.length, ← h4.length]; exact Nat.le_trans hl (by decide), list_set s e1 (h2.append h4) .non p⟩
          · cases e
        · cases e
  · cases e
def gPop : GM := fun c d S => match c, d with
  | .loc k, [] => match S[k]? with
    | some (.lst l) => match l[l.length - 1]? with
      | some y => some (.ok y (S.set k (.lst l.dropLast)))
      | none => none
    | _ => none
  | _, _ => none
theorem ok_pop : OkGM K mg rPop gPop := fun W σ m S H o x c d z Q s ro r e p => by
  unfold gPop at e
  split at e
  · cases ro with
    | loc hk =>
      cases r
      split at e
      · rename_i l e1
        split at e
        · rename_i y hy
          cases e
          obtain ⟨xs, h1, h2⟩ := s.obj _ _ e1
          obtain ⟨v, h3, h4⟩ := h2.get hy
          exact ⟨_, xs, v, rfl, rfl, h1, by rw [← h2.length]; exact h3, list_set s e1 h2.dropLast h4 p⟩
        · cases e
      · cases e
  · cases e
end

/-! ### a[i] = v -/
abbrev GSt := PV → PV → PV → Sto → Option Sto
def gSetL : GSt := fun o i v S => match o, i with
  | .loc k, .int j => match S[k]? with
    | some (.lst l) => match ixN l.length j with
      | some n => some (S.set k (.lst (l.set n v)))
      | none => none
    | _ => none
  | _, _ => none
def gSubT (g : GSt) (o i : DE) : DG := fun v ρ S => match o ρ S with
  | some (.ok x S1) => match i ρ S1 with
    | some (.ok y S2) => match g x y v S2 with
      | some S3 => some (ρ, S3)
      | none => none
    | _ => none
  | _ => none
def OkSt (K : PySem.W.Frag) (mg : Str → Option Value) (t : TSet) (g : GSt) : Prop :=
  ∀ (m : Nat → Addr) (S S' : Sto) (H : Hp) (o i v : V) (c d e : PV) (Q : Hp → Prop), StS K mg m S H → Rp K H m S.length c o → Rp K H m S.length d i → Rp K H m S.length e v → g c d e S = some S' →
    (∀ m' H', S.length ≤ S'.length → Ext K S.length m H m' H' → StS K mg m' S' H' → Q H') → t o i v H Q
theorem ok_setL {K : PySem.W.Frag} {mg : Str → Option Value} : OkSt K mg rSetL gSetL := fun m S S' H o i v c d e Q s r1 r2 r3 h q => by
  unfold gSetL at h
  split at h
  · cases r1; cases r2
    split at h
    · rename_i l e1
      split at h
      · rename_i n hn
        cases h
        obtain ⟨xs, h1, h2⟩ := s.obj _ _ e1
        have mu := s.mut e1 rfl
        have x : Ext K S.length m H m (upd H (m _) (.lst (xs.set n v))) := ext_upd (.inr mu)
        refine ⟨_, xs, _, n, rfl, rfl, h1, by rw [← h2.length]; exact hn, q m _ (by rw [List.length_set]; exact Nat.le_refl _) x ?_⟩
        exact s.write (ho := .lst (xs.set n v)) (po' := .lst (l.set n e)) e1 rfl rfl ⟨_, upd_same, (RpL.set r3 n h2).mono x (Nat.le_refl _)⟩
      · cases h
    · cases h
  · cases h
theorem dg_sub {X : Cx} {o i : Expr} {pos : Pos} {fo fi : DE} {t : TSet} {g : GSt} (hs : PSet X t) (hg : OkSt X.K X.mg t g) (ho : PEd X W0 o fo) (hi : PEd X W0 i fi) (ha : ∀ v, assign (.Subscript o i pos) X.env v = (do
    let ov ← holding [v] (eval o X.env)
    let iv ← holding [v, ov] (eval i X.env)
    standAt pos
    holding [v, ov, iv] (setItem ov iv v)
    release [v, ov, iv] []) := by intro _; rfl) : PGd X (.Subscript o i pos) (gSubT g fo fi) := (pg_sub ho hi hs ha).imp fun v σ H Q h => by
  obtain ⟨m, ρ, S, d, ρ', S', s, e, r, hk, p⟩ := h
  unfold gSubT at hk
  split at hk
  · rename_i x S1 q1
    split at hk
    · rename_i y S2 q2
      split at hk
      · rename_i S3 q3
        cases hk
        refine ⟨m, ρ, S, _, s, e, q1, fun v1 m1 H1 le1 x1 s1 r1 => ?_⟩
        refine ⟨m1, ρ, S1, _, s1, e.mono x1 le1, q2, fun v2 m2 H2 le2 x2 s2 r2 => ?_⟩
        have x02 := x1.trans x2 le1
        have le02 := Nat.le_trans le1 le2
        refine hg m2 S2 S' H2 v1 v2 v x y d _ s2 (Rp.mono x2 le2 r1) r2 (r.mono x02 le02) q3 fun m3 H3 le3 x3 s3 => ?_
        exact p σ m3 H3 (Nat.le_trans le02 le3) (x02.trans x3 le02) s3 (e.mono (x02.trans x3 le02) (Nat.le_trans le02 le3))
      · cases hk
    · cases hk
  · cases hk
/-! ### x op= e -/
def dAug (g : G2) (i : Nat) (f : DE) : DS := fun ρ S => match ρ[i]? with
  | some (some x) => bS ρ (f ρ S) fun y S1 => bS ρ (g x y S1) fun z S2 => some (.next (ρ.set i (some z)) S2)
  | _ => none
end D

/-! D8: errors: raised, caught, asked. -/
namespace D
open PySem PySem.Spec PyProof.Rows L2

/-! ### raise C('m') -/
def dRaise (c : Str) : DS := fun ρ S => some (.exc ⟨c, []⟩ ρ S)
theorem ds_raise {X : Cx} {W : WX} {C : Addr} {x m : Str} {j : Nat} {p p2 p3 pos : Pos} (hc : X.calm = true) (tk : Takes X W)
    (q : PySem.W.excIn X.K C [.type "ValueError", .type "Exception", .type "BaseException", .type "object"] "ValueError.__new__" = true) (gC : X.mg x = some (.ref C)) (kC : PySem.W.keepIn X.K (.ref C) = true)
    (h1 : PySem.W.subIn X.K (.ref C) (.type "BaseException") = some true) (h2 : PySem.W.typeIn X.K (.ref C) = some (.type "type")) (hg : Gl X x) (hdb : (x == ("__debug__" : Str)) = false := by decide) :
    PSd X W (.Raise (some (.Call (.Name x p) [.Constant (.str m) j p2] [] p3)) none pos) (dRaise x) := by
  refine (ps_raise hc tk (pmk_own PySem.F.excBase_ValueError q gC kC (raises_own h1 h2) hg hdb)).imp fun D σ H h => ?_
  obtain ⟨m, ρ, S, r, s, e, hf, p⟩ := h
  cases hf
  exact p (.ref C) none σ m H (Nat.le_refl _) Ext.refl s e ⟨C, rfl, gC, .inl ⟨rfl, rfl⟩⟩

/-! ### try -/
def litV : PV → Option V
  | .non => some .non
  | .bl b => some (.bl b)
  | .int i => some (.int i)
  | .str s => some (.str s)
  | _ => none
def litF : List (Str × PV) → Option (List (Str × V))
  | [] => some []
  | (f, d) :: r => match litV d, litF r with
    | some v, some vs => some ((f, v) :: vs)
    | _, _ => none
theorem litV_rp {K : PySem.W.Frag} {H : Hp} {m : Nat → Addr} {n : Nat} {d : PV} {v v' : V} (r : Rp K H m n d v) (e : litV d = some v') : v = v' := by
  cases r <;> cases e <;> rfl
theorem litF_rp {K : PySem.W.Frag} {H : Hp} {m : Nat → Addr} {n : Nat} : ∀ {l : List (Str × PV)} {fv fv' : List (Str × V)}, RpF K H m n l fv → litF l = some fv' → fv = fv'
  | [], _, _, .nil, e => by cases e; rfl
  | (f, d) :: l, _, _, .cons (b := (g, v)) r t, e => by
    unfold litF at e
    split at e
    · rename_i v1 vs e1 e2
      cases e
      obtain ⟨r1, r2⟩ := r
      dsimp only at r1 r2
      rw [litV_rp r2 e1, litF_rp t e2, r1]
    · cases e
/-- what the fields of a caught error are -/
def FvOk (fs : List (Str × PV)) (d : Option Addr) (fv : List (Str × V)) : Prop := (fs = [] ∧ d = none ∧ fv = []) ∨ (fs ≠ [] ∧ ∃ dd, d = some dd ∧ litF fs = some fv)
/-- what a suite leaves -/
def endE (i : Nat) : RS → Option RS
  | .next ρ S => some (.next (ρ.set i none) S)
  | .ret v S => some (.ret v S)
  | .brk ρ S => some (.brk (ρ.set i none) S)
  | .ctn ρ S => some (.ctn (ρ.set i none) S)
  | .exc _ _ _ => none
abbrev Hd := Xn → Addr → Option Addr → DS
open Classical in
noncomputable def hdAs (i : Nat) (su : Hd) (e : Xn) (ρ : En) (S : Sto) : Option RS :=
  if h : ∃ r, (litF e.fs).isSome = true ∧ ∀ a d fv, FvOk e.fs d fv → (su e a d (ρ.set i (some (.xc a d fv))) S).bind (endE i) = some r then some (choose h) else none
theorem hdAs_eq {i : Nat} {su : Hd} {e : Xn} {ρ : En} {S : Sto} {r : RS} (hl : (litF e.fs).isSome = true) (h : ∀ a d fv, FvOk e.fs d fv → (su e a d (ρ.set i (some (.xc a d fv))) S).bind (endE i) = some r) : hdAs i su e ρ S = some r := by
  have hx : ∃ r, (litF e.fs).isSome = true ∧ ∀ a d fv, FvOk e.fs d fv → (su e a d (ρ.set i (some (.xc a d fv))) S).bind (endE i) = some r := ⟨r, hl, h⟩
  unfold hdAs
  rw [dif_pos hx]
  have q := Classical.choose_spec hx
  have : ∃ d fv, FvOk e.fs d fv := by
    obtain ⟨fv, hfv⟩ := Option.isSome_iff_exists.mp hl
    by_cases hn : e.fs = []
    · exact ⟨none, [], .inl ⟨hn, rfl, rfl⟩⟩
    · exact ⟨some 0, fv, .inr ⟨hn, 0, rfl, hfv⟩⟩
  obtain ⟨d, fv, ok⟩ := this
  have e1 := q.2 0 d fv ok
  have e2 := h 0 d fv ok
  rw [e1] at e2
  exact e2
noncomputable def dTryAs (body : DS) (i : Nat) (cat : Str → Option Bool) (su : Hd) : DS := fun ρ S => match body ρ S with
  | some (.exc e ρ1 S1) => match cat e.c with
    | some true => hdAs i su e ρ1 S1
    | some false => some (.exc e ρ1 S1)
    | none => none
  | r => r
/-- which own errors a clause takes -/
def Cat (K : PySem.W.Frag) (mg : Str → Option Value) (c : Value) (cat : Str → Option Bool) : Prop := ∀ nm C b, mg nm = some (.ref C) → cat nm = some b → PySem.W.exmOne K (.ref C) c = some b
theorem pss_ex {X : Cx} {sts : List Stmt} {α : Type} {P : α → Prop} {t : α → TS} (h : ∀ x, P x → PSs X sts (t x)) : PSs X sts (fun D σ H => ∃ x, P x ∧ t x D σ H) :=
  ⟨fun pins s σ H D I q => by
    obtain ⟨x, hx, q⟩ := q
    exact (h x hx).run pins s σ H D I q⟩
structure Su (X : Cx) (cat : Str → Option Bool) (e : Xn) (a : Addr) (oe : Obj) (C : Addr) (d : Option Addr) : Prop where
  yes : cat e.c = some true
  mg : X.mg e.c = some (.ref C)
  z : Zc (.ref C) d oe
  f : ∃ vs, oe.data = .fields vs
  d0 : e.fs = [] → d = none
  d1 : e.fs ≠ [] → ∃ dd, d = some dd
def tSu (X : Cx) (cat : Str → Option Bool) (su : Hd) : Addr → Value → Option Addr → TS := fun a cls d D σ H => ∃ e : Xn, (cat e.c = some true ∧ (e.fs = [] → d = none) ∧ (e.fs ≠ [] → ∃ dd, d = some dd) ∧ ∃ C, cls = .ref C ∧ X.mg e.c = some (.ref C)) ∧ tS X.K X.mg W0 (su e a d) D σ H
section
variable {X : Cx} {x n : Str} {c : Value} {i : Nat} {body suite : List Stmt} {b₀ : Stmt} {np pos pos' : Pos} {W : WX} {fb : DS} {cat : Str → Option Bool} {su : Hd}
theorem su_pss (hsu : ∀ (e : Xn) (a : Addr) (oe : Obj) (C : Addr) (d : Option Addr) (pn : List (Addr × Obj)), Su X cat e a oe C d → PSsd (X.suite a ((a, oe) :: pn)) W0 (b₀ :: suite) (su e a d)) (a : Addr) (oe : Obj) (cls : Value) (d : Option Addr) (pn : List (Addr × Obj)) (hz : Zc cls d oe) (hf : ∃ vs, oe.data = .fields vs) :
    PSs (X.suite a ((a, oe) :: pn)) (b₀ :: suite) (tSu X cat su a cls d) :=
  ⟨fun pins s σ H D I q => by
    obtain ⟨e, ⟨h1, h2, h3, C, rfl, h4⟩, q⟩ := q
    exact (hsu e a oe C d pn ⟨h1, h4, hz, hf, h2, h3⟩).run pins s σ H D I q⟩
theorem ds_try_as (hs : X.stack = X.env :: X.outer) (hf : X.env.frame = some X.env.locals) (hN : X.N.Nodup) (hi : X.N[i]? = some n) (hln : X.env.kindOf n = some .local) (hc : Names X x c) (hcat : Cat X.K X.mg c cat) (tk : Takes X W)
    (hb : ∀ (W : WX) (pn : List (Addr × Obj)) (xe : Value → Shared → Prop), Takes (X.tr pn xe) W → PassesOwn (model X.prog X.w) X.A X.env xe → PSsd (X.tr pn xe) W body fb)
    (hsu : ∀ (e : Xn) (a : Addr) (oe : Obj) (C : Addr) (d : Option Addr) (pn : List (Addr × Obj)), Su X cat e a oe C d → PSsd (X.suite a ((a, oe) :: pn)) W0 (b₀ :: suite) (su e a d)) :
    PSd X W (.Try body [.ExceptHandler (some (.Name x np)) (some n) (b₀ :: suite) pos'] [] [] pos) (dTryAs fb i cat su) := by
  refine (ps_try_as (tb := fun W => tS X.K X.mg W fb) (ts := tSu X cat su) hs hf hN hi hln hc tk hb (su_pss hsu)).imp fun D σ H h => ?_
  obtain ⟨m, ρ, S, r, s, en, hf, p⟩ := h
  unfold dTryAs at hf
  cases q : fb ρ S with
  | none => rw [q] at hf; cases hf
  | some z =>
    rw [q] at hf
    refine ⟨m, ρ, S, z, s, en, q, ?_⟩
    cases z with
    | next ρ' S' => cases hf; exact p
    | ret v S' => cases hf; exact p
    | brk ρ' S' => cases hf; exact p
    | ctn ρ' S' => cases hf; exact p
    | exc e ρ1 S1 =>
      dsimp only at hf
      intro cls dd σ' m' H' le ex s' en' rx
      obtain ⟨C, rfl, hm, hd⟩ := id rx
      split at hf
      · rename_i hcy
        refine ⟨true, hcat _ _ _ hm hcy, fun _ a ha => ?_, (fun z => by cases z)⟩
        unfold hdAs at hf
        split at hf
        · rename_i hx
          have hsp := Classical.choose_spec hx
          obtain ⟨hlit, hall⟩ := hsp
          obtain ⟨lf, hlf⟩ := Option.isSome_iff_exists.mp hlit
          have hrr : Classical.choose hx = r := by cases hf; rfl
          rw [hrr] at hall
          have key : ∃ fv, FvOk e.fs dd fv ∧ (∀ d2, dd = some d2 → H' d2 = some (.xd fv)) ∧ (e.fs = [] → dd = none) ∧ (e.fs ≠ [] → ∃ d2, dd = some d2) := by
            rcases hd with ⟨h1, h2⟩ | ⟨hne, d2, fv, h1, h2, h3⟩
            · exact ⟨[], .inl ⟨h1, h2, rfl⟩, (fun d2 z => by rw [h2] at z; cases z), fun _ => h2, fun z => absurd h1 z⟩
            · have ef := litF_rp h3 hlf
              subst ef
              exact ⟨fv, .inr ⟨hne, d2, h1, hlf⟩, (fun d3 z => by rw [h1] at z; cases z; exact h2), fun z => absurd z hne, fun _ => ⟨d2, h1⟩⟩
          obtain ⟨fv, ok, hH, hk0, hk1⟩ := key
          have hrun := hall a dd fv ok
          refine ⟨e, ⟨hcy, hk0, hk1, C, rfl, hm⟩, ?_⟩
          cases q2 : su e a dd (ρ1.set i (some (.xc a dd fv))) S1 with
          | none => rw [q2] at hrun; cases hrun
          | some z2 =>
            rw [q2] at hrun
            have hrun : endE i z2 = some r := hrun
            refine ⟨m', ρ1.set i (some (.xc a dd fv)), S1, z2, s', en'.set (.xc hH), q2, ?_⟩
            have p' := p.on le ex
            have unset : ∀ {K : PySem.W.Frag} {H : Hp} {m : Nat → Addr} {n : Nat} {ρ : En} {σ : L2.St}, EnR K H m n ρ σ → EnR K H m n (ρ.set i none) (σ.set i none) := by
              intro K H m n ρ σ h
              refine ⟨by rw [List.length_set, List.length_set]; exact h.len, fun j v e => ?_⟩
              by_cases hj : i = j
              · subst hj
                by_cases hl : i < ρ.length
                · rw [List.getElem?_set_self hl] at e; cases e
                · rw [List.set_eq_of_length_le (by omega)] at e
                  exact absurd (List.getElem?_eq_some_iff.mp e).1 hl
              · rw [List.getElem?_set_ne hj] at e
                rw [List.getElem?_set_ne hj]
                exact h.at_ j v e
            cases z2 with
            | next ρ' S' => cases hrun; exact fun σ2 m2 H2 le2 x2 s2 e2 => p' _ m2 H2 le2 x2 s2 (unset e2)
            | ret v S' => cases hrun; exact fun v m2 H2 le2 x2 s2 e2 => p' _ m2 H2 le2 x2 s2 e2
            | brk ρ' S' => cases hrun; exact fun σ2 m2 H2 le2 x2 s2 e2 => p' _ m2 H2 le2 x2 s2 (unset e2)
            | ctn ρ' S' => cases hrun; exact fun σ2 m2 H2 le2 x2 s2 e2 => p' _ m2 H2 le2 x2 s2 (unset e2)
            | exc x ρ' S' => cases hrun
        · cases hf
      · rename_i hcy
        cases hf
        exact ⟨false, hcat _ _ _ hm hcy, (fun z => by cases z), fun _ => p _ _ _ m' H' le ex s' en' rx⟩
      · cases hf
end

/-- except C: with no name -/
def noX : Option RS → Option RS
  | some (.exc _ _ _) => none
  | r => r
def dTryOnly (body : DS) (cat : Str → Option Bool) (su : DS) : DS := fun ρ S => match body ρ S with
  | some (.exc e ρ1 S1) => match cat e.c with
    | some true => noX (su ρ1 S1)
    | some false => some (.exc e ρ1 S1)
    | none => none
  | r => r
section
variable {X : Cx} {x n : Str} {c : Value} {i : Nat} {body suite : List Stmt} {b₀ : Stmt} {np pos pos' : Pos} {W : WX} {fb : DS} {cat : Str → Option Bool} {su : DS}
theorem noX_post {K : PySem.W.Frag} {mg : Str → Option Value} {m : Nat → Addr} {S : Sto} {H : Hp} {r : RS} {D : Ends} {o : Option RS} (h : noX o = some r) (p : PostS K mg W m S H r D) : o = some r ∧ PostS K mg W0 m S H r D := by
  cases o with
  | none => cases h
  | some z => cases z <;> cases h <;> exact ⟨rfl, p⟩
theorem ds_try_only (hs : X.stack = X.env :: X.outer) (hf : X.env.frame = some X.env.locals) (hc : Names X x c) (hcat : Cat X.K X.mg c cat) (tk : Takes X W)
    (hb : ∀ (W : WX) (pn : List (Addr × Obj)) (xe : Value → Shared → Prop), Takes (X.tr pn xe) W → PassesOwn (model X.prog X.w) X.A X.env xe → PSsd (X.tr pn xe) W body fb)
    (hsu : ∀ (a : Addr) (pn : List (Addr × Obj)), PSsd (X.suite a pn) W0 (b₀ :: suite) su) :
    PSd X W (.Try body [.ExceptHandler (some (.Name x np)) none (b₀ :: suite) pos'] [] [] pos) (dTryOnly fb cat su) := by
  refine (ps_try_only (tb := fun W => tS X.K X.mg W fb) (ts := fun a _ _ => tS X.K X.mg W0 su) hs hf hc tk hb (fun a oe cls d pn _ _ => hsu a _)).imp fun D σ H h => ?_
  obtain ⟨m, ρ, S, r, s, en, hf, p⟩ := h
  unfold dTryOnly at hf
  cases q : fb ρ S with
  | none => rw [q] at hf; cases hf
  | some z =>
    rw [q] at hf
    refine ⟨m, ρ, S, z, s, en, q, ?_⟩
    cases z with
    | next ρ' S' => cases hf; exact p
    | ret v S' => cases hf; exact p
    | brk ρ' S' => cases hf; exact p
    | ctn ρ' S' => cases hf; exact p
    | exc e ρ1 S1 =>
      dsimp only at hf
      intro cls dd σ' m' H' le ex s' en' rx
      obtain ⟨C, rfl, hm, hd⟩ := id rx
      split at hf
      · rename_i hcy
        refine ⟨true, hcat _ _ _ hm hcy, fun _ a ha => ?_, fun z => by cases z⟩
        obtain ⟨h1, h2⟩ := noX_post hf (p.on le ex)
        exact ⟨m', ρ1, S1, r, s', en', h1, h2⟩
      · rename_i hcy
        cases hf
        exact ⟨false, hcat _ _ _ hm hcy, (fun z => by cases z), fun _ => p _ _ _ m' H' le ex s' en' rx⟩
      · cases hf
end

/-! ### isinstance(e, C), e the error that is held -/
def dIsE (i : Nat) (a : Addr) (b : Bool) : DE := fun ρ S => match ρ[i]? with
  | some (some (.xc a' _ _)) => if a' = a then some (.ok (.bl b) S) else none
  | _ => none
/-- e, known to be at a -/
def tIsE (i : Nat) (a : Addr) : TA := fun σ H Q => σ[i]? = some (some (.ref a)) ∧ Q [.ref a] H
theorem de_isE {X : Cx} {W : WX} {a C : Addr} {oe : Obj} {pn : List (Addr × Obj)} {x : Str} {ce : Expr} {cv : V} {cu : Value} {b : Bool} {p p2 pos : Pos} (i : Nat) (hC : ExcC X.K C) (hz : Zc (.ref C) none oe) (hf : ∃ vs, oe.data = .fields vs)
    (hg : Gl X "isinstance") (hm : X.mg "isinstance" = none) (hN : X.N[i]? = some x) (hv : Vis X.env.scope x) (hce : PE (X.suite a ((a, oe) :: pn)) ce (tC cv)) (hrel : ∀ u, RelV cv u → u = cu) (hk : PySem.W.kitOne X.K (.ref C) cu = some b)
    (hd : (x == ("__debug__" : Str)) = false := by decide) (hcd : (x == ("__classdict__" : Str)) = false := by decide)
    (h1 : starEach [.Name x p2, ce] X.env = (false, eval (.Name x p2) X.env) :: starEach [ce] X.env := by rfl) (h2 : starEach [ce] X.env = (false, eval ce X.env) :: starEach [] X.env := by rfl) (hpl : (backTo pos (starEach [ce] X.env)).any (·.1) = false := by rfl) :
    PEd (X.suite a ((a, oe) :: pn)) W (.Call (.Name "isinstance" p) [.Name x p2, ce] [] pos) (dIsE i a b) := by
  have hl : PA (X.suite a ((a, oe) :: pn)) [.Name x p2, ce] _ := pa_cons (pe_var (X := X.suite a ((a, oe) :: pn)) hN hv hd hcd) (pa_cons hce pa_nil h2) h1
  refine (pe_callB (X := X.suite a ((a, oe) :: pn)) (call_isE hC hz hf) hg hm boot_isinstance hl (by decide) (by decide) h1 hpl).imp fun σ H Q h => ?_
  obtain ⟨m, ρ, S, r, s, en, hfn, p⟩ := h
  unfold dIsE at hfn
  split at hfn
  · rename_i a' d fv hi
    split at hfn
    · rename_i ha
      subst ha
      cases hfn
      obtain ⟨v, hv1, rv⟩ := en.at_ i _ hi
      cases rv
      exact ⟨_, hv1, cv, cu, b, rfl, hrel, hk, p _ m H (Nat.le_refl _) Ext.refl s (.bl b)⟩
    · cases hfn
  · cases hfn

/-- never reached -/
def dNope : DS := fun _ _ => none
theorem pss_nope {X : Cx} {W : WX} {sts : List Stmt} : PSsd X W sts dNope := ⟨fun pins s σ H D I h => by
  obtain ⟨m, ρ, S, r, st, e, hf, p⟩ := h
  cases hf⟩
theorem su_alt {X : Cx} {cat : Str → Option Bool} {e : Xn} {a : Addr} {oe : Obj} {C A : Addr} {d : Option Addr} {nm : Str} {pn : List (Addr × Obj)} {sts : List Stmt} {f g : DS} (hA : X.mg nm = some (.ref A)) (hs : Su X cat e a oe C d)
    (go : Zc (.ref A) none oe → (∃ vs, oe.data = .fields vs) → PSsd (X.suite a ((a, oe) :: pn)) W0 sts f) (ge : PSsd (X.suite a ((a, oe) :: pn)) W0 sts g) : PSsd (X.suite a ((a, oe) :: pn)) W0 sts (if e.c = nm ∧ e.fs.isEmpty = true then f else g) := by
  split
  · rename_i hc
    have hd : d = none := hs.d0 (List.isEmpty_iff.mp hc.2)
    have hm := hs.mg
    rw [hc.1, hA] at hm
    cases hm
    have hz := hs.z
    rw [hd] at hz
    exact go hz hs.f
  · exact ge
end D

/-! D9: the end. -/
namespace D
open PySem PySem.Spec PyProof.Rows L2

theorem kit_ref {K : PySem.W.Frag} {A B : Addr} {b : Bool} (ht : PySem.W.typeIn K (.ref B) = some (.type "type")) (hd : PySem.W.hasDictIn K B = true) (hs : PySem.W.subIn K (.ref A) (.ref B) = some b) (h1 : PySem.W.subIn K (.ref A) (.ref A) = some true) : PySem.W.kitOne K (.ref A) (.ref B) = some b := by
  obtain ⟨cd, hc, _⟩ := PySem.W.any_some hd
  unfold PySem.W.kitOne
  split
  · rename_i h
    have e : Value.ref A = Value.ref B := beq_iff_eq.mp h
    cases e
    rw [h1] at hs; exact hs
  · show (if ((PySem.W.clsIn K B).isSome && PySem.W.typeIn K (.ref B) == some (.type "type")) = true then PySem.W.subIn K (.ref A) (.ref B) else none) = some b
    rw [if_pos (by rw [hc, ht] <;> rfl)]
    exact hs
theorem kit_typ {K : PySem.W.Frag} {A : Addr} {T : String} {b : Bool} (hm : PySem.W.kitMeta T = true) (hs : PySem.W.subIn K (.ref A) (.type T) = some b) : PySem.W.kitOne K (.ref A) (.type T) = some b := by
  unfold PySem.W.kitOne
  split
  · rename_i h
    have e : Value.ref A = Value.type T := beq_iff_eq.mp h
    cases e
  · show (if PySem.W.kitMeta T = true then PySem.W.subIn K (.ref A) (.type T) else none) = some b
    rw [if_pos hm]; exact hs

/-- what a law's function must answer -/
def LawD (F : DF) : Prop := ∀ ns : List Int, ns.length ≤ 63 → ∃ S', F [.loc 0] [.fz (ns.map PV.int)] = some (.ok (.bl true) S')
def spLawD (K : PySem.W.Frag) : Sp := fun vs H Q _ => ∃ (a : Addr) (ns : List Int), vs = [.ref a] ∧ SqL K H a (ns.map V.int) ∧ Only H ∧ ns.length ≤ 63 ∧ ∀ H', Q (.bl true) H'
theorem law_sp {K : PySem.W.Frag} {mg : Str → Option Value} {F : DF} (h : LawD F) {vs : List V} {H : Hp} {Q : VK} {E : XK} (s : spLawD K vs H Q E) : spD K mg 1 F vs H Q E := by
  obtain ⟨a, ns, rfl, hs, ho, hn, q⟩ := s
  obtain ⟨S', hF⟩ := h ns hn
  have fz : FzL K H a (ns.map V.int) := by
    rcases hs with (h1 | ⟨o, h1⟩) | h1
    · rcases ho a with h2 | ⟨o, xs, h2⟩
      · rw [h1] at h2; cases h2
      · rw [h1] at h2; cases h2
    · exact .inl ⟨o, h1⟩
    · exact .inr h1
  refine ⟨rfl, fun _ => a, [.fz (ns.map PV.int)], [.loc 0], .ok (.bl true) S', ⟨fun k o e => ?_, fun j k oj ok ej ek mj mk _ => ?_⟩, .cons (.loc (by simp)) .nil, hF, ?_⟩
  · cases k with
    | zero => cases e; exact ⟨_, fz, .of_ints⟩
    | succ k => simp at e
  · cases j with
    | zero => cases ej; cases mj
    | succ j => simp at ej
  · intro v m' H' _ _ _ r
    cases r
    exact q H'
theorem law_walk {l : PySem.W.OpenLaw} {k : Nat} {q : Program} {loose : List Str} {XP : (Str → Option Value) → Heap → Prop} {YP : World → Heap → Prop} {d : DefRec} {K : Params → PySem.W.Frag} {x : Str} {F : DF} (hF : LawD F)
    (hn : l.most = some 63) (hdf : d.params.defaults = []) (hr : Room k callerA) (hY : ∀ (w : World) (h : Heap), YP w h → (K w.params).In h)
    (hf : ∀ (w : World) (mg : Str → Option Value) (fa : Addr) (h : Heap), (K w.params).In h → h.Ns mainGlobals mg → mg d.name = some (.ref fa) →
      ∃ fd : FuncData, (∀ (s : Shared) (u : Value), BindsTo s fd ⟨[u], []⟩ [(x, u)]) ∧ ∀ base : Heap, (K w.params).In base → base.Ns mainGlobals mg → FnOk l.prog w (K w.params) mg base (L2.CX l.prog w) k fa fd [x] (spD (K w.params) mg 1 F)) :
    PySem.W.WalkO q loose XP YP l.row.toRowW d [] (fun f vs => PySem.call f vs) :=
  L2.walk_of (n := 63) (k := k) (x := x) (CX := fun w => L2.CX l.prog w) (sp := fun w => spLawD (K w.params)) hn (by decide) hdf hr hY
    (fun w mg fa h KX G hm => by
      obtain ⟨fd, hb, h2⟩ := hf w mg fa h KX G hm
      exact ⟨fd, hb, fun base kb nb => (h2 base kb nb).imp fun vs H Q E s => law_sp hF s⟩)
    (fun w H a ns hl hO hS => ⟨a, ns, rfl, hS, hO, hl, fun _ => rfl⟩) fun w H s e s' c => by
    obtain ⟨_, _, _, _, _, _, _, _, _, _, _, _, z⟩ := c
    exact z
end D

/-! D10: reversed, enumerate, greatest and least of a list. -/
namespace D
open PySem PySem.Spec PyProof.Rows L2

/-! ### reversed(x) -/
section
variable {K : PySem.W.Frag} {mg : Str → Option Value} {m : Nat → Addr} {n : Nat} {H : Hp} {S : Sto}
theorem rev_at {l : List PV} {i : Nat} {d : PV} (h : l.reverse[i]? = some d) : i < l.length ∧ l[l.length - 1 - i]? = some d := by
  have hi : i < l.length := by
    have := lt_of_get h
    rwa [List.length_reverse] at this
  exact ⟨hi, by rw [List.getElem?_reverse hi] at h; exact h⟩
theorem itOk_revT {a : Addr} {xs : List V} {l : List PV} (hs : SqT K H a xs) (r : RpL K H m n l xs) : ItOk K mg (RT.ItvT K a xs.length) ⟨l.reverse, []⟩ n m H where
  go := fun i d m' S' H' le x s _ e => by
    have hs' := x.tp _ _ hs
    obtain ⟨hi, e2⟩ := rev_at e
    obtain ⟨v, h1, h2⟩ := (r.mono x le).get e2
    rw [r.length] at hi h1
    refine ⟨⟨hi, xs, v, hs', h1⟩, fun y H2 hy => ?_⟩
    obtain ⟨e1, e3⟩ := hy
    subst e1
    have := e3 xs hs'
    rw [h1] at this
    cases this
    exact ⟨m', Ext.refl, s, h2⟩
  stop := fun m' S' H' le x s _ => by
    show xs.length ≤ l.reverse.length
    rw [List.length_reverse, r.length]
    exact Nat.le_refl _
theorem itOk_revL {k : Nat} {l : List PV} {xs : List V} {po : PO} (s0 : StS K mg m S H) (e0 : S[k]? = some po) (hl : lstOf k S = some l) (hlen : xs.length = l.length) : ItOk K mg (Itv K (m k) xs.length) ⟨l.reverse, [(k, po)]⟩ S.length m H where
  go := fun i d m' S' H' le x s kp e => by
    have e1 : S'[k]? = some po := kp (k, po) (by simp)
    have hl' : lstOf k S' = some l := by
      unfold lstOf at hl ⊢
      rw [e0] at hl
      rw [e1]; exact hl
    obtain ⟨ys, h1, h2⟩ := lst_rp s hl'
    obtain ⟨hi, e2⟩ := rev_at e
    obtain ⟨v, h3, h4⟩ := h2.get e2
    rw [x.mp k (lt_of_get e0)] at h1
    rw [← hlen] at hi h3
    refine ⟨⟨hi, ys, v, h1, h3⟩, fun y H2 hy => ?_⟩
    obtain ⟨e5, e6⟩ := hy
    subst e5
    have := e6 ys h1
    rw [h3] at this
    cases this
    exact ⟨m', Ext.refl, s, h4⟩
  stop := fun m' S' H' le x s kp => by
    show xs.length ≤ l.reverse.length
    rw [List.length_reverse, hlen]
    exact Nat.le_refl _
end
section
variable {X : Cx} {W : WX} {tg e : Expr} {fe : DE}
def dRevI (f : DE) : DI := fun ρ S => bR (f ρ S) fun x S1 => match x with
  | .tup l => some (.ok ⟨l.reverse, []⟩ S1)
  | .loc k => match S1[k]? with
    | some (.lst l) => some (.ok ⟨l.reverse, [(k, .lst l)]⟩ S1)
    | some (.fz l) => some (.ok ⟨l.reverse, [(k, .fz l)]⟩ S1)
    | _ => none
  | _ => none
theorem di_rev {p pos : Pos} (hg : Gl X "reversed") (hm : X.mg "reversed" = none) (h : PEd X W e fe) (hs : starEach [e] X.env = (false, eval e X.env) :: starEach [] X.env := by rfl) : PId X W tg (.Call (.Name "reversed" p) [e] [] pos) (dRevI fe) := (RT.pi_revA hg hm h hs).imp fun σ H Q h => by
  refine (bind1 (ra := rE X.K) h).mono fun v H1 ⟨m, ρ, S, d, z, s, en, r1, hk, p⟩ => ?_
  split at hk
  · cases r1 with
    | @tup l a xs h1 h2 =>
      cases hk
      exact ⟨a, xs, rfl, .inr ⟨h1, p _ m H1 (Nat.le_refl _) Ext.refl s (itOk_revT h1 h2)⟩⟩
  · cases r1 with
    | loc hk' =>
      split at hk
      · rename_i e1
        cases hk
        have hl := lstOf1 e1
        obtain ⟨xs, h1, h2⟩ := lst_rp s hl
        exact ⟨_, xs, rfl, .inl ⟨h1, p _ m H1 (Nat.le_refl _) Ext.refl s (itOk_revL s e1 hl h2.length.symm)⟩⟩
      · rename_i e1
        cases hk
        have hl := lstOf2 e1
        obtain ⟨xs, h1, h2⟩ := lst_rp s hl
        exact ⟨_, xs, rfl, .inl ⟨h1, p _ m H1 (Nat.le_refl _) Ext.refl s (itOk_revL s e1 hl h2.length.symm)⟩⟩
      · cases hk
  · cases hk
end

/-! ### enumerate(x), x a tuple -/
theorem meets_enumT (l : Addr) (ob : Obj) (its : Array Value) :
    Meets (Builtin.«enumerate.__new__» ⟨[Value.type "enumerate", Value.ref l], []⟩) (fun _ R s => (s.heap.get? l = some ob ∧ s.heap.IsTuple l its) ∧
      R (.ok (.ret (.ref (s.heap.push { cls := .type "tuple_iterator", data := .fields #[.ref l, .int 0 0] }).objs.size))) { s with heap := ((s.heap.push { cls := .type "tuple_iterator", data := .fields #[.ref l, .int 0 0] }).push { cls := .type "enumerate", data := .fields #[.none, .bool false, .ref s.heap.objs.size, rawInt 0, .none, .none] }) }) :=
  Meets.of_wp fun prog w A R s h => by
    obtain ⟨hp, g, d, tk, os⟩ := s
    obtain ⟨⟨hl, hT⟩, h⟩ := h
    have hsub := sub_enumerate
    have hT' : Heap.IsTuple (Shared.heap ⟨hp, g, d, tk, os⟩) l its := hT
    have hl' : (Shared.heap ⟨hp, g, d, tk, os⟩).get? l = some ob := hl
    wp_walk using AutoSeq1.wpAny_loadPart' hl'
    refine wpAny_stack_any fun st => wpAny_pure ?_
    split
    · rename_i c _ _ _ _ _
      cases (c == Value.type "enumerate")
      all_goals (wp_walk using AutoSeq1.wpAny_loadPart' hl', wpAny_pyIter_tuple hT'; exact ⟨_, rfl, h⟩)
    · (wp_walk using AutoSeq1.wpAny_loadPart' hl', wpAny_pyIter_tuple hT'; exact ⟨_, rfl, h⟩)
theorem call_enumT {prog : Program} {w : World} {A : Around} {E : Value → Shared → Prop} {s : Shared} {l : Addr} {its : Array Value} {Q : Value → Shared → Prop} (hT : s.heap.IsTuple l its)
    (h : ∀ h', IsEnum h' (s.heap.objs.size + 1) s.heap.objs.size 0 .none → h'.IsTupleIter s.heap.objs.size l 0 → h'.objs.size = s.heap.objs.size + 2 → (∀ b o, s.heap.get? b = some o → h'.get? b = some o) → Q (.ref (s.heap.objs.size + 1)) { s with heap := h' }) :
    wpAny (model prog w) A (call (.type "enumerate") [.ref l]) Q E s := by
  obtain ⟨ob, hl, hc, hd⟩ := id hT
  refine callType_new F.called_enumerate (by decide) (F.typeCall_enumerate_1 _) (F.newCall_enumerate_1 _) (fun obj => F.args_object_init_2 obj _) F.entry_enumerate_new (meets_enumT l ob its) ⟨⟨hl, hT⟩, ?_⟩
  let h1 := s.heap.push { cls := .type "tuple_iterator", data := .fields #[.ref l, .int 0 0] }
  have hz : h1.objs.size = s.heap.objs.size + 1 := Heap.size_push ..
  have he : IsEnum (h1.push { cls := .type "enumerate", data := .fields #[.none, .bool false, .ref s.heap.objs.size, rawInt 0, .none, .none] }) (s.heap.objs.size + 1) s.heap.objs.size 0 .none := by
    have q := Heap.get?_push_size h1 (o := { cls := .type "enumerate", data := .fields #[.none, .bool false, .ref s.heap.objs.size, rawInt 0, .none, .none] }) rfl
    rw [hz] at q
    exact q
  show _ ∧ Q (.ref h1.objs.size) _
  rw [hz]
  exact ⟨⟨_, he, rfl⟩, h _ he ⟨_, Heap.get?_push_of_some _ (Heap.get?_push_size _ rfl), rfl, rfl⟩ (by rw [Heap.size_push, hz]) fun b o x => Heap.get?_push_of_some _ (Heap.get?_push_of_some _ x)⟩

/-- the tuple at a, each item in a new pair -/
def IteT (K : PySem.W.Frag) (a : Addr) : It :=
  ⟨fun i H => ∃ (xs : List V) (x : V), SqT K H a xs ∧ xs[i]? = some x, fun i H v H' => ∃ p x, v = .ref p ∧ H p = none ∧ H' = upd H p (.tup [.int (i : Nat), x]) ∧ ∀ xs, SqT K H a xs → xs[i]? = some x, fun i H => ∃ xs : List V, SqT K H a xs ∧ xs.length ≤ i⟩
theorem turn_enumT {P : Program} {w : World} {K : PySem.W.Frag} {elts : List Expr} {kk : Nat} {tpos : Pos} (a e it : Addr) (hai : a ≠ it) :
    Turn P w K (.Tuple elts kk tpos) (IteT K a) [e, it] e (fun i h => (∃ old, IsEnum h e it ((i : Nat) : Int) old) ∧ h.IsTupleIter it a i ∧ e ≠ it ∧ e ≠ a) where
  mem := List.mem_cons_self
  obj := fun i h st b hb => by
    obtain ⟨⟨old, he⟩, ⟨o, ho, hc, hd⟩, _⟩ := st
    rcases List.mem_cons.mp hb with z | z
    · subst z; exact ⟨_, he, fun v q => nomatch q⟩
    · rw [List.mem_singleton] at z
      subst z
      exact ⟨o, ho, fun v q => by rw [hd] at q; cases q⟩
  keep := fun i h h' st k => by
    obtain ⟨⟨old, he⟩, hi, hne⟩ := st
    exact ⟨⟨old, k e List.mem_cons_self _ he⟩, hi.at fun o q => k it (List.mem_cons_of_mem _ List.mem_cons_self) o q, hne⟩
  item := by
    intro X hP hw hK hc i pins s σ H E I hf st hg
    cases hP; cases hw; cases hK
    obtain ⟨⟨old, he⟩, hit, hne, hea⟩ := st
    obtain ⟨xs, x, hq, hx⟩ := hg
    obtain ⟨its, rv, p, hz⟩ := I.tuple hq
    obtain ⟨u, hu, ru⟩ := rv.get hx
    have hel := Heap.lt_size he
    have hil : it < s.heap.objs.size := by
      obtain ⟨_, q, _⟩ := hit
      exact Heap.lt_size q
    have D := Draws.tuple (prog := X.prog) (w := X.w) (A := X.A.in1) (I.ok.hd hc) it a hai its.toArray
    have hlt : i < its.toArray.size := by
      have := lt_of_get hu
      simpa using this
    refine wpAny_pyNext_enum_itemD D he ⟨hit, p⟩ hlt hne (by simp [hne, hea]) fun y h1 tk hy ho hst hT hsz hk => ?_
    have hy' : y = u := by
      have h2 : its.toArray[i]? = some u := by simpa using hu
      rw [h2] at hy
      exact (Option.some.inj hy).symm
    subst hy'
    refine ⟨_, rfl, wpAny_letOwnedTupleGo_enum (s := { s with heap := h1, toks := tk + 1 }) ho fun h2 he2 sb => ?_⟩
    have hT2 : h2.get? s.heap.objs.size = some { cls := .type "tuple", data := .seq #[.int i tk, y] } := (sb.2 _ (Nat.ne_of_gt hel)).trans hT
    have new : ObjOk X.prog X.w (upd H s.heap.objs.size (.tup [.int (i : Nat), x])) h2 s.heap.objs.size (.tup [.int (i : Nat), x]) :=
      ⟨(by decide : 2 ≤ sizeLine), [.int i tk, y], .cons ⟨_, rfl⟩ (.cons ru .nil), ⟨_, hT2, rfl, _, rfl⟩⟩
    have I1 : Inv X pins σ (upd H s.heap.objs.size (.tup [.int (i : Nat), x])) { s with heap := h2, toks := tk + 1 } := by
      refine I.turnedNew (ch := [e, it]) (fun b ob hb q => ?_) hf (Nat.le_refl _) new
      have b1 : b ≠ e := fun z => hb (by simp [z])
      have b2 : b ≠ it := fun z => hb (by simp [z])
      exact (sb.2 b b1).trans (hk b ob b1 b2 q)
    refine ⟨.ref s.heap.objs.size, _, I1, rfl, ⟨_, x, rfl, I.hok.fresh (Nat.le_refl _), rfl, fun ys hy => by rw [I.tuple_inj hy hq]; exact hx⟩, ⟨⟨y, ?_⟩, hst.1.at fun o q => (sb.2 it (Ne.symm hne)).trans q, hne, hea⟩, fun b hb => ?_⟩
    · have e1 : ((i + 1 : Nat) : Int) = (i : Int) + 1 := Int.natCast_succ i
      rw [e1]
      exact he2
    · have hb' : b < s.heap.objs.size := by
        rcases List.mem_cons.mp hb with z | z
        · rw [z]; exact hel
        · rw [List.mem_singleton] at z
          rw [z]; exact hil
      rw [upd_ne (Nat.ne_of_lt hb')]
      exact (hf b hb).1
  done := by
    intro X hP hw hK hc i pins s σ H E I hf st hg
    cases hP; cases hw; cases hK
    obtain ⟨⟨old, he⟩, hit, hne, hea⟩ := st
    obtain ⟨xs, hq, hx⟩ := hg
    obtain ⟨its, rv, p, hz⟩ := I.tuple hq
    obtain ⟨f0, f1, f2, f3, f4, f5⟩ := hf it (List.mem_cons_of_mem _ List.mem_cons_self)
    have hl := rv.length
    have hT : s.TypeIs (.ref e) "enumerate" := ⟨_, he, rfl⟩
    unfold pyNext
    refine wpAny_bind (wpAny_attempt (wpAny_callSpecial?_slot (name := Str.ofString "__next__") hT F.slot_enumerate_next (wpAny_call_entry F.slot_enumerate_next hT F.entry_enumerate_next ?_ (F.args_enumerate_next_1 _))))
    show wpAny _ _ (field (.ref e) 2 >>= _) _ _ _
    refine wpAny_bind (wpAny_field he rfl (x := .ref it) rfl ?_)
    refine wpAny_bind (wpAny_nextOf_tuple_end (I.ok.hd hc) hit p (by simp; omega) fun h' x eb hx' => ?_)
    obtain ⟨o, ho, hcls⟩ := hx'
    refine wpAny_bind (wpAny_isInstance (T := "StopIteration") (b := true) ⟨o, ho, hcls⟩ isSubtype_stop ?_)
    exact wpAny_pure ⟨rfl, I.turned (t' := s.toks) (fun b o hb q => eb b o hb q) f0 f1 f3 f4 f5⟩
  self := fun A i s Q E st h => by
    obtain ⟨⟨_, he⟩, _⟩ := st
    exact wpAny_pyIter_enum he h

/-! ### enumerate(x) -/
def iEnumA (K : PySem.W.Frag) (ta : TA) : TI := fun σ H R => ta σ H fun vs H1 => ∃ a xs, vs = [.ref a] ∧ ((SqL K H1 a xs ∧ R (Ite K a) H1) ∨ (SqT K H1 a xs ∧ R (IteT K a) H1))
theorem pi_enumA {X : Cx} {e : Expr} {ta : TA} {p pos tpos : Pos} {elts : List Expr} {kk : Nat} (hg : Gl X "enumerate") (hm : X.mg "enumerate" = none) (ha : PA X [e] ta) (hs : starEach [e] X.env = [(false, eval e X.env)] := by rfl) :
    PI X (.Tuple elts kk tpos) (.Call (.Name "enumerate" p) [e] [] pos) (iEnumA X.K ta) := by
  refine ⟨fun pins s σ H R I h => ?_⟩
  refine Call_ (ld_blt I hg hm boot_enumerate (PyProof.Rows.callWith_type1 (thn (ha.run pos pins s σ H _ I h) fun us s1 ⟨vs, H1, I1, r1, q1⟩ => ?_) hs rfl))
  obtain ⟨a, xs, ex, q⟩ := q1
  cases ex
  cases r1 with
  | cons r rr =>
    cases rr; cases r
    have fp : ∀ b, b ∈ [s1.heap.objs.size + 1, s1.heap.objs.size] → s1.heap.objs.size ≤ b ∧ H1 b = none := fun b hb => by
      have hle : s1.heap.objs.size ≤ b := by
        rcases List.mem_cons.mp hb with z | z
        · omega
        · rw [List.mem_singleton] at z; omega
      exact ⟨hle, I1.hok.fresh hle⟩
    rcases q with ⟨hq, q⟩ | ⟨hq, q⟩
    · obtain ⟨its, rv, p', hz⟩ := I1.list hq
      refine call_enumerate_list p'.isList fun h' he hit hsz hk => wpAny_pyIter_enum he ?_
      exact ⟨s1.heap.objs.size + 1, [s1.heap.objs.size + 1, s1.heap.objs.size], _, _, H1, rfl, I1.kept (t' := s1.toks) hk, turn_enum a _ _, ⟨⟨.none, he⟩, hit, Nat.succ_ne_self _⟩, fun b hb => I1.fpOk (fp b hb).1 (fp b hb).2, q⟩
    · obtain ⟨its, rv, p', hz⟩ := I1.tuple hq
      have hal : a < s1.heap.objs.size := by
        obtain ⟨o, ho, _⟩ := id p'
        exact Heap.lt_size ho
      refine call_enumT p' fun h' he hit hsz hk => wpAny_pyIter_enum he ?_
      exact ⟨s1.heap.objs.size + 1, [s1.heap.objs.size + 1, s1.heap.objs.size], _, _, H1, rfl, I1.kept (t' := s1.toks) hk, turn_enumT a _ _ (Nat.ne_of_lt hal), ⟨⟨.none, he⟩, hit, Nat.succ_ne_self _, Nat.ne_of_gt (Nat.lt_succ_of_lt hal)⟩, fun b hb => I1.fpOk (fp b hb).1 (fp b hb).2, q⟩
/-- each item behind its number -/
def enumP : Nat → List PV → List PV
  | _, [] => []
  | i, x :: r => .tup [.int (i : Int), x] :: enumP (i + 1) r
theorem enumP_at : ∀ {l : List PV} {k i : Nat} {d : PV}, (enumP k l)[i]? = some d → ∃ x, l[i]? = some x ∧ d = .tup [.int ((k + i : Nat) : Int), x]
  | [], _, _, _, h => by simp [enumP] at h
  | x :: r, k, 0, d, h => ⟨x, rfl, by simpa [enumP] using h.symm⟩
  | x :: r, k, i + 1, d, h => by
    have h' : (enumP (k + 1) r)[i]? = some d := by simpa [enumP] using h
    obtain ⟨y, h1, h2⟩ := enumP_at h'
    exact ⟨y, by simpa using h1, by rw [h2]; congr 4; omega⟩
theorem enumP_len : ∀ (l : List PV) (k : Nat), (enumP k l).length = l.length
  | [], _ => rfl
  | _ :: r, k => by
    show (enumP (k + 1) r).length + 1 = _
    rw [enumP_len r, List.length_cons]
section
variable {K : PySem.W.Frag} {mg : Str → Option Value} {m : Nat → Addr} {n : Nat} {H : Hp} {S : Sto}
theorem sts_new {q : Addr} {ho : HO} (s : StS K mg m S H) (hq : H q = none) : StS K mg m S (upd H q ho) :=
  ⟨fun k o e => (s.obj k o e).upd (.inl hq) fun hm z => by
    have := ((s.obj k o e).there hm).2
    rw [z, hq] at this
    exact this rfl, s.inj⟩
theorem yld_pair {q : Addr} {i : Int} {d : PV} {x : V} (s : StS K mg m S H) (hq : H q = none) (r : Rp K H m S.length d x) : ∃ m2, Ext K S.length m H m2 (upd H q (.tup [.int i, x])) ∧ StS K mg m2 S (upd H q (.tup [.int i, x])) ∧ Rp K (upd H q (.tup [.int i, x])) m2 S.length (.tup [.int i, d]) (.ref q) := by
  have ex : Ext K S.length m H m (upd H q (.tup [V.int i, x])) := ext_upd (.inl hq)
  exact ⟨m, ex, sts_new s hq, .tup (.inl (.inl upd_same)) (.cons (.int i) (.cons (r.mono ex (Nat.le_refl _)) .nil))⟩
theorem itOk_enumT {a : Addr} {xs : List V} {l : List PV} (hs : SqT K H a xs) (r : RpL K H m n l xs) : ItOk K mg (IteT K a) ⟨enumP 0 l, []⟩ n m H where
  go := fun i d m' S' H' le x s _ e => by
    have hs' := x.tp _ _ hs
    obtain ⟨y, e1, rfl⟩ := enumP_at e
    obtain ⟨v, h1, h2⟩ := (r.mono x le).get e1
    refine ⟨⟨xs, v, hs', h1⟩, fun z H2 hy => ?_⟩
    obtain ⟨q, w, rfl, hq, rfl, e3⟩ := hy
    have := e3 xs hs'
    rw [h1] at this
    cases this
    rw [Nat.zero_add]
    exact yld_pair s hq h2
  stop := fun m' S' H' le x s _ => ⟨xs, x.tp _ _ hs, by
    show xs.length ≤ (enumP 0 l).length
    rw [enumP_len, r.length]
    exact Nat.le_refl _⟩
theorem itOk_enumL {k : Nat} {l : List PV} {po : PO} (s0 : StS K mg m S H) (e0 : S[k]? = some po) (hl : lstOf k S = some l) : ItOk K mg (Ite K (m k)) ⟨enumP 0 l, [(k, po)]⟩ S.length m H where
  go := fun i d m' S' H' le x s kp e => by
    have e1 : S'[k]? = some po := kp (k, po) (by simp)
    have hl' : lstOf k S' = some l := by
      unfold lstOf at hl ⊢
      rw [e0] at hl
      rw [e1]; exact hl
    obtain ⟨ys, h1, h2⟩ := lst_rp s hl'
    rw [x.mp k (lt_of_get e0)] at h1
    obtain ⟨y, e1, rfl⟩ := enumP_at e
    obtain ⟨v, h3, h4⟩ := h2.get e1
    refine ⟨⟨ys, v, h1, h3⟩, fun z H2 hy => ?_⟩
    obtain ⟨q, w, rfl, hq, rfl, e3⟩ := hy
    have := e3 ys h1
    rw [h3] at this
    cases this
    rw [Nat.zero_add]
    exact yld_pair s hq h4
  stop := fun m' S' H' le x s kp => by
    have e1 : S'[k]? = some po := kp (k, po) (by simp)
    have hl' : lstOf k S' = some l := by
      unfold lstOf at hl ⊢
      rw [e0] at hl
      rw [e1]; exact hl
    obtain ⟨ys, h1, h2⟩ := lst_rp s hl'
    rw [x.mp k (lt_of_get e0)] at h1
    exact ⟨ys, h1, by
      show ys.length ≤ (enumP 0 l).length
      rw [enumP_len, h2.length]
      exact Nat.le_refl _⟩
end
def dEnumI (f : DA) : DI := fun ρ S => bR (f ρ S) fun x S1 => match x with
  | [.tup l] => some (.ok ⟨enumP 0 l, []⟩ S1)
  | [.loc k] => match S1[k]? with
    | some (.lst l) => some (.ok ⟨enumP 0 l, [(k, .lst l)]⟩ S1)
    | some (.fz l) => some (.ok ⟨enumP 0 l, [(k, .fz l)]⟩ S1)
    | _ => none
  | _ => none
theorem di_enum {X : Cx} {W : WX} {e : Expr} {fa : DA} {p pos tpos : Pos} {elts : List Expr} {kk : Nat} (hg : Gl X "enumerate") (hm : X.mg "enumerate" = none) (ha : PAd X W [e] fa) (hs : starEach [e] X.env = [(false, eval e X.env)] := by rfl) :
    PId X W (.Tuple elts kk tpos) (.Call (.Name "enumerate" p) [e] [] pos) (dEnumI fa) := (pi_enumA hg hm ha hs).imp fun σ H Q h => by
  refine (bind1 (ra := rA X.K) h).mono fun v H1 ⟨m, ρ, S, d, z, s, en, r1, hk, p⟩ => ?_
  split at hk
  · cases r1 with
    | cons a b =>
      cases b
      cases a with
      | @tup l a xs h1 h2 =>
        cases hk
        exact ⟨a, xs, rfl, .inr ⟨h1, p _ m H1 (Nat.le_refl _) Ext.refl s (itOk_enumT h1 h2)⟩⟩
  · cases r1 with
    | cons a b =>
      cases b; cases a
      split at hk
      · rename_i e1
        cases hk
        have hl := lstOf1 e1
        obtain ⟨xs, h1, h2⟩ := lst_rp s hl
        exact ⟨_, xs, rfl, .inl ⟨h1, p _ m H1 (Nat.le_refl _) Ext.refl s (itOk_enumL s e1 hl)⟩⟩
      · rename_i e1
        cases hk
        have hl := lstOf2 e1
        obtain ⟨xs, h1, h2⟩ := lst_rp s hl
        exact ⟨_, xs, rfl, .inl ⟨h1, p _ m H1 (Nat.le_refl _) Ext.refl s (itOk_enumL s e1 hl)⟩⟩
      · cases hk
  · cases hk

/-! ### sum, max, min, any, all of a list -/
def intP : PV → Option Int
  | .int i => some i
  | _ => none
def blP : PV → Option Bool
  | .bl i => some i
  | _ => none
theorem intP_map : ∀ {l : List PV} {ns : List Int}, mapO intP l = some ns → l = ns.map PV.int
  | [], _, h => by cases h; rfl
  | x :: r, _, h => by
    unfold mapO at h
    split at h
    · rename_i y ys h1 h2
      cases h
      rw [intP_map h2]
      cases x <;> cases h1
      rfl
    · cases h
theorem blP_map : ∀ {l : List PV} {ns : List Bool}, mapO blP l = some ns → l = ns.map PV.bl
  | [], _, h => by cases h; rfl
  | x :: r, _, h => by
    unfold mapO at h
    split at h
    · rename_i y ys h1 h2
      cases h
      rw [blP_map h2]
      cases x <;> cases h1
      rfl
    · cases h
/-- the ints of a stored list -/
def intsAt (k : Nat) (S : Sto) : Option (List Int) := match lstOf k S with
  | some l => mapO intP l
  | none => none
def blsAt (k : Nat) (S : Sto) : Option (List Bool) := match lstOf k S with
  | some l => mapO blP l
  | none => none
def maxI : List Int → Int
  | [] => 0
  | [i] => i
  | i :: r => if i ≤ maxI r then maxI r else i
def minI : List Int → Int
  | [] => 0
  | [i] => i
  | i :: r => if minI r ≤ i then minI r else i
theorem maxI_is : ∀ {ns : List Int} {m : Int}, m ∈ ns → (∀ y ∈ ns, y ≤ m) → m = maxI ns
  | [i], m, h, _ => List.mem_singleton.mp h
  | i :: j :: r, m, h, hm => by
    have hi := hm i List.mem_cons_self
    have mr : maxI (j :: r) ∈ j :: r := by
      have : ∀ (l : List Int) (x : Int), maxI (x :: l) ∈ x :: l := by
        intro l
        induction l with
        | nil => intro x; simp [maxI]
        | cons y l ih =>
          intro x
          unfold maxI
          split
          · exact List.mem_cons_of_mem _ (ih y)
          · exact List.mem_cons_self
      exact this r j
    have mx : ∀ (l : List Int) (x : Int), ∀ y ∈ x :: l, y ≤ maxI (x :: l) := by
      intro l
      induction l with
      | nil => intro x y hy; simp [maxI] at hy ⊢; omega
      | cons z l ih =>
        intro x y hy
        unfold maxI
        split
        · rcases List.mem_cons.mp hy with rfl | hy
          · assumption
          · exact ih z y hy
        · rcases List.mem_cons.mp hy with rfl | hy
          · exact Int.le_refl _
          · have := ih z y hy; omega
    have h1 := hm _ (List.mem_cons_of_mem _ mr)
    unfold maxI
    rcases List.mem_cons.mp h with rfl | h
    · split <;> omega
    · have := mx r j m h
      split <;> omega
theorem minI_is : ∀ {ns : List Int} {m : Int}, m ∈ ns → (∀ y ∈ ns, m ≤ y) → m = minI ns
  | [i], m, h, _ => List.mem_singleton.mp h
  | i :: j :: r, m, h, hm => by
    have hi := hm i List.mem_cons_self
    have mr : minI (j :: r) ∈ j :: r := by
      have : ∀ (l : List Int) (x : Int), minI (x :: l) ∈ x :: l := by
        intro l
        induction l with
        | nil => intro x; simp [minI]
        | cons y l ih =>
          intro x
          unfold minI
          split
          · exact List.mem_cons_of_mem _ (ih y)
          · exact List.mem_cons_self
      exact this r j
    have mx : ∀ (l : List Int) (x : Int), ∀ y ∈ x :: l, minI (x :: l) ≤ y := by
      intro l
      induction l with
      | nil => intro x y hy; simp [minI] at hy ⊢; omega
      | cons z l ih =>
        intro x y hy
        unfold minI
        split
        · rcases List.mem_cons.mp hy with rfl | hy
          · assumption
          · exact ih z y hy
        · rcases List.mem_cons.mp hy with rfl | hy
          · exact Int.le_refl _
          · have := ih z y hy; omega
    have h1 := hm _ (List.mem_cons_of_mem _ mr)
    unfold minI
    rcases List.mem_cons.mp h with rfl | h
    · split <;> omega
    · have := mx r j m h
      split <;> omega
section
variable {K : PySem.W.Frag} {mg : Str → Option Value} {m : Nat → Addr} {H : Hp} {S : Sto}
theorem intsAt_rp {k : Nat} {ns : List Int} (s : StS K mg m S H) (e : intsAt k S = some ns) : SqL K H (m k) (ns.map V.int) := by
  unfold intsAt at e
  split at e
  · rename_i l hl
    obtain ⟨xs, h1, h2⟩ := lst_rp s hl
    rw [intP_map e] at h2
    rw [h2.ints] at h1
    exact h1
  · cases e
theorem blsAt_rp {k : Nat} {ns : List Bool} (s : StS K mg m S H) (e : blsAt k S = some ns) : SqL K H (m k) (ns.map V.bl) := by
  unfold blsAt at e
  split at e
  · rename_i l hl
    obtain ⟨xs, h1, h2⟩ := lst_rp s hl
    rw [blP_map e] at h2
    rw [h2.bls] at h1
    exact h1
  · cases e
def gSumL : GA := fun l S => match l with
  | [.loc k] => match intsAt k S with
    | some ns => some (.ok (.int ns.sum) S)
    | none => none
  | _ => none
def gMaxL : GA := fun l S => match l with
  | [.loc k] => match intsAt k S with
    | some ns => if 0 < ns.length then some (.ok (.int (maxI ns)) S) else none
    | none => none
  | _ => none
def gMinL : GA := fun l S => match l with
  | [.loc k] => match intsAt k S with
    | some ns => if 0 < ns.length then some (.ok (.int (minI ns)) S) else none
    | none => none
  | _ => none
def gAnyL : GA := fun l S => match l with
  | [.loc k] => match blsAt k S with
    | some ns => some (.ok (.bl (ns.any id)) S)
    | none => none
  | _ => none
def gAllL : GA := fun l S => match l with
  | [.loc k] => match blsAt k S with
    | some ns => some (.ok (.bl (ns.all id)) S)
    | none => none
  | _ => none
theorem ok_sumL : OkGA K mg (rSum K) gSumL := fun W σ m S H x d z Q s r e p => by
  unfold gSumL at e
  split at e
  · split at e
    · rename_i ns hn
      cases e
      cases r with
      | cons a b =>
        cases b; cases a
        exact ⟨_, ns, rfl, intsAt_rp s hn, post_here s (.int _) p⟩
    · cases e
  · cases e
theorem ok_maxL : OkGA K mg (rMax K) gMaxL := fun W σ m S H x d z Q s r e p => by
  unfold gMaxL at e
  split at e
  · split at e
    · rename_i ns hn
      split at e
      · rename_i hl
        cases e
        cases r with
        | cons a b =>
          cases b; cases a
          exact ⟨_, ns, rfl, intsAt_rp s hn, hl, fun i h1 h2 => by rw [maxI_is h1 h2]; exact post_here s (.int _) p⟩
      · cases e
    · cases e
  · cases e
theorem ok_minL : OkGA K mg (rMin K) gMinL := fun W σ m S H x d z Q s r e p => by
  unfold gMinL at e
  split at e
  · split at e
    · rename_i ns hn
      split at e
      · rename_i hl
        cases e
        cases r with
        | cons a b =>
          cases b; cases a
          exact ⟨_, ns, rfl, intsAt_rp s hn, hl, fun i h1 h2 => by rw [minI_is h1 h2]; exact post_here s (.int _) p⟩
      · cases e
    · cases e
  · cases e
theorem ok_anyL : OkGA K mg (rAny K) gAnyL := fun W σ m S H x d z Q s r e p => by
  unfold gAnyL at e
  split at e
  · split at e
    · rename_i ns hn
      cases e
      cases r with
      | cons a b =>
        cases b; cases a
        exact ⟨_, ns, rfl, blsAt_rp s hn, post_here s (.bl _) p⟩
    · cases e
  · cases e
theorem ok_allL : OkGA K mg (rAll K) gAllL := fun W σ m S H x d z Q s r e p => by
  unfold gAllL at e
  split at e
  · split at e
    · rename_i ns hn
      cases e
      cases r with
      | cons a b =>
        cases b; cases a
        exact ⟨_, ns, rfl, blsAt_rp s hn, post_here s (.bl _) p⟩
    · cases e
  · cases e
end

/-! ### max(xs, default=d) -/
def rMaxDf (K : PySem.W.Frag) : List V → List V → Hp → VK → Prop := fun xs zs H Q => ∃ (a : Addr) (ns : List Int) (d : Int), xs = [.ref a] ∧ zs = [.int d] ∧ SqL K H a (ns.map V.int) ∧ (ns = [] → Q (.int d) H) ∧ ∀ n r, ns = n :: r → Q (.int (r.foldl max n)) H
theorem reads_ints {h : Heap} : ∀ {ns : List Int} {us : List Value}, Vals (ns.map V.int) us → ∃ as, ReadsAll h us (ns.map PyData.int) as
  | [], _, .nil => ⟨_, .nil⟩
  | i :: r, _, .cons ⟨t, e⟩ rs => by
    obtain ⟨as, q⟩ := reads_ints (h := h) rs
    subst e
    exact ⟨_, .cons (.int i t) q⟩
theorem depth_ints : ∀ ns : List Int, PyData.depthAll (ns.map PyData.int) = 0
  | [] => by simp [PyData.depthAll]
  | n :: r => by rw [List.map_cons, PyData.depthAll, depth_ints r, PyData.depth] <;> simp
theorem crk_max {X : Cx} (hc : X.calm = true) (hu : X.A.units + 64 < cLine) : CallRK X (.builtin "max") ["default"] (rMaxDf X.K) := by
  intro pins s σ H xs zs us ws Q I r1 r2 h
  obtain ⟨a, ns, d, rfl, rfl, hs, q0, q1⟩ := h
  obtain ⟨its, rv, hl, _⟩ := I.list hs
  rw [Vals.ref1 r1]
  cases r2 with
  | cons rd rn =>
    cases rn
    obtain ⟨td, rfl⟩ := rd
    obtain ⟨as, ra⟩ := reads_ints (h := s.heap) rv
    have al : PySem.W.AlikeAll (ns.map PyData.int) := ⟨fun x hx y hy => by
      obtain ⟨_, _, rfl⟩ := List.mem_map.mp hx
      obtain ⟨_, _, rfl⟩ := List.mem_map.mp hy
      rfl, fun x hx z => by
      obtain ⟨_, _, rfl⟩ := List.mem_map.mp hx
      cases z⟩
    refine PySem.W.max_list_default (I.ok.hd hc) hl.isList ra al (by rw [depth_ints]; omega) (fun e h' tk k => ?_) fun y ys i v h' tk bs e hv rd k => ?_
    · exact ⟨.int d, H, I.kept k, ⟨_, rfl⟩, q0 (List.map_eq_nil_iff.mp e)⟩
    · cases ns with
      | nil => cases e
      | cons n r =>
        rw [List.map_cons] at e
        cases e
        rw [PySem.W.maxD_ints] at rd
        cases rd
        exact ⟨.int _, H, I.kept k, ⟨_, rfl⟩, q1 n r rfl⟩
def gMaxDf (xs : List PV) (z : PV) (S : Sto) : Option (R PV) := match xs, z with
  | [.loc k], .int d => match intsAt k S with
    | some [] => some (.ok (.int d) S)
    | some (n :: r) => some (.ok (.int (r.foldl max n)) S)
    | none => none
  | _, _ => none
def dMaxDf (f : DA) (d : DE) : DE := fun ρ S => bR (f ρ S) fun xs S1 => bR (d ρ S1) fun z S2 => gMaxDf xs z S2
theorem de_maxDf {X : Cx} {W : WX} {e d : Expr} {es : List Expr} {fa : DA} {fd : DE} {p pos kp : Pos} (hc : X.calm = true) (hu : X.A.units + 64 < cLine) (hg : Gl X "max") (hm : X.mg "max" = none) (ha : PAd X W (e :: es) fa) (hd : PEd X W d fd)
    (he : backTo pos (starEach (e :: es) X.env) = (false, eval e X.env) :: backTo pos (starEach es X.env) := by rfl) (hpl : (backTo pos (starEach (e :: es) X.env)).any (·.1) = false := by rfl)
    (hall : (backToKw pos (keywordEach [⟨some "default", d, kp⟩] X.env)).all (·.1.isSome) = true := by rfl) (hnone : (backToKw pos (keywordEach [⟨some "default", d, kp⟩] X.env)).any (·.1.isNone) = false := by rfl) (hks : (backToKw pos (keywordEach [⟨some "default", d, kp⟩] X.env)).filterMap (·.1) = ([("default" : Str)] : List Str) := by rfl) :
    PEd X W (.Call (.Name "max" p) (e :: es) [⟨some "default", d, kp⟩] pos) (dMaxDf fa fd) :=
  (pe_callBK (crk_max hc hu) hg hm (by decide +kernel) ha (pk_cons hd pk_nil) (by decide) (by decide) he hpl hall hnone hks).imp fun σ H Q h => by
  refine (bind2 (ra := rA X.K) (rb := rE X.K) keeps_A h).mono fun vs H1 h1 => h1.mono fun z H2 ⟨m, ρ, S, xs, dz, r, s, en, r1, r2, hk, q⟩ => ?_
  unfold gMaxDf at hk
  split at hk
  · cases r2
    cases r1 with
    | cons a b =>
      cases b; cases a
      split at hk
      · rename_i hn
        cases hk
        exact ⟨_, [], _, rfl, rfl, intsAt_rp s hn, fun _ => post_here s (.int _) q, fun _ _ z => by cases z⟩
      · rename_i n r hn
        cases hk
        exact ⟨_, n :: r, _, rfl, rfl, intsAt_rp s hn, (fun z => by cases z), fun _ _ z => by cases z; exact post_here s (.int _) q⟩
      · cases hk
  · cases hk
end D

/-! D11: in, not in; list.insert; range with a step. -/
namespace D
open PySem PySem.Spec PyProof.Rows L2

/-! ### in, not in -/
def rInP (K : PySem.W.Frag) (neg : Bool) : R2 := fun x y H Q => ∃ d e ds, L2.Dp K H x d ∧ L2.Dp K H y e ∧ (e = .list ds ∨ e = .tuple ds) ∧ d.plain = true ∧ PyData.plainAll ds = true ∧ d.depth ≤ 60 ∧
  Q (.bl (if neg then !(ds.any fun z => PyData.eqv z d) else ds.any fun z => PyData.eqv z d)) H
theorem op_inP {X : Cx} (hu : X.A.units + 64 < cLine) : OpR X (compareOp .In) (rInP X.K false) := by
  intro pins s σ H x y v u Q I rx ry h
  obtain ⟨d, e, ds, hd, he, he2, pd, pe, dd, q⟩ := h
  obtain ⟨as, r1⟩ := Dp.reads I d x v hd rx
  obtain ⟨bs, r2⟩ := Dp.reads I e y u he ry
  rcases he2 with rfl | rfl
  · exact SeqAt.in_list_data r2 r1 pe pd (by omega) ⟨.bl _, H, I, rfl, q⟩
  · exact SeqAt.in_tuple_data r2 r1 pe pd (by omega) ⟨.bl _, H, I, rfl, q⟩
theorem op_notinP {X : Cx} (hu : X.A.units + 64 < cLine) : OpR X (compareOp .NotIn) (rInP X.K true) := by
  intro pins s σ H x y v u Q I rx ry h
  obtain ⟨d, e, ds, hd, he, he2, pd, pe, dd, q⟩ := h
  obtain ⟨as, r1⟩ := Dp.reads I d x v hd rx
  obtain ⟨bs, r2⟩ := Dp.reads I e y u he ry
  rcases he2 with rfl | rfl
  · exact SeqAt.notIn_list_data r2 r1 pe pd (by omega) ⟨.bl _, H, I, rfl, q⟩
  · exact SeqAt.notIn_tuple_data r2 r1 pe pd (by omega) ⟨.bl _, H, I, rfl, q⟩
def inP (x y : PV) (S : Sto) : Option Bool := match toD 60 S x, toD 60 S y with
  | some d, some (.list ds) => some (ds.any fun z => PyData.eqv z d)
  | some d, some (.tuple ds) => some (ds.any fun z => PyData.eqv z d)
  | _, _ => none
def gInN (neg : Bool) : G2 := fun x y S => match inP x y S with
  | some b => some (.ok (.bl (if neg then !b else b)) S)
  | none => none
abbrev gIn : G2 := gInN false
abbrev gNotIn : G2 := gInN true
theorem ok_in {K : PySem.W.Frag} {mg : Str → Option Value} {neg : Bool} : OkG2 K mg (rInP K neg) (gInN neg) := fun W σ m S H x y d d' z Q s r1 r2 e p => by
  unfold gInN at e
  split at e
  · rename_i b hb
    cases e
    unfold inP at hb
    split at hb
    · rename_i q1 ds e1 e2
      cases hb
      obtain ⟨a1, a2, a3⟩ := toD_dp s 60 _ _ _ e1 r1
      obtain ⟨b1, b2, b3⟩ := toD_dp s 60 _ _ _ e2 r2
      rw [PyData.plain] at b2
      exact ⟨q1, _, ds, a1, b1, .inl rfl, a2, b2, a3, post_here s (.bl _) p⟩
    · rename_i q1 ds e1 e2
      cases hb
      obtain ⟨a1, a2, a3⟩ := toD_dp s 60 _ _ _ e1 r1
      obtain ⟨b1, b2, b3⟩ := toD_dp s 60 _ _ _ e2 r2
      rw [PyData.plain] at b2
      exact ⟨q1, _, ds, a1, b1, .inr rfl, a2, b2, a3, post_here s (.bl _) p⟩
    · cases hb
  · cases e
/-! ### list.insert -/
section
variable {K : PySem.W.Frag} {mg : Str → Option Value}
def rInsert : V → List V → Hp → VK → Prop := fun x vs H Q => ∃ (l : Addr) (xs : List V) (i : Int) (y : V), x = .ref l ∧ vs = [.int i, y] ∧ H l = some (.lst xs) ∧ xs.length < sizeLine ∧ 0 ≤ i ∧ i < 2 ^ 63 ∧
    Q .non (upd H l (.lst (xs.take i.toNat ++ [y] ++ xs.drop i.toNat)))
def gInsert : GM := fun c d S => match c, d with
  | .loc k, [.int i, y] => match S[k]? with
    | some (.lst l) => if l.length < 16777216 ∧ 0 ≤ i ∧ i < 2 ^ 63 then some (.ok .non (S.set k (.lst (l.take i.toNat ++ [y] ++ l.drop i.toNat)))) else none
    | _ => none
  | _, _ => none
theorem mt_insert2 {X : Cx} : MtR X "list.insert" rInsert := mt_insert
theorem ok_insert : OkGM K mg rInsert gInsert := fun W σ m S H o x c d z Q s ro r e p => by
  unfold gInsert at e
  split at e
  · cases ro with
    | loc hk =>
      cases r with
      | cons a b =>
        cases a
        cases b with
        | cons a2 b2 =>
          cases b2
          split at e
          · rename_i l e1
            split at e
            · rename_i hl
              cases e
              obtain ⟨xs, h1, h2⟩ := s.obj _ _ e1
              exact ⟨_, xs, _, _, rfl, rfl, h1, by rw [← h2.length]; exact Nat.lt_of_lt_of_le hl.1 (by decide), hl.2.1, hl.2.2, list_set s e1 (((h2.take _).append (.one a2)).append (h2.drop _)) .non p⟩
            · cases e
          · cases e
  · cases e
end
end D

/-! D12: dicts: d[k], k in d, d[k] = v, {}. -/
namespace D
open PySem PySem.Spec PyProof.Rows L2

/-! ### d[k] -/
def rDGet : R2 := fun x y H Q => ∃ a v, x = .ref a ∧ DGet H a y (some v) ∧ Q v H
theorem ix_dict {X : Cx} (hu : X.A.units + 1 < cLine) : IxR X rDGet := by
  intro value slice pins s σ H x y v u Q I rx ry h hs
  obtain ⟨a, z, rfl, g, q⟩ := h
  obtain rfl : v = Value.ref a := rx
  have hT := dict_typeIs I g
  unfold subscriptTail
  refine wpAny_bind ?_
  rw [getitemInPython_of_ne hT.not_modules]
  refine wpAny_bind (wpAny_specialOf hT PySem.F.slot_dict_getitem.lookup ?_)
  have fin : wpAny (model X.prog X.w) X.A (subscripted slice false (.ref a) u) (fun r s₃ => wpAny (model X.prog X.w) X.A (letTemporaryGo value (.ref a) r >>= fun _ => pure r) (EP X pins σ Q) X.xe s₃) X.xe s := by
    rw [hs]
    exact wpAny_operating (d_getItem hu I g ry fun w' s3 I3 rw' => wpAny_bind (wpAny_letTemporaryGo (wpAny_pure ⟨z, H, I3, rw', q⟩)))
  first
    | exact wpAny_pure (wpAny_bind fin)
    | exact wpAny_bind (wpAny_pure (wpAny_bind fin))
    | exact wpAny_bind fin
/-! ### k in d -/
def rDIn (neg : Bool) : R2 := fun y x H Q => ∃ a o, x = .ref a ∧ DGet H a y o ∧ Q (.bl (if neg then !o.isSome else o.isSome)) H
theorem op_dIn {X : Cx} (hu : X.A.units + 1 < cLine) : OpR X (compareOp .In) (rDIn false) := by
  intro pins s σ H x y v u Q I rx ry h
  obtain ⟨a, o, rfl, g, q⟩ := h
  obtain rfl : u = Value.ref a := ry
  exact d_in hu I g rx fun s3 I3 => ⟨.bl o.isSome, H, I3, rfl, q⟩
theorem op_dNotIn {X : Cx} (hu : X.A.units + 1 < cLine) : OpR X (compareOp .NotIn) (rDIn true) := by
  intro pins s σ H x y v u Q I rx ry h
  obtain ⟨a, o, rfl, g, q⟩ := h
  obtain rfl : u = Value.ref a := ry
  exact d_notIn hu I g rx fun s3 I3 => ⟨.bl (!o.isSome), H, I3, rfl, q⟩
section
variable {K : PySem.W.Frag} {mg : Str → Option Value} {H : Hp} {m : Nat → Addr} {n : Nat} {S : Sto}
theorem kP_rp {d : PV} {k : Key} {v : V} (h : kP d = some k) (r : Rp K H m n d v) : v = kV k := by
  cases r <;> simp [kP] at h
  · subst h; rfl
  · subst h; rfl
def valD : List (PV × PV) → Key → Option PV
  | [], _ => none
  | p :: r, k => if kP p.1 = some k then some p.2 else valD r k
theorem valD_rp {k : Key} : ∀ {kvs : List (PV × PV)} {kv : List (Key × V)}, RpK K H m n kvs kv → (valD kvs k = none ∧ valV kv k = none) ∨ ∃ d v, valD kvs k = some d ∧ valV kv k = some v ∧ Rp K H m n d v
  | _, _, .nil => .inl ⟨rfl, rfl⟩
  | p :: r, q :: t, .cons h rs => by
    obtain ⟨h1, h2⟩ := h
    unfold valD
    rw [h1]
    by_cases e : q.1 = k
    · rw [if_pos (by rw [e]), valV_pos e]
      exact .inr ⟨_, _, rfl, rfl, h2⟩
    · rw [if_neg (fun z => e (Option.some.inj z)), valV_neg e]
      exact valD_rp rs
def gIxD : G2 := fun x y S => match x with
  | .loc k => match S[k]? with
    | some (.dct false kvs) => match kP y with
      | some q => match valD kvs q with
        | some v => some (.ok v S)
        | none => none
      | none => none
    | _ => none
  | _ => none
theorem ok_ixD : OkG2 K mg rDGet gIxD := fun W σ m S H x y d d' z Q s r1 r2 e p => by
  unfold gIxD at e
  split at e
  · cases r1
    split at e
    · rename_i kvs e1
      split at e
      · rename_i q e2
        split at e
        · rename_i v e3
          cases e
          have hy := kP_rp e2 r2
          subst hy
          rcases s.obj _ _ e1 with ⟨_, kv, h1, h2⟩ | ⟨ht, _⟩
          · rcases valD_rp (k := q) h2 with ⟨g1, _⟩ | ⟨d, w, g1, g2, g3⟩
            · rw [g1] at e3; cases e3
            · rw [g1] at e3
              cases e3
              exact ⟨_, w, rfl, g2 ▸ DGet.k h1, post_here s g3 p⟩
          · cases ht
        · cases e
      · cases e
    · cases e
  · cases e
def gDIn (neg : Bool) : G2 := fun y x S => match x with
  | .loc k => match S[k]? with
    | some (.dct false kvs) => match kP y with
      | some q => some (.ok (.bl (if neg then !(valD kvs q).isSome else (valD kvs q).isSome)) S)
      | none => none
    | _ => none
  | _ => none
theorem ok_dIn {neg : Bool} : OkG2 K mg (rDIn neg) (gDIn neg) := fun W σ m S H x y d d' z Q s r1 r2 e p => by
  unfold gDIn at e
  split at e
  · cases r2
    split at e
    · rename_i kvs e1
      split at e
      · rename_i q e2
        cases e
        have hy := kP_rp e2 r1
        subst hy
        rcases s.obj _ _ e1 with ⟨_, kv, h1, h2⟩ | ⟨ht, _⟩
        · have hs : (valV kv q).isSome = (valD kvs q).isSome := by
            rcases valD_rp (k := q) h2 with ⟨g1, g2⟩ | ⟨d, w, g1, g2, g3⟩ <;> rw [g1, g2] <;> rfl
          exact ⟨_, _, rfl, DGet.k h1, by rw [hs]; exact post_here s (.bl _) p⟩
        · cases ht
      · cases e
    · cases e
  · cases e
end
/-! ### d[k] = v -/
def putD (kvs : List (PV × PV)) (y v : PV) (k : Key) : List (PV × PV) := if (kvs.any fun p => decide (kP p.1 = some k)) = true then kvs.map (fun p => if kP p.1 = some k then (p.1, v) else p) else kvs ++ [(y, v)]
section
variable {K : PySem.W.Frag} {mg : Str → Option Value} {H : Hp} {m : Nat → Addr} {n : Nat}
theorem rpk_any {k : Key} : ∀ {kvs : List (PV × PV)} {kv : List (Key × V)}, RpK K H m n kvs kv → (kvs.any fun p => decide (kP p.1 = some k)) = kv.any fun q => decide (q.1 = k)
  | _, _, .nil => rfl
  | p :: r, q :: t, .cons h rs => by
    rw [List.any_cons, List.any_cons, rpk_any rs, h.1]
    congr 1
    simp
theorem rpk_map {k : Key} {d : PV} {v : V} (rv : Rp K H m n d v) : ∀ {kvs : List (PV × PV)} {kv : List (Key × V)}, RpK K H m n kvs kv → RpK K H m n (kvs.map fun p => if kP p.1 = some k then (p.1, d) else p) (kv.map fun q => if q.1 = k then (q.1, v) else q)
  | _, _, .nil => .nil
  | p :: r, q :: t, .cons h rs => by
    rw [List.map_cons, List.map_cons]
    refine .cons ?_ (rpk_map rv rs)
    by_cases e : q.1 = k
    · rw [if_pos (by rw [h.1, e]), if_pos e]
      exact ⟨h.1, rv⟩
    · rw [if_neg (by rw [h.1]; exact fun z => e (Option.some.inj z)), if_neg e]
      exact h
theorem rpk_snoc {y d : PV} {k : Key} {v : V} (hk : kP y = some k) (rv : Rp K H m n d v) : ∀ {kvs : List (PV × PV)} {kv : List (Key × V)}, RpK K H m n kvs kv → RpK K H m n (kvs ++ [(y, d)]) (kv ++ [(k, v)])
  | _, _, .nil => .cons ⟨hk, rv⟩ .nil
  | p :: r, q :: t, .cons h rs => .cons h (rpk_snoc hk rv rs)
theorem rpk_put {y d : PV} {k : Key} {v : V} (hk : kP y = some k) (rv : Rp K H m n d v) {kvs : List (PV × PV)} {kv : List (Key × V)} (h : RpK K H m n kvs kv) : RpK K H m n (putD kvs y d k) (putK kv k v) := by
  unfold putD putK
  rw [rpk_any h]
  split
  · exact rpk_map rv h
  · exact rpk_snoc hk rv h
end
def gSetD : GSt := fun o i v S => match o with
  | .loc k => match S[k]? with
    | some (.dct false kvs) => match kP i with
      | some q => if kvs.length < 16777216 then some (S.set k (.dct false (putD kvs i v q))) else none
      | none => none
    | _ => none
  | _ => none
theorem ok_setD {K : PySem.W.Frag} {mg : Str → Option Value} : OkSt K mg rSetD gSetD := fun m S S' H o i v c d e Q s r1 r2 r3 h q => by
  unfold gSetD at h
  split at h
  · cases r1
    split at h
    · rename_i kvs e1
      split at h
      · rename_i ky e2
        split at h
        · rename_i hl
          cases h
          have hy := kP_rp e2 r2
          subst hy
          rcases s.obj _ _ e1 with ⟨_, kv, h1, h2⟩ | ⟨ht, _⟩
          · have hlen : kv.length < sizeLine := by rw [← paired_len h2]; exact Nat.lt_of_lt_of_le hl (by decide)
            have mu := s.mut e1 rfl
            have x : Ext K S.length m H m (upd H (m _) (.dK (putK kv ky v))) := ext_upd (.inr mu)
            refine ⟨_, _, rfl, DPut.k h1 hlen, q m _ (by rw [List.length_set]; exact Nat.le_refl _) x ?_⟩
            exact s.write (ho := .dK (putK kv ky v)) (po' := .dct false (putD kvs d e ky)) e1 rfl rfl (.inl ⟨rfl, _, upd_same, RpK.mono x (Nat.le_refl _) (rpk_put e2 r3 h2)⟩)
          · cases ht
        · cases h
      · cases h
    · cases h
  · cases h
/-! ### {} -/
def dNewD : DE := fun _ S => some (.ok (.loc S.length) (S ++ [.dct false []]))
section
variable {X : Cx} {W : WX} {pos : Pos}
theorem de_dnew : PEd X W (.Dict [] [] pos) dNewD := by
  refine pe_dnewK.imp fun σ H Q h => ?_
  obtain ⟨m, ρ, S, r, s, e, hf, p⟩ := h
  cases hf
  intro q hq
  have st := s.push (p := q) (ho := .dK []) (po := .dct false []) hq rfl (.inl ⟨rfl, [], upd_same, .nil⟩)
  have rp : Rp X.K (upd H q (.dK [])) (mext m S.length q) (S ++ [PO.dct false []]).length (.loc S.length) (.ref (mext m S.length q S.length)) := .loc (by simp)
  rw [mext_same] at rp
  exact p _ (mext m S.length q) _ (by simp) (ext_push hq) st rp
end
end D

/-! D13: instances: o.f -/
namespace D
open PySem PySem.Spec PyProof.Rows L2
section
variable {K : PySem.W.Frag} {mg : Str → Option Value} {H : Hp} {m : Nat → Addr} {n : Nat}
theorem rpf_look {f : Str} : ∀ {fs : List (Str × PV)} {fv : List (Str × V)} {d : PV}, RpF K H m n fs fv → fs.lookup f = some d → ∃ v, fv.lookup f = some v ∧ Rp K H m n d v
  | _, _, d, .nil, h => by cases h
  | p :: r, q :: t, d, .cons h rs, hl => by
    obtain ⟨h1, h2⟩ := h
    obtain ⟨p1, p2⟩ := p
    obtain ⟨q1, q2⟩ := q
    simp only at h1 h2
    subst h1
    rw [List.lookup_cons] at hl ⊢
    cases e : f == p1 with
    | true =>
      rw [e] at hl
      cases hl
      exact ⟨_, rfl, h2⟩
    | false =>
      rw [e] at hl
      exact rpf_look rs hl
end
def gFld (c f : Str) : PV → Sto → Option (R PV) := fun x S => match x with
  | .loc k => match S[k]? with
    | some (.ins c' fs) => if c' = c then match fs.lookup f with
      | some v => some (.ok v S)
      | none => none else none
    | _ => none
  | _ => none
def dFld (c f : Str) (a : DE) : DE := fun ρ S => bR (a ρ S) fun x S1 => gFld c f x S1
section
variable {X : Cx} {W : WX} {pos : Pos} {e : Expr} {fa : DE} {c f : Str} {C : Addr}
theorem de_fld (gC : X.mg c = some (.ref C)) (hc : Cls X.K C) (hn : NoAttr X.K C f) (ha : PEd X W e fa) (hb : attributeBase e f X.env (eval e X.env) = eval e X.env := by rfl) : PEd X W (.Attribute e f pos) (dFld c f fa) := by
  refine (pe_fld ha hb).imp fun σ H Q h => ?_
  refine (bind1 (ra := rE X.K) (k := fun ρ x S1 => gFld c f x S1) h).mono fun v H1 ⟨m, ρ, S, d, z, s, e, r1, hk, p⟩ => ?_
  replace hk : gFld c f d S = some z := hk
  unfold gFld at hk
  split at hk
  · cases r1
    split at hk
    · rename_i c' fs e1
      split at hk
      · rename_i ec
        subst ec
        split at hk
        · rename_i w el
          cases hk
          obtain ⟨C', dx, fv, h1, h2, h3⟩ := s.obj _ _ e1
          rw [gC] at h2
          cases h2
          obtain ⟨u, g1, g2⟩ := rpf_look h3 el
          exact ⟨_, _, dx, fv, u, rfl, h1, hc, hn, g1, post_here s g2 p⟩
        · cases hk
      · cases hk
    · cases hk
  · cases hk
end
/-! ### o.f = v -/
def putFP (f : Str) (v : PV) : List (Str × PV) → List (Str × PV)
  | [] => [(f, v)]
  | (g, x) :: r => if g = f then (g, v) :: r else (g, x) :: putFP f v r
section
variable {K : PySem.W.Frag} {mg : Str → Option Value} {H : Hp} {m : Nat → Addr} {n : Nat}
theorem rpf_put {f : Str} {d : PV} {v : V} (rv : Rp K H m n d v) : ∀ {fs : List (Str × PV)} {fv : List (Str × V)}, RpF K H m n fs fv → RpF K H m n (putFP f d fs) (putF f v fv)
  | _, _, .nil => .cons ⟨rfl, rv⟩ .nil
  | (p1, p2) :: r, (q1, q2) :: t, .cons h rs => by
    obtain ⟨h1, h2⟩ := h
    simp only at h1 h2
    subst h1
    unfold putFP putF
    by_cases e : p1 = f
    · rw [if_pos e, if_pos e]
      exact .cons ⟨rfl, rv⟩ rs
    · rw [if_neg e, if_neg e]
      exact .cons ⟨rfl, h2⟩ (rpf_put rv rs)
theorem rpf_mono {H' : Hp} {m' : Nat → Addr} {n' : Nat} (e : Ext K n m H m' H') (hn : n ≤ n') {fs : List (Str × PV)} {fv : List (Str × V)} (h : RpF K H m n fs fv) : RpF K H' m' n' fs fv := by
  induction h with
  | nil => exact .nil
  | cons h _ ih => exact .cons ⟨h.1, h.2.mono e hn⟩ ih
end

/-- two parts of a statement -/
theorem bindS2 {K : PySem.W.Frag} {mg : Str → Option Value} {W : WX} {σ : L2.St} {H : Hp} {α β α' β' : Type} {ra : Rel α α'} {rb : Rel β β'} (ka : Keeps K ra) {f : En → Sto → Option (R α)} {g : En → Sto → Option (R β)} {k : En → α → β → Sto → Option RS} {D : Ends}
    (h : tS K mg W (fun ρ S => bS ρ (f ρ S) fun x S1 => bS ρ (g ρ S1) fun y S2 => k ρ x y S2) D σ H) :
    tG K mg ra W f σ H fun v H1 => tG K mg rb W g σ H1 fun u H2 => ∃ m ρ S d d' r, StS K mg m S H2 ∧ EnR K H2 m S.length ρ σ ∧ ra H2 m S.length d v ∧ rb H2 m S.length d' u ∧ k ρ d d' S = some r ∧ PostS K mg W m S H2 r D := by
  refine (bindS (ra := ra) (k := fun ρ x S1 => bS ρ (g ρ S1) fun y S2 => k ρ x y S2) h).mono fun v H1 ⟨m, ρ, S, d, r, s, e, rv, hk, p⟩ => ?_
  have hk : bS ρ (g ρ S) (fun y S3 => k ρ d y S3) = some r := hk
  cases q : g ρ S with
  | none => rw [q] at hk; cases hk
  | some z =>
    rw [q] at hk
    cases z with
    | exc x T =>
      cases hk
      exact ⟨m, ρ, S, .exc x T, s, e, q, post_exc e p⟩
    | ok d' T => exact ⟨m, ρ, S, .ok d' T, s, e, q, fun u m' H' le' x' s' ru => ⟨m', ρ, T, d, d', r, s', e.mono x' le', ka _ _ _ _ _ _ _ _ x' le' rv, ru, hk, p.on le' x'⟩⟩
def gSetF (c f : Str) (v x : PV) (ρ : En) (S : Sto) : Option RS := match x with
  | .loc k => match S[k]? with
    | some (.ins c' fs) => if c' = c ∧ fs.length < 1000 then some (.next ρ (S.set k (.ins c' (putFP f v fs)))) else none
    | _ => none
  | _ => none
theorem gSetF_inv {c f : Str} {v x : PV} {ρ : En} {S : Sto} {r : RS} (h : gSetF c f v x ρ S = some r) : ∃ k fs, x = .loc k ∧ S[k]? = some (.ins c fs) ∧ fs.length < 1000 ∧ r = .next ρ (S.set k (.ins c (putFP f v fs))) := by
  unfold gSetF at h
  split at h
  · rename_i k
    split at h
    · rename_i c' fs e1
      split at h
      · rename_i hc
        cases h
        exact ⟨k, fs, rfl, by rw [e1, hc.1], hc.2, by rw [hc.1]⟩
      · cases h
    · cases h
  · cases h
def dSetF (c f : Str) (fo fe : DE) : DS := fun ρ S => bS ρ (fe ρ S) fun v S1 => bS ρ (fo ρ S1) fun x S2 => gSetF c f v x ρ S2
theorem ds_fld {X : Cx} {W : WX} {pos pos' : Pos} {o e : Expr} {fo fe : DE} {c f : Str} {C : Addr} (gC : X.mg c = some (.ref C)) (hc : Cls X.K C) (hn : NoAttr X.K C f) (ho : PEd X W o fo) (he : PEd X W e fe) (hs : swapsWith e (some (.Attribute o f pos')) pos.line X.env = pure false := by rfl) :
    PSd X W (.Assign [.Attribute o f pos'] e pos) (dSetF c f fo fe) := by
  refine (ps_fld ho he hs).imp fun D σ H h => ?_
  refine (bindS2 (ra := rE X.K) (rb := rE X.K) keeps_E (k := fun ρ v x S => gSetF c f v x ρ S) h).mono fun v H1 h1 => h1.mono fun u H2 ⟨m, ρ, S, d, d', r, s, e, r1, r2, hk, p⟩ => ?_
  obtain ⟨k, fs, rfl, e1, hl, rfl⟩ := gSetF_inv (show gSetF c f d d' ρ S = some r from hk)
  cases r2
  obtain ⟨C', dx, fv, h1, h2, h3⟩ := s.obj _ _ e1
  rw [gC] at h2
  cases h2
  have mu := s.mut e1 rfl
  have x : Ext X.K S.length m H2 m (upd H2 (m _) (.ins C dx (putF f v fv))) := ext_upd (.inr mu)
  refine ⟨_, C, dx, fv, rfl, h1, hc, hn, by rw [← paired_len h3]; exact hl, ?_⟩
  have st := s.write (ho := .ins C dx (putF f v fv)) (po' := .ins c (putFP f d fs)) e1 rfl rfl ⟨C, dx, _, upd_same, gC, rpf_mono x (Nat.le_refl _) (rpf_put r1 h3)⟩
  refine p σ m _ (by rw [List.length_set]; exact Nat.le_refl _) x st ?_
  rw [List.length_set]
  exact e.mono x (Nat.le_refl _)

/-! ### o.m(..) -/
def isInsP (c m : Str) (x : PV) (S : Sto) : Bool := match x with
  | .loc k => match S[k]? with
    | some (.ins c' fs) => decide (c' = c) && (fs.lookup m).isNone
    | _ => false
  | _ => false
def dIMeth (c m : Str) (F : DF) (fo : DE) (fa : DA) : DE := fun ρ S => bR (fo ρ S) fun x S1 => if isInsP c m x S1 = true then bR (fa ρ S1) fun xs S2 => F (x :: xs) S2 else none
theorem rpf_none {K : PySem.W.Frag} {H : Hp} {m : Nat → Addr} {n : Nat} {f : Str} : ∀ {fs : List (Str × PV)} {fv : List (Str × V)}, RpF K H m n fs fv → fs.lookup f = none → fv.lookup f = none
  | _, _, .nil, _ => rfl
  | (p1, p2) :: r, (q1, q2) :: t, .cons h rs, hl => by
    obtain ⟨h1, h2⟩ := h
    simp only at h1 h2
    subst h1
    rw [List.lookup_cons] at hl ⊢
    cases e : f == p1 with
    | true => rw [e] at hl; cases hl
    | false =>
      rw [e] at hl
      exact rpf_none rs hl
def tIMethS (C : Addr) (m : Str) (sp : Sp) (E : L2.St → XK) (ta : TE) (t : TA) : TE := fun σ H Q => ta σ H fun x H1 => ∃ a dx fs, x = .ref a ∧ H1 a = some (.ins C dx fs) ∧ fs.lookup m = none ∧ t σ H1 fun vs H2 => sp (x :: vs) H2 Q (E σ)
section
variable {X : Cx} {CX : CXT} {k : Nat} {f C : Addr} {fd : FuncData} {ps : List Str} {sp : Sp} {E : L2.St → XK} {m : Str} {pos apos : Pos} {e o : Expr} {es : List Expr} {ta : TE} {t : TA}
theorem pe_methE {pl : Sem Bool} (he : PE X o ta) (c : Cls X.K C) (hm : Meth X.K C m f) (F : FnOk X.prog X.w X.K X.mg X.base CX k f fd ps sp) (hr : Room k X.A) (hb : Binds X.K fd ps []) (hx : ∀ σ, PassesAt CX X σ (E σ)) (ha : PA X (e :: es) t)
    (hst : starEach (e :: es) X.env = (false, eval e X.env) :: starEach es X.env := by rfl) (hpl : (backTo pos (starEach es X.env)).any (·.1) = false := by rfl)
    (ht : eval (.Call (.Attribute o m apos) (e :: es) [] pos) X.env = (do
      let ov ← eval o X.env
      standAt apos.atName
      let (f, first) ← holding [ov] (getMethod ov m pl)
      callWith pos f first (backTo pos (starEach (e :: es) X.env)) (backToKw pos (keywordEach [] X.env))) := by rfl) :
    PE X (.Call (.Attribute o m apos) (e :: es) [] pos) (tIMethS C m sp E ta t) := by
  refine ⟨fun pins s σ H Q I h => ?_⟩
  refine PySem.W.methodCall_KW (pl := pl) (thn (he.run pins s σ H _ I h) fun u s1 ⟨x, H1, I1, rx, a, dx, fs, ex, ea, l, q⟩ => ?_) ht
  subst ex
  obtain rfl : u = Value.ref a := rx
  refine getmeth_ok I1 ea c hm l ?_
  refine PySem.W.callWith_K (first := [.ref a]) (h₀ := X.base) I.ok.mod.kin hm.kp (thn (ha.run pos pins s1 σ H1 _ I1 q) fun us s2 ⟨vs, H2, I2, r, q2⟩ => ⟨I2.kIn, ?_⟩) hst hpl
  exact run_fnS (us := .ref a :: us) (vs := .ref a :: vs) F hr hb (hx σ) I2 (.cons rfl r) q2
theorem pe_methE0 {pl : Sem Bool} (he : PE X o ta) (c : Cls X.K C) (hm : Meth X.K C m f) (F : FnOk X.prog X.w X.K X.mg X.base CX k f fd ps sp) (hr : Room k X.A) (hb : Binds X.K fd ps []) (hx : ∀ σ, PassesAt CX X σ (E σ))
    (ht : eval (.Call (.Attribute o m apos) [] [] pos) X.env = (do
      let ov ← eval o X.env
      standAt apos.atName
      let (f, first) ← holding [ov] (getMethod ov m pl)
      callWith pos f first (backTo pos (starEach [] X.env)) (backToKw pos (keywordEach [] X.env))) := by rfl) :
    PE X (.Call (.Attribute o m apos) [] [] pos) (tIMethS C m sp E ta tNil) := by
  refine ⟨fun pins s σ H Q I h => ?_⟩
  refine PySem.W.methodCall_KW (pl := pl) (thn (he.run pins s σ H _ I h) fun u s1 ⟨x, H1, I1, rx, a, dx, fs, ex, ea, l, q⟩ => ?_) ht
  subst ex
  obtain rfl : u = Value.ref a := rx
  refine getmeth_ok I1 ea c hm l ?_
  exact PySem.W.callWith_K0 (first := [.ref a]) I1.kIn hm.kp (run_fnS (us := [.ref a]) (vs := [.ref a]) F hr hb (hx σ) I1 (.cons rfl .nil) q)
end
section
variable {X : Cx} {W : WX} {k n : Nat} {f C : Addr} {fd : FuncData} {ps : List Str} {F : DF} {c m : Str} {apos pos : Pos} {o e : Expr} {es : List Expr} {fo : DE} {fa : DA}
theorem lift_imeth (gC : X.mg c = some (.ref C)) (hF : ∀ args S r, F args S = some r → args.length = n) {σ : L2.St} {H : Hp} {Q : VK} (h : tD X.K X.mg W (dIMeth c m F fo fa) σ H Q) :
    tIMethS C m (spD X.K X.mg n F) (WE W) (tD X.K X.mg W fo) (tA X.K X.mg W fa) σ H Q := by
  refine (bind1 (ra := rE X.K) (k := fun ρ x S1 => if isInsP c m x S1 = true then bR (fa ρ S1) fun xs S2 => F (x :: xs) S2 else none) h).mono fun v H1 ⟨m1, ρ, S, d, z, s, e, r1, hk, p⟩ => ?_
  replace hk : (if isInsP c m d S = true then bR (fa ρ S) fun xs S2 => F (d :: xs) S2 else none) = some z := hk
  split at hk
  · rename_i hi
    unfold isInsP at hi
    split at hi
    · rename_i j
      cases id r1
      split at hi
      · rename_i c' fs e1
        rw [Bool.and_eq_true] at hi
        obtain ⟨hi1, hi2⟩ := hi
        have hi1 := of_decide_eq_true hi1
        subst hi1
        obtain ⟨C', dx, fv, h1, h2, h3⟩ := s.obj _ _ e1
        rw [gC] at h2
        cases h2
        refine ⟨_, dx, fv, rfl, h1, rpf_none h3 (by simpa using hi2), ?_⟩
        cases q : fa ρ S with
        | none => rw [q] at hk; cases hk
        | some y =>
          rw [q] at hk
          cases y with
          | exc x T =>
            cases hk
            exact ⟨m1, ρ, S, .exc x T, s, e, q, p⟩
          | ok xs T =>
            replace hk : F (.loc j :: xs) T = some z := hk
            refine ⟨m1, ρ, S, .ok xs T, s, e, q, fun vs m' H' le x s' rv => ?_⟩
            have rl : RpL X.K H' m' T.length (.loc j :: xs) (.ref (m1 j) :: vs) := .cons (r1.mono x le) rv
            exact ⟨by rw [← rl.length]; exact hF _ _ _ hk, m', T, _, z, s', rl, hk, post_sw (p.on le x)⟩
      · cases hi
    · cases hi
  · cases hk
theorem de_imeth (gC : X.mg c = some (.ref C)) (hc : Cls X.K C) (hm : Meth X.K C m f) (G : FnOk X.prog X.w X.K X.mg X.base (L2.CX X.prog X.w) k f fd ps (spD X.K X.mg n F)) (hr : Room k X.A) (hb : Binds X.K fd ps []) (tk : Takes X W) (ho : PEd X W o fo) (ha : PAd X W (e :: es) fa)
    (hF : ∀ args S r, F args S = some r → args.length = n) (hst : starEach (e :: es) X.env = (false, eval e X.env) :: starEach es X.env := by rfl) (hpl : (backTo pos (starEach es X.env)).any (·.1) = false := by rfl) {pl : Sem Bool}
    (ht : eval (.Call (.Attribute o m apos) (e :: es) [] pos) X.env = (do
      let ov ← eval o X.env
      standAt apos.atName
      let (f, first) ← holding [ov] (getMethod ov m pl)
      callWith pos f first (backTo pos (starEach (e :: es) X.env)) (backToKw pos (keywordEach [] X.env))) := by rfl) :
    PEd X W (.Call (.Attribute o m apos) (e :: es) [] pos) (dIMeth c m F fo fa) := (pe_methE (pl := pl) ho hc hm G hr hb (fun σ => passAt tk σ) ha hst hpl ht).imp fun σ H Q h => lift_imeth gC hF h
theorem de_imeth0 (gC : X.mg c = some (.ref C)) (hc : Cls X.K C) (hm : Meth X.K C m f) (G : FnOk X.prog X.w X.K X.mg X.base (L2.CX X.prog X.w) k f fd ps (spD X.K X.mg n F)) (hr : Room k X.A) (hb : Binds X.K fd ps []) (tk : Takes X W) (ho : PEd X W o fo)
    (hF : ∀ args S r, F args S = some r → args.length = n) {pl : Sem Bool}
    (ht : eval (.Call (.Attribute o m apos) [] [] pos) X.env = (do
      let ov ← eval o X.env
      standAt apos.atName
      let (f, first) ← holding [ov] (getMethod ov m pl)
      callWith pos f first (backTo pos (starEach [] X.env)) (backToKw pos (keywordEach [] X.env))) := by rfl) :
    PEd X W (.Call (.Attribute o m apos) [] [] pos) (dIMeth c m F fo dNil) := (pe_methE0 (pl := pl) ho hc hm G hr hb (fun σ => passAt tk σ) ht).imp fun σ H Q h => by
  refine (lift_imeth gC hF h).mono fun v H1 ⟨a, dx, fs, h1, h2, h3, h4⟩ => ⟨a, dx, fs, h1, h2, h3, ?_⟩
  obtain ⟨m1, ρ, S, z, s, e, q, p⟩ := h4
  cases q
  exact p [] m1 H1 (Nat.le_refl _) Ext.refl s .nil
end

/-! ### C(..) -/
def gMake (c : Str) (F : DF) (xs : List PV) (S1 : Sto) : Option RE := match F (.loc S1.length :: xs) (S1 ++ [.ins c []]) with
  | some (.ok .non S2) => some (.ok (.loc S1.length) S2)
  | some (.exc e S2) => some (.exc e S2)
  | _ => none
def dMake (c : Str) (F : DF) (fa : DA) : DE := fun ρ S => bR (fa ρ S) fun xs S1 => gMake c F xs S1
def tMakeS (C : Addr) (sp : Sp) (E : L2.St → XK) (t : TA) : TE := fun σ H Q => t σ H fun vs H1 => ∀ x dx, H1 x = none → H1 dx = none → dx ≠ x →
  sp (.ref x :: vs) (upd (upd H1 dx (.own x)) x (.ins C dx [])) (fun v H2 => v = .non ∧ Q (.ref x) H2) (E σ)
section
variable {X : Cx} {CX : CXT} {k : Nat} {f C : Addr} {fd : FuncData} {ps : List Str} {sp : Sp} {E : L2.St → XK} {x : Str} {pos p : Pos} {e : Expr} {es : List Expr} {t : TA}
theorem run_makeS {pins : List (Addr × Obj)} {σ : L2.St} {H : Hp} {s : Shared} {Q : VK} {us : List Value} {vs : List V} (M : Mk X.K C f) (F : FnOk X.prog X.w X.K X.mg X.base CX k f fd ps sp) (hr : Room (k + 1) X.A) (hb : Binds X.K fd ps [])
    (hx : PassesAt CX X σ (E σ)) (I : Inv X pins σ H s) (r : Vals vs us)
    (h : ∀ x dx, H x = none → H dx = none → dx ≠ x → sp (.ref x :: vs) (upd (upd H dx (.own x)) x (.ins C dx [])) (fun v H2 => v = .non ∧ Q (.ref x) H2) (E σ)) :
    wpAny (model X.prog X.w) X.A (call (.ref C) us) (EP X pins σ Q) X.xe s := by
  have hq := h (s.heap.objs.size + 1) s.heap.objs.size (I.hok.fresh (Nat.le_succ _)) (I.hok.fresh (Nat.le_refl _)) (Nat.ne_of_lt (Nat.lt_succ_self _))
  have I2 := Inv.made (C := C) I
  have r2 : Vals (V.ref (s.heap.objs.size + 1) :: vs) (Value.ref (s.heap.objs.size + 1) :: us) := .cons rfl r
  have hl : (Value.ref (s.heap.objs.size + 1) :: us).length = ps.length := by
    have e := r2.length
    rw [F.len _ _ _ _ hq] at e
    exact e.symm
  refine wpAny_call (make_map (f := f) I.kIn M.makes M.init (beq_iff_eq.mp M.fn) (codeAny_mono (F.run _ X.stack _ _ ⟨Value.ref (s.heap.objs.size + 1) :: us, []⟩ (Value.ref (s.heap.objs.size + 1) :: us) _ _ (E σ) (hr.make C us [])
    (I2.env0.make C us []) (by have b := hb _ (Value.ref (s.heap.objs.size + 1) :: us) I2.kIn (by rw [List.append_nil]; exact hl); rw [List.append_nil] at b; exact b) r2 hq) fun r s' hq' => ?_))
  cases r with
  | error e => exact hx pins _ _ e s' I2 hq'
  | ok fl =>
    cases fl with
    | ret u =>
      obtain ⟨v, H', I3, rv, ev, q3⟩ := I2.after hq'
      subst ev
      exact ⟨rv, ⟨V.ref (s.heap.objs.size + 1), H', I3, rfl, q3⟩⟩
    | next => exact False.elim hq'
    | brk => exact False.elim hq'
    | cont => exact False.elim hq'
theorem pe_makeS (M : Mk X.K C f) (F : FnOk X.prog X.w X.K X.mg X.base CX k f fd ps sp) (hr : Room (k + 1) X.A) (hg : Gl X x) (hm : X.mg x = some (.ref C)) (hb : Binds X.K fd ps []) (hx : ∀ σ, PassesAt CX X σ (E σ))
    (ha : PA X (e :: es) t) (hdb : (x == ("__debug__" : Str)) = false := by decide) (he : starEach (e :: es) X.env = (false, eval e X.env) :: starEach es X.env := by rfl) (hpl : (backTo pos (starEach es X.env)).any (·.1) = false := by rfl) :
    PE X (.Call (.Name x p) (e :: es) [] pos) (tMakeS C sp E t) := by
  refine ⟨fun pins s σ H Q I h => ?_⟩
  refine wpAny_Call_Name_kw (ld_glob I hg hm ?_ hdb)
  refine PySem.W.callWith_K (h₀ := X.base) I.ok.mod.kin M.kp (thn (ha.run pos pins s σ H _ I h) fun us s1 ⟨vs, H1, I1, r, q⟩ => ⟨I1.kIn, ?_⟩) he hpl
  exact run_makeS M F hr hb (hx σ) I1 r q
theorem pe_makeS0 (M : Mk X.K C f) (F : FnOk X.prog X.w X.K X.mg X.base CX k f fd ps sp) (hr : Room (k + 1) X.A) (hg : Gl X x) (hm : X.mg x = some (.ref C)) (hb : Binds X.K fd ps []) (hx : ∀ σ, PassesAt CX X σ (E σ))
    (hdb : (x == ("__debug__" : Str)) = false := by decide) : PE X (.Call (.Name x p) [] [] pos) (tMakeS C sp E tNil) := by
  refine ⟨fun pins s σ H Q I h => ?_⟩
  refine wpAny_Call_Name_kw (ld_glob I hg hm ?_ hdb)
  exact PySem.W.callWith_K0 I.kIn M.kp (run_makeS (us := []) M F hr hb (hx σ) I .nil h)
end
section
variable {X : Cx} {W : WX} {k n : Nat} {f C : Addr} {fd : FuncData} {ps : List Str} {F : DF} {c : Str} {p pos : Pos} {e : Expr} {es : List Expr} {fa : DA}
theorem lift_make (gC : X.mg c = some (.ref C)) (hF : ∀ args S r, F args S = some r → args.length = n) {σ : L2.St} {H : Hp} {Q : VK} (h : tD X.K X.mg W (dMake c F fa) σ H Q) :
    tMakeS C (spD X.K X.mg n F) (WE W) (tA X.K X.mg W fa) σ H Q := by
  refine (bind1 (ra := rA X.K) (k := fun ρ xs S1 => gMake c F xs S1) h).mono fun vs H1 ⟨m, ρ, S, xs, z, s, en, r1, hk, pz⟩ => ?_
  intro x dx hx hdx hne
  replace hk : gMake c F xs S = some z := hk
  unfold gMake at hk
  have s1 : StS X.K X.mg m S (upd H1 dx (.own x)) := sts_new s hdx
  have e1 : Ext X.K S.length m H1 m (upd H1 dx (.own x)) := ext_upd (.inl hdx)
  have hx' : (upd H1 dx (.own x)) x = none := by rw [upd_ne (Ne.symm hne)]; exact hx
  have s2 := s1.push (p := x) (ho := .ins C dx []) (po := .ins c []) hx' rfl ⟨C, dx, [], upd_same, gC, .nil⟩
  have e2 := e1.trans (ext_push (ho := .ins C dx []) hx') (Nat.le_refl _)
  have hlen : (S ++ [PO.ins c []]).length = S.length + 1 := by simp
  have rl : RpL X.K (upd (upd H1 dx (.own x)) x (.ins C dx [])) (mext m S.length x) (S ++ [PO.ins c []]).length (.loc S.length :: xs) (.ref x :: vs) := by
    refine .cons ?_ (by rw [hlen]; exact RpL.mono e2 (Nat.le_succ _) r1)
    have : Rp X.K (upd (upd H1 dx (.own x)) x (.ins C dx [])) (mext m S.length x) (S ++ [PO.ins c []]).length (.loc S.length) (.ref (mext m S.length x S.length)) := .loc (by rw [hlen]; exact Nat.lt_succ_self _)
    rw [mext_same] at this
    exact this
  cases q : F (.loc S.length :: xs) (S ++ [.ins c []]) with
  | none => rw [q] at hk; cases hk
  | some y =>
    rw [q] at hk
    refine ⟨by rw [← rl.length]; exact hF _ _ _ q, mext m S.length x, S ++ [.ins c []], _, y, s2, rl, q, ?_⟩
    cases y with
    | exc ex T =>
      cases hk
      exact post_sw (pz.on (by rw [hlen]; exact Nat.le_succ _) e2)
    | ok v T =>
      intro w m' H' le ex s' rw'
      cases v <;> try cases hk
      cases rw'
      refine ⟨rfl, ?_⟩
      have hlt : S.length < T.length := by rw [hlen] at le; exact le
      have : Rp X.K H' m' T.length (.loc S.length) (.ref (m' S.length)) := .loc hlt
      rw [ex.mp S.length (by rw [hlen]; exact Nat.lt_succ_self _), mext_same] at this
      exact pz _ m' H' (Nat.le_of_lt hlt) (e2.trans ex (by rw [hlen]; exact Nat.le_succ _)) s' this
theorem de_make (M : Mk X.K C f) (G : FnOk X.prog X.w X.K X.mg X.base (L2.CX X.prog X.w) k f fd ps (spD X.K X.mg n F)) (hr : Room (k + 1) X.A) (hg : Gl X c) (hm : X.mg c = some (.ref C)) (hb : Binds X.K fd ps []) (tk : Takes X W) (ha : PAd X W (e :: es) fa) (hF : ∀ args S r, F args S = some r → args.length = n)
    (hdb : (c == ("__debug__" : Str)) = false := by decide) (he : starEach (e :: es) X.env = (false, eval e X.env) :: starEach es X.env := by rfl) (hpl : (backTo pos (starEach es X.env)).any (·.1) = false := by rfl) :
    PEd X W (.Call (.Name c p) (e :: es) [] pos) (dMake c F fa) := (pe_makeS M G hr hg hm hb (fun σ => passAt tk σ) ha hdb he hpl).imp fun σ H Q h => lift_make hm hF h
theorem de_make0 (M : Mk X.K C f) (G : FnOk X.prog X.w X.K X.mg X.base (L2.CX X.prog X.w) k f fd ps (spD X.K X.mg n F)) (hr : Room (k + 1) X.A) (hg : Gl X c) (hm : X.mg c = some (.ref C)) (hb : Binds X.K fd ps []) (tk : Takes X W) (hF : ∀ args S r, F args S = some r → args.length = n)
    (hdb : (c == ("__debug__" : Str)) = false := by decide) : PEd X W (.Call (.Name c p) [] [] pos) (dMake c F dNil) := (pe_makeS0 M G hr hg hm hb (fun σ => passAt tk σ) hdb).imp fun σ H Q h => by
  obtain ⟨m1, ρ, S, z, s, e, q, p⟩ := lift_make hm hF h
  cases q
  exact p [] m1 H (Nat.le_refl _) Ext.refl s .nil
end
end D

/-! D14: list(range(..)); errors with a field. -/
namespace D
open PySem PySem.Spec PyProof.Rows L2

theorem hu1 {k : Nat} {A : Around} (r : Room k A) : A.units + 1 < cLine := Nat.lt_of_le_of_lt (Nat.add_le_add_left (by decide : 1 ≤ 64) _) r.units
/-! ### list(range(n)) -/
def gListR : G1 := fun x S1 => match x with
  | .int j => if -(2 ^ 62) ≤ j ∧ j ≤ 16777216 then some (.ok (.loc S1.length) (S1 ++ [.lst (rangeP 0 j.toNat)])) else none
  | _ => none
def dListR (fa : DE) : DE := fun ρ S => bR (fa ρ S) fun x S1 => gListR x S1
theorem rg_rp {K : PySem.W.Frag} {H : Hp} {m : Nat → Addr} {n : Nat} (j : Int) : RpL K H m n (rangeP 0 j.toNat) (rgV 0 j) := by
  unfold rangeP rgV
  rw [Int.sub_zero]
  generalize List.range j.toNat = l
  induction l with
  | nil => exact .nil
  | cons x l ih => exact .cons (.int _) ih
theorem de_listR {X : Cx} {W : WX} {e : Expr} {fe : DE} {p p2 pos pos2 : Pos} (hc : X.calm = true) (hg : Gl X "list") (hm : X.mg "list" = none) (hg2 : Gl X "range") (hm2 : X.mg "range" = none) (he : PEd X W e fe)
    (na : starEach [e] X.env = (false, eval e X.env) :: starEach [] X.env := by rfl) (nb : starEach [Expr.Call (.Name "range" p2) [e] [] pos2] X.env = (false, eval (.Call (.Name "range" p2) [e] [] pos2) X.env) :: starEach [] X.env := by rfl) :
    PEd X W (.Call (.Name "list" p) [.Call (.Name "range" p2) [e] [] pos2] [] pos) (dListR fe) := (pe_listRg hc hg hm (prg_1 hg2 hm2 he na) nb).imp fun σ H Q h => by
  refine (bind1 (ra := rE X.K) (k := fun ρ x S1 => gListR x S1) h).mono fun v H1 ⟨m, ρ, S, d, z, s, e, r1, hk, p⟩ => ?_
  replace hk : gListR d S = some z := hk
  unfold gListR at hk
  split at hk
  · cases r1
    split at hk
    · rename_i hj
      cases hk
      exact ⟨_, rfl, ⟨by decide, by decide, hj.1, by omega, by omega⟩, new_list s (rg_rp _) p⟩
    · cases hk
  · cases hk

/-! ### raise C(e), C keeping it in a field -/
def dRaiseF (c f : Str) (fe : DE) : DS := fun ρ S => bS ρ (fe ρ S) fun v S1 => some (.exc ⟨c, [(f, v)]⟩ ρ S1)
def spXI (C : Addr) (f : Str) : Sp := fun vs H Q _ => ∃ a y, vs = [.ref a, y] ∧ H a = some (exo a C none) ∧ ∀ dx, H dx = none → dx ≠ a → Q .non (upd (upd H dx (exd dx [(f, y)])) a (exo a C (some dx)))
section
variable {P : Program} {w : World} {K : PySem.W.Frag} {mg : Str → Option Value} {base : Heap}
theorem ok_xinit {x qual f p1 p2 : Str} {st : Stmt} {fa C : Addr} {fd : FuncData} {q1 q2 q3 q4 : Pos} (F : Fun K x qual st fa fd) (S : FnScope [p1, p2] [p1, p2] (defScope st)) (T : OexC K C) (hno : PySem.W.findIn K (.ref C) f = some none)
    (hb : defBody st = [.Assign [.Attribute (.Name p1 q1) f q2] (.Name p2 q3) q4]) (h1 : (p1 == ("__debug__" : Str)) = false := by decide) (h2 : (p1 == ("__classdict__" : Str)) = false := by decide) (h3 : (p2 == ("__debug__" : Str)) = false := by decide) (h4 : (p2 == ("__classdict__" : Str)) = false := by decide)
    (v1 : ∀ (X : Cx), X.env.scope = defScope st → Vis X.env.scope p1 := by intro X e; rw [e]; first | exact Or.inl rfl | exact Or.inr (Or.inl rfl) | exact Or.inr (Or.inr rfl)) (v2 : ∀ (X : Cx), X.env.scope = defScope st → Vis X.env.scope p2 := by intro X e; rw [e]; first | exact Or.inl rfl | exact Or.inr (Or.inl rfl) | exact Or.inr (Or.inr rfl)) :
    FnOk P w K mg base CX0 1 fa fd [p1, p2] (spXI C f) := by
  refine F.ok S (fun vs H Q E h => ?_) (fun cdv A outer s H vs Q E hr h => ?_)
  · obtain ⟨a, y, rfl, _⟩ := h
    rfl
  · obtain ⟨a, y, rfl, ha, q⟩ := h
    rw [hb]
    refine ⟨_, pss_one (ps_ost (pe_var (i := 0) rfl (v1 _ rfl) h1 h2) (pe_var (i := 1) rfl (v2 _ rfl) h3 h4)), ?_⟩
    exact ⟨_, rfl, _, rfl, a, C, rfl, T, hno, .inl ⟨ha, fun dx n ne => q dx n ne⟩⟩
theorem ds_raiseF {X : Cx} {W : WX} {C fI : Addr} {x f : Str} {k : Nat} {fd : FuncData} {ps : List Str} {e : Expr} {fe : DE} {p pos pos2 : Pos} (hc : X.calm = true) (tk : Takes X W) (T : OexC X.K C) (gC : X.mg x = some (.ref C)) (iC : PySem.W.findIn X.K (.ref C) "__init__" = some (some (.ref fI)))
    (tI : PySem.W.typeIn X.K (.ref fI) = some (.type "function")) (F1 : FnOk X.prog X.w X.K X.mg X.base CX0 k fI fd ps (spXI C f)) (hr : Room (k + 1) X.A) (hb : Binds X.K fd ps []) (hg : Gl X x) (he : PEd X W e fe)
    (hdb : (x == ("__debug__" : Str)) = false := by decide) (hs : starEach [e] X.env = (false, eval e X.env) :: starEach [] X.env := by rfl) (hpl : (backTo pos (starEach [] X.env)).any (·.1) = false := by rfl) :
    PSd X W (.Raise (some (.Call (.Name x p) [e] [] pos)) none pos2) (dRaiseF x f fe) := by
  refine (ps_raise hc tk (pmk_oex T iC tI F1 hr hb .nil pass0 hg gC (pa_cons he pa_nil hs) hdb hs hpl)).imp fun D σ H h => ?_
  refine (bindS (ra := rE X.K) (k := fun ρ v S1 => some (.exc ⟨x, [(f, v)]⟩ ρ S1)) h).mono fun y H1 ⟨m, ρ, S, d, r, s, en, r1, hk, pz⟩ => ?_
  replace hk : some (RS.exc ⟨x, [(f, d)]⟩ ρ S) = some r := hk
  cases hk
  refine ⟨by show 1 ≤ 1000; decide, fun a ha => ⟨a, y, rfl, upd_same, fun dx hdx hne => ⟨rfl, dx, [(f, y)], upd_same, ?_, ?_, ?_⟩⟩⟩
  · rw [upd_ne hne, upd_same]
  · rw [upd_ne hne] at hdx; exact hdx
  · have hdx' : H1 dx = none := by rw [upd_ne hne] at hdx; exact hdx
    have eH : upd (del (upd (upd (upd H1 a (exo a C none)) dx (exd dx [(f, y)])) a (exo a C (some dx))) a) dx (.xd [(f, y)]) = upd H1 dx (.xd [(f, y)]) := by
      funext b
      by_cases hb : b = dx
      · subst hb; rw [upd_same, upd_same]
      · rw [upd_ne hb, upd_ne hb]
        by_cases hba : b = a
        · subst hba; rw [del_same, ha]
        · rw [del_ne hba, upd_ne hba, upd_ne hb, upd_ne hba]
    rw [eH]
    have ex : Ext X.K S.length m H1 m (upd H1 dx (.xd [(f, y)])) := ext_upd (.inl hdx')
    refine pz (.ref C) (some dx) σ m _ (Nat.le_refl _) ex (sts_new s hdx') (en.mono ex (Nat.le_refl _)) ⟨C, rfl, gC, .inr ⟨by simp, dx, [(f, y)], rfl, upd_same, .cons ⟨rfl, Rp.mono ex (Nat.le_refl _) r1⟩ .nil⟩⟩
end
/-! ### in a suite: an error with a field -/
def suF (d : Option Addr) (f : Addr → DS) : DS := match d with
  | some dd => f dd
  | none => dNope
theorem su_altF {X : Cx} {cat : Str → Option Bool} {e : Xn} {a : Addr} {oe : Obj} {C A : Addr} {d : Option Addr} {nm : Str} {pn : List (Addr × Obj)} {sts : List Stmt} {f : Addr → DS} {g : DS} (hA : X.mg nm = some (.ref A)) (hs : Su X cat e a oe C d)
    (go : ∀ dd, Zc (.ref A) (some dd) oe → (∃ vs, oe.data = .fields vs) → PSsd (X.suite a ((a, oe) :: pn)) W0 sts (f dd)) (ge : PSsd (X.suite a ((a, oe) :: pn)) W0 sts g) : PSsd (X.suite a ((a, oe) :: pn)) W0 sts (if e.c = nm ∧ e.fs.isEmpty = false then suF d f else g) := by
  split
  · rename_i hc
    have hne : e.fs ≠ [] := fun z => by rw [z] at hc; exact absurd hc.2 (by simp)
    obtain ⟨dd, hd⟩ := hs.d1 hne
    have hm := hs.mg
    rw [hc.1, hA] at hm
    cases hm
    have hz := hs.z
    rw [hd] at hz ⊢
    exact go dd hz hs.f
  · exact ge
def litP : V → Option PV
  | .non => some .non
  | .bl b => some (.bl b)
  | .int i => some (.int i)
  | .str s => some (.str s)
  | _ => none
theorem litP_rp {K : PySem.W.Frag} {H : Hp} {m : Nat → Addr} {n : Nat} {v : V} {d : PV} (h : litP v = some d) : Rp K H m n d v := by
  cases v <;> cases h <;> constructor
def dXf (i : Nat) (a dd : Addr) (f : Str) : DE := fun ρ S => match ρ[i]? with
  | some (some (.xc a' (some d') fv)) => if a' = a ∧ d' = dd then match (fv.lookup f).bind litP with
    | some v => some (.ok v S)
    | none => none else none
  | _ => none
theorem de_xf {X : Cx} {W : WX} {a A dd : Addr} {oe : Obj} {pn : List (Addr × Obj)} {x f : Str} {p2 pos : Pos} (i : Nat) (T : XfC X.K A) (hno : PySem.W.findIn X.K (.ref A) f = some none) (hz : Zc (.ref A) (some dd) oe) (hf : ∃ vs, oe.data = .fields vs)
    (hN : X.N[i]? = some x := by rfl) (hv : Vis X.env.scope x := by first | exact Or.inl rfl | exact Or.inr (Or.inl rfl) | exact Or.inr (Or.inr rfl)) (hd : (x == ("__debug__" : Str)) = false := by decide) (hcd : (x == ("__classdict__" : Str)) = false := by decide)
    (hb : attributeBase (.Name x p2) f X.env (eval (.Name x p2) X.env) = eval (.Name x p2) X.env := by rfl) :
    PEd (X.suite a ((a, oe) :: pn)) W (.Attribute (.Name x p2) f pos) (dXf i a dd f) := by
  refine (pe_xf T hno hz hf (pe_var (X := X.suite a ((a, oe) :: pn)) hN hv hd hcd) hb).imp fun σ H Q h => ?_
  obtain ⟨m, ρ, S, r, s, en, hfn, p⟩ := h
  unfold dXf at hfn
  split at hfn
  · rename_i a' d' fv hi
    split at hfn
    · rename_i ha
      obtain ⟨rfl, rfl⟩ := ha
      split at hfn
      · rename_i v hv'
        cases hfn
        obtain ⟨u, hv1, rv⟩ := en.at_ i _ hi
        cases rv with
        | xc hx =>
          obtain ⟨w, hw1, hw2⟩ := Option.bind_eq_some_iff.mp hv'
          exact ⟨_, hv1, rfl, rfl, d', fv, w, rfl, hx d' rfl, hw1, p _ m H (Nat.le_refl _) Ext.refl s (litP_rp hw2)⟩
      · cases hfn
    · cases hfn
  · cases hfn
/-- isinstance(e, c), e with its own dict -/
def rIsEd (K : PySem.W.Frag) (D a dd : Addr) : List V → Hp → VK → Prop := fun xs H Q => ∃ (c : V) (cv : Value) (b : Bool) (fs : List (Str × V)), xs = [.ref a, c] ∧ (∀ u, RelV c u → u = cv) ∧ PySem.W.kitOne K (.ref D) cv = some b ∧ H dd = some (.xd fs) ∧ Q (.bl b) H
theorem call_isEd {X : Cx} {a D dd : Addr} {oe : Obj} {pn : List (Addr × Obj)} (C : ExcC X.K D) (hz : Zc (.ref D) (some dd) oe) (hf : ∃ vs, oe.data = .fields vs) : CallR (X.suite a ((a, oe) :: pn)) (.builtin "isinstance") (rIsEd X.K D a dd) := by
  intro pins s σ H xs us Q I r h
  obtain ⟨c, cv, b, fs, rfl, hcv, e, ea, q⟩ := h
  cases r with
  | cons rx rr =>
    cases rr with
    | cons rt rr =>
      cases rr
      cases rx
      have ec := hcv _ rt
      subst ec
      obtain ⟨hget, _⟩ := I.pin (a, oe) (List.mem_append.mpr (.inl List.mem_cons_self))
      obtain ⟨vs, hv⟩ := hf
      have hx : ObjOk X.prog X.w H s.heap dd (.xd fs) := I.hok dd _ ea
      obtain ⟨mA, hns, hr⟩ := hx
      obtain ⟨od, ho, hl⟩ := lookIn_ns hns
      have J : PySem.W.InstAt s.heap a oe D (some od) := ⟨hget, hz.1, by unfold PySem.W.notCls; rw [hv] <;> rfl, by rw [hz.2]; exact ho⟩
      exact PySem.W.kia_one (PySem.W.kitx_exc (by obtain ⟨cd, hc, _⟩ := PySem.W.any_some C.hd; rw [hc]; rfl) C.hg C.hk C.hs C.ha C.hn C.ht C.hm) I.kIn J e (fun z => nomatch z) fun tk => ⟨.bl b, H, I.kept (t' := tk) fun _ _ z => z, rfl, q⟩
def dIsEd (i : Nat) (a dd : Addr) (b : Bool) : DE := fun ρ S => match ρ[i]? with
  | some (some (.xc a' (some d') _)) => if a' = a ∧ d' = dd then some (.ok (.bl b) S) else none
  | _ => none
theorem de_isEd {X : Cx} {W : WX} {a C dd : Addr} {oe : Obj} {pn : List (Addr × Obj)} {x : Str} {ce : Expr} {cv : V} {cu : Value} {b : Bool} {p p2 pos : Pos} (i : Nat) (hC : ExcC X.K C) (hz : Zc (.ref C) (some dd) oe) (hf : ∃ vs, oe.data = .fields vs)
    (hg : Gl X "isinstance") (hm : X.mg "isinstance" = none) (hN : X.N[i]? = some x) (hv : Vis X.env.scope x) (hce : PE (X.suite a ((a, oe) :: pn)) ce (tC cv)) (hrel : ∀ u, RelV cv u → u = cu) (hk : PySem.W.kitOne X.K (.ref C) cu = some b)
    (hd : (x == ("__debug__" : Str)) = false := by decide) (hcd : (x == ("__classdict__" : Str)) = false := by decide)
    (h1 : starEach [.Name x p2, ce] X.env = (false, eval (.Name x p2) X.env) :: starEach [ce] X.env := by rfl) (h2 : starEach [ce] X.env = (false, eval ce X.env) :: starEach [] X.env := by rfl) (hpl : (backTo pos (starEach [ce] X.env)).any (·.1) = false := by rfl) :
    PEd (X.suite a ((a, oe) :: pn)) W (.Call (.Name "isinstance" p) [.Name x p2, ce] [] pos) (dIsEd i a dd b) := by
  have hl : PA (X.suite a ((a, oe) :: pn)) [.Name x p2, ce] _ := pa_cons (pe_var (X := X.suite a ((a, oe) :: pn)) hN hv hd hcd) (pa_cons hce pa_nil h2) h1
  refine (pe_callB (X := X.suite a ((a, oe) :: pn)) (call_isEd hC hz hf) hg hm boot_isinstance hl (by decide) (by decide) h1 hpl).imp fun σ H Q h => ?_
  obtain ⟨m, ρ, S, r, s, en, hfn, p⟩ := h
  unfold dIsEd at hfn
  split at hfn
  · rename_i a' d' fv hi
    split at hfn
    · rename_i ha
      obtain ⟨rfl, rfl⟩ := ha
      cases hfn
      obtain ⟨v, hv1, rv⟩ := en.at_ i _ hi
      cases rv with
      | xc hx => exact ⟨_, hv1, cv, cu, b, fv, rfl, hrel, hk, hx d' rfl, p _ m H (Nat.le_refl _) Ext.refl s (.bl b)⟩
    · cases hfn
  · cases hfn
theorem ds_nope {X : Cx} {W : WX} {st : Stmt} : PSd X W st dNope := ⟨fun pins s σ H D I h => by
  obtain ⟨m, ρ, S, r, st, e, hf, p⟩ := h
  cases hf⟩
end D

/-! D15: a loop's body lets go what it made. -/
namespace D
open PySem PySem.Spec PyProof.Rows L2
def bdE (n : Nat) : En → Prop
  | [] => True
  | none :: r => bdE n r
  | some v :: r => bd n v ∧ bdE n r
theorem bdE_at {n : Nat} : ∀ {ρ : En} {i : Nat} {v : PV}, bdE n ρ → ρ[i]? = some (some v) → bd n v
  | [], i, v, h, e => by simp at e
  | none :: r, 0, v, h, e => by simp at e
  | some x :: r, 0, v, h, e => by simp at e; subst e; exact h.1
  | none :: r, i + 1, v, h, e => bdE_at (ρ := r) h (by simpa using e)
  | some x :: r, i + 1, v, h, e => bdE_at (ρ := r) h.2 (by simpa using e)
open Classical in
noncomputable def gcS (kill : List Nat) (S : Sto) : RS → RS
  | .next ρ S' => if Cl S S' ∧ bdE S.length (killE kill ρ) then .next (killE kill ρ) (S'.take S.length) else .next ρ S'
  | .ctn ρ S' => if Cl S S' ∧ bdE S.length (killE kill ρ) then .ctn (killE kill ρ) (S'.take S.length) else .ctn ρ S'
  | r => r
noncomputable def dBody (kill : List Nat) (f : DS) : DS := fun ρ S => (f ρ S).map (gcS kill S)
theorem EnR.cut {K : PySem.W.Frag} {H : Hp} {m : Nat → Addr} {n n' : Nat} {ρ : En} {σ : L2.St} (h : EnR K H m n' ρ σ) (b : bdE n ρ) : EnR K H m n ρ σ :=
  ⟨h.len, fun i v e => let ⟨x, a, c⟩ := h.at_ i v e; ⟨x, a, c.cut (bdE_at b e)⟩⟩
section
variable {K : PySem.W.Frag} {mg : Str → Option Value} {W : WX} {m : Nat → Addr} {S : Sto} {H : Hp} {D : Ends}
theorem gcS_ok {kill : List Nat} {r : RS} (s : StS K mg m S H) (p : PostS K mg W m S H (gcS kill S r) D) : PostS K mg W m S H r D := by
  have key : ∀ (ρ : En) (S' : Sto) (C : L2.St → Hp → Prop) (b : Prop), (b → Cl S S' ∧ bdE S.length (killE kill ρ)) →
      (b → ∀ σ' m' H', S.length ≤ (S'.take S.length).length → Ext K S.length m H m' H' → StS K mg m' (S'.take S.length) H' → EnR K H' m' (S'.take S.length).length (killE kill ρ) σ' → C σ' H') →
      (¬ b → ∀ σ' m' H', S.length ≤ S'.length → Ext K S.length m H m' H' → StS K mg m' S' H' → EnR K H' m' S'.length ρ σ' → C σ' H') →
      ∀ σ' m' H', S.length ≤ S'.length → Ext K S.length m H m' H' → StS K mg m' S' H' → EnR K H' m' S'.length ρ σ' → C σ' H' := by
    intro ρ S' C b hb h1 h2 σ' m' H' le ex s' en
    by_cases h : b
    · obtain ⟨c1, c2⟩ := hb h
      have hl : (S'.take S.length).length = S.length := by rw [List.length_take]; exact Nat.min_eq_left le
      refine h1 h σ' m' H' (by rw [hl]; exact Nat.le_refl _) ex (s.cutT s' le c1) ?_
      rw [hl]
      exact (en.kill kill).cut c2
    · exact h2 h σ' m' H' le ex s' en
  cases r with
  | next ρ S' =>
    refine key ρ S' D.nx (Cl S S' ∧ bdE S.length (killE kill ρ)) id (fun h => ?_) fun h => ?_
    · have p' : PostS K mg W m S H (.next (killE kill ρ) (S'.take S.length)) D := by
        have : gcS kill S (.next ρ S') = .next (killE kill ρ) (S'.take S.length) := if_pos h
        exact this ▸ p
      exact p'
    · have p' : PostS K mg W m S H (.next ρ S') D := by
        have : gcS kill S (.next ρ S') = .next ρ S' := if_neg h
        exact this ▸ p
      exact p'
  | ctn ρ S' =>
    refine key ρ S' D.ct (Cl S S' ∧ bdE S.length (killE kill ρ)) id (fun h => ?_) fun h => ?_
    · have p' : PostS K mg W m S H (.ctn (killE kill ρ) (S'.take S.length)) D := by
        have : gcS kill S (.ctn ρ S') = .ctn (killE kill ρ) (S'.take S.length) := if_pos h
        exact this ▸ p
      exact p'
    · have p' : PostS K mg W m S H (.ctn ρ S') D := by
        have : gcS kill S (.ctn ρ S') = .ctn ρ S' := if_neg h
        exact this ▸ p
      exact p'
  | brk ρ S' => exact p
  | ret v S' => exact p
  | exc e ρ S' => exact p
end
theorem dss_body {X : Cx} {W : WX} {sts : List Stmt} {f : DS} (kill : List Nat) (h : PSsd X W sts f) : PSsd X W sts (dBody kill f) := h.imp fun D σ H h => by
  obtain ⟨m, ρ, S, r, s, e, hf, p⟩ := h
  have hf : (f ρ S).map (gcS kill S) = some r := hf
  cases q : f ρ S with
  | none => rw [q] at hf; cases hf
  | some z =>
    rw [q] at hf
    cases hf
    exact ⟨m, ρ, S, z, s, e, q, gcS_ok s p⟩
end D

/-! D16: xs[::-1] of a list. -/
namespace D
open PySem PySem.Spec PyProof.Rows L2
section
variable {X : Cx} {e se : Expr} {te : TE} {ts : TO} {pos p2 : Pos}
def tRevL (K : PySem.W.Frag) (te : TE) (ts : TO) : TE := fun σ H Q => te σ H fun x H1 => ts σ H1 fun st H2 => st = some (-1) ∧ ∃ a xs, x = .ref a ∧ SqL K H2 a xs ∧ ∀ p, H2 p = none → Q (.ref p) (upd H2 p (.lst xs.reverse))
theorem pe_revL (he : PE X e te) (hs : L2.PO X (some se) ts) : PE X (.Subscript e (.Slice none none (some se) p2) pos) (tRevL X.K te ts) := by
  refine ⟨fun pins s σ H Q I h => ?_⟩
  refine Subscript_ (thn (he.run pins s σ H _ I h) fun v s1 ⟨x, H1, I1, r1, q1⟩ => ?_)
  refine wpAny_Slice ?_
  rw [evalPart_none]
  refine wpAny_pure ?_
  refine wpAny_pure ?_
  refine thn (hs.run pins s1 σ H1 _ I1 q1) fun vk s2 ⟨st, H2, I2, pk, q2⟩ => ?_
  obtain ⟨rfl, a, xs, rfl, hx, q⟩ := q2
  cases r1
  have I4 : Inv X pins σ H2 { s2 with heap := s2.heap.push { cls := .type "slice", data := .fields #[.none, .none, vk] } } := I2.kept (t' := s2.toks) fun b ob q => Heap.get?_push_of_some _ q
  obtain ⟨its, r, ht, hz⟩ := I4.list hx
  have hlen := r.length
  show wpAny (model X.prog X.w) X.A (subscriptTail e (.Slice none none (some se) p2) (.ref a) (.ref s2.heap.objs.size)) (EP X pins σ Q) X.xe { s2 with heap := s2.heap.push { cls := .type "slice", data := .fields #[.none, .none, vk] } }
  refine tail_any (ops := [.ref a, .ref s2.heap.objs.size]) ht.isList.typeIs slot_list_getitem.lookup ?_ (by with_unfolding_all rfl)
  refine wpAny_getItem_list_slice ht.isList (Heap.IsSliceOf.new ..) .none .none pk (by simp) ?_ (by rw [List.size_toArray] <;> omega)
  rw [PySem.W.krv_pick]
  refine ⟨.ref _, _, I4.laid (t' := s2.toks) (o := .lst xs.reverse) (fun b ob q => Heap.get?_push_of_some _ q) (Nat.le_refl _) ?_, rfl, q _ (I4.hok.fresh (Nat.le_refl _))⟩
  exact ⟨by rw [List.length_reverse]; exact hz, _, 0, r.reverse, Heap.get?_push_size _ rfl⟩
end
def gRev : PV → Option Int → Sto → Option (R PV) := fun x st S => if st = some (-1) then (match x with
  | .loc k => match S[k]? with
    | some (.lst l) => some (.ok (.loc S.length) (S ++ [.lst l.reverse]))
    | some (.fz l) => some (.ok (.loc S.length) (S ++ [.lst l.reverse]))
    | _ => none
  | _ => none) else none
def dRev (a : DE) (st : DO) : DE := fun ρ S => bR (a ρ S) fun x S1 => bR (st ρ S1) fun l S2 => gRev x l S2
theorem de_rev {X : Cx} {W : WX} {e se : Expr} {p2 pos : Pos} {fa : DE} {fs : DO} (ha : PEd X W e fa) (hs : POd X W (some se) fs) : PEd X W (.Subscript e (.Slice none none (some se) p2) pos) (dRev fa fs) :=
  (pe_revL ha hs).imp fun σ H Q h => by
  refine (bind1 (ra := rE X.K) (k := fun ρ x S1 => bR (fs ρ S1) fun l S2 => gRev x l S2) h).mono fun v H1 ⟨m, ρ, S, d, z, s, e, r1, hk, p⟩ => ?_
  have hk : bR (fs ρ S) (fun l S2 => gRev d l S2) = some z := hk
  cases q : fs ρ S with
  | none => rw [q] at hk; cases hk
  | some z1 =>
    rw [q] at hk
    cases z1 with
    | exc x T =>
      cases hk
      exact ⟨m, ρ, S, .exc x T, s, e, q, p⟩
    | ok l T =>
      refine ⟨m, ρ, S, .ok l T, s, e, q, fun l' m2 H2 le x s2 rl => ?_⟩
      cases rl
      have hk : gRev d l T = some z := hk
      have r2 := r1.mono x le
      have p2 := p.on le x
      unfold gRev at hk
      split at hk
      · rename_i h1
        refine ⟨h1, ?_⟩
        split at hk
        · cases r2 with
          | loc hk2 =>
            split at hk
            · rename_i l e1
              obtain ⟨xs, hs, hl⟩ := s2.obj _ _ e1
              cases hk
              exact ⟨_, _, rfl, SqL.of hs, new_list s2 hl.reverse p2⟩
            · rename_i l e1
              obtain ⟨xs, hs, hl⟩ := s2.obj _ _ e1
              cases hk
              exact ⟨_, _, rfl, hs.sq, new_list s2 hl.reverse p2⟩
            · cases hk
        · cases hk
      · cases hk
end D

/-! E: how denotations are reckoned out. -/
namespace D
open PySem PySem.Spec PyProof.Rows L2
section
variable {α β : Type} {ρ : En} {S : Sto}
@[simp] theorem ev_bR_ok (v : α) (S : Sto) (k : α → Sto → Option (R β)) : bR (some (.ok v S)) k = k v S := (rfl)
@[simp] theorem ev_bR_exc (e : Xn) (S : Sto) (k : α → Sto → Option (R β)) : bR (some (.exc e S)) k = some (.exc e S) := (rfl)
@[simp] theorem ev_bS_ok (v : α) (S : Sto) (k : α → Sto → Option RS) : bS ρ (some (.ok v S)) k = k v S := (rfl)
@[simp] theorem ev_bS_exc (e : Xn) (S : Sto) (k : α → Sto → Option RS) : bS ρ (some (.exc e S)) k = some (.exc e ρ S) := (rfl)
@[simp] theorem ev_bN_next (k : En → Sto → Option RS) : bN (some (.next ρ S)) k = k ρ S := (rfl)
@[simp] theorem ev_bN_ret (v : PV) (k : En → Sto → Option RS) : bN (some (.ret v S)) k = some (.ret v S) := (rfl)
@[simp] theorem ev_bN_brk (k : En → Sto → Option RS) : bN (some (.brk ρ S)) k = some (.brk ρ S) := (rfl)
@[simp] theorem ev_bN_ctn (k : En → Sto → Option RS) : bN (some (.ctn ρ S)) k = some (.ctn ρ S) := (rfl)
@[simp] theorem ev_bN_exc (e : Xn) (k : En → Sto → Option RS) : bN (some (.exc e ρ S)) k = some (.exc e ρ S) := (rfl)
@[simp] theorem ev_var (i : Nat) : dVar i ρ S = match ρ[i]? with
  | some (some v) => some (.ok v S)
  | _ => none := (rfl)
@[simp] theorem ev_c (v : PV) : dC v ρ S = some (.ok v S) := (rfl)
@[simp] theorem ev_op2 (g : G2) (a b : DE) : dOp2 g a b ρ S = bR (a ρ S) fun x S1 => bR (b ρ S1) fun y S2 => g x y S2 := (rfl)
@[simp] theorem ev_op1 (g : G1) (a : DE) : dOp1 g a ρ S = bR (a ρ S) fun x S1 => g x S1 := (rfl)
@[simp] theorem ev_opA (g : GA) (a : DA) : dOpA g a ρ S = bR (a ρ S) fun x S1 => g x S1 := (rfl)
@[simp] theorem ev_cmp (g : G2) (a b : DE) : dCmp g a b ρ S = asB (bR (a ρ S) fun x S1 => bR (b ρ S1) fun y S2 => g x y S2) := (rfl)
@[simp] theorem ev_asB (b : Bool) : asB (some (.ok (.bl b) S)) = some (.ok b S) := (rfl)
@[simp] theorem ev_asBx (e : Xn) : asB (some (.exc e S)) = some (.exc e S) := (rfl)
@[simp] theorem ev_tru (f : DE) : dTru f ρ S = bR (f ρ S) fun x S1 => gTru x S1 := (rfl)
@[simp] theorem ev_gTru_bl (b : Bool) : gTru (.bl b) S = some (.ok b S) := (rfl)
@[simp] theorem ev_gTru_int (i : Int) : gTru (.int i) S = some (.ok (i != 0) S) := (rfl)
@[simp] theorem ev_gTru_tup (l : List PV) : gTru (.tup l) S = some (.ok (!l.isEmpty) S) := (rfl)
@[simp] theorem ev_notT (f : DB) : dNotT f ρ S = bR (f ρ S) fun x S1 => some (.ok (!x) S1) := (rfl)
@[simp] theorem ev_andT (f g : DB) : dAndT f g ρ S = bR (f ρ S) fun x S1 => if x = true then g ρ S1 else some (.ok false S1) := (rfl)
@[simp] theorem ev_orT (f g : DB) : dOrT f g ρ S = bR (f ρ S) fun x S1 => if x = true then some (.ok true S1) else g ρ S1 := (rfl)
@[simp] theorem ev_isBl (b : Bool) (k : Bool → Sto → Option (R PV)) : isBl (some (.ok (.bl b) S)) k = k b S := (rfl)
@[simp] theorem ev_isBlx (e : Xn) (k : Bool → Sto → Option (R PV)) : isBl (some (.exc e S)) k = some (.exc e S) := (rfl)
@[simp] theorem ev_and2 (f g : DE) : dAnd2 f g ρ S = isBl (f ρ S) fun b S1 => if b = true then g ρ S1 else some (.ok (.bl false) S1) := (rfl)
@[simp] theorem ev_or2 (f g : DE) : dOr2 f g ρ S = isBl (f ρ S) fun b S1 => if b = true then some (.ok (.bl true) S1) else g ρ S1 := (rfl)
@[simp] theorem ev_not2 (f : DE) : dNot2 f ρ S = isBl (f ρ S) fun b S1 => some (.ok (.bl (!b)) S1) := (rfl)
@[simp] theorem ev_if (c : DB) (f g : DE) : dIf c f g ρ S = bR (c ρ S) fun x S1 => if x = true then f ρ S1 else g ρ S1 := (rfl)
@[simp] theorem ev_chain (g g' : G2) (a b c : DE) : dChain g g' a b c ρ S = bR (a ρ S) fun x S1 => bR (b ρ S1) fun y S2 => bR (g x y S2) fun z S3 => match z with
  | .bl true => bR (c ρ S3) fun w S4 => g' y w S4
  | .bl false => some (.ok (.bl false) S3)
  | _ => none := (rfl)
@[simp] theorem ev_chainT (g g' : G2) (a b c : DE) : dChainT g g' a b c ρ S = asB (dChain g g' a b c ρ S) := (rfl)
@[simp] theorem ev_nil : dNil ρ S = some (.ok [] S) := (rfl)
@[simp] theorem ev_cons (f : DE) (g : DA) : dCons f g ρ S = bR (f ρ S) fun x S1 => bR (g ρ S1) fun xs S2 => some (.ok (x :: xs) S2) := (rfl)
@[simp] theorem ev_tup (f : DA) : dTup f ρ S = bR (f ρ S) fun x S1 => gTupP x S1 := (rfl)
@[simp] theorem ev_lst (f : DA) : dLst f ρ S = bR (f ρ S) fun x S1 => gLstP x S1 := (rfl)
theorem ev_gTupP {l : List PV} (h : l.length ≤ 16777216) : gTupP l S = some (.ok (.tup l) S) := if_pos h
theorem ev_gLstP {l : List PV} (h : l.length ≤ 16777216) : gLstP l S = some (.ok (.loc S.length) (S ++ [.lst l])) := if_pos h
@[simp] theorem ev_tup0 : gTupP [] S = some (.ok (.tup []) S) := (rfl)
@[simp] theorem ev_tup1 (a : PV) : gTupP [a] S = some (.ok (.tup [a]) S) := (rfl)
@[simp] theorem ev_tup2 (a b : PV) : gTupP [a, b] S = some (.ok (.tup [a, b]) S) := (rfl)
@[simp] theorem ev_tup3 (a b c : PV) : gTupP [a, b, c] S = some (.ok (.tup [a, b, c]) S) := (rfl)
@[simp] theorem ev_lst0 : gLstP [] S = some (.ok (.loc S.length) (S ++ [.lst []])) := (rfl)
@[simp] theorem ev_lst1 (a : PV) : gLstP [a] S = some (.ok (.loc S.length) (S ++ [.lst [a]])) := (rfl)
@[simp] theorem ev_lst2 (a b : PV) : gLstP [a, b] S = some (.ok (.loc S.length) (S ++ [.lst [a, b]])) := (rfl)
@[simp] theorem ev_lst3 (a b c : PV) : gLstP [a, b, c] S = some (.ok (.loc S.length) (S ++ [.lst [a, b, c]])) := (rfl)
@[simp] theorem ev_lst4 (a b c d : PV) : gLstP [a, b, c, d] S = some (.ok (.loc S.length) (S ++ [.lst [a, b, c, d]])) := (rfl)
/-! statements -/
@[simp] theorem ev_pass : dPass ρ S = some (.next ρ S) := (rfl)
@[simp] theorem ev_brk : dBrk ρ S = some (.brk ρ S) := (rfl)
@[simp] theorem ev_ctn : dCtn ρ S = some (.ctn ρ S) := (rfl)
@[simp] theorem ev_seq (f g : DS) : dSeq f g ρ S = bN (f ρ S) g := (rfl)
@[simp] theorem ev_ret (f : DE) : dRet f ρ S = bS ρ (f ρ S) fun v S1 => some (.ret v S1) := (rfl)
@[simp] theorem ev_retN : dRetN ρ S = some (.ret .non S) := (rfl)
@[simp] theorem ev_expr (f : DE) : dExpr f ρ S = bS ρ (f ρ S) fun _ S1 => some (.next ρ S1) := (rfl)
@[simp] theorem ev_ifS (c : DB) (f g : DS) : dIfS c f g ρ S = bS ρ (c ρ S) fun b S1 => if b = true then f ρ S1 else g ρ S1 := (rfl)
@[simp] theorem ev_set (i : Nat) (f : DE) : dSet i f ρ S = bS ρ (f ρ S) fun v S1 => some (.next (ρ.set i (some v)) S1) := (rfl)
@[simp] theorem ev_raise (c : Str) : dRaise c ρ S = some (.exc ⟨c, []⟩ ρ S) := (rfl)
@[simp] theorem ev_asg (g : DG) (f : DE) : dAsg g f ρ S = bS ρ (f ρ S) fun v S1 => match g v ρ S1 with
  | some (ρ', S') => some (.next ρ' S')
  | none => none := (rfl)
@[simp] theorem ev_gN (i : Nat) (v : PV) : gN i v ρ S = some (ρ.set i (some v), S) := (rfl)
@[simp] theorem ev_gsNil : gsNil [] ρ S = some (ρ, S) := (rfl)
@[simp] theorem ev_gsCons (g : DG) (h : DGs) (v : PV) (r : List PV) : gsCons g h (v :: r) ρ S = match g v ρ S with
    | some (ρ1, S1) => h r ρ1 S1
    | none => none := (rfl)
@[simp] theorem ev_gT (n : Nat) (h : DGs) (l : List PV) : gT n h (.tup l) ρ S = if l.length = n then h l ρ S else none := (rfl)
@[simp] theorem ev_killN : killE [] ρ = ρ := (rfl)
@[simp] theorem ev_killC (i : Nat) (l : List Nat) : killE (i :: l) ρ = killE l (ρ.set i none) := (rfl)
@[simp] theorem ev_for (it : DI) (g : DG) (kill : List Nat) (body : DS) : dFor it g kill body ρ S = bS ρ (it ρ S) fun src S1 => forL g kill body src.keep src.items (killE kill ρ) S1 := (rfl)
@[simp] theorem ev_seqI (f : DE) : dSeqI f ρ S = bR (f ρ S) fun x S1 => match x with
  | .tup l => some (.ok ⟨l, []⟩ S1)
  | .loc k => match S1[k]? with
    | some (.lst l) => some (.ok ⟨l, [(k, .lst l)]⟩ S1)
    | some (.fz l) => some (.ok ⟨l, [(k, .fz l)]⟩ S1)
    | _ => none
  | _ => none := (rfl)
@[simp] theorem ev_rng1 (f : DA) : dRng1 f ρ S = bR (f ρ S) fun x S1 => match x with
  | [.int j] => some (.ok ⟨rangeP 0 j.toNat, []⟩ S1)
  | _ => none := (rfl)
@[simp] theorem ev_rng2 (f : DA) : dRng2 f ρ S = bR (f ρ S) fun x S1 => match x with
  | [.int i, .int j] => some (.ok ⟨rangeP i (j - i).toNat, []⟩ S1)
  | _ => none := (rfl)
@[simp] theorem kept_nil : Kept [] S := fun p h => by cases h
@[simp] theorem kept_one (k : Nat) (o : PO) : Kept [(k, o)] S ↔ S[k]? = some o := ⟨fun h => h (k, o) (by simp), fun h p hp => by
  rw [List.mem_singleton] at hp
  subst hp
  exact h⟩
theorem forL_nil {g : DG} {kill : List Nat} {body : DS} {keep : List (Nat × PO)} (hk : Kept keep S) : forL g kill body keep [] ρ S = some (.next ρ S) := by
  unfold forL
  rw [if_pos hk]
theorem forL_cons {g : DG} {kill : List Nat} {body : DS} {keep : List (Nat × PO)} {x : PV} {xs : List PV} (hk : Kept keep S) : forL g kill body keep (x :: xs) ρ S = match g x ρ S with
    | some (ρ1, S1) => match body ρ1 S1 with
      | some (.next ρ2 S2) => forL g kill body keep xs (killE kill ρ2) S2
      | some (.ctn ρ2 S2) => forL g kill body keep xs (killE kill ρ2) S2
      | some (.brk ρ2 S2) => some (.next (killE kill ρ2) S2)
      | r => r
    | none => none := by
  conv => lhs; unfold forL
  rw [if_pos hk]
  all_goals rfl
/-! operators -/
@[simp] theorem ev_addI (i j : Int) : gAdd (.int i) (.int j) S = some (.ok (.int (i + j)) S) := (rfl)
theorem ev_addT {l r : List PV} (h : l.length + r.length ≤ 16777216) : gAdd (.tup l) (.tup r) S = some (.ok (.tup (l ++ r)) S) := if_pos h
theorem ev_addL {j k : Nat} {l r : List PV} (h1 : S[j]? = some (.lst l)) (h2 : S[k]? = some (.lst r)) (h : l.length + r.length ≤ 16777216) : gAdd (.loc j) (.loc k) S = some (.ok (.loc S.length) (S ++ [.lst (l ++ r)])) := by
  unfold gAdd
  dsimp only
  rw [h1, h2]
  exact if_pos h
@[simp] theorem ev_sub (i j : Int) : gSub (.int i) (.int j) S = some (.ok (.int (i - j)) S) := by unfold gSub gI2; simp
theorem ev_mul {i j : Int} (h : CMulD i j) : gMul (.int i) (.int j) S = some (.ok (.int (i * j)) S) := by unfold gMul gOr2 gMulI gI2; simp [h]
theorem ev_mulR {i j : Int} (h : -(2 ^ 64) < j ∧ j < 2 ^ 64) : gMul (.int i) (.int j) S = some (.ok (.int (i * j)) S) := ev_mul (.inr h)
theorem ev_mulL {i j : Int} (h : -(2 ^ 64) < i ∧ i < 2 ^ 64) : gMul (.int i) (.int j) S = some (.ok (.int (i * j)) S) := ev_mul (.inl h)
theorem ev_div {i j : Int} (h : 0 < j ∧ j < 1073741824) : gDiv (.int i) (.int j) S = some (.ok (.int (i / j)) S) := by unfold gDiv gI2 CDivD; simp [h]
theorem ev_mod {i j : Int} (h : 0 < j) : gMod (.int i) (.int j) S = some (.ok (.int (i % j)) S) := by unfold gMod gI2; simp [h]
theorem ev_pow {i j : Int} (h : CPowD i j) : gPow (.int i) (.int j) S = some (.ok (.int (i ^ j.toNat)) S) := by unfold gPow gI2; simp [h]
@[simp] theorem ev_neg (i : Int) : gNeg (.int i) S = some (.ok (.int (-i)) S) := (rfl)
@[simp] theorem ev_rel (f : Int → Int → Bool) (i j : Int) : gRel f (.int i) (.int j) S = some (.ok (.bl (f i j)) S) := by unfold gRel gI2; simp
@[simp] theorem ev_isNN (n : Bool) : gIsN n .non .non S = some (.ok (.bl (!n)) S) := (rfl)
@[simp] theorem ev_isBB (n a b : Bool) : gIsN n (.bl a) (.bl b) S = some (.ok (.bl (if n then !decide (a = b) else decide (a = b))) S) := (rfl)
@[simp] theorem ev_isIN (n : Bool) (i : Int) : gIsN n (.int i) .non S = some (.ok (.bl n) S) := (rfl)
@[simp] theorem ev_isTN (n : Bool) (i : List PV) : gIsN n (.tup i) .non S = some (.ok (.bl n) S) := (rfl)
@[simp] theorem ev_isLN (n : Bool) (i : Nat) : gIsN n (.loc i) .non S = some (.ok (.bl n) S) := (rfl)
@[simp] theorem ev_isSN (n : Bool) (i : Str) : gIsN n (.str i) .non S = some (.ok (.bl n) S) := (rfl)
@[simp] theorem ev_isBN (n : Bool) (i : Bool) : gIsN n (.bl i) .non S = some (.ok (.bl n) S) := (rfl)
theorem ev_ixT {l : List PV} {i : Int} {v : PV} (h : atI l i = some v) : gIx (.tup l) (.int i) S = some (.ok v S) := by
  unfold gIx; simp [h]
theorem ev_ixL {k : Nat} {l : List PV} {i : Int} {v : PV} (h1 : S[k]? = some (.lst l)) (h : atI l i = some v) : gIx (.loc k) (.int i) S = some (.ok v S) := by
  unfold gIx; simp [h1, h]
theorem atI_ok {γ : Type} {l : List γ} {n : Nat} (h : n < l.length) : atI l (n : Int) = some l[n] := by
  unfold atI ixN
  rw [if_pos (by omega)]
  simp [h]
theorem atI_nat {γ : Type} {l : List γ} {i : Int} (h0 : 0 ≤ i) (h : i.toNat < l.length) : atI l i = some l[i.toNat] := by
  obtain ⟨n, rfl⟩ : ∃ n : Nat, i = n := ⟨i.toNat, by omega⟩
  have : ((n : Int)).toNat = n := by simp
  simp only [this] at h ⊢
  exact atI_ok h
theorem atI_last {γ : Type} {l : List γ} {x : γ} : atI (l ++ [x]) (-1) = some x := by
  unfold atI ixN
  rw [if_neg (by omega), if_pos (by rw [List.length_append, List.length_singleton]; omega)]
  have : (-1 + ((l ++ [x]).length : Int)).toNat = l.length := by rw [List.length_append, List.length_singleton]; omega
  rw [this, Option.bind_some, List.getElem?_append_right (Nat.le_refl _), Nat.sub_self]
  rfl
@[simp] theorem atI_p0 (a b : PV) : atI [a, b] 0 = some a := (rfl)
@[simp] theorem atI_p1 (a b : PV) : atI [a, b] 1 = some b := (rfl)
@[simp] theorem ev_ixp0 (a b : PV) : gIx (.tup [a, b]) (.int 0) S = some (.ok a S) := (rfl)
@[simp] theorem ev_ixp1 (a b : PV) : gIx (.tup [a, b]) (.int 1) S = some (.ok b S) := (rfl)
@[simp] theorem ev_lenT (l : List PV) : gLen [.tup l] S = some (.ok (.int l.length) S) := (rfl)
theorem ev_lenL {k : Nat} {l : List PV} (h : S[k]? = some (.lst l)) : gLen [.loc k] S = some (.ok (.int l.length) S) := by unfold gLen; simp [h]
theorem ev_lenF {k : Nat} {l : List PV} (h : S[k]? = some (.fz l)) : gLen [.loc k] S = some (.ok (.int l.length) S) := by unfold gLen; simp [h]
@[simp] theorem ev_int (i : Int) : gInt [.int i] S = some (.ok (.int i) S) := (rfl)
@[simp] theorem ev_intB (b : Bool) : gInt [.bl b] S = some (.ok (.int (if b then 1 else 0)) S) := (rfl)
@[simp] theorem ev_abs (i : Int) : gAbs [.int i] S = some (.ok (.int (if i < 0 then -i else i)) S) := (rfl)
@[simp] theorem ev_max2 (i j : Int) : gMax2 [.int i, .int j] S = some (.ok (.int (if j > i then j else i)) S) := (rfl)
@[simp] theorem ev_min2 (i j : Int) : gMin2 [.int i, .int j] S = some (.ok (.int (if j < i then j else i)) S) := (rfl)
@[simp] theorem ev_meth (T : String) (g : GM) (o : DE) (a : DA) : dMeth T g o a ρ S = bR (o ρ S) fun x S1 => if tyP T x S1 = true then bR (a ρ S1) fun xs S2 => g x xs S2 else none := (rfl)
theorem ev_tyL {k : Nat} {l : List PV} (h : S[k]? = some (.lst l)) : tyP "list" (.loc k) S = true := by unfold tyP; simp [h]
theorem ev_append {k : Nat} {l : List PV} {y : PV} (h : S[k]? = some (.lst l)) (hl : l.length < 16777216) : gAppend (.loc k) [y] S = some (.ok .non (S.set k (.lst (l ++ [y])))) := by
  unfold gAppend
  simp [h, hl]
theorem ev_listL {k : Nat} {l : List PV} (h : S[k]? = some (.lst l)) : gList [.loc k] S = some (.ok (.loc S.length) (S ++ [.lst l])) := by unfold gList itemsP; simp [h]
@[simp] theorem ev_listT (l : List PV) : gList [.tup l] S = some (.ok (.loc S.length) (S ++ [.lst l])) := (rfl)
theorem ev_tupleL {k : Nat} {l : List PV} (h : S[k]? = some (.lst l)) : gTuple [.loc k] S = some (.ok (.tup l) S) := by unfold gTuple itemsP; simp [h]
@[simp] theorem ev_tupleT (l : List PV) : gTuple [.tup l] S = some (.ok (.tup l) S) := (rfl)
@[simp] theorem ev_gsub (g : GSt) (o i : DE) (v : PV) : gSubT g o i v ρ S = match o ρ S with
  | some (.ok x S1) => match i ρ S1 with
    | some (.ok y S2) => match g x y v S2 with
      | some S3 => some (ρ, S3)
      | none => none
    | _ => none
  | _ => none := (rfl)
/-! slices -/
@[simp] theorem ev_noPart : dNoPart ρ S = some (.ok none S) := (rfl)
@[simp] theorem ev_part (f : DE) : dPart f ρ S = bR (f ρ S) fun x S1 => match x with
  | .int i => some (.ok (some i) S1)
  | _ => none := (rfl)
@[simp] theorem ev_sl (a : DE) (lo hi : DO) : dSl a lo hi ρ S = bR (a ρ S) fun x S1 => bR (lo ρ S1) fun l S2 => bR (hi ρ S2) fun h S3 => gSl x l h S3 := (rfl)
@[simp] theorem ev_gSlT (l : List PV) (lo hi : Option Int) : gSl (.tup l) lo hi S = some (.ok (.tup (cutP l lo hi)) S) := (rfl)
theorem ev_gSlL {k : Nat} {l : List PV} {lo hi : Option Int} (h : S[k]? = some (.lst l)) : gSl (.loc k) lo hi S = some (.ok (.loc S.length) (S ++ [.lst (cutP l lo hi)])) := by unfold gSl; simp [h]
theorem ev_gSlF {k : Nat} {l : List PV} {lo hi : Option Int} (h : S[k]? = some (.fz l)) : gSl (.loc k) lo hi S = some (.ok (.loc S.length) (S ++ [.lst (cutP l lo hi)])) := by unfold gSl; simp [h]
theorem cut_to {l : List PV} {i : Int} (h : 0 ≤ i) : cutP l none (some i) = l.take i.toNat := by
  unfold cutP HT.sIx
  simp only [List.drop_zero]
  rw [if_neg (by omega), Nat.sub_zero]
  by_cases h2 : i.toNat ≤ l.length
  · rw [Nat.min_eq_left h2]
  · rw [Nat.min_eq_right (by omega), List.take_of_length_le (Nat.le_refl _), List.take_of_length_le (by omega)]
theorem cut_from {l : List PV} {i : Int} (h : 0 ≤ i) : cutP l (some i) none = l.drop i.toNat := by
  unfold cutP HT.sIx
  simp only
  rw [if_neg (by omega)]
  by_cases h2 : i.toNat ≤ l.length
  · rw [Nat.min_eq_left h2, List.take_of_length_le (by simp)]
  · rw [Nat.min_eq_right (by omega), List.drop_of_length_le (Nat.le_refl _), List.drop_of_length_le (by omega)]
    simp
/-! isinstance -/
@[simp] theorem ev_isaT (l : List PV) : gIsa [.tup l, .ty "tuple"] S = some (.ok (.bl true) S) := by unfold gIsa tyName isaP; simp
@[simp] theorem ev_isaI (i : Int) : gIsa [.int i, .ty "int"] S = some (.ok (.bl true) S) := by unfold gIsa tyName isaP; simp
@[simp] theorem ev_isaIB (i : Int) : gIsa [.int i, .ty "bool"] S = some (.ok (.bl false) S) := by unfold gIsa tyName isaP; simp
@[simp] theorem ev_isaB (i : Bool) : gIsa [.bl i, .ty "bool"] S = some (.ok (.bl true) S) := by unfold gIsa tyName isaP; simp
end
/-! ### what a def leaves -/
section
variable {S : Sto}
theorem gc_ok_val {v : PV} {T : Sto} (h : noLoc v = true) : gcE S (.ok v (S ++ T)) = .ok v S := by
  unfold gcE
  simp [h]
theorem gc_ok_same {v : PV} (h : noLoc v = true) : gcE S (.ok v S) = .ok v S := by
  unfold gcE
  simp [h]
theorem gc_ok_new {k : Nat} {l : List PV} {T : Sto} (h : (S ++ T)[k]? = some (.lst l)) (hk : S.length ≤ k) (hn : noLocs l = true) : gcE S (.ok (.loc k) (S ++ T)) = .ok (.loc S.length) (S ++ [.lst l]) := by
  have : noLoc (.loc k) = false := (rfl)
  unfold gcE
  simp [h, hk, hn, this]
theorem gc_exc {c : Str} {T : Sto} : gcE S (.exc ⟨c, []⟩ (S ++ T)) = .exc ⟨c, []⟩ S := by
  unfold gcE
  simp
theorem gc_exc_same {c : Str} : gcE S (.exc ⟨c, []⟩ S) = .exc ⟨c, []⟩ S := by
  unfold gcE
  simp
theorem dDef_ret {k n : Nat} {body : DS} {args : List PV} {v : PV} {S' : Sto} (hl : args.length = k) (h : body (args.map some ++ List.replicate (n - k) none) S = some (.ret v S')) : dDef k n body args S = some (gcE S (.ok v S')) := by
  unfold dDef
  rw [if_pos hl, h]
theorem dDef_next {k n : Nat} {body : DS} {args : List PV} {ρ : En} {S' : Sto} (hl : args.length = k) (h : body (args.map some ++ List.replicate (n - k) none) S = some (.next ρ S')) : dDef k n body args S = some (gcE S (.ok .non S')) := by
  unfold dDef
  rw [if_pos hl, h]
theorem dDef_exc {k n : Nat} {body : DS} {args : List PV} {e : Xn} {ρ : En} {S' : Sto} (hl : args.length = k) (h : body (args.map some ++ List.replicate (n - k) none) S = some (.exc e ρ S')) : dDef k n body args S = some (gcE S (.exc e S')) := by
  unfold dDef
  rw [if_pos hl, h]
end
theorem call_val {S : Sto} {k n : Nat} {body : DS} {args : List PV} {v : PV} {T : Sto} (hb : body (args.map some ++ List.replicate (n - k) none) S = some (.ret v (S ++ T))) (hn : noLoc v = true) (hl : args.length = k := by rfl) : dDef k n body args S = some (.ok v S) := by
  rw [dDef_ret hl hb, gc_ok_val hn]
theorem call_val0 {S : Sto} {k n : Nat} {body : DS} {args : List PV} {v : PV} (hb : body (args.map some ++ List.replicate (n - k) none) S = some (.ret v S)) (hn : noLoc v = true) (hl : args.length = k := by rfl) : dDef k n body args S = some (.ok v S) := by
  rw [dDef_ret hl hb, gc_ok_same hn]
theorem call_new {S : Sto} {k n j : Nat} {body : DS} {args : List PV} {T : Sto} {l : List PV} (hb : body (args.map some ++ List.replicate (n - k) none) S = some (.ret (.loc j) (S ++ T))) (hj : (S ++ T)[j]? = some (.lst l)) (hk : S.length ≤ j) (hn : noLocs l = true) (hl : args.length = k := by rfl) : dDef k n body args S = some (.ok (.loc S.length) (S ++ [.lst l])) := by
  rw [dDef_ret hl hb, gc_ok_new hj hk hn]
theorem call_exc {S : Sto} {k n : Nat} {body : DS} {args : List PV} {c : Str} {ρ : En} {T : Sto} (hb : body (args.map some ++ List.replicate (n - k) none) S = some (.exc ⟨c, []⟩ ρ (S ++ T))) (hl : args.length = k := by rfl) : dDef k n body args S = some (.exc ⟨c, []⟩ S) := by
  rw [dDef_exc hl hb, gc_exc]
theorem call_exc0 {S : Sto} {k n : Nat} {body : DS} {args : List PV} {c : Str} {ρ : En} (hb : body (args.map some ++ List.replicate (n - k) none) S = some (.exc ⟨c, []⟩ ρ S)) (hl : args.length = k := by rfl) : dDef k n body args S = some (.exc ⟨c, []⟩ S) := by
  rw [dDef_exc hl hb, gc_exc_same]
/-- ints as values -/
def intsP (l : List Int) : List PV := l.map PV.int
@[simp] theorem intsP_nil : intsP [] = [] := (rfl)
@[simp] theorem intsP_cons (i : Int) (l : List Int) : intsP (i :: l) = .int i :: intsP l := (rfl)
@[simp] theorem intsP_len (l : List Int) : (intsP l).length = l.length := List.length_map ..
theorem intsP_append (l r : List Int) : intsP (l ++ r) = intsP l ++ intsP r := List.map_append
theorem intsP_snoc (l : List Int) (i : Int) : intsP l ++ [.int i] = intsP (l ++ [i]) := by rw [intsP_append]; rfl
theorem noLocs_ints : ∀ l : List Int, noLocs (intsP l) = true
  | [] => rfl
  | i :: l => by
    show (noLoc (.int i) && noLocs (intsP l)) = true
    rw [noLocs_ints l]; rfl
theorem ints_at {l : List Int} {i : Int} (h0 : 0 ≤ i) (h : i < l.length) : atI (intsP l) i = some (.int (l.getD i.toNat 0)) := by
  have hl : i.toNat < l.length := by omega
  rw [atI_nat h0 (by rw [intsP_len]; exact hl)]
  unfold intsP
  rw [List.getElem_map, List.getD_eq_getElem?_getD, List.getElem?_eq_getElem hl, Option.getD_some]
/-- pairs of ints as values -/
def pairP (p : Int × Int) : PV := .tup [.int p.1, .int p.2]
def pairsP (l : List (Int × Int)) : List PV := l.map pairP
@[simp] theorem pairsP_nil : pairsP [] = [] := (rfl)
@[simp] theorem pairsP_cons (i : Int × Int) (l : List (Int × Int)) : pairsP (i :: l) = pairP i :: pairsP l := (rfl)
@[simp] theorem pairsP_len (l : List (Int × Int)) : (pairsP l).length = l.length := List.length_map ..
theorem pairsP_append (l r : List (Int × Int)) : pairsP (l ++ r) = pairsP l ++ pairsP r := List.map_append
theorem pairsP_snoc (l : List (Int × Int)) (i : Int × Int) : pairsP l ++ [pairP i] = pairsP (l ++ [i]) := by rw [pairsP_append]; rfl
theorem pairsP_take (l : List (Int × Int)) (n : Nat) : (pairsP l).take n = pairsP (l.take n) := (List.map_take).symm
theorem pairsP_drop (l : List (Int × Int)) (n : Nat) : (pairsP l).drop n = pairsP (l.drop n) := (List.map_drop).symm
theorem noLocs_pairs : ∀ l : List (Int × Int), noLocs (pairsP l) = true
  | [] => rfl
  | i :: l => by
    show (noLoc (pairP i) && noLocs (pairsP l)) = true
    rw [noLocs_pairs l]; rfl
theorem pairs_at {l : List (Int × Int)} {i : Int} (h0 : 0 ≤ i) (h : i < l.length) : atI (pairsP l) i = some (pairP (l.getD i.toNat (0, 0))) := by
  have hl : i.toNat < l.length := by omega
  rw [atI_nat h0 (by rw [pairsP_len]; exact hl)]
  unfold pairsP
  rw [List.getElem_map, List.getD_eq_getElem?_getD, List.getElem?_eq_getElem hl, Option.getD_some]

/-! places behind a store -/
section
variable {S T : Sto} {a b c d e o : PO}
@[simp] theorem at_0 : (S ++ o :: T)[S.length]? = some o := by simp
@[simp] theorem at_1 : (S ++ a :: o :: T)[S.length + 1]? = some o := by
  rw [List.getElem?_append_right (by omega)]
  simp
@[simp] theorem at_2 : (S ++ a :: b :: o :: T)[S.length + 2]? = some o := by
  rw [List.getElem?_append_right (by omega)]
  simp
@[simp] theorem at_3 : (S ++ a :: b :: c :: o :: T)[S.length + 3]? = some o := by
  rw [List.getElem?_append_right (by omega)]
  simp
@[simp] theorem put_0 : (S ++ a :: T).set S.length o = S ++ o :: T := by
  rw [List.set_append_right _ _ (by omega)]
  simp
@[simp] theorem put_1 : (S ++ a :: b :: T).set (S.length + 1) o = S ++ a :: o :: T := by
  rw [List.set_append_right _ _ (by omega)]
  simp
@[simp] theorem put_2 : (S ++ a :: b :: c :: T).set (S.length + 2) o = S ++ a :: b :: o :: T := by
  rw [List.set_append_right _ _ (by omega)]
  simp
theorem at_old {k : Nat} (h : S[k]? = some o) : (S ++ T)[k]? = some o := by
  rw [List.getElem?_append_left (lt_of_get h)]
  exact h
end
/-! data of values -/
section
variable {S : Sto} {n : Nat}
@[simp] theorem toD_int (i : Int) : toD n S (.int i) = some (.int i) := by cases n <;> rfl
@[simp] theorem toD_bl (i : Bool) : toD n S (.bl i) = some (.bool i) := by cases n <;> rfl
@[simp] theorem toD_non : toD n S .non = some .none := by cases n <;> rfl
@[simp] theorem toD_str (i : Str) : toD n S (.str i) = some (.str i) := by cases n <;> rfl
theorem toD_tup {l : List PV} {ds : List PyData} (h : mapO (toD n S) l = some ds) : toD (n + 1) S (.tup l) = some (.tuple ds) := by
  unfold toD
  rw [h]; rfl
theorem toD_lst {k : Nat} {l : List PV} {ds : List PyData} (hk : S[k]? = some (.lst l)) (h : mapO (toD n S) l = some ds) : toD (n + 1) S (.loc k) = some (.list ds) := by
  unfold toD
  rw [hk]
  dsimp only
  rw [h]; rfl
theorem toD_fz {k : Nat} {l : List PV} {ds : List PyData} (hk : S[k]? = some (.fz l)) (h : mapO (toD n S) l = some ds) : toD (n + 1) S (.loc k) = some (.list ds) := by
  unfold toD
  rw [hk]
  dsimp only
  rw [h]; rfl
theorem mapO_map {α β γ : Type} {f : β → Option γ} {e : α → β} {d : α → γ} : ∀ {l : List α}, (∀ x ∈ l, f (e x) = some (d x)) → mapO f (l.map e) = some (l.map d)
  | [], _ => rfl
  | x :: l, h => by
    rw [List.map_cons, List.map_cons]
    unfold mapO
    rw [h x List.mem_cons_self, mapO_map fun y hy => h y (List.mem_cons_of_mem _ hy)]
@[simp] theorem eqv_int (i j : Int) : PyData.eqv (.int i) (.int j) = decide (i = j) := by
  unfold PyData.eqv
  by_cases h : i = j <;> simp [h]
@[simp] theorem eqv_bool (i j : Bool) : PyData.eqv (.bool i) (.bool j) = decide (i = j) := by
  unfold PyData.eqv
  by_cases h : i = j <;> simp [h]
@[simp] theorem eqv_str (i j : Str) : PyData.eqv (.str i) (.str j) = decide (i = j) := by
  unfold PyData.eqv
  by_cases h : i = j <;> simp [h]
@[simp] theorem eqv_none : PyData.eqv .none .none = true := by unfold PyData.eqv; rfl
@[simp] theorem eqv_tuple (l r : List PyData) : PyData.eqv (.tuple l) (.tuple r) = PyData.eqvAll l r := by
  conv => lhs; unfold PyData.eqv
@[simp] theorem eqv_list (l r : List PyData) : PyData.eqv (.list l) (.list r) = PyData.eqvAll l r := by
  conv => lhs; unfold PyData.eqv
@[simp] theorem eqvAll_nil : PyData.eqvAll [] [] = true := by unfold PyData.eqvAll; rfl
@[simp] theorem eqvAll_nc (x : PyData) (l : List PyData) : PyData.eqvAll [] (x :: l) = false := by unfold PyData.eqvAll; rfl
@[simp] theorem eqvAll_cn (x : PyData) (l : List PyData) : PyData.eqvAll (x :: l) [] = false := by unfold PyData.eqvAll; rfl
@[simp] theorem eqvAll_cc (x y : PyData) (l r : List PyData) : PyData.eqvAll (x :: l) (y :: r) = (PyData.eqv x y && PyData.eqvAll l r) := by
  conv => lhs; unfold PyData.eqvAll
theorem eqvAll_map {α : Type} [DecidableEq α] {d : α → PyData} (hd : ∀ x y, PyData.eqv (d x) (d y) = decide (x = y)) : ∀ (l r : List α), PyData.eqvAll (l.map d) (r.map d) = decide (l = r)
  | [], [] => by simp
  | [], y :: r => by simp
  | x :: l, [] => by simp
  | x :: l, y :: r => by
    rw [List.map_cons, List.map_cons, eqvAll_cc, hd, eqvAll_map hd l r]
    by_cases h1 : x = y <;> by_cases h2 : l = r <;> simp [h1, h2]
theorem ev_eq {neg : Bool} {x y : PV} {d e : PyData} (h1 : toD 60 S x = some d) (h2 : toD 60 S y = some e) : gEqN neg x y S = some (.ok (.bl (if neg then !PyData.eqv d e else PyData.eqv d e)) S) := by
  unfold gEqN eqP
  rw [h1, h2]
@[simp] theorem ev_eqI (i j : Int) : gEqN false (.int i) (.int j) S = some (.ok (.bl (decide (i = j))) S) := by rw [ev_eq (toD_int i) (toD_int j)]; simp
@[simp] theorem ev_neI (i j : Int) : gEqN true (.int i) (.int j) S = some (.ok (.bl (!decide (i = j))) S) := by rw [ev_eq (toD_int i) (toD_int j)]; simp
@[simp] theorem ev_eqB (i j : Bool) : gEqN false (.bl i) (.bl j) S = some (.ok (.bl (decide (i = j))) S) := by rw [ev_eq (toD_bl i) (toD_bl j)]; simp
@[simp] theorem ev_neB (i j : Bool) : gEqN true (.bl i) (.bl j) S = some (.ok (.bl (!decide (i = j))) S) := by rw [ev_eq (toD_bl i) (toD_bl j)]; simp
@[simp] theorem ev_eqS (i j : Str) : gEqN false (.str i) (.str j) S = some (.ok (.bl (decide (i = j))) S) := by rw [ev_eq (toD_str i) (toD_str j)]; simp
@[simp] theorem ev_neS (i j : Str) : gEqN true (.str i) (.str j) S = some (.ok (.bl (!decide (i = j))) S) := by rw [ev_eq (toD_str i) (toD_str j)]; simp
def pairD (p : Int × Int) : PyData := .tuple [.int p.1, .int p.2]
theorem toD_pair (p : Int × Int) : toD (n + 1) S (pairP p) = some (pairD p) := toD_tup (by simp [mapO])
theorem eqv_pair (p q : Int × Int) : PyData.eqv (pairD p) (pairD q) = decide (p = q) := by
  obtain ⟨a, b⟩ := p
  obtain ⟨c, d⟩ := q
  unfold pairD
  by_cases h1 : a = c <;> by_cases h2 : b = d <;> simp [h1, h2]
theorem mapO_pairs (l : List (Int × Int)) : mapO (toD (n + 1) S) (pairsP l) = some (l.map pairD) := mapO_map fun x _ => toD_pair x
theorem eqv_pairs (l r : List (Int × Int)) : PyData.eqvAll (l.map pairD) (r.map pairD) = decide (l = r) := eqvAll_map eqv_pair l r
theorem mapO_ints (l : List Int) : mapO (toD n S) (intsP l) = some (l.map PyData.int) := mapO_map fun x _ => toD_int x
theorem eqv_ints (l r : List Int) : PyData.eqvAll (l.map PyData.int) (r.map PyData.int) = decide (l = r) := eqvAll_map eqv_int l r
/-- tuples of pairs -/
theorem ev_eqTP (neg : Bool) (l r : List (Int × Int)) : gEqN neg (.tup (pairsP l)) (.tup (pairsP r)) S = some (.ok (.bl (if neg then !decide (l = r) else decide (l = r))) S) := by
  rw [ev_eq (toD_tup (mapO_pairs l)) (toD_tup (mapO_pairs r)), eqv_tuple, eqv_pairs]
theorem ev_eqLP (neg : Bool) {j k : Nat} {l r : List (Int × Int)} (h1 : S[j]? = some (.lst (pairsP l))) (h2 : S[k]? = some (.lst (pairsP r))) : gEqN neg (.loc j) (.loc k) S = some (.ok (.bl (if neg then !decide (l = r) else decide (l = r))) S) := by
  rw [ev_eq (toD_lst h1 (mapO_pairs l)) (toD_lst h2 (mapO_pairs r)), eqv_list, eqv_pairs]
end
/-! sorted -/
theorem sort_enc {α : Type} (e : α → PV) (d : α → PyData) (l : List α) : sortP (l.map e) (l.map d) = (l.mergeSort (PySem.W.dataLe false d)).map e := by
  unfold sortP
  have hz : (l.map e).zip (l.map d) = l.map fun x => (e x, d x) := by
    induction l with
    | nil => rfl
    | cons x l ih => rw [List.map_cons, List.map_cons, List.zip_cons_cons, ih, List.map_cons]
  rw [hz, ← List.map_mergeSort (f := fun x => (e x, d x)) (r := PySem.W.dataLe false d) (s := PySem.W.dataLe false Prod.snd) (fun a _ b _ => rfl), List.map_map]
  rfl
theorem ev_sorted {S : Sto} {k : Nat} {α : Type} {e : α → PV} {d : α → PyData} {l : List α} (h : S[k]? = some (.lst (l.map e))) (hd : ∀ x ∈ l, toD 40 S (e x) = some (d x)) (ha : alikeB (l.map d) = true) (hs : sortableB (l.map d) = true) :
    gSorted [.loc k] S = some (.ok (.loc S.length) (S ++ [.lst ((l.mergeSort (PySem.W.dataLe false d)).map e)])) := by
  unfold gSorted lstOf
  dsimp only
  rw [h]
  dsimp only
  rw [mapO_map hd]
  dsimp only
  rw [if_pos ⟨ha, hs⟩, sort_enc]
theorem alike_pairs (l : List (Int × Int)) : alikeB (l.map pairD) = true := by
  unfold alikeB
  rw [List.all_eq_true]
  intro x hx
  rw [List.all_eq_true]
  intro y hy
  obtain ⟨p, _, rfl⟩ := List.mem_map.mp hx
  obtain ⟨q, _, rfl⟩ := List.mem_map.mp hy
  simp [pairD, PySem.W.alike, PySem.W.alikeAll]
theorem sortable_pairs (l : List (Int × Int)) : sortableB (l.map pairD) = true := by
  unfold sortableB
  rw [Bool.or_eq_true]
  refine .inl ?_
  rw [List.all_eq_true]
  intro x hx
  obtain ⟨p, _, rfl⟩ := List.mem_map.mp hx
  rfl
/-- pairs in order -/
def sortPr (l : List (Int × Int)) : List (Int × Int) := l.mergeSort (PySem.W.dataLe false pairD)
theorem sortPr_perm (l : List (Int × Int)) : (sortPr l).Perm l := List.mergeSort_perm ..
theorem pairLe_iff (p q : Int × Int) : PySem.W.dataLe false pairD p q = true ↔ p.1 < q.1 ∨ (p.1 = q.1 ∧ p.2 ≤ q.2) := by
  obtain ⟨a, b⟩ := p
  obtain ⟨c, d⟩ := q
  show (!PyProof.Rows.lexLt PyProof.Rows.itemOrd [.inl 1, .inl c, .inl 1, .inl d, .inl 0] [.inl 1, .inl a, .inl 1, .inl b, .inl 0]) = true ↔ _
  have lt : ∀ i j : Int, PyProof.Rows.itemOrd.blt (.inl i) (.inl j) = decide (i < j) := fun _ _ => rfl
  rw [PyProof.Rows.lex_self, PyProof.Rows.lex_cons, PyProof.Rows.lex_self, PyProof.Rows.lex_cons, PyProof.Rows.lex_self]
  have lt2 : ∀ i j : Int, PyProof.Rows.itemLt (.inl i) (.inl j) = decide (i < j) := fun _ _ => rfl
  have e : PyProof.Rows.lexLt PyProof.Rows.itemOrd [] [] = false := (rfl)
  rw [e]
  by_cases h1 : c < a
  · have : ¬ a < c ∧ ¬ a = c := by omega
    simp [lt2, h1, this]
  · by_cases h2 : a < c
    · simp [lt2, h1, h2]
    · have h3 : a = c := by omega
      subst h3
      simp [lt2]
theorem sortPr_sorted (l : List (Int × Int)) : (sortPr l).Pairwise fun p q => p.1 < q.1 ∨ (p.1 = q.1 ∧ p.2 ≤ q.2) := by
  have h := List.pairwise_mergeSort (le := PySem.W.dataLe false pairD) (fun a b c h1 h2 => by
    rw [pairLe_iff] at *
    omega) (fun a b => by
    rw [Bool.or_eq_true, pairLe_iff, pairLe_iff]
    omega) l
  exact h.imp fun h => (pairLe_iff _ _).mp h
theorem sortPr_same {l : List (Int × Int)} (h : l.Pairwise fun p q => p.1 < q.1 ∨ (p.1 = q.1 ∧ p.2 ≤ q.2)) : sortPr l = l := List.mergeSort_of_pairwise (h.imp fun h => (pairLe_iff _ _).mpr h)
theorem ev_sortedP {S : Sto} {k : Nat} {l : List (Int × Int)} (h : S[k]? = some (.lst (pairsP l))) : gSorted [.loc k] S = some (.ok (.loc S.length) (S ++ [.lst (pairsP (sortPr l))])) :=
  ev_sorted h (fun x _ => toD_pair x) (alike_pairs l) (sortable_pairs l)

/-! errors -/
section
variable {ρ : En} {S : Sto}
@[simp] theorem ev_isE (i : Nat) (a : Addr) (b : Bool) : dIsE i a b ρ S = match ρ[i]? with
  | some (some (.xc a' _ _)) => if a' = a then some (.ok (.bl b) S) else none
  | _ => none := (rfl)
theorem ev_tryAs_ok {body : DS} {i : Nat} {cat : Str → Option Bool} {su : Hd} {r : RS} (h : body ρ S = some r) (hx : ∀ e ρ1 S1, r ≠ .exc e ρ1 S1) : dTryAs body i cat su ρ S = some r := by
  unfold dTryAs
  rw [h]
  cases r <;> first | rfl | exact absurd rfl (hx _ _ _)
theorem ev_tryAs_exc {body : DS} {i : Nat} {cat : Str → Option Bool} {su : Hd} {e : Xn} {ρ1 : En} {S1 : Sto} (h : body ρ S = some (.exc e ρ1 S1)) (hc : cat e.c = some true) : dTryAs body i cat su ρ S = hdAs i su e ρ1 S1 := by
  unfold dTryAs
  rw [h]
  dsimp only
  rw [hc]
end
/-! comprehensions -/
theorem compL_map {c i : Nat} {own : List Nat} {elt : DE} {g : PV → PV} {ρ : En} : ∀ (items acc : List PV) (S : Sto), (∀ x ∈ items, ∀ S', elt ((killE own ρ).set i (some x)) S' = some (.ok (g x) S')) → S[c]? = some (.lst acc) → acc.length + items.length ≤ 16777216 →
    compL c (nmOne i) own dYes elt [] items ρ S = some (.ok (.loc c) (S.set c (.lst (acc ++ items.map g))))
  | [], acc, S, _, hc, _ => by
    unfold compL
    rw [if_pos (by simp), List.map_nil, List.append_nil]
    congr 2
    have hl := (List.getElem?_eq_some_iff.mp hc).1
    refine List.ext_getElem? fun j => ?_
    by_cases hj : j = c
    · subst hj
      rw [List.getElem?_set_self hl]; exact hc
    · rw [List.getElem?_set_ne (fun e => hj e.symm)]
  | x :: items, acc, S, he, hc, hl => by
    rw [List.length_cons] at hl
    have hlt := (List.getElem?_eq_some_iff.mp hc).1
    have ih := compL_map (c := c) (i := i) (own := own) (elt := elt) (g := g) (ρ := ρ) items (acc ++ [g x]) (S.set c (.lst (acc ++ [g x]))) (fun y hy => he y (List.mem_cons_of_mem _ hy)) (by rw [List.getElem?_set_self hlt]) (by rw [List.length_append, List.length_singleton]; omega)
    unfold compL
    rw [if_pos (by simp)]
    have h1 := he x List.mem_cons_self S
    simp only [nmOne, dYes, setsE, h1, hc]
    rw [if_pos (by omega), ih, List.set_set]
    simp
theorem ev_comp {i : Nat} {own : List Nat} {elt : DE} {g : PV → PV} {ρ : En} {S S1 : Sto} {it : DI} {items : List PV} (hi : it ρ S = some (.ok ⟨items, []⟩ S1)) (he : ∀ x ∈ items, ∀ S', elt ((killE own ρ).set i (some x)) S' = some (.ok (g x) S')) (hl : items.length ≤ 16777216) :
    dComp it (nmOne i) own dYes elt ρ S = some (.ok (.loc S1.length) (S1 ++ [.lst (items.map g)])) := by
  unfold dComp
  rw [hi]
  simp only [ev_bR_ok]
  rw [compL_map items [] _ he (at_0 (T := [])) (by simpa using hl)]
  simp
@[simp] theorem rangeP_len (lo : Int) (n : Nat) : (rangeP lo n).length = n := by simp [rangeP]
theorem rangeP_mem {lo : Int} {n : Nat} {x : PV} (h : x ∈ rangeP lo n) : ∃ i : Int, x = .int i ∧ lo ≤ i ∧ i < lo + n := by
  unfold rangeP at h
  obtain ⟨j, hj, rfl⟩ := List.mem_map.mp h
  rw [List.mem_range] at hj
  exact ⟨_, rfl, by omega, by omega⟩

theorem gcE_bl {S S' : Sto} {b : Bool} : ∃ T, some (gcE S (.ok (.bl b) S')) = some (.ok (.bl b) T) := by
  by_cases h : S'.take S.length = S
  · refine ⟨S, ?_⟩
    unfold gcE
    simp only [h, if_true]
    rfl
  · refine ⟨gc2 S S', ?_⟩
    unfold gcE
    simp only [h, if_false]
    rfl
theorem law_ret {n : Nat} {body : DS} {S S' : Sto} {a : PV} (hb : body (some a :: List.replicate (n - 1) none) S = some (.ret (.bl true) S')) : ∃ T, dDef 1 n body [a] S = some (.ok (.bl true) T) := by
  rw [dDef_ret (k := 1) (args := [a]) rfl hb]
  exact gcE_bl

/-! comprehensions, in general -/
theorem compL_fm {α : Type} {c : Nat} {f : PV → Option (List Nat × List PV)} {own : List Nat} {tt : DB} {elt : DE} {keep : List (Nat × PO)} {ρ : En} (P : Sto → Prop) (e : α → PV) (t : α → Bool) (g : α → PV) (hk : ∀ S, P S → Kept keep S) (hP : ∀ S acc, P S → P (S.set c (.lst acc))) :
    ∀ (items : List α) (acc : List PV) (S : Sto), (∀ x ∈ items, ∀ S', P S' → ∃ is l, f (e x) = some (is, l) ∧ tt (setsE is l (killE own ρ)) S' = some (.ok (t x) S') ∧ (t x = true → elt (setsE is l (killE own ρ)) S' = some (.ok (g x) S'))) →
    P S → S[c]? = some (.lst acc) → acc.length + items.length ≤ 16777216 → compL c f own tt elt keep (items.map e) ρ S = some (.ok (.loc c) (S.set c (.lst (acc ++ (items.filter t).map g))))
  | [], acc, S, _, p, hc, _ => by
    rw [List.map_nil]
    unfold compL
    rw [if_pos (hk S p), List.filter_nil, List.map_nil, List.append_nil]
    congr 2
    have hl := (List.getElem?_eq_some_iff.mp hc).1
    refine List.ext_getElem? fun j => ?_
    by_cases hj : j = c
    · subst hj
      rw [List.getElem?_set_self hl]; exact hc
    · rw [List.getElem?_set_ne (fun e => hj e.symm)]
  | x :: items, acc, S, h, p, hc, hl => by
    rw [List.length_cons] at hl
    have hlt := (List.getElem?_eq_some_iff.mp hc).1
    obtain ⟨is, l, h1, h2, h3⟩ := h x List.mem_cons_self S p
    rw [List.map_cons]
    unfold compL
    rw [if_pos (hk S p), h1]
    dsimp only
    rw [h2]
    cases ht : t x with
    | true =>
      dsimp only
      rw [h3 ht]
      dsimp only
      rw [hc]
      dsimp only
      rw [if_pos (by omega), compL_fm P e t g hk hP items (acc ++ [g x]) (S.set c (.lst (acc ++ [g x]))) (fun y hy => h y (List.mem_cons_of_mem _ hy)) (hP _ _ p) (by rw [List.getElem?_set_self hlt]) (by rw [List.length_append, List.length_singleton]; omega), List.set_set]
      simp [ht]
    | false =>
      dsimp only
      rw [compL_fm P e t g hk hP items acc S (fun y hy => h y (List.mem_cons_of_mem _ hy)) p hc (by omega)]
      simp [ht]
/-- over a tuple's items, nothing of the store asked but P -/
theorem ev_compF {α : Type} {f : PV → Option (List Nat × List PV)} {own : List Nat} {tt : DB} {elt : DE} {ρ : En} {S S1 : Sto} {it : DI} {keep : List (Nat × PO)} {items : List α} (e : α → PV) (t : α → Bool) (g : α → PV)
    (hi : it ρ S = some (.ok ⟨items.map e, keep⟩ S1)) (hk : Kept keep S1) (h : ∀ x ∈ items, ∀ acc, ∃ is l, f (e x) = some (is, l) ∧ tt (setsE is l (killE own ρ)) (S1 ++ [.lst acc]) = some (.ok (t x) (S1 ++ [.lst acc])) ∧ (t x = true → elt (setsE is l (killE own ρ)) (S1 ++ [.lst acc]) = some (.ok (g x) (S1 ++ [.lst acc])))) (hl : items.length ≤ 16777216) :
    dComp it f own tt elt ρ S = some (.ok (.loc S1.length) (S1 ++ [.lst ((items.filter t).map g)])) := by
  unfold dComp
  rw [hi]
  simp only [ev_bR_ok]
  rw [compL_fm (fun S' => ∃ acc, S' = S1 ++ [.lst acc]) e t g (fun S' ⟨acc, q⟩ p hp => by
    rw [q, List.getElem?_append_left (lt_of_get (hk p hp))]
    exact hk p hp) (fun S' acc ⟨b, q⟩ => ⟨acc, by rw [q, put_0]⟩) items [] _ (fun x hx S' ⟨acc, q⟩ => by
    rw [q]
    exact h x hx acc) ⟨[], rfl⟩ (at_0 (T := [])) (by simpa using hl)]
  simp
end D

/-! E2: how the denotations of D12..D15 are reckoned out. -/
namespace D
open PySem PySem.Spec PyProof.Rows L2
section
variable {ρ : En} {S S' : Sto}
/-! instances -/
@[simp] theorem ev_fld (c f : Str) (a : DE) : dFld c f a ρ S = bR (a ρ S) fun x S1 => gFld c f x S1 := (rfl)
theorem ev_gFld {c f : Str} {k : Nat} {fs : List (Str × PV)} {v : PV} (h : S[k]? = some (.ins c fs)) (hl : fs.lookup f = some v) : gFld c f (.loc k) S = some (.ok v S) := by
  unfold gFld
  simp only [h, if_true, hl]
@[simp] theorem ev_setF (c f : Str) (fo fe : DE) : dSetF c f fo fe ρ S = bS ρ (fe ρ S) fun v S1 => bS ρ (fo ρ S1) fun x S2 => gSetF c f v x ρ S2 := (rfl)
theorem ev_gSetF {c f : Str} {k : Nat} {fs : List (Str × PV)} {v : PV} (h : S[k]? = some (.ins c fs)) (hl : fs.length < 1000) : gSetF c f v (.loc k) ρ S = some (.next ρ (S.set k (.ins c (putFP f v fs)))) := by
  unfold gSetF
  simp only [h]
  exact if_pos ⟨trivial, hl⟩
@[simp] theorem ev_imeth (c m : Str) (F : DF) (fo : DE) (fa : DA) : dIMeth c m F fo fa ρ S = bR (fo ρ S) fun x S1 => if isInsP c m x S1 = true then bR (fa ρ S1) fun xs S2 => F (x :: xs) S2 else none := (rfl)
theorem ev_isIns {c m : Str} {k : Nat} {fs : List (Str × PV)} (h : S[k]? = some (.ins c fs)) (hl : fs.lookup m = none) : isInsP c m (.loc k) S = true := by
  unfold isInsP
  simp only [h, hl]
  simp
@[simp] theorem ev_make (c : Str) (F : DF) (fa : DA) : dMake c F fa ρ S = bR (fa ρ S) fun xs S1 => gMake c F xs S1 := (rfl)
theorem ev_gMake {c : Str} {F : DF} {xs : List PV} (h : F (.loc S.length :: xs) (S ++ [.ins c []]) = some (.ok .non S')) : gMake c F xs S = some (.ok (.loc S.length) S') := by
  unfold gMake
  rw [h]
theorem ev_gMakeX {c : Str} {F : DF} {xs : List PV} {e : Xn} (h : F (.loc S.length :: xs) (S ++ [.ins c []]) = some (.exc e S')) : gMake c F xs S = some (.exc e S') := by
  unfold gMake
  rw [h]
/-! dicts -/
@[simp] theorem ev_newD : dNewD ρ S = some (.ok (.loc S.length) (S ++ [.dct false []])) := (rfl)
/-! list(range(..)) -/
@[simp] theorem ev_listR (f : DE) : dListR f ρ S = bR (f ρ S) fun x S1 => gListR x S1 := (rfl)
theorem ev_gListR {j : Int} (h : 0 ≤ j) (h2 : j ≤ 16777216) : gListR (.int j) S = some (.ok (.loc S.length) (S ++ [.lst (rangeP 0 j.toNat)])) := if_pos ⟨by omega, h2⟩
/-! errors -/
@[simp] theorem ev_raiseF (c f : Str) (fe : DE) : dRaiseF c f fe ρ S = bS ρ (fe ρ S) fun v S1 => some (.exc ⟨c, [(f, v)]⟩ ρ S1) := (rfl)
@[simp] theorem ev_isEd (i : Nat) (a dd : Addr) (b : Bool) : dIsEd i a dd b ρ S = match ρ[i]? with
  | some (some (.xc a' (some d') _)) => if a' = a ∧ d' = dd then some (.ok (.bl b) S) else none
  | _ => none := (rfl)
@[simp] theorem ev_suF (d : Addr) (f : Addr → DS) : suF (some d) f = f d := (rfl)
/-! what is let go -/
theorem Cl.refl : Cl S S := fun _ _ _ h => .inl h
theorem Cl.app (T : Sto) : Cl S (S ++ T) := fun k o hk h => .inl (by rwa [List.getElem?_append_left hk] at h)
theorem Cl.set (h : Cl S S') {j : Nat} {o : PO} (hb : bdO S.length o) : Cl S (S'.set j o) := fun k u hk e => by
  by_cases hj : j = k
  · subst hj
    rw [List.getElem?_set] at e
    split at e
    · split at e
      · cases e; exact .inr hb
      · cases e
    · exact h _ _ hk e
  · rw [List.getElem?_set_ne hj] at e
    exact h _ _ hk e
theorem Cl.snoc (h : Cl S S') (le : S.length ≤ S'.length) (T : Sto) : Cl S (S' ++ T) := fun k o hk e => by
  rw [List.getElem?_append_left (Nat.lt_of_lt_of_le hk le)] at e
  exact h k o hk e
/-- kept places, or bounded -/
theorem Cl.of (h : ∀ k o, k < S.length → S'[k]? = some o → S[k]? ≠ some o → bdO S.length o) : Cl S S' := fun k o hk e => by
  by_cases q : S[k]? = some o
  · exact .inl q
  · exact .inr (h k o hk e q)
theorem gc_cl {v : PV} (hn : noLoc v = true) (h : Cl S S') : gcE S (.ok v S') = .ok v (S'.take S.length) := by
  unfold gcE
  simp only [hn, if_true]
  split
  · rename_i e
    rw [e]
  · unfold gc2
    rw [if_pos h]
theorem gc_len {v : PV} (hn : noLoc v = true) (h : Cl S S') (hl : S'.length = S.length) : gcE S (.ok v S') = .ok v S' := by
  rw [gc_cl hn h, ← hl, List.take_length]
@[simp] theorem ev_gc (f : DE) : dGc f ρ S = (f ρ S).map (gcE S) := (rfl)
theorem body_next {kill : List Nat} {f : DS} {ρ' : En} (h : f ρ S = some (.next ρ' S')) (c : Cl S S') (b : bdE S.length (killE kill ρ')) : dBody kill f ρ S = some (.next (killE kill ρ') (S'.take S.length)) := by
  unfold dBody
  rw [h]
  exact congrArg some (if_pos ⟨c, b⟩)
theorem body_ctn {kill : List Nat} {f : DS} {ρ' : En} (h : f ρ S = some (.ctn ρ' S')) (c : Cl S S') (b : bdE S.length (killE kill ρ')) : dBody kill f ρ S = some (.ctn (killE kill ρ') (S'.take S.length)) := by
  unfold dBody
  rw [h]
  exact congrArg some (if_pos ⟨c, b⟩)
theorem body_ret {kill : List Nat} {f : DS} {v : PV} (h : f ρ S = some (.ret v S')) : dBody kill f ρ S = some (.ret v S') := by
  unfold dBody
  rw [h]
  rfl
theorem body_exc {kill : List Nat} {f : DS} {e : Xn} {ρ' : En} (h : f ρ S = some (.exc e ρ' S')) : dBody kill f ρ S = some (.exc e ρ' S') := by
  unfold dBody
  rw [h]
  rfl
theorem body_brk {kill : List Nat} {f : DS} {ρ' : En} (h : f ρ S = some (.brk ρ' S')) : dBody kill f ρ S = some (.brk ρ' S') := by
  unfold dBody
  rw [h]
  rfl
end
/-! stores S ++ [..] -/
section
variable {S T U : Sto} {o : PO}
@[simp] theorem get_off (c : Nat) : (S ++ T)[S.length + c]? = T[c]? := by
  rw [List.getElem?_append_right (by omega)]
  congr 1
  omega
@[simp] theorem get_off0 : (S ++ T)[S.length]? = T[0]? := get_off 0
@[simp] theorem set_off (c : Nat) : (S ++ T).set (S.length + c) o = S ++ T.set c o := by
  rw [List.set_append_right _ _ (by omega)]
  congr 2
  omega
@[simp] theorem set_off0 : (S ++ T).set S.length o = S ++ T.set 0 o := set_off 0
@[simp] theorem take_off (c : Nat) : (S ++ T).take (S.length + c) = S ++ T.take c := by
  rw [List.take_append]
  congr 1
  · exact List.take_of_length_le (by omega)
  · congr 1; omega
theorem get_lt {k : Nat} (h : k < S.length) : (S ++ T)[k]? = S[k]? := List.getElem?_append_left h
theorem set_lt {k : Nat} (h : k < S.length) : (S ++ T).set k o = S.set k o ++ T := List.set_append_left _ _ h
end
/-! a walk through a list by an invariant -/
section
variable {α : Type} {g : DG} {kill : List Nat} {body : DS} {keep : List (Nat × PO)}
/-- the turn of x leads on, or out -/
def Turn (g : DG) (kill : List Nat) (body : DS) (x : PV) (ρ : En) (S : Sto) (I : En → Sto → Prop) (out : RS → Prop) : Prop :=
  ∃ ρ1 S1, g x ρ S = some (ρ1, S1) ∧ ∃ r, body ρ1 S1 = some r ∧ match r with
    | .next ρ2 S2 => I (killE kill ρ2) S2
    | .ctn ρ2 S2 => I (killE kill ρ2) S2
    | .brk ρ2 S2 => out (.next (killE kill ρ2) S2)
    | r => out r
theorem forL_inv (e : α → PV) (I : List α → List α → En → Sto → Prop) (out : RS → Prop) (hk : ∀ d r ρ S, I d r ρ S → Kept keep S)
    (turn : ∀ d x r ρ S, I d (x :: r) ρ S → Turn g kill body (e x) ρ S (I (d ++ [x]) r) out) :
    ∀ (l d : List α) (ρ : En) (S : Sto), I d l ρ S → (∃ ρ' S', forL g kill body keep (l.map e) ρ S = some (.next ρ' S') ∧ I (d ++ l) [] ρ' S') ∨ ∃ r, forL g kill body keep (l.map e) ρ S = some r ∧ out r
  | [], d, ρ, S, h => .inl ⟨ρ, S, by rw [List.map_nil, forL_nil (hk _ _ _ _ h)], by rwa [List.append_nil]⟩
  | x :: l, d, ρ, S, h => by
    obtain ⟨ρ1, S1, h1, r, h2, h3⟩ := turn _ _ _ _ _ h
    rw [List.map_cons, forL_cons (hk _ _ _ _ h), h1]
    dsimp only
    rw [h2]
    cases r with
    | next ρ2 S2 =>
      have := forL_inv e I out hk turn l (d ++ [x]) _ _ h3
      rwa [List.append_assoc] at this
    | ctn ρ2 S2 =>
      have := forL_inv e I out hk turn l (d ++ [x]) _ _ h3
      rwa [List.append_assoc] at this
    | brk ρ2 S2 => exact .inr ⟨_, rfl, h3⟩
    | ret v S2 => exact .inr ⟨_, rfl, h3⟩
    | exc ex ρ2 S2 => exact .inr ⟨_, rfl, h3⟩
end
end D

/-! E3: kinds of data: how they stand as values, as data; that == tells them apart. -/
namespace D
open PySem PySem.Spec PyProof.Rows L2
class Dat (α : Type) where
  enc : α → PV
  dat : α → PyData
  dep : Nat
  td : ∀ (n : Nat) (S : Sto) (a : α), toD (n + dep) S (enc a) = some (dat a)
  eqv : ∀ a b : α, PyData.eqv (dat a) (dat b) = true ↔ a = b
  nl : ∀ a : α, noLoc (enc a) = true
open Dat (enc)
section
variable {α β γ : Type}
instance : Dat Int := ⟨PV.int, PyData.int, 0, fun _ _ _ => toD_int _, fun _ _ => by simp, fun _ => rfl⟩
instance : Dat Bool := ⟨PV.bl, PyData.bool, 0, fun _ _ _ => toD_bl _, fun _ _ => by simp, fun _ => rfl⟩
instance : Dat Str := ⟨PV.str, PyData.str, 0, fun _ _ _ => toD_str _, fun _ _ => by simp, fun _ => rfl⟩
theorem Dat.td' [Dat α] (k : Nat) (h : Dat.dep α ≤ k) (S : Sto) (a : α) : toD k S (enc a) = some (Dat.dat a) := by
  have := Dat.td (k - Dat.dep α) S a
  rwa [Nat.sub_add_cancel h] at this
theorem noLocs_map [Dat α] : ∀ l : List α, noLocs (l.map enc) = true
  | [] => rfl
  | x :: l => by
    rw [List.map_cons]
    show (noLoc _ && noLocs _) = true
    rw [Dat.nl x, noLocs_map l]
    rfl
theorem eqvAll_dat [Dat α] : ∀ (l r : List α), PyData.eqvAll (l.map Dat.dat) (r.map Dat.dat) = true ↔ l = r
  | [], [] => by simp
  | [], y :: r => by simp
  | x :: l, [] => by simp
  | x :: l, y :: r => by
    rw [List.map_cons, List.map_cons, eqvAll_cc, Bool.and_eq_true, Dat.eqv, eqvAll_dat l r, List.cons.injEq]
/-- a tuple of things of one kind -/
structure Tp (α : Type) where
  l : List α
  deriving DecidableEq
instance [Dat α] : Dat (Tp α) where
  enc t := .tup (t.l.map enc)
  dat t := .tuple (t.l.map Dat.dat)
  dep := Dat.dep α + 1
  td n S t := by
    rw [← Nat.add_assoc]
    exact toD_tup (mapO_map fun x _ => Dat.td n S x)
  eqv a b := by
    rw [eqv_tuple, eqvAll_dat]
    cases a; cases b; simp
  nl t := noLocs_map t.l
instance [Dat α] [Dat β] : Dat (α × β) where
  enc p := .tup [enc p.1, enc p.2]
  dat p := .tuple [Dat.dat p.1, Dat.dat p.2]
  dep := Dat.dep α + Dat.dep β + 1
  td n S p := by
    rw [← Nat.add_assoc]
    refine toD_tup ?_
    simp only [mapO, Dat.td' (n + (Dat.dep α + Dat.dep β)) (by omega) S p.1, Dat.td' (n + (Dat.dep α + Dat.dep β)) (by omega) S p.2]
  eqv a b := by
    rw [eqv_tuple, eqvAll_cc, eqvAll_cc, Bool.and_eq_true, Bool.and_eq_true, Dat.eqv, Dat.eqv, eqvAll_nil]
    obtain ⟨a1, a2⟩ := a; obtain ⟨b1, b2⟩ := b; simp
  nl p := by
    show (noLoc _ && (noLoc _ && true)) = true
    rw [Dat.nl, Dat.nl]
    rfl
/-- three ints -/
instance (priority := high) dat3 : Dat (Int × Int × Int) where
  enc p := .tup [.int p.1, .int p.2.1, .int p.2.2]
  dat p := .tuple [.int p.1, .int p.2.1, .int p.2.2]
  dep := 1
  td n S p := toD_tup (by simp [mapO])
  eqv a b := by
    obtain ⟨a1, a2, a3⟩ := a; obtain ⟨b1, b2, b3⟩ := b; simp
  nl p := rfl
/-! == of such things -/
variable {S : Sto} {neg : Bool}
theorem eqv_dec [Dat α] [DecidableEq α] (a b : α) : PyData.eqv (Dat.dat a) (Dat.dat b) = decide (a = b) := by
  by_cases h : a = b
  · rw [(Dat.eqv a b).mpr h, decide_eq_true h]
  · rw [decide_eq_false h, Bool.eq_false_iff]
    exact fun z => h ((Dat.eqv a b).mp z)
theorem eqvAll_dec [Dat α] [DecidableEq α] (a b : List α) : PyData.eqvAll (a.map Dat.dat) (b.map Dat.dat) = decide (a = b) := by
  by_cases h : a = b
  · rw [(eqvAll_dat a b).mpr h, decide_eq_true h]
  · rw [decide_eq_false h, Bool.eq_false_iff]
    exact fun z => h ((eqvAll_dat a b).mp z)
theorem eq_dat [Dat α] [DecidableEq α] (a b : α) (h : Dat.dep α ≤ 60 := by decide) : gEqN neg (enc a) (enc b) S = some (.ok (.bl (if neg then !decide (a = b) else decide (a = b))) S) := by
  rw [ev_eq (Dat.td' 60 h S a) (Dat.td' 60 h S b), eqv_dec]
/-- two lists of one kind -/
theorem eq_lists [Dat α] [DecidableEq α] {j k : Nat} {l r : List α} (h1 : S[j]? = some (.lst (l.map enc))) (h2 : S[k]? = some (.lst (r.map enc))) (h : Dat.dep α ≤ 59 := by decide) :
    gEqN neg (.loc j) (.loc k) S = some (.ok (.bl (if neg then !decide (l = r) else decide (l = r))) S) := by
  rw [ev_eq (toD_lst (n := 59) h1 (mapO_map fun x _ => Dat.td' 59 h S x)) (toD_lst (n := 59) h2 (mapO_map fun x _ => Dat.td' 59 h S x)), eqv_list, eqvAll_dec]
end
end D

/-! E4: evaluation lemmas for D16. -/
namespace D
open PySem PySem.Spec PyProof.Rows L2
section
variable {ρ : En} {S : Sto}
@[simp] theorem ev_rev (a : DE) (st : DO) : dRev a st ρ S = bR (a ρ S) fun x S1 => bR (st ρ S1) fun l S2 => gRev x l S2 := (rfl)
theorem ev_revL {k : Nat} {l : List PV} (h : S[k]? = some (.lst l)) : gRev (.loc k) (some (-1)) S = some (.ok (.loc S.length) (S ++ [.lst l.reverse])) := by unfold gRev; simp [h]
end
end D

namespace G
open PySem PySem.Spec PyProof.Rows L2 D
noncomputable def b__law_pick : DS := (dRet (dOp2 gMod (dOpA gInt (dCons (dOp2 gIx (dVar 0) (dOp2 gMod (dVar 1) (dOpA gLen (dCons (dVar 0) dNil)))) dNil)) (dVar 2)))
noncomputable def F__law_pick : DF := dDef 3 3 b__law_pick
noncomputable def l_is_closed_days_1 : DS := (dSeq (dIfS (dCmp gGt (dVar 2) (dVar 3)) (dRet (dC (.bl false))) dPass) (dSeq (dIfS (dAndT (dCmp gIsNot (dVar 1) (dC .non)) (dCmp gLt (dVar 2) (dOp2 gAdd (dVar 1) (dC (.int 2))))) (dRet (dC (.bl false))) dPass) (dSet 1 (dVar 3))))
noncomputable def b_is_closed_days : DS := (dSeq (dSet 1 (dC .non)) (dSeq (dFor (dSeqI (dVar 0)) (gT 2 (gsCons (gN 2) (gsCons (gN 3) gsNil))) [2, 3] l_is_closed_days_1) (dRet (dC (.bl true)))))
noncomputable def F_is_closed_days : DF := dDef 1 4 b_is_closed_days

/-- the number that is picked -/
def pick (ns : List Int) (a m : Int) : Int := (ns.getD (a % (ns.length : Int)).toNat 0) % m
theorem pick_lt (ns : List Int) (a : Int) {m : Int} (h : 0 < m) : 0 ≤ pick ns a m ∧ pick ns a m < m := ⟨Int.emod_nonneg _ (by omega), Int.emod_lt_of_pos _ h⟩
theorem pick_spec {S : Sto} {k : Nat} {ns : List Int} {a m : Int} (h : S[k]? = some (.lst (intsP ns))) (hn : ns ≠ []) (hm : 0 < m) : F__law_pick [.loc k, .int a, .int m] S = some (.ok (.int (pick ns a m)) S) := by
  have hl : 0 < (ns.length : Int) := by
    cases ns with
    | nil => exact absurd rfl hn
    | cons _ _ => simp
  have h1 := Int.emod_nonneg a (show (ns.length : Int) ≠ 0 by omega)
  have h2 := Int.emod_lt_of_pos a hl
  have hx := ints_at h1 h2
  refine call_val0 ?_ rfl
  simp [b__law_pick, ev_lenL h, ev_mod hl, ev_ixL h hx, ev_mod hm, pick]
/-- the one form -/
def formB : Option Int → List (Int × Int) → Bool
  | _, [] => true
  | b, p :: r => if p.1 > p.2 then false else if (match b with | some b => decide (p.1 < b + 2) | none => false) = true then false else formB (some p.2) r
def optP : Option Int → PV
  | none => .non
  | some i => .int i
theorem icd_loop {S : Sto} {q : PV} : ∀ (l : List (Int × Int)) (b : Option Int), (∃ b', forL (gT 2 (gsCons (gN 2) (gsCons (gN 3) gsNil))) [2, 3] l_is_closed_days_1 [] (pairsP l) [some q, some (optP b), none, none] S = (if formB b l = true then some (.next [some q, some (optP b'), none, none] S) else some (.ret (.bl false) S)))
  | [], b => ⟨b, by rw [pairsP_nil, forL_nil (by simp)]; rfl⟩
  | p :: r, b => by
    obtain ⟨b', ih⟩ := icd_loop (S := S) (q := q) r (some p.2)
    refine ⟨b', ?_⟩
    rw [pairsP_cons, forL_cons (by simp)]
    unfold formB
    by_cases h1 : p.2 < p.1
    · simp [pairP, l_is_closed_days_1, h1]
    · cases b with
      | none =>
        simp [pairP, l_is_closed_days_1, h1, optP] at ih ⊢
        exact ih
      | some b =>
        by_cases h2 : p.1 < b + 2
        · simp [pairP, l_is_closed_days_1, h1, optP, h2]
        · simp [pairP, l_is_closed_days_1, h1, optP, h2] at ih ⊢
          exact ih
theorem icd_spec {S : Sto} {l : List (Int × Int)} : F_is_closed_days [.tup (pairsP l)] S = some (.ok (.bl (formB none l)) S) := by
  obtain ⟨b', h⟩ := icd_loop (S := S) (q := .tup (pairsP l)) l none
  refine call_val0 ?_ rfl
  simp [b_is_closed_days, optP] at h ⊢
  rw [h]
  cases formB none l <;> simp
end G

namespace G
open PySem PySem.Spec PyProof.Rows L2 D
noncomputable def l__law_stream_1 : DS := (dSeq (dExpr (dMeth "list" gAppend (dVar 1) (dCons (dOp2 gMod (dOpA gInt (dCons (dVar 3) dNil)) (dC (.int 1009))) dNil))) (dSeq (dSet 3 (dOp2 gDiv (dVar 3) (dC (.int 1009)))) (dIfS (dCmp gEq (dVar 3) (dC (.int 0))) dBrk dPass)))
noncomputable def l__law_stream_2 : DS := (dSeq (dSet 5 (dOp2 gMod (dOpA gInt (dCons (dOp2 gAdd (dOp2 gAdd (dOp2 gMul (dVar 5) (dC (.int 48271))) (dOp2 gMul (dC (.int 7)) (dVar 4))) (dC (.int 11))) dNil)) (dC (.int 2147483647)))) (dExpr (dMeth "list" gAppend (dVar 1) (dCons (dOp2 gMod (dOp2 gMod (dOpA gInt (dCons (dOp2 gAdd (dOp2 gMul (dVar 5) (dC (.int 69621))) (dVar 4)) dNil)) (dC (.int 2147483629))) (dC (.int 1009))) dNil))))
noncomputable def l__law_stream_3 : DS := (dSeq (dSet 3 (dOpA gInt (dCons (dVar 2) dNil))) (dIfS (dCmp gGe (dVar 3) (dOp2 gPow (dC (.int 10)) (dC (.int 18)))) (dFor (dRng1 (dCons (dC (.int 60)) dNil)) (gN 4) [4] l__law_stream_1) (dSeq (dSet 5 (dOp2 gMod (dOpA gInt (dCons (dVar 3) dNil)) (dC (.int 2147483647)))) (dFor (dRng1 (dCons (dC (.int 10)) dNil)) (gN 4) [4] l__law_stream_2))))
noncomputable def b__law_stream : DS := (dSeq (dSet 1 (dLst dNil)) (dSeq (dFor (dSeqI (dSl (dVar 0) dNoPart (dPart (dC (.int 63))))) (gN 2) [2, 3, 4, 5] l__law_stream_3) (dSeq (dIfS (dCmp gEq (dOpA gLen (dCons (dVar 1) dNil)) (dC (.int 0))) (dExpr (dMeth "list" gAppend (dVar 1) (dCons (dC (.int 0)) dNil))) dPass) (dRet (dVar 1)))))
noncomputable def F__law_stream : DF := dDef 1 6 b__law_stream

/-- numbers of a stream -/
def Good (ns : List Int) : Prop := ∀ n ∈ ns, 0 ≤ n ∧ n < 1009
theorem Good.snoc {ns : List Int} {i : Int} (h : Good ns) (h0 : 0 ≤ i) (h1 : i < 1009) : Good (ns ++ [i]) := fun n hn => by
  rcases List.mem_append.mp hn with q | q
  · exact h n q
  · rw [List.mem_singleton] at q
    subst q
    exact ⟨h0, h1⟩
theorem stream1 {S T : Sto} {q c z : Option PV} : ∀ (l : List Int) (ns : List Int) (r : Int), Good ns → ns.length + l.length ≤ 4000 → ∃ ns' r', Good ns' ∧ ns'.length ≤ ns.length + l.length ∧
    forL (gN 4) [4] l__law_stream_1 [] (intsP l) [q, some (.loc S.length), c, some (.int r), none, z] (S ++ .lst (intsP ns) :: T) = some (.next [q, some (.loc S.length), c, some (.int r'), none, z] (S ++ .lst (intsP ns') :: T))
  | [], ns, r, g, hl => ⟨ns, r, g, by simp, by rw [intsP_nil, forL_nil (by simp)]⟩
  | i :: l, ns, r, g, hl => by
    rw [List.length_cons] at hl
    have h0 := Int.emod_nonneg r (show (1009 : Int) ≠ 0 by omega)
    have h1 := Int.emod_lt_of_pos r (show (0 : Int) < 1009 by omega)
    have hap : gAppend (.loc S.length) [.int (r % 1009)] (S ++ .lst (intsP ns) :: T) = some (.ok .non (S ++ .lst (intsP (ns ++ [r % 1009])) :: T)) := by
      rw [ev_append at_0 (by rw [intsP_len]; omega), put_0, intsP_snoc]
    have hty := ev_tyL (at_0 (S := S) (T := T) (o := .lst (intsP ns)))  
    rw [intsP_cons, forL_cons (by simp)]
    by_cases hz : r / 1009 = 0
    · refine ⟨ns ++ [r % 1009], r / 1009, g.snoc h0 h1, by simp, ?_⟩
      simp [l__law_stream_1, hty, hap, ev_mod (show (0 : Int) < 1009 by omega), ev_div (show (0 : Int) < 1009 ∧ (1009 : Int) < 1073741824 by omega), hz]
    · obtain ⟨ns', r', g', hl', ih⟩ := stream1 (S := S) (T := T) (q := q) (c := c) (z := z) l (ns ++ [r % 1009]) (r / 1009) (g.snoc h0 h1) (by simp; omega)
      refine ⟨ns', r', g', by simp at hl' ⊢; omega, ?_⟩
      simp [l__law_stream_1, hty, hap, ev_mod (show (0 : Int) < 1009 by omega), ev_div (show (0 : Int) < 1009 ∧ (1009 : Int) < 1073741824 by omega), hz]
      exact ih
theorem stream2 {S T : Sto} {q c z : Option PV} : ∀ (l : List Int) (ns : List Int) (r : Int), Good ns → ns.length + l.length ≤ 4000 → ∃ ns' r', Good ns' ∧ ns'.length ≤ ns.length + l.length ∧
    forL (gN 4) [4] l__law_stream_2 [] (intsP l) [q, some (.loc S.length), c, z, none, some (.int r)] (S ++ .lst (intsP ns) :: T) = some (.next [q, some (.loc S.length), c, z, none, some (.int r')] (S ++ .lst (intsP ns') :: T))
  | [], ns, r, g, hl => ⟨ns, r, g, by simp, by rw [intsP_nil, forL_nil (by simp)]⟩
  | i :: l, ns, r, g, hl => by
    rw [List.length_cons] at hl
    generalize hm : (r * 48271 + 7 * i + 11) % 2147483647 = m
    generalize hv : (m * 69621 + i) % 2147483629 % 1009 = v
    have h0 : 0 ≤ v := by rw [← hv]; exact Int.emod_nonneg _ (by omega)
    have h1 : v < 1009 := by rw [← hv]; exact Int.emod_lt_of_pos _ (by omega)
    have hap : gAppend (.loc S.length) [.int v] (S ++ .lst (intsP ns) :: T) = some (.ok .non (S ++ .lst (intsP (ns ++ [v])) :: T)) := by
      rw [ev_append at_0 (by rw [intsP_len]; omega), put_0, intsP_snoc]
    have hty := ev_tyL (at_0 (S := S) (T := T) (o := .lst (intsP ns)))
    obtain ⟨ns', r', g', hl', ih⟩ := stream2 (S := S) (T := T) (q := q) (c := c) (z := z) l (ns ++ [v]) m (g.snoc h0 h1) (by simp; omega)
    refine ⟨ns', r', g', by simp at hl' ⊢; omega, ?_⟩
    rw [intsP_cons, forL_cons (by simp)]
    simp [l__law_stream_2, hty, ev_mulR (show -(2 ^ 64) < (48271 : Int) ∧ (48271 : Int) < 2 ^ 64 by omega), ev_mulR (show -(2 ^ 64) < (69621 : Int) ∧ (69621 : Int) < 2 ^ 64 by omega), ev_mulL (show -(2 ^ 64) < (7 : Int) ∧ (7 : Int) < 2 ^ 64 by omega),
      ev_mod (show (0 : Int) < 2147483647 by omega), ev_mod (show (0 : Int) < 2147483629 by omega), ev_mod (show (0 : Int) < 1009 by omega), hm, hv, hap]
    exact ih
theorem range_ints (lo : Int) (n : Nat) : rangeP lo n = intsP ((List.range n).map fun i : Nat => lo + (i : Int)) := by
  unfold rangeP intsP
  rw [List.map_map]
  rfl
theorem stream3 {S : Sto} {q : Option PV} {sl : List PV} : ∀ (l : List Int) (ns : List Int), Good ns → ns.length + 60 * l.length ≤ 4000 → ∃ ns', Good ns' ∧ ns'.length ≤ ns.length + 60 * l.length ∧
    forL (gN 2) [2, 3, 4, 5] l__law_stream_3 [(S.length + 1, .lst sl)] (intsP l) [q, some (.loc S.length), none, none, none, none] (S ++ [.lst (intsP ns), .lst sl]) = some (.next [q, some (.loc S.length), none, none, none, none] (S ++ [.lst (intsP ns'), .lst sl]))
  | [], ns, g, hl => ⟨ns, g, by simp, by rw [intsP_nil, forL_nil (by simp)]⟩
  | i :: l, ns, g, hl => by
    rw [List.length_cons] at hl
    rw [intsP_cons, forL_cons (by simp)]
    have hp : (10 : Int) ^ 18 = 1000000000000000000 := by decide
    by_cases hc : 1000000000000000000 ≤ i
    · obtain ⟨n1, r1, g1, l1, e1⟩ := stream1 (S := S) (T := [.lst sl]) (q := q) (c := some (.int i)) (z := none) ((List.range 60).map fun i : Nat => (0 : Int) + (i : Int)) ns i g (by simp; omega)
      obtain ⟨n2, g2, l2, e2⟩ := stream3 (S := S) (q := q) (sl := sl) l n1 g1 (by simp at l1; omega)
      refine ⟨n2, g2, by simp at l1; rw [List.length_cons]; omega, ?_⟩
      rw [← range_ints] at e1
      simp [l__law_stream_3, ev_pow (show CPowD 10 18 by unfold CPowD; decide), hp, hc, e1]
      exact e2
    · obtain ⟨n1, r1, g1, l1, e1⟩ := stream2 (S := S) (T := [.lst sl]) (q := q) (c := some (.int i)) (z := some (.int i)) ((List.range 10).map fun i : Nat => (0 : Int) + (i : Int)) ns (i % 2147483647) g (by simp; omega)
      obtain ⟨n2, g2, l2, e2⟩ := stream3 (S := S) (q := q) (sl := sl) l n1 g1 (by simp at l1; omega)
      refine ⟨n2, g2, by simp at l1; rw [List.length_cons]; omega, ?_⟩
      rw [← range_ints] at e1
      simp [l__law_stream_3, ev_pow (show CPowD 10 18 by unfold CPowD; decide), hp, hc, ev_mod (show (0 : Int) < 2147483647 by omega), e1]
      exact e2
theorem stream_spec {S : Sto} {k : Nat} {ns : List Int} (h : S[k]? = some (.fz (intsP ns))) : ∃ l, l ≠ [] ∧ Good l ∧ l.length ≤ 4000 ∧ F__law_stream [.loc k] S = some (.ok (.loc S.length) (S ++ [.lst (intsP l)])) := by
  have hc : cutP (intsP ns) none (some 63) = intsP (ns.take 63) := by
    rw [cut_to (by omega)]
    unfold intsP
    rw [List.map_take]
    rfl
  obtain ⟨n2, g2, l2, e2⟩ := stream3 (S := S) (q := some (.loc k)) (sl := intsP (ns.take 63)) (ns.take 63) [] (fun n hn => by cases hn) (by rw [List.length_take]; simp; omega)
  have hsl : gSl (.loc k) none (some 63) (S ++ [.lst []]) = some (.ok (.loc (S.length + 1)) (S ++ [.lst [], .lst (intsP (ns.take 63))])) := by
    rw [ev_gSlF (at_old h), hc]
    simp
  by_cases he : n2 = []
  · subst he
    refine ⟨[0], by simp, fun n hn => by simp at hn; subst hn; omega, by simp, ?_⟩
    refine call_new (T := [.lst (intsP [0]), .lst (intsP (ns.take 63))]) (l := intsP [0]) (j := S.length) ?_ at_0 (Nat.le_refl _) (noLocs_ints _)
    simp at e2
    simp [b__law_stream, hsl, e2]
    simp [ev_lenL (at_0 (S := S) (T := [.lst (intsP (ns.take 63))]) (o := .lst [])), ev_tyL (at_0 (S := S) (T := [.lst (intsP (ns.take 63))]) (o := .lst [])), ev_append (at_0 (S := S) (T := [.lst (intsP (ns.take 63))]) (o := .lst []))]
  · refine ⟨n2, he, g2, by rw [List.length_take] at l2; simp at l2; omega, ?_⟩
    refine call_new (T := [.lst (intsP n2), .lst (intsP (ns.take 63))]) (l := intsP n2) (j := S.length) ?_ at_0 (Nat.le_refl _) (noLocs_ints _)
    have hn : ¬ ((n2.length : Int) = 0) := by
      cases n2 with
      | nil => exact absurd rfl he
      | cons a b => simp; omega
    simp at e2
    simp [b__law_stream, hsl, e2]
    simp [ev_lenL (at_0 (S := S) (T := [.lst (intsP (ns.take 63))]) (o := .lst (intsP n2))), he]
end G

namespace G
open PySem PySem.Spec PyProof.Rows L2 D
noncomputable def l__law_numbers_1 : DS := (dIfS (dAndT (dCmp gGt (dVar 4) (dC (.int 0))) (dCmp gLt (dOpA gLen (dCons (dVar 2) dNil)) (dVar 1))) (dSeq (dExpr (dMeth "list" gAppend (dVar 2) (dCons (dOp2 gMod (dVar 4) (dC (.int 10007))) dNil))) (dSet 4 (dOp2 gDiv (dVar 4) (dC (.int 10007))))) dPass)
noncomputable def l__law_numbers_2 : DS := (dSeq (dSet 4 (dOpA gAbs (dCons (dOpA gInt (dCons (dOp2 gIx (dVar 0) (dVar 3)) dNil)) dNil))) (dIfS (dCmp gGe (dVar 4) (dOp2 gPow (dC (.int 10)) (dC (.int 18)))) (dFor (dRng1 (dCons (dC (.int 60)) dNil)) (gN 5) [5] l__law_numbers_1) (dIfS (dCmp gLt (dOpA gLen (dCons (dVar 2) dNil)) (dVar 1)) (dSeq (dSet 6 (dOp2 gMod (dOpA gInt (dCons (dOp2 gAdd (dOp2 gAdd (dOp2 gMul (dVar 4) (dC (.int 48271))) (dOp2 gMul (dVar 3) (dC (.int 69621)))) (dC (.int 11))) dNil)) (dC (.int 2147483647)))) (dExpr (dMeth "list" gAppend (dVar 2) (dCons (dOp2 gDiv (dOp2 gMod (dOpA gInt (dCons (dOp2 gAdd (dOp2 gAdd (dOp2 gMul (dVar 6) (dC (.int 16807))) (dOp2 gMul (dC (.int 7)) (dVar 3))) (dC (.int 3))) dNil)) (dC (.int 2147483647))) (dC (.int 3))) dNil)))) dPass)))
noncomputable def l__law_numbers_3 : DS := (dSeq (dIfS (dCmp gGt (dVar 7) (dC (.int 0))) (dSet 8 (dOp2 gAdd (dVar 8) (dOp2 gIx (dVar 2) (dOp2 gMod (dVar 3) (dVar 7))))) dPass) (dSeq (dSet 8 (dOp2 gMod (dOpA gInt (dCons (dOp2 gAdd (dOp2 gMul (dVar 8) (dC (.int 48271))) (dVar 3)) dNil)) (dC (.int 2147483647)))) (dExpr (dMeth "list" gAppend (dVar 2) (dCons (dOp2 gDiv (dVar 8) (dC (.int 7))) dNil)))))
noncomputable def b__law_numbers : DS := (dSeq (dSet 2 (dLst dNil)) (dSeq (dFor (dRng1 (dCons (dOpA gLen (dCons (dVar 0) dNil)) dNil)) (gN 3) [3, 4, 5, 6] l__law_numbers_2) (dSeq (dSet 7 (dOpA gLen (dCons (dVar 2) dNil))) (dSeq (dSet 8 (dOp2 gAdd (dC (.int 5381)) (dOpA gLen (dCons (dVar 0) dNil)))) (dSeq (dFor (dRng1 (dCons (dOpA gMax2 (dCons (dC (.int 0)) (dCons (dOp2 gSub (dVar 1) (dVar 7)) dNil))) dNil)) (gN 3) [3] l__law_numbers_3) (dRet (dSl (dVar 2) dNoPart (dPart (dVar 1)))))))))
noncomputable def F__law_numbers : DF := dDef 2 9 b__law_numbers
/-- numbers of a law, none below 0 -/
def Nn (ns : List Int) : Prop := ∀ n ∈ ns, 0 ≤ n
theorem Nn.snoc {ns : List Int} {i : Int} (h : Nn ns) (h0 : 0 ≤ i) : Nn (ns ++ [i]) := fun n hn => by
  rcases List.mem_append.mp hn with q | q
  · exact h n q
  · rw [List.mem_singleton] at q
    subst q
    exact h0
section
variable {S : Sto} {q : Option PV} {many : Int}
theorem nb_ap (ns : List Int) (v : Int) (h : ns.length ≤ 100000) : gAppend (.loc S.length) [.int v] (S ++ [.lst (intsP ns)]) = some (.ok .non (S ++ [.lst (intsP (ns ++ [v]))])) := by
  rw [ev_append at_0 (by rw [intsP_len]; omega), put_0, intsP_snoc]
theorem nb_ty (ns : List Int) : tyP "list" (.loc S.length) (S ++ [.lst (intsP ns)]) = true := ev_tyL at_0
theorem nb_len (ns : List Int) : gLen [.loc S.length] (S ++ [.lst (intsP ns)]) = some (.ok (.int (ns.length : Int)) (S ++ [.lst (intsP ns)])) := by
  rw [ev_lenL (l := intsP ns) at_0, intsP_len]
theorem nb1 (hm : many ≤ 4000) {k z1 z2 z3 : Option PV} : ∀ (l ns : List Int) (c : Int), Nn ns → ns.length ≤ many → ∃ ns' c', Nn ns' ∧ ns'.length ≤ many ∧
    forL (gN 5) [5] l__law_numbers_1 [] (intsP l) [q, some (.int many), some (.loc S.length), k, some (.int c), none, z1, z2, z3] (S ++ [.lst (intsP ns)]) = some (.next [q, some (.int many), some (.loc S.length), k, some (.int c'), none, z1, z2, z3] (S ++ [.lst (intsP ns')]))
  | [], ns, c, g, hl => ⟨ns, c, g, hl, by rw [intsP_nil, forL_nil (by simp)]⟩
  | i :: l, ns, c, g, hl => by
    have e7 := ev_mod (S := S ++ [.lst (intsP ns)]) (i := c) (j := 10007) (by omega)
    have e8 := fun S => ev_div (S := S) (i := c) (j := 10007) (by omega)
    rw [intsP_cons]
    by_cases h1 : 0 < c
    · by_cases h2 : (ns.length : Int) < many
      · obtain ⟨ns', c', g', hl', ih⟩ := nb1 hm (k := k) (z1 := z1) (z2 := z2) (z3 := z3) l (ns ++ [c % 10007]) (c / 10007) (g.snoc (Int.emod_nonneg _ (by omega))) (by simp; omega)
        refine ⟨ns', c', g', hl', ?_⟩
        rw [forL_cons (by simp)]
        simp [l__law_numbers_1, h1, h2, nb_len, nb_ty, nb_ap ns _ (by omega), e7, e8]
        exact ih
      · obtain ⟨ns', c', g', hl', ih⟩ := nb1 hm (k := k) (z1 := z1) (z2 := z2) (z3 := z3) l ns c g hl
        refine ⟨ns', c', g', hl', ?_⟩
        rw [forL_cons (by simp)]
        simp [l__law_numbers_1, h1, h2, nb_len]
        exact ih
    · obtain ⟨ns', c', g', hl', ih⟩ := nb1 hm (k := k) (z1 := z1) (z2 := z2) (z3 := z3) l ns c g hl
      refine ⟨ns', c', g', hl', ?_⟩
      rw [forL_cons (by simp)]
      simp [l__law_numbers_1, h1]
      exact ih
theorem nb2 (hm : many ≤ 4000) {sc : List Int} {k : Nat} (hk : S[k]? = some (.fz (intsP sc))) {z2 z3 : Option PV} : ∀ (l ns : List Int), (∀ i ∈ l, 0 ≤ i ∧ i < sc.length) → Nn ns → ns.length ≤ many → ∃ ns', Nn ns' ∧ ns'.length ≤ many ∧
    forL (gN 3) [3, 4, 5, 6] l__law_numbers_2 [] (intsP l) [some (.loc k), some (.int many), some (.loc S.length), none, none, none, none, z2, z3] (S ++ [.lst (intsP ns)]) = some (.next [some (.loc k), some (.int many), some (.loc S.length), none, none, none, none, z2, z3] (S ++ [.lst (intsP ns')]))
  | [], ns, _, g, hl => ⟨ns, g, hl, by rw [intsP_nil, forL_nil (by simp)]⟩
  | i :: l, ns, hi, g, hl => by
    obtain ⟨i0, i1⟩ := hi i List.mem_cons_self
    have hx : gIx (.loc k) (.int i) (S ++ [.lst (intsP ns)]) = some (.ok (.int (sc.getD i.toNat 0)) (S ++ [.lst (intsP ns)])) := by
      have h1 : (S ++ [.lst (intsP ns)])[k]? = some (.fz (intsP sc)) := at_old hk
      unfold gIx
      dsimp only
      rw [h1]
      dsimp only
      rw [ints_at i0 i1]
    generalize sc.getD i.toNat 0 = v at hx
    generalize hc : (if v < 0 then -v else v) = c
    have hp : (10 : Int) ^ 18 = 1000000000000000000 := by decide
    have ep := fun S => ev_pow (S := S) (show CPowD 10 18 by unfold CPowD; decide)
    rw [intsP_cons]
    by_cases h1 : 1000000000000000000 ≤ c
    · obtain ⟨n1, c1, g1, l1, e1⟩ := nb1 (S := S) (q := some (.loc k)) hm (k := some (.int i)) (z1 := none) (z2 := z2) (z3 := z3) ((List.range 60).map fun i : Nat => (0 : Int) + (i : Int)) ns c g hl
      rw [← range_ints] at e1
      obtain ⟨n2, g2, l2, e2⟩ := nb2 hm hk (z2 := z2) (z3 := z3) l n1 (fun j hj => hi j (List.mem_cons_of_mem _ hj)) g1 l1
      refine ⟨n2, g2, l2, ?_⟩
      rw [forL_cons (by simp)]
      simp [l__law_numbers_2, hx, hc, ep, hp, h1, e1]
      exact e2
    · by_cases h2 : (ns.length : Int) < many
      · generalize hw : (c * 48271 + i * 69621 + 11) % 2147483647 = w
        generalize hv : (w * 16807 + 7 * i + 3) % 2147483647 / 3 = u
        have h0 : 0 ≤ (w * 16807 + 7 * i + 3) % 2147483647 := Int.emod_nonneg _ (by omega)
        obtain ⟨n2, g2, l2, e2⟩ := nb2 hm hk (z2 := z2) (z3 := z3) l (ns ++ [u]) (fun j hj => hi j (List.mem_cons_of_mem _ hj)) (g.snoc (by omega)) (by simp; omega)
        refine ⟨n2, g2, l2, ?_⟩
        have m1 := fun S x => ev_mulR (S := S) (i := x) (j := 48271) (by omega)
        have m2 := fun S x => ev_mulR (S := S) (i := x) (j := 69621) (by omega)
        have m3 := fun S x => ev_mulR (S := S) (i := x) (j := 16807) (by omega)
        have m4 := fun S x => ev_mulL (S := S) (i := 7) (j := x) (by omega)
        have d1 := fun S x => ev_mod (S := S) (i := x) (j := 2147483647) (by omega)
        have d2 := fun S x => ev_div (S := S) (i := x) (j := 3) (by omega)
        rw [forL_cons (by simp)]
        simp [l__law_numbers_2, hx, hc, ep, hp, h1, nb_len, h2, m1, m2, m3, m4, d1, d2, hw, hv, nb_ty, nb_ap ns _ (by omega)]
        exact e2
      · obtain ⟨n2, g2, l2, e2⟩ := nb2 hm hk (z2 := z2) (z3 := z3) l ns (fun j hj => hi j (List.mem_cons_of_mem _ hj)) g hl
        refine ⟨n2, g2, l2, ?_⟩
        rw [forL_cons (by simp)]
        simp [l__law_numbers_2, hx, hc, ep, hp, h1, nb_len, h2]
        exact e2
theorem nb3 {base : Int} {z4 z5 z6 : Option PV} : ∀ (l ns : List Int) (last : Int), (∀ i ∈ l, 0 ≤ i) → Nn ns → 0 ≤ base → base ≤ ns.length → ns.length + l.length ≤ 4000 → ∃ ns' last', Nn ns' ∧ ns'.length = ns.length + l.length ∧
    forL (gN 3) [3] l__law_numbers_3 [] (intsP l) [q, some (.int many), some (.loc S.length), none, z4, z5, z6, some (.int base), some (.int last)] (S ++ [.lst (intsP ns)]) = some (.next [q, some (.int many), some (.loc S.length), none, z4, z5, z6, some (.int base), some (.int last')] (S ++ [.lst (intsP ns')]))
  | [], ns, last, _, g, _, _, _ => ⟨ns, last, g, by simp, by rw [intsP_nil, forL_nil (by simp)]⟩
  | i :: l, ns, last, hi, g, hb0, hb, hl => by
    rw [List.length_cons] at hl
    have m1 := fun S x => ev_mulR (S := S) (i := x) (j := 48271) (by omega)
    have d1 := fun S x => ev_mod (S := S) (i := x) (j := 2147483647) (by omega)
    have d2 := fun S x => ev_div (S := S) (i := x) (j := 7) (by omega)
    rw [intsP_cons]
    by_cases h1 : 0 < base
    · have b1 := Int.emod_nonneg i (show base ≠ 0 by omega)
      have b2 := Int.emod_lt_of_pos i h1
      have d3 := ev_mod (S := S ++ [.lst (intsP ns)]) (i := i) h1
      have hx := ev_ixL (S := S ++ [.lst (intsP ns)]) (k := S.length) at_0 (ints_at (l := ns) b1 (by omega))
      generalize ns.getD (i % base).toNat 0 = v at hx
      generalize hw : ((last + v) * 48271 + i) % 2147483647 = w
      have h0 : 0 ≤ w := by rw [← hw]; exact Int.emod_nonneg _ (by omega)
      obtain ⟨ns', last', g', l', ih⟩ := nb3 (z4 := z4) (z5 := z5) (z6 := z6) l (ns ++ [w / 7]) w (fun j hj => hi j (List.mem_cons_of_mem _ hj)) (g.snoc (by omega)) hb0 (by simp; omega) (by simp; omega)
      refine ⟨ns', last', g', by rw [l']; simp; omega, ?_⟩
      rw [forL_cons (by simp)]
      simp [l__law_numbers_3, h1, d3, hx, m1, d1, hw, d2, nb_ty, nb_ap ns _ (by omega)]
      exact ih
    · generalize hw : (last * 48271 + i) % 2147483647 = w
      have h0 : 0 ≤ w := by rw [← hw]; exact Int.emod_nonneg _ (by omega)
      obtain ⟨ns', last', g', l', ih⟩ := nb3 (z4 := z4) (z5 := z5) (z6 := z6) l (ns ++ [w / 7]) w (fun j hj => hi j (List.mem_cons_of_mem _ hj)) (g.snoc (by omega)) hb0 (by simp; omega) (by simp; omega)
      refine ⟨ns', last', g', by rw [l']; simp; omega, ?_⟩
      rw [forL_cons (by simp)]
      simp [l__law_numbers_3, h1, m1, d1, hw, d2, nb_ty, nb_ap ns _ (by omega)]
      exact ih
end
theorem numbers_spec {S : Sto} {k : Nat} {sc : List Int} (hk : S[k]? = some (.fz (intsP sc))) {many : Int} (h0 : 0 ≤ many) (hm : many ≤ 1000) : ∃ ns : List Int, Nn ns ∧ (ns.length : Int) = many ∧ F__law_numbers [.loc k, .int many] S = some (.ok (.loc S.length) (S ++ [.lst (intsP ns)])) := by
  obtain ⟨n1, g1, l1, e1⟩ := nb2 (S := S) (many := many) (by omega) hk (z2 := none) (z3 := none) ((List.range sc.length).map fun i : Nat => (0 : Int) + (i : Int)) [] (fun i hi => by
    obtain ⟨j, hj, rfl⟩ := List.mem_map.mp hi
    rw [List.mem_range] at hj
    omega) (fun n hn => by cases hn) (by simpa using h0)
  rw [← range_ints, intsP_nil] at e1
  obtain ⟨n2, last, g2, l2, e2⟩ := nb3 (S := S) (q := some (.loc k)) (many := many) (base := n1.length) (z4 := none) (z5 := none) (z6 := none) ((List.range (many - n1.length).toNat).map fun i : Nat => (0 : Int) + (i : Int)) n1 (5381 + sc.length) (fun i hi => by
    obtain ⟨j, hj, rfl⟩ := List.mem_map.mp hi
    omega) g1 (by omega) (by omega) (by simp; omega)
  rw [← range_ints] at e2
  have hl2 : (n2.length : Int) = many := by rw [l2]; simp; omega
  have hcut : cutP (intsP n2) none (some many) = intsP n2 := by
    rw [cut_to h0, List.take_of_length_le (by rw [intsP_len]; omega)]
  refine ⟨n2, g2, hl2, ?_⟩
  have sl : gSl (.loc S.length) none (some many) (S ++ [.lst (intsP n2)]) = some (.ok (.loc (S.length + 1)) (S ++ [.lst (intsP n2), .lst (intsP n2)])) := by
    rw [ev_gSlL at_0, hcut]
    simp
  have lf : ∀ T, gLen [.loc k] (S ++ T) = some (.ok (.int (sc.length : Int)) (S ++ T)) := fun T => by
    rw [ev_lenF (l := intsP sc) (at_old hk), intsP_len]
  refine call_new (j := S.length + 1) (l := intsP n2) (T := [.lst (intsP n2), .lst (intsP n2)]) ?_ at_1 (by omega) (noLocs_ints _)
  have hmx : ∀ x : Int, (if x > 0 then x else 0).toNat = x.toNat := fun x => by split <;> omega
  have ltn : ((sc.length : Int)).toNat = sc.length := by omega
  simp only [b__law_numbers, ev_seq, ev_set, ev_lst, ev_nil, ev_bR_ok, ev_lst0, ev_bS_ok, ev_bN_next, List.map_cons, List.map_nil, List.cons_append, List.nil_append, List.replicate, Nat.reduceSub, List.set_cons_succ, List.set_cons_zero, ev_for, ev_rng1, ev_cons, ev_opA, ev_var, List.getElem?_cons_succ, List.getElem?_cons_zero, lf, ltn, ev_killC, ev_killN, e1, nb_len, ev_op2, ev_c, ev_addI, ev_sub, ev_max2, hmx, e2, ev_ret, ev_sl, ev_noPart, ev_part, sl]
end G

namespace G
open PySem PySem.Spec PyProof.Rows L2 D
noncomputable def b_check_point : DS := (dIfS (dOrT (dCmp gLt (dVar 1) (dC (.int 0))) (dCmp gGe (dVar 1) (dVar 0))) (dRaise "NotAllowed") dPass)
noncomputable def F_check_point : DF := dDef 2 2 b_check_point
noncomputable def b_check_points : DS := (dIfS (dOrT (dCmp gLt (dVar 0) (dC (.int 1))) (dCmp gGt (dVar 0) (dC (.int 80)))) (dRaise "NotAllowed") dPass)
noncomputable def F_check_points : DF := dDef 1 1 b_check_points
noncomputable def l_check_literals_1 : DS := (dSeq (dExpr (dOpA F_check_point (dCons (dVar 0) (dCons (dVar 2) dNil)))) (dExpr (dOpA F_check_point (dCons (dVar 0) (dCons (dVar 3) dNil)))))
noncomputable def b_check_literals : DS := (dSeq (dExpr (dOpA F_check_points (dCons (dVar 0) dNil))) (dFor (dSeqI (dVar 1)) (gT 3 (gsCons (gN 2) (gsCons (gN 3) (gsCons (gN 4) gsNil)))) [2, 3, 4] l_check_literals_1))
noncomputable def F_check_literals : DF := dDef 2 5 b_check_literals
noncomputable def b_is_ring : DS := (dSeq (dIfS (dOrT (dCmp gEq (dOpA gLen (dCons (dVar 0) dNil)) (dC (.int 0))) (dCmp gGe (dOpA gSumL (dCons (dComp (dSeqI (dVar 0)) (nmTup [1, 1, 2]) [1, 2] dYes (dVar 2)) dNil)) (dC (.int 0)))) (dRet (dC (.bl false))) dPass) (dRet (dOpA gAllL (dCons (dComp (dRng1 (dCons (dOpA gLen (dCons (dVar 0) dNil)) dNil)) (nmOne 3) [3] dYes (dOp2 gEq (dOp2 gIx (dOp2 gIx (dVar 0) (dVar 3)) (dC (.int 0))) (dOp2 gIx (dOp2 gIx (dVar 0) (dOp2 gSub (dVar 3) (dC (.int 1)))) (dC (.int 1))))) dNil))))
noncomputable def F_is_ring : DF := dDef 1 4 b_is_ring
noncomputable def b_satisfies : DS := (dRet (dOpA gAllL (dCons (dComp (dSeqI (dVar 1)) (nmTup [2, 3, 4]) [2, 3, 4] dYes (dOp2 gLe (dOp2 gSub (dOp2 gIx (dVar 0) (dVar 2)) (dOp2 gIx (dVar 0) (dVar 3))) (dVar 4))) dNil)))
noncomputable def F_satisfies : DF := dDef 2 5 b_satisfies
/-! ### a list or a tuple -/
def Seq (S : Sto) (v : PV) (l : List PV) (keep : List (Nat × PO)) : Prop := (v = .tup l ∧ keep = []) ∨ ∃ k, v = .loc k ∧ S[k]? = some (.lst l) ∧ keep = [(k, .lst l)]
section
variable {S T : Sto} {v : PV} {l : List PV} {keep : List (Nat × PO)}
theorem Seq.tup : Seq S (.tup l) l [] := .inl ⟨rfl, rfl⟩
theorem Seq.lst {k : Nat} (h : S[k]? = some (.lst l)) : Seq S (.loc k) l [(k, .lst l)] := .inr ⟨k, rfl, h, rfl⟩
theorem Seq.app (h : Seq S v l keep) : Seq (S ++ T) v l keep := by
  rcases h with h | ⟨k, h1, h2, h3⟩
  · exact .inl h
  · exact .inr ⟨k, h1, at_old h2, h3⟩
theorem Seq.kept (h : Seq S v l keep) : Kept keep S := by
  rcases h with ⟨_, rfl⟩ | ⟨k, _, h2, rfl⟩
  · simp
  · simpa using h2
theorem Seq.it (h : Seq S v l keep) {f : DE} {ρ : En} (hf : f ρ S = some (.ok v S)) : dSeqI f ρ S = some (.ok ⟨l, keep⟩ S) := by
  rw [ev_seqI, hf, ev_bR_ok]
  rcases h with ⟨rfl, rfl⟩ | ⟨k, rfl, h2, rfl⟩
  · rfl
  · dsimp only
    rw [h2]
theorem Seq.len (h : Seq S v l keep) : gLen [v] S = some (.ok (.int (l.length : Int)) S) := by
  rcases h with ⟨rfl, rfl⟩ | ⟨k, rfl, h2, rfl⟩
  · exact ev_lenT l
  · exact ev_lenL h2
theorem Seq.ix (h : Seq S v l keep) {i : Int} {x : PV} (hx : atI l i = some x) : gIx v (.int i) S = some (.ok x S) := by
  rcases h with ⟨rfl, rfl⟩ | ⟨k, rfl, h2, rfl⟩
  · exact ev_ixT hx
  · exact ev_ixL h2 hx
end
/-! ### literals -/
abbrev T3 := Int × Int × Int
def tripP (p : T3) : PV := .tup [.int p.1, .int p.2.1, .int p.2.2]
def tripsP (l : List T3) : List PV := l.map tripP
@[simp] theorem tripsP_nil : tripsP [] = [] := rfl
@[simp] theorem tripsP_cons (p : T3) (l : List T3) : tripsP (p :: l) = tripP p :: tripsP l := rfl
@[simp] theorem tripsP_len (l : List T3) : (tripsP l).length = l.length := List.length_map ..
theorem tripsP_append (l r : List T3) : tripsP (l ++ r) = tripsP l ++ tripsP r := List.map_append
theorem tripsP_snoc (l : List T3) (i : T3) : tripsP l ++ [tripP i] = tripsP (l ++ [i]) := by rw [tripsP_append]; rfl
theorem tripsP_take (l : List T3) (n : Nat) : (tripsP l).take n = tripsP (l.take n) := (List.map_take).symm
theorem tripsP_drop (l : List T3) (n : Nat) : (tripsP l).drop n = tripsP (l.drop n) := (List.map_drop).symm
theorem noLocs_trips : ∀ l : List T3, noLocs (tripsP l) = true
  | [] => rfl
  | i :: l => by
    show (noLoc (tripP i) && noLocs (tripsP l)) = true
    rw [noLocs_trips l]; rfl
theorem trips_at {l : List T3} {i : Int} (h0 : 0 ≤ i) (h : i < l.length) : atI (tripsP l) i = some (tripP (l.getD i.toNat (0, 0, 0))) := by
  have hl : i.toNat < l.length := by omega
  rw [atI_nat h0 (by rw [tripsP_len]; exact hl)]
  unfold tripsP
  rw [List.getElem_map, List.getD_eq_getElem?_getD, List.getElem?_eq_getElem hl, Option.getD_some]
@[simp] theorem ev_ixt0 {S : Sto} (p : T3) : gIx (tripP p) (.int 0) S = some (.ok (.int p.1) S) := (rfl)
@[simp] theorem ev_ixt1 {S : Sto} (p : T3) : gIx (tripP p) (.int 1) S = some (.ok (.int p.2.1) S) := (rfl)
@[simp] theorem ev_ixt2 {S : Sto} (p : T3) : gIx (tripP p) (.int 2) S = some (.ok (.int p.2.2) S) := (rfl)
/-! checks -/
theorem points_ok {S : Sto} {n : Int} (h : 1 ≤ n ∧ n ≤ 80) : F_check_points [.int n] S = some (.ok .non S) := by
  have h1 : ¬ n < 1 := by omega
  have h2 : ¬ 80 < n := by omega
  have hb : b_check_points ([PV.int n].map some ++ List.replicate (1 - 1) none) S = some (.next [some (.int n)] S) := by simp [b_check_points, h1, h2]
  exact (dDef_next (k := 1) (n := 1) rfl hb).trans (by rw [gc_ok_same rfl])
theorem points_bad {S : Sto} {n : Int} (h : ¬ (1 ≤ n ∧ n ≤ 80)) : F_check_points [.int n] S = some (.exc ⟨"NotAllowed", []⟩ S) := by
  refine call_exc0 (ρ := [some (.int n)]) ?_
  by_cases h1 : n < 1
  · simp [b_check_points, h1]
  · have h2 : 80 < n := by omega
    simp [b_check_points, h1, h2]
theorem point_ok {S : Sto} {n a : Int} (h : 0 ≤ a ∧ a < n) : F_check_point [.int n, .int a] S = some (.ok .non S) := by
  have h1 : ¬ a < 0 := by omega
  have h2 : ¬ n ≤ a := by omega
  have hb : b_check_point ([PV.int n, PV.int a].map some ++ List.replicate (2 - 2) none) S = some (.next [some (.int n), some (.int a)] S) := by simp [b_check_point, h1, h2]
  exact (dDef_next (k := 2) (n := 2) rfl hb).trans (by rw [gc_ok_same rfl])
theorem point_bad {S : Sto} {n a : Int} (h : ¬ (0 ≤ a ∧ a < n)) : F_check_point [.int n, .int a] S = some (.exc ⟨"NotAllowed", []⟩ S) := by
  refine call_exc0 (ρ := [some (.int n), some (.int a)]) ?_
  by_cases h1 : a < 0
  · simp [b_check_point, h1]
  · have h2 : n ≤ a := by omega
    simp [b_check_point, h1, h2]
/-- all of them between points below n -/
def ptsB (n : Int) (l : List T3) : Bool := l.all fun p => decide (0 ≤ p.1 ∧ p.1 < n) && decide (0 ≤ p.2.1 ∧ p.2.1 < n)
theorem lits_loop {S : Sto} {keep : List (Nat × PO)} (hk : Kept keep S) {q : Option PV} {n : Int} : ∀ l : List T3, ∃ ρ', forL (gT 3 (gsCons (gN 2) (gsCons (gN 3) (gsCons (gN 4) gsNil)))) [2, 3, 4] l_check_literals_1 keep (tripsP l) [some (.int n), q, none, none, none] S =
    if ptsB n l = true then some (.next [some (.int n), q, none, none, none] S) else some (.exc ⟨"NotAllowed", []⟩ ρ' S)
  | [] => ⟨[], by rw [tripsP_nil, forL_nil hk]; rfl⟩
  | p :: r => by
    obtain ⟨ρ', ih⟩ := lits_loop hk (q := q) (n := n) r
    have hc : ptsB n (p :: r) = ((decide (0 ≤ p.1 ∧ p.1 < n) && decide (0 ≤ p.2.1 ∧ p.2.1 < n)) && ptsB n r) := rfl
    by_cases h1 : 0 ≤ p.1 ∧ p.1 < n
    · by_cases h2 : 0 ≤ p.2.1 ∧ p.2.1 < n
      · refine ⟨ρ', ?_⟩
        rw [tripsP_cons, forL_cons hk, hc]
        simp [tripP, l_check_literals_1, point_ok h1, point_ok h2, h1, h2]
        exact ih
      · refine ⟨[some (.int n), q, some (.int p.1), some (.int p.2.1), some (.int p.2.2)], ?_⟩
        rw [tripsP_cons, forL_cons hk, hc, decide_eq_false h2]
        simp [tripP, l_check_literals_1, point_ok h1, point_bad h2]
    · refine ⟨[some (.int n), q, some (.int p.1), some (.int p.2.1), some (.int p.2.2)], ?_⟩
      rw [tripsP_cons, forL_cons hk, hc, decide_eq_false h1]
      simp [tripP, l_check_literals_1, point_bad h1]
theorem lits_ok {S : Sto} {n : Int} {v : PV} {l : List T3} {keep : List (Nat × PO)} (hv : Seq S v (tripsP l) keep) (hn : 1 ≤ n ∧ n ≤ 80) (h : ptsB n l = true) : F_check_literals [.int n, v] S = some (.ok .non S) := by
  obtain ⟨ρ', e⟩ := lits_loop hv.kept (q := some v) (n := n) l
  rw [if_pos h] at e
  have it := hv.it (f := dVar 1) (ρ := [some (.int n), some v, none, none, none]) (by simp)
  have hb : b_check_literals ([PV.int n, v].map some ++ List.replicate (5 - 2) none) S = some (.next [some (.int n), some v, none, none, none] S) := by
    simp only [b_check_literals, ev_seq, ev_expr, ev_opA, ev_cons, List.map_cons, List.map_nil, List.cons_append, List.nil_append, List.replicate, Nat.reduceSub, ev_var, List.getElem?_cons_succ, List.getElem?_cons_zero, ev_nil, ev_bR_ok, points_ok hn, ev_bS_ok, ev_bN_next, ev_for, it, ev_killC, ev_killN, List.set_cons_succ, List.set_cons_zero, e]
  exact (dDef_next (k := 2) (n := 5) rfl hb).trans (by rw [gc_ok_same rfl])
theorem lits_bad {S : Sto} {n : Int} {v : PV} {l : List T3} {keep : List (Nat × PO)} (hv : Seq S v (tripsP l) keep) (h : ¬ (1 ≤ n ∧ n ≤ 80) ∨ ptsB n l = false) : F_check_literals [.int n, v] S = some (.exc ⟨"NotAllowed", []⟩ S) := by
  by_cases hn : 1 ≤ n ∧ n ≤ 80
  · have h : ptsB n l = false := by
      rcases h with h | h
      · exact absurd hn h
      · exact h
    obtain ⟨ρ', e⟩ := lits_loop hv.kept (q := some v) (n := n) l
    rw [if_neg (by rw [h]; simp)] at e
    have it := hv.it (f := dVar 1) (ρ := [some (.int n), some v, none, none, none]) (by simp)
    refine call_exc0 (ρ := ρ') ?_
    simp only [b_check_literals, ev_seq, ev_expr, ev_opA, ev_cons, List.map_cons, List.map_nil, List.cons_append, List.nil_append, List.replicate, Nat.reduceSub, ev_var, List.getElem?_cons_succ, List.getElem?_cons_zero, ev_nil, ev_bR_ok, points_ok hn, ev_bS_ok, ev_bN_next, ev_for, it, ev_killC, ev_killN, List.set_cons_succ, List.set_cons_zero, e]
  · refine call_exc0 (ρ := [some (.int n), some v, none, none, none]) ?_
    simp only [b_check_literals, ev_seq, ev_expr, ev_opA, ev_cons, List.map_cons, List.map_nil, List.cons_append, List.nil_append, List.replicate, Nat.reduceSub, ev_var, List.getElem?_cons_succ, List.getElem?_cons_zero, ev_nil, ev_bR_ok, points_bad hn, ev_bS_exc, ev_bN_exc]
/-! satisfies -/
theorem blsAt_of {k : Nat} {S : Sto} {bs : List Bool} (h : S[k]? = some (.lst (bs.map PV.bl))) : blsAt k S = some bs := by
  unfold blsAt lstOf
  rw [h]
  exact (mapO_map (f := blP) (e := PV.bl) (d := fun x => x) (l := bs) fun x _ => rfl).trans (by simp)
theorem intsAt_of2 {k : Nat} {S : Sto} {ns : List Int} (h : S[k]? = some (.lst (intsP ns))) : intsAt k S = some ns := by
  unfold intsAt lstOf
  rw [h]
  exact (mapO_map (f := intP) (e := PV.int) (d := fun x => x) (l := ns) fun x _ => rfl).trans (by simp)
/-- all(..) of a comprehension -/
theorem all_comp {α : Type} {f : PV → Option (List Nat × List PV)} {own : List Nat} {elt : DE} {ρ : En} {S : Sto} {it : DI} {keep : List (Nat × PO)} {items : List α} (e : α → PV) (t : α → Bool)
    (hi : it ρ S = some (.ok ⟨items.map e, keep⟩ S)) (hk : Kept keep S) (h : ∀ x ∈ items, ∀ acc, ∃ is l, f (e x) = some (is, l) ∧ elt (setsE is l (killE own ρ)) (S ++ [.lst acc]) = some (.ok (.bl (t x)) (S ++ [.lst acc]))) (hl : items.length ≤ 16777216) :
    dOpA gAllL (dCons (dComp it f own dYes elt) dNil) ρ S = some (.ok (.bl (items.all t)) (S ++ [.lst ((items.map t).map PV.bl)])) := by
  have c := ev_compF (f := f) (own := own) (tt := dYes) (elt := elt) (ρ := ρ) (S := S) (S1 := S) (it := it) (items := items) e (fun _ => true) (fun x => .bl (t x)) hi hk (fun x hx acc => by
    obtain ⟨is, l, h1, h2⟩ := h x hx acc
    exact ⟨is, l, h1, rfl, fun _ => h2⟩) hl
  have hm : (items.filter fun _ => true).map (fun x => PV.bl (t x)) = (items.map t).map PV.bl := by
    rw [List.filter_eq_self.mpr fun _ _ => rfl, List.map_map]
    rfl
  rw [hm] at c
  rw [ev_opA, ev_cons, c]
  simp only [ev_bR_ok, ev_nil]
  unfold gAllL
  dsimp only
  rw [blsAt_of (at_0 (T := []))]
  simp [List.all_map]
/-- all differences at most as told -/
def satB (vs : List Int) (l : List T3) : Bool := l.all fun p => decide (vs.getD p.1.toNat 0 - vs.getD p.2.1.toNat 0 ≤ p.2.2)
theorem satisfies_spec {S : Sto} {v w : PV} {vs : List Int} {l : List T3} {k1 k2 : List (Nat × PO)} (hv : Seq S v (intsP vs) k1) (hw : Seq S w (tripsP l) k2) (hp : ptsB vs.length l = true) (hl : l.length ≤ 1000000) : F_satisfies [v, w] S = some (.ok (.bl (satB vs l)) S) := by
  refine call_val (T := [.lst ((l.map fun p => decide (vs.getD p.1.toNat 0 - vs.getD p.2.1.toNat 0 ≤ p.2.2)).map PV.bl)]) ?_ rfl
  have it := hw.it (f := dVar 1) (ρ := [some v, some w, none, none, none]) (by simp)
  have ac := all_comp (f := nmTup [2, 3, 4]) (own := [2, 3, 4]) (elt := dOp2 gLe (dOp2 gSub (dOp2 gIx (dVar 0) (dVar 2)) (dOp2 gIx (dVar 0) (dVar 3))) (dVar 4)) (ρ := [some v, some w, none, none, none]) (items := l) tripP (fun p => decide (vs.getD p.1.toNat 0 - vs.getD p.2.1.toNat 0 ≤ p.2.2)) it hw.kept (fun p hm acc => by
    have h := List.all_eq_true.mp hp p hm
    simp only [Bool.and_eq_true, decide_eq_true_eq] at h
    have x1 := (hv.app (T := [.lst acc])).ix (ints_at h.1.1 h.1.2)
    have x2 := (hv.app (T := [.lst acc])).ix (ints_at h.2.1 h.2.2)
    exact ⟨[2, 3, 4], [.int p.1, .int p.2.1, .int p.2.2], rfl, by simp only [setsE, ev_killC, ev_killN, List.set_cons_succ, List.set_cons_zero, ev_op2, ev_var, List.getElem?_cons_succ, List.getElem?_cons_zero, ev_bR_ok, x1, x2, ev_sub, ev_rel]⟩) (by omega)
  simp only [b_satisfies, ev_ret, List.map_cons, List.map_nil, List.cons_append, List.nil_append, List.replicate, Nat.reduceSub]
  rw [ac]
  rfl
/-! is_ring -/
def prevI (n i : Nat) : Nat := if i = 0 then n - 1 else i - 1
def linkB (l : List T3) : Bool := (List.range l.length).all fun i => decide ((l.getD i (0, 0, 0)).1 = (l.getD (prevI l.length i) (0, 0, 0)).2.1)
def ringB (l : List T3) : Bool := !l.isEmpty && decide ((l.map fun p => p.2.2).sum < 0) && linkB l
theorem atI_neg1 {γ : Type} {l : List γ} (h : 0 < l.length) : atI l (-1) = l[l.length - 1]? := by
  unfold atI ixN
  rw [if_neg (by omega), if_pos (by omega)]
  have : (-1 + (l.length : Int)).toNat = l.length - 1 := by omega
  rw [this]
  rfl
theorem is_ring_spec {S : Sto} {v : PV} {l : List T3} {k1 : List (Nat × PO)} (hv : Seq S v (tripsP l) k1) (hl : l.length ≤ 1000000) : F_is_ring [v] S = some (.ok (.bl (ringB l)) S) := by
  by_cases h0 : l = []
  · subst h0
    refine call_val0 ?_ rfl
    have hlen := hv.len
    rw [tripsP_nil] at hlen
    simp [b_is_ring, hlen, ringB]
  · have hpos : 0 < l.length := List.length_pos_iff.mpr h0
    have hne : ¬ ((l.length : Int) = 0) := by omega
    have hlen := fun T => (hv.app (T := T)).len
    rw [tripsP_len] at hlen
    have hlen0 := hv.len
    rw [tripsP_len] at hlen0
    have it := hv.it (f := dVar 0) (ρ := [some v, none, none, none]) (by simp)
    have c1 := ev_compF (f := nmTup [1, 1, 2]) (own := [1, 2]) (tt := dYes) (elt := dVar 2) (ρ := [some v, none, none, none]) (S := S) (S1 := S) (items := l) tripP (fun _ => true) (fun p => .int p.2.2) it hv.kept (fun p _ acc => ⟨[1, 1, 2], [.int p.1, .int p.2.1, .int p.2.2], rfl, rfl, fun _ => by simp [setsE]⟩) (by omega)
    have hm : (l.filter fun _ => true).map (fun p => PV.int p.2.2) = intsP (l.map fun p => p.2.2) := by
      rw [List.filter_eq_self.mpr fun _ _ => rfl]
      unfold intsP
      rw [List.map_map]
      rfl
    rw [hm] at c1
    have sm : gSumL [.loc S.length] (S ++ [.lst (intsP (l.map fun p => p.2.2))]) = some (.ok (.int (l.map fun p => p.2.2).sum) (S ++ [.lst (intsP (l.map fun p => p.2.2))])) := by
      unfold gSumL
      dsimp only
      rw [intsAt_of2 at_0]
    let U : Sto := S ++ [.lst (intsP (l.map fun p => p.2.2))]
    have hvU : Seq U v (tripsP l) k1 := hv.app
    have rg : dRng1 (dCons (dOpA gLen (dCons (dVar 0) dNil)) dNil) [some v, none, none, none] U = some (.ok ⟨(List.range l.length).map fun i : Nat => PV.int (0 + (i : Int)), []⟩ U) := by
      have hlU := hvU.len
      rw [tripsP_len] at hlU
      simp only [ev_rng1, ev_cons, ev_opA, ev_var, List.getElem?_cons_zero, ev_nil, ev_bR_ok, hlU]
      rw [show ((l.length : Int)).toNat = l.length by omega]
      rfl
    have ac := all_comp (f := nmOne 3) (own := [3]) (elt := dOp2 gEq (dOp2 gIx (dOp2 gIx (dVar 0) (dVar 3)) (dC (.int 0))) (dOp2 gIx (dOp2 gIx (dVar 0) (dOp2 gSub (dVar 3) (dC (.int 1)))) (dC (.int 1)))) (ρ := [some v, none, none, none]) (S := U) (keep := []) (items := List.range l.length) (fun i : Nat => PV.int (0 + (i : Int))) (fun i => decide ((l.getD i (0, 0, 0)).1 = (l.getD (prevI l.length i) (0, 0, 0)).2.1)) rg (by simp) (fun i hi acc => by
      rw [List.mem_range] at hi
      refine ⟨[3], [.int (0 + (i : Int))], rfl, ?_⟩
      have x1 := (hvU.app (T := [.lst acc])).ix (trips_at (l := l) (i := 0 + (i : Int)) (by omega) (by omega))
      have x2 : gIx v (.int (0 + (i : Int) - 1)) (U ++ [.lst acc]) = some (.ok (tripP (l.getD (prevI l.length i) (0, 0, 0))) (U ++ [.lst acc])) := by
        refine (hvU.app (T := [.lst acc])).ix ?_
        unfold prevI
        by_cases hz : i = 0
        · subst hz
          rw [if_pos rfl, show (0 : Int) + ((0 : Nat) : Int) - 1 = -1 by omega, atI_neg1 (by rw [tripsP_len]; exact hpos), tripsP_len]
          unfold tripsP
          rw [List.getElem?_map, List.getD_eq_getElem?_getD, List.getElem?_eq_getElem (show l.length - 1 < l.length by omega)]
          rfl
        · rw [if_neg hz]
          have := trips_at (l := l) (i := 0 + (i : Int) - 1) (by omega) (by omega)
          rw [this]
          congr 3
          omega
      rw [show (0 + (i : Int)).toNat = i by omega] at x1
      simp only [setsE, ev_killC, ev_killN, List.set_cons_succ, List.set_cons_zero, ev_op2, ev_var, List.getElem?_cons_succ, List.getElem?_cons_zero, ev_bR_ok, x1, ev_c, ev_ixt0, ev_sub, x2, ev_ixt1, ev_eqI]) (by rw [List.length_range]; omega)
    by_cases hs : 0 ≤ (l.map fun p => p.2.2).sum
    · refine call_val (T := [.lst (intsP (l.map fun p => p.2.2))]) ?_ rfl
      have hs2 : ¬ (l.map fun p => p.2.2).sum < 0 := by omega
      simp [b_is_ring, hlen0, hne, c1, sm, hs, ringB, h0, hs2]
    · refine call_val (T := [.lst (intsP (l.map fun p => p.2.2)), .lst (((List.range l.length).map fun i => decide ((l.getD i (0, 0, 0)).1 = (l.getD (prevI l.length i) (0, 0, 0)).2.1)).map PV.bl)]) ?_ rfl
      have hs2 : (l.map fun p => p.2.2).sum < 0 := by omega
      have hr : ringB l = linkB l := by
        unfold ringB
        have : l.isEmpty = false := by cases l with
          | nil => exact absurd rfl h0
          | cons a b => rfl
        simp [this, hs2]
      rw [hr]
      simp only [b_is_ring, ev_seq, ev_ifS, ev_orT, ev_cmp, ev_opA, ev_cons, List.map_cons, List.map_nil, List.cons_append, List.nil_append, List.replicate, Nat.reduceSub, ev_var, List.getElem?_cons_zero, ev_nil, ev_bR_ok, hlen0, ev_c, ev_eqI, hne, decide_false, ev_asB, Bool.false_eq_true, if_false, c1, sm, ev_rel, hs, ev_bS_ok, ev_pass, ev_bN_next, ev_ret]
      have ac2 : dOpA gAllL (dCons (dComp (dRng1 (dCons (dOpA gLen (dCons (dVar 0) dNil)) dNil)) (nmOne 3) [3] dYes (dOp2 gEq (dOp2 gIx (dOp2 gIx (dVar 0) (dVar 3)) (dC (.int 0))) (dOp2 gIx (dOp2 gIx (dVar 0) (dOp2 gSub (dVar 3) (dC (.int 1)))) (dC (.int 1))))) dNil) [some v, none, none, none] (S ++ [.lst (intsP (l.map fun p => p.2.2))]) = _ := ac
      simp only [ev_opA] at ac2
      rw [ev_cons] at ac2
      simp only [ev_nil, ev_bR_ok] at ac2
      rw [ac2]
      simp [U, linkB]
end G

/-! S12: walks over literals, tables of least ways (plain). -/
namespace G
open PySem PySem.Spec PyProof.Rows L2 D
/-! ### walks -/
inductive Wk (l : List T3) : Int → Int → Int → Prop
  | nil (a : Int) : Wk l a a 0
  | cons {a b c d w : Int} : (a, b, c) ∈ l → Wk l b d w → Wk l a d (c + w)
section
variable {l : List T3} {a b c d w u : Int}
theorem Wk.one (h : (a, b, c) ∈ l) : Wk l a b c := by
  have := Wk.cons h (Wk.nil b)
  rwa [Int.add_zero] at this
theorem Wk.append (h : Wk l a b w) (h2 : Wk l b d u) : Wk l a d (w + u) := by
  induction h with
  | nil a => rwa [Int.zero_add]
  | cons hm _ ih => rw [Int.add_assoc]; exact .cons hm (ih h2)
theorem Wk.mono {l2 : List T3} (h : Wk l a b w) (hs : ∀ p ∈ l, p ∈ l2) : Wk l2 a b w := by
  induction h with
  | nil a => exact .nil a
  | cons hm _ ih => exact .cons (hs _ hm) ih
def Pot (l : List T3) (v : Int → Int) : Prop := ∀ p ∈ l, v p.1 ≤ v p.2.1 + p.2.2
theorem Pot.wk {v : Int → Int} (hp : Pot l v) (h : Wk l a b w) : v a ≤ v b + w := by
  induction h with
  | nil a => omega
  | cons hm _ ih =>
    have := hp _ hm
    simp only at this
    omega
theorem Pot.ring {v : Int → Int} (hp : Pot l v) (h : Wk l a a w) : 0 ≤ w := by
  have := hp.wk h
  omega
end
/-! ### tables -/
abbrev Tb := Int → Int → Option Int
def leO (x : Option Int) (w : Int) : Prop := ∃ d, x = some d ∧ d ≤ w
theorem leO.le {x : Option Int} {w u : Int} (h : leO x w) (hu : w ≤ u) : leO x u := by
  obtain ⟨d, h1, h2⟩ := h
  exact ⟨d, h1, by omega⟩
theorem leO.of {x : Option Int} {d w : Int} (h : leO x w) (e : x = some d) : d ≤ w := by
  obtain ⟨d', h1, h2⟩ := h
  rw [e] at h1
  cases h1
  exact h2
theorem leO.self {x : Option Int} {d : Int} (e : x = some d) : leO x d := ⟨d, e, Int.le_refl _⟩
def lessO (w : Int) : Option Int → Bool
  | none => true
  | some d => decide (w < d)
def putT (D : Tb) (a b : Int) (w : Option Int) : Tb := fun x y => if x = a ∧ y = b then w else D x y
def relax (D : Tb) (a b w : Int) : Tb := if lessO w (D a b) = true then putT D a b (some w) else D
theorem relax_same (D : Tb) (a b w : Int) : leO (relax D a b w a b) w := by
  unfold relax
  by_cases h : lessO w (D a b) = true
  · rw [if_pos h]
    exact ⟨w, by simp [putT], Int.le_refl _⟩
  · rw [if_neg h]
    cases e : D a b with
    | none => rw [e] at h; exact absurd rfl h
    | some d =>
      rw [e] at h
      exact ⟨d, rfl, by simp [lessO] at h; omega⟩
theorem relax_ne {D : Tb} {a b w x y : Int} (h : ¬ (x = a ∧ y = b)) : relax D a b w x y = D x y := by
  unfold relax
  by_cases h2 : lessO w (D a b) = true
  · rw [if_pos h2]
    simp [putT, h]
  · rw [if_neg h2]
theorem relax_or (D : Tb) (a b w x y : Int) : relax D a b w x y = D x y ∨ (x = a ∧ y = b ∧ relax D a b w x y = some w) := by
  by_cases h : x = a ∧ y = b
  · obtain ⟨rfl, rfl⟩ := h
    unfold relax
    by_cases h2 : lessO w (D x y) = true
    · rw [if_pos h2]
      exact .inr ⟨rfl, rfl, by simp [putT]⟩
    · rw [if_neg h2]
      exact .inl rfl
  · exact .inl (relax_ne h)
theorem relax_mono {D : Tb} {a b w x y u : Int} (h : leO (D x y) u) : leO (relax D a b w x y) u := by
  by_cases hx : x = a ∧ y = b
  · obtain ⟨rfl, rfl⟩ := hx
    obtain ⟨d, h1, h2⟩ := h
    unfold relax
    by_cases h3 : lessO w (D x y) = true
    · rw [if_pos h3]
      rw [h1] at h3
      simp [lessO] at h3
      exact ⟨w, by simp [putT], by omega⟩
    · rw [if_neg h3]
      exact ⟨d, h1, h2⟩
  · rwa [relax_ne hx]
theorem relax_keep {D : Tb} {a b w d : Int} (h : D a b = some d) (hw : d ≤ w) : relax D a b w = D := by
  unfold relax
  rw [h]
  simp [lessO]
  omega
def Sound (l : List T3) (D : Tb) : Prop := ∀ a b w, D a b = some w → Wk l a b w
theorem Sound.relax {l : List T3} {D : Tb} (h : Sound l D) {a b w : Int} (hw : Wk l a b w) : Sound l (relax D a b w) := fun x y u e => by
  rcases relax_or D a b w x y with q | ⟨rfl, rfl, q⟩
  · rw [q] at e
    exact h _ _ _ e
  · rw [q] at e
    cases e
    exact hw
/-- one step by a point between -/
def midT (m a b : Int) (D : Tb) : Tb := match D a m, D m b with
  | some p, some q => relax D a b (p + q)
  | _, _ => D
theorem midT_some {m a b p q : Int} {D : Tb} (h1 : D a m = some p) (h2 : D m b = some q) : midT m a b D = relax D a b (p + q) := by
  unfold midT
  rw [h1, h2]
theorem midT_mono {m a b x y u : Int} {D : Tb} (h : leO (D x y) u) : leO (midT m a b D x y) u := by
  cases e1 : D a m with
  | none =>
    have : midT m a b D = D := by unfold midT; rw [e1]
    rwa [this]
  | some p =>
    cases e2 : D m b with
    | none =>
      have : midT m a b D = D := by unfold midT; rw [e1, e2]
      rwa [this]
    | some q =>
      rw [midT_some e1 e2]
      exact relax_mono h
theorem Sound.mid {l : List T3} {D : Tb} (h : Sound l D) {m a b : Int} : Sound l (midT m a b D) := by
  unfold midT
  split
  · rename_i p q e1 e2
    exact h.relax ((h _ _ _ e1).append (h _ _ _ e2))
  · exact h
/-- a part of a stage: the pairs that are done -/
structure Stg (m : Int) (D0 D : Tb) (done : Int → Int → Prop) : Prop where
  col : ∀ a, D a m = D0 a m
  row : ∀ b, D m b = D0 m b
  or : ∀ a b w, D a b = some w → D0 a b = some w ∨ ∃ p q, D0 a m = some p ∧ D0 m b = some q ∧ w = p + q
  le : ∀ a b u, D0 a b = some u → leO (D a b) u
  via : ∀ a b p q, done a b → D0 a m = some p → D0 m b = some q → leO (D a b) (p + q)
theorem Stg.start (m : Int) (D0 : Tb) : Stg m D0 D0 fun _ _ => False := ⟨fun _ => rfl, fun _ => rfl, fun _ _ _ h => .inl h, fun _ _ _ h => .self h, fun _ _ _ _ h => h.elim⟩
theorem Stg.step {m : Int} {D0 D : Tb} {done : Int → Int → Prop} (s : Stg m D0 D done) (hm : D0 m m = some 0) (a b : Int) : Stg m D0 (midT m a b D) fun x y => done x y ∨ (x = a ∧ y = b) := by
  cases e1 : D a m with
  | none =>
    have : midT m a b D = D := by unfold midT; rw [e1]
    rw [this]
    refine ⟨s.col, s.row, s.or, s.le, fun x y p q h h1 h2 => ?_⟩
    rcases h with h | ⟨rfl, rfl⟩
    · exact s.via _ _ _ _ h h1 h2
    · rw [s.col, h1] at e1
      cases e1
  | some p =>
    cases e2 : D m b with
    | none =>
      have : midT m a b D = D := by unfold midT; rw [e1, e2]
      rw [this]
      refine ⟨s.col, s.row, s.or, s.le, fun x y p q h h1 h2 => ?_⟩
      rcases h with h | ⟨rfl, rfl⟩
      · exact s.via _ _ _ _ h h1 h2
      · rw [s.row, h2] at e2
        cases e2
    | some q =>
      rw [midT_some e1 e2]
      have p0 : D0 a m = some p := by rw [← s.col]; exact e1
      have q0 : D0 m b = some q := by rw [← s.row]; exact e2
      have mm : D m m = some 0 := by rw [s.col]; exact hm
      refine ⟨fun x => ?_, fun y => ?_, fun x y w h => ?_, fun x y u h => relax_mono (s.le _ _ _ h), fun x y p2 q2 h h1 h2 => ?_⟩
      · by_cases hb : x = a ∧ m = b
        · obtain ⟨rfl, rfl⟩ := hb
          rw [mm] at e2
          cases e2
          rw [relax_keep e1 (by omega)]
          exact s.col _
        · rw [relax_ne hb]
          exact s.col _
      · by_cases hb : m = a ∧ y = b
        · obtain ⟨rfl, rfl⟩ := hb
          rw [mm] at e1
          cases e1
          rw [relax_keep e2 (by omega)]
          exact s.row _
        · rw [relax_ne hb]
          exact s.row _
      · rcases relax_or D a b (p + q) x y with r | ⟨rfl, rfl, r⟩
        · rw [r] at h
          exact s.or _ _ _ h
        · rw [r] at h
          cases h
          exact .inr ⟨p, q, p0, q0, rfl⟩
      · rcases h with h | ⟨rfl, rfl⟩
        · exact relax_mono (s.via _ _ _ _ h h1 h2)
        · rw [p0] at h1
          rw [q0] at h2
          cases h1
          cases h2
          exact relax_same _ _ _ _
def rowT (m a : Int) (bs : List Int) (D : Tb) : Tb := bs.foldl (fun D b => midT m a b D) D
def stT (m : Int) (as bs : List Int) (D : Tb) : Tb := as.foldl (fun D a => rowT m a bs D) D
def fwT (ms as bs : List Int) (D : Tb) : Tb := ms.foldl (fun D m => stT m as bs D) D
theorem Stg.row' {m : Int} {D0 : Tb} (hm : D0 m m = some 0) (a : Int) : ∀ (bs : List Int) {D : Tb} {done : Int → Int → Prop}, Stg m D0 D done → Stg m D0 (rowT m a bs D) fun x y => done x y ∨ (x = a ∧ y ∈ bs)
  | [], D, done, s => ⟨s.col, s.row, s.or, s.le, fun x y p q h => s.via x y p q (by
      rcases h with h | ⟨_, h⟩
      · exact h
      · cases h)⟩
  | b :: bs, D, done, s => by
    have r := Stg.row' hm a bs (s.step hm a b)
    refine ⟨r.col, r.row, r.or, r.le, fun x y p q h => r.via x y p q ?_⟩
    rcases h with h | ⟨h1, h2⟩
    · exact .inl (.inl h)
    · rcases List.mem_cons.mp h2 with h2 | h2
      · exact .inl (.inr ⟨h1, h2⟩)
      · exact .inr ⟨h1, h2⟩
theorem Stg.all {m : Int} {D0 : Tb} (hm : D0 m m = some 0) (bs : List Int) : ∀ (as : List Int) {D : Tb} {done : Int → Int → Prop}, Stg m D0 D done → Stg m D0 (stT m as bs D) fun x y => done x y ∨ (x ∈ as ∧ y ∈ bs)
  | [], D, done, s => ⟨s.col, s.row, s.or, s.le, fun x y p q h => s.via x y p q (by
      rcases h with h | ⟨h, _⟩
      · exact h
      · cases h)⟩
  | a :: as, D, done, s => by
    have r := Stg.all hm bs as (Stg.row' hm a bs s)
    refine ⟨r.col, r.row, r.or, r.le, fun x y p q h => r.via x y p q ?_⟩
    rcases h with h | ⟨h1, h2⟩
    · exact .inl (.inl h)
    · rcases List.mem_cons.mp h1 with h1 | h1
      · exact .inl (.inr ⟨h1, h2⟩)
      · exact .inr ⟨h1, h2⟩
theorem rowT_mono {m a x y u : Int} : ∀ (bs : List Int) {D : Tb}, leO (D x y) u → leO (rowT m a bs D x y) u
  | [], _, h => h
  | b :: bs, _, h => rowT_mono bs (midT_mono h)
theorem stT_mono {m x y u : Int} {bs : List Int} : ∀ (as : List Int) {D : Tb}, leO (D x y) u → leO (stT m as bs D x y) u
  | [], _, h => h
  | a :: as, _, h => stT_mono as (rowT_mono bs h)
theorem fwT_mono {x y u : Int} {as bs : List Int} : ∀ (ms : List Int) {D : Tb}, leO (D x y) u → leO (fwT ms as bs D x y) u
  | [], _, h => h
  | m :: ms, _, h => fwT_mono ms (stT_mono as h)
theorem Sound.rowT {l : List T3} {m a : Int} : ∀ (bs : List Int) {D : Tb}, Sound l D → Sound l (rowT m a bs D)
  | [], _, h => h
  | b :: bs, _, h => Sound.rowT bs h.mid
theorem Sound.stT {l : List T3} {m : Int} {bs : List Int} : ∀ (as : List Int) {D : Tb}, Sound l D → Sound l (stT m as bs D)
  | [], _, h => h
  | a :: as, _, h => Sound.stT as (h.rowT bs)
theorem Sound.fwT {l : List T3} {as bs : List Int} : ∀ (ms : List Int) {D : Tb}, Sound l D → Sound l (fwT ms as bs D)
  | [], _, h => h
  | m :: ms, _, h => Sound.fwT ms (h.stT as)
/-- the triangle rule for the points done -/
def Tri (P : Int → Prop) (D : Tb) (ms : List Int) : Prop := ∀ a b k p q, P a → P b → k ∈ ms → D a k = some p → D k b = some q → leO (D a b) (p + q)
theorem Tri.stage {P : Int → Prop} {as : List Int} (hP : ∀ x, P x → x ∈ as) {m : Int} (hPm : P m) {D : Tb} {ms : List Int} (hms : ∀ k ∈ ms, P k) (hm : D m m = some 0) (t : Tri P D ms) : Tri P (stT m as as D) (m :: ms) := fun a b k p q ha hb hk h1 h2 => by
  have s := Stg.all hm as as (Stg.start m D)
  have via : ∀ x y p q, P x → P y → D x m = some p → D m y = some q → leO (stT m as as D x y) (p + q) := fun x y p q hx hy => s.via x y p q (.inr ⟨hP x hx, hP y hy⟩)
  rcases List.mem_cons.mp hk with rfl | hk
  · rw [s.col] at h1
    rw [s.row] at h2
    exact via _ _ _ _ ha hb h1 h2
  · have hPk := hms k hk
    rcases s.or _ _ _ h1 with e1 | ⟨p1, p2, e1, e2, rfl⟩
    · rcases s.or _ _ _ h2 with f1 | ⟨q1, q2, f1, f2, rfl⟩
      · obtain ⟨d, g1, g2⟩ := t a b k p q ha hb hk e1 f1
        exact (s.le _ _ _ g1).le g2
      · obtain ⟨d, g1, g2⟩ := t a m k p q1 ha hPm hk e1 f1
        exact (via _ _ _ _ ha hb g1 f2).le (by omega)
    · rcases s.or _ _ _ h2 with f1 | ⟨q1, q2, f1, f2, rfl⟩
      · obtain ⟨d, g1, g2⟩ := t m b k p2 q hPm hb hk e2 f1
        exact (via _ _ _ _ ha hb e1 g1).le (by omega)
      · obtain ⟨d, g1, g2⟩ := t m m k p2 q1 hPm hPm hk e2 f1
        rw [hm] at g1
        cases g1
        exact (via _ _ _ _ ha hb e1 f2).le (by omega)
theorem Tri.fw {P : Int → Prop} {as : List Int} (hP : ∀ x, P x → x ∈ as) : ∀ (ms : List Int) {D : Tb} {done : List Int}, (∀ k ∈ ms, P k) → (∀ k ∈ done, P k) → (∀ a, P a → leO (D a a) 0) → (∀ a w, P a → fwT ms as as D a a = some w → 0 ≤ w) → Tri P D done → ∃ done2, (∀ k, k ∈ ms ∨ k ∈ done → k ∈ done2) ∧ Tri P (fwT ms as as D) done2
  | [], D, done, _, _, _, _, t => ⟨done, fun k h => by
      rcases h with h | h
      · cases h
      · exact h, t⟩
  | m :: ms, D, done, h1, h2, h3, h4, t => by
    have hm := h1 m List.mem_cons_self
    obtain ⟨d, e1, e2⟩ := h3 m hm
    have hf : fwT (m :: ms) as as D = fwT ms as as (stT m as as D) := rfl
    have l1 := fwT_mono (as := as) (bs := as) (m :: ms) (leO.self e1)
    obtain ⟨w, g1, g2⟩ := l1
    have g3 := h4 m w hm g1
    have hd : d = 0 := by omega
    subst hd
    obtain ⟨done2, r1, r2⟩ := Tri.fw hP ms (D := stT m as as D) (done := m :: done) (fun k hk => h1 k (List.mem_cons_of_mem _ hk)) (fun k hk => by
      rcases List.mem_cons.mp hk with rfl | hk
      · exact hm
      · exact h2 k hk) (fun a ha => stT_mono as (h3 a ha)) h4 (t.stage hP hm h2 e1)
    exact ⟨done2, fun k hk => r1 k (by
      rcases hk with hk | hk
      · rcases List.mem_cons.mp hk with rfl | hk
        · exact .inr List.mem_cons_self
        · exact .inl hk
      · exact .inr (List.mem_cons_of_mem _ hk)), r2⟩
/-- a table with the triangle rule that knows the literals is below every walk -/
theorem Tri.wk {P : Int → Prop} {D : Tb} {ms : List Int} (hP : ∀ x, P x → x ∈ ms) {l : List T3} (hl : ∀ p ∈ l, P p.1 ∧ P p.2.1) (he : ∀ p ∈ l, leO (D p.1 p.2.1) p.2.2) (hd : ∀ a, P a → leO (D a a) 0) (t : Tri P D ms) {a b w : Int} (ha : P a) (h : Wk l a b w) : leO (D a b) w ∧ P b := by
  induction h with
  | nil a => exact ⟨hd a ha, ha⟩
  | @cons a b c d w hm _ ih =>
    obtain ⟨hPa, hPb⟩ := hl _ hm
    obtain ⟨⟨x, e1, e2⟩, hPd⟩ := ih hPb
    obtain ⟨y, f1, f2⟩ := he _ hm
    refine ⟨(t a d b y x hPa hPd (hP b hPb) f1 e1).le ?_, hPd⟩
    simp only at f2
    omega
end G

/-! S13: the search for a ring (plain). -/
namespace G
open PySem PySem.Spec PyProof.Rows L2 D
/-! ### what a point was lowered by -/
inductive Ch (last : Int → Option T3) : Int → List T3 → Int → Prop
  | nil (x : Int) : Ch last x [] x
  | cons {x y : Int} {p : T3} {ps : List T3} : last x = some p → Ch last p.2.1 ps y → Ch last x (p :: ps) y
section
variable {last : Int → Option T3} {x y z : Int} {ps qs : List T3}
theorem Ch.append (h : Ch last x ps y) (h2 : Ch last y qs z) : Ch last x (ps ++ qs) z := by
  induction h with
  | nil x => exact h2
  | cons e _ ih => exact .cons e (ih h2)
theorem Ch.snoc {p : T3} (h : Ch last x ps y) (e : last y = some p) : Ch last x (ps ++ [p]) p.2.1 := h.append (.cons e (.nil _))
theorem Ch.split (h : Ch last x ps y) : ∀ i, i ≤ ps.length → ∃ z, Ch last x (ps.take i) z ∧ Ch last z (ps.drop i) y := by
  induction h with
  | nil x => exact fun i _ => ⟨x, by rw [List.take_nil]; exact .nil _, by rw [List.drop_nil]; exact .nil _⟩
  | @cons x y p ps e h ih =>
    intro i hi
    cases i with
    | zero => exact ⟨x, .nil _, .cons e h⟩
    | succ i =>
      obtain ⟨z, h1, h2⟩ := ih i (by rw [List.length_cons] at hi; omega)
      exact ⟨z, .cons e h1, h2⟩
theorem Ch.same (h : Ch last x ps y) : ∀ {qs : List T3} {z : Int}, Ch last x qs z → ps.length = qs.length → ps = qs ∧ y = z := by
  induction h with
  | nil x =>
    intro qs z h2 hl
    cases h2 with
    | nil => exact ⟨rfl, rfl⟩
    | cons => simp at hl
  | @cons x y p ps e _ ih =>
    intro qs z h2 hl
    cases h2 with
    | nil => simp at hl
    | cons e2 h3 =>
      rw [e] at e2
      cases e2
      obtain ⟨r1, r2⟩ := ih h3 (by simpa using hl)
      exact ⟨by rw [r1], r2⟩
end
/-! ### the state of the search -/
structure Low (l : List T3) (q T : Nat) (done : List T3) (v : Int → Int) (last : Int → Option T3) (pn tm : Int → Nat) (low : Option Int) : Prop where
  non : ∀ x, last x = none → pn x = 0
  som : ∀ x p, last x = some p → p.1 = x ∧ p ∈ l ∧ pn x ≤ pn p.2.1 + 1
  pos : ∀ x p, last x = some p → v p.2.1 + p.2.2 ≤ v x ∧ (v p.2.1 + p.2.2 < v x ∨ tm p.2.1 < tm x)
  tim : ∀ x, tm x ≤ T
  pas : ∀ x, pn x ≤ q
  old : ∀ p ∈ l, pn p.2.1 + 2 ≤ q → v p.1 ≤ v p.2.1 + p.2.2
  don : ∀ p ∈ done, pn p.2.1 + 1 ≤ q → v p.1 ≤ v p.2.1 + p.2.2
  low1 : ∀ x, low = some x → pn x = q
  low0 : low = none → ∀ x, pn x + 1 ≤ q
def up1 {α : Type} (f : Int → α) (a : Int) (w : α) : Int → α := fun x => if x = a then w else f x
theorem up1_same {α : Type} {f : Int → α} {a : Int} {w : α} : up1 f a w a = w := by simp [up1]
theorem up1_ne {α : Type} {f : Int → α} {a x : Int} {w : α} (h : x ≠ a) : up1 f a w x = f x := by simp [up1, h]
section
variable {l : List T3} {q T : Nat} {done : List T3} {v : Int → Int} {last : Int → Option T3} {pn tm : Int → Nat} {low : Option Int}
theorem Low.start (l : List T3) : Low l 1 0 [] (fun _ => 0) (fun _ => none) (fun _ => 0) (fun _ => 0) none :=
  ⟨fun _ _ => rfl, fun _ _ h => (by cases h), fun _ _ h => (by cases h), fun _ => Nat.le_refl _, fun _ => Nat.zero_le _, fun _ _ h => absurd h (by omega), fun _ h => (by cases h), fun _ h => (by cases h), fun _ _ => Nat.le_refl _⟩
theorem Low.next (s : Low l q T l v last pn tm low) : Low l (q + 1) T [] v last pn tm none :=
  ⟨s.non, s.som, s.pos, s.tim, fun x => Nat.le_succ_of_le (s.pas x), fun p hp h => s.don p hp (by omega), fun _ h => (by cases h), fun _ h => (by cases h), fun _ x => Nat.succ_le_succ (s.pas x)⟩
theorem Low.stay (s : Low l q T done v last pn tm low) {p : T3} (h : ¬ v p.2.1 + p.2.2 < v p.1) : Low l q T (done ++ [p]) v last pn tm low :=
  ⟨s.non, s.som, s.pos, s.tim, s.pas, s.old, fun r hr h2 => by
    rcases List.mem_append.mp hr with hr | hr
    · exact s.don r hr h2
    · rw [List.mem_singleton] at hr
      subst hr
      omega, s.low1, s.low0⟩
theorem Low.lower (s : Low l q T done v last pn tm low) {p : T3} (hp : p ∈ l) (hq : 1 ≤ q) (h : v p.2.1 + p.2.2 < v p.1) :
    Low l q (T + 1) (done ++ [p]) (up1 v p.1 (v p.2.1 + p.2.2)) (up1 last p.1 (some p)) (up1 pn p.1 q) (up1 tm p.1 (T + 1)) (some p.1) := by
  have hvle : ∀ x, up1 v p.1 (v p.2.1 + p.2.2) x ≤ v x := fun x => by
    by_cases hx : x = p.1
    · subst hx
      rw [up1_same]
      omega
    · rw [up1_ne hx]
      omega
  have hpn : ∀ x, pn x ≤ up1 pn p.1 q x := fun x => by
    by_cases hx : x = p.1
    · subst hx
      rw [up1_same]
      exact s.pas _
    · rw [up1_ne hx]
      exact Nat.le_refl _
  have keep : ∀ r : T3, (up1 pn p.1 q r.2.1 + 1 ≤ q) → (pn r.2.1 + 1 ≤ q → v r.1 ≤ v r.2.1 + r.2.2) → up1 v p.1 (v p.2.1 + p.2.2) r.1 ≤ up1 v p.1 (v p.2.1 + p.2.2) r.2.1 + r.2.2 := fun r h1 h2 => by
    have hy : r.2.1 ≠ p.1 := fun e => by
      rw [e, up1_same] at h1
      omega
    rw [up1_ne hy] at h1
    have h3 := hvle r.1
    have h4 := h2 h1
    rw [up1_ne hy]
    omega
  refine ⟨fun x hx => ?_, fun x r hx => ?_, fun x r hx => ?_, fun x => ?_, fun x => ?_, fun r hr h2 => ?_, fun r hr h2 => ?_, fun x hx => ?_, fun hx => (by cases hx)⟩
  · by_cases e : x = p.1
    · subst e
      rw [up1_same] at hx
      cases hx
    · rw [up1_ne e] at hx ⊢
      exact s.non x hx
  · by_cases e : x = p.1
    · subst e
      rw [up1_same] at hx
      cases hx
      rw [up1_same]
      refine ⟨rfl, hp, ?_⟩
      by_cases h3 : q ≤ up1 pn p.1 q p.2.1 + 1
      · exact h3
      · have h4 := hpn p.2.1
        have := s.old p hp (by omega)
        omega
    · rw [up1_ne e] at hx
      obtain ⟨a1, a2, a3⟩ := s.som x r hx
      rw [up1_ne e]
      exact ⟨a1, a2, Nat.le_trans a3 (Nat.succ_le_succ (hpn _))⟩
  · by_cases e : x = p.1
    · subst e
      rw [up1_same] at hx
      cases hx
      rw [up1_same, up1_same]
      by_cases e2 : p.2.1 = p.1
      · rw [e2] at h ⊢
        rw [up1_same, up1_same]
        have : v p.1 + p.2.2 + p.2.2 < v p.1 + p.2.2 := by omega
        exact ⟨by omega, .inl this⟩
      · rw [up1_ne e2, up1_ne e2]
        exact ⟨Int.le_refl _, .inr (Nat.lt_succ_of_le (s.tim _))⟩
    · rw [up1_ne e] at hx
      obtain ⟨a1, a2⟩ := s.pos x r hx
      rw [up1_ne e, up1_ne e]
      by_cases e2 : r.2.1 = p.1
      · rw [e2] at a1 ⊢
        rw [up1_same]
        exact ⟨by omega, .inl (by omega)⟩
      · rw [up1_ne e2, up1_ne e2]
        exact ⟨a1, a2⟩
  · by_cases e : x = p.1
    · subst e
      rw [up1_same]
      exact Nat.le_refl _
    · rw [up1_ne e]
      exact Nat.le_succ_of_le (s.tim x)
  · by_cases e : x = p.1
    · subst e
      rw [up1_same]
      exact Nat.le_refl _
    · rw [up1_ne e]
      exact s.pas x
  · have h4 := hpn r.2.1
    exact keep r (by omega) fun _ => s.old r hr (by omega)
  · rcases List.mem_append.mp hr with hr | hr
    · exact keep r h2 (s.don r hr)
    · rw [List.mem_singleton] at hr
      subst hr
      by_cases e2 : r.2.1 = r.1
      · rw [e2, up1_same] at h2
        omega
      · rw [up1_same, up1_ne e2]
        exact Int.le_refl _
  · cases hx
    exact up1_same
/-- nothing was lowered: the values satisfy -/
theorem Low.pot (s : Low l q T l v last pn tm none) : Pot l v := fun p hp => s.don p hp (s.low0 rfl _)
/-- a chain goes down -/
theorem Low.down (s : Low l q T done v last pn tm low) {x y : Int} {ps : List T3} (h : Ch last x ps y) : (ps.map fun p => p.2.2).sum ≤ v x - v y ∧ (ps = [] ∨ (ps.map fun p => p.2.2).sum < v x - v y ∨ tm y < tm x) := by
  induction h with
  | nil x => exact ⟨by simp, .inl rfl⟩
  | @cons x y p ps e h ih =>
    obtain ⟨a1, a2⟩ := s.pos x p e
    obtain ⟨b1, b2⟩ := ih
    rw [List.map_cons, List.sum_cons]
    refine ⟨by omega, .inr ?_⟩
    rcases a2 with a2 | a2
    · exact .inl (by omega)
    · rcases b2 with b2 | b2 | b2
      · subst b2
        cases h
        exact .inr a2
      · exact .inl (by omega)
      · exact .inr (by omega)
theorem Low.neg (s : Low l q T done v last pn tm low) {x : Int} {ps : List T3} (h : Ch last x ps x) (hn : ps ≠ []) : (ps.map fun p => p.2.2).sum < 0 := by
  obtain ⟨a, b⟩ := s.down h
  rcases b with b | b | b
  · exact absurd b hn
  · omega
  · omega
theorem Low.mem (s : Low l q T done v last pn tm low) {x y : Int} {ps : List T3} (h : Ch last x ps y) : ∀ p ∈ ps, p ∈ l := by
  induction h with
  | nil x => exact fun _ hp => by cases hp
  | @cons x y p ps e h ih =>
    intro r hr
    rcases List.mem_cons.mp hr with rfl | hr
    · exact (s.som _ _ e).2.1
    · exact ih r hr
theorem Low.link (s : Low l q T done v last pn tm low) {x y : Int} {ps : List T3} (h : Ch last x ps y) : (∀ i, i < ps.length → (ps.getD i (0, 0, 0)).1 = if i = 0 then x else (ps.getD (i - 1) (0, 0, 0)).2.1) ∧ (ps ≠ [] → (ps.getD (ps.length - 1) (0, 0, 0)).2.1 = y) := by
  induction h with
  | nil x => exact ⟨fun i hi => absurd hi (by simp), fun h => absurd rfl h⟩
  | @cons x y p ps e h ih =>
    refine ⟨fun i hi => ?_, fun _ => ?_⟩
    · cases i with
      | zero => exact (s.som _ _ e).1
      | succ i =>
        have := ih.1 i (by rw [List.length_cons] at hi; omega)
        rw [if_neg (by omega)]
        show (ps.getD i (0, 0, 0)).1 = ((p :: ps).getD i (0, 0, 0)).2.1
        rw [this]
        cases i with
        | zero => rfl
        | succ i => rfl
    · cases ps with
      | nil => cases h; rfl
      | cons p2 ps => exact ih.2 (by simp)
/-- a closed chain is a ring -/
theorem Low.ring (s : Low l q T done v last pn tm low) {x : Int} {ps : List T3} (h : Ch last x ps x) (hn : ps ≠ []) : ringB ps = true := by
  obtain ⟨k1, k2⟩ := s.link h
  unfold ringB
  rw [decide_eq_true (s.neg h hn)]
  have he : ps.isEmpty = false := by
    cases ps with
    | nil => exact absurd rfl hn
    | cons => rfl
  rw [he]
  simp only [Bool.not_false, Bool.true_and]
  unfold linkB
  rw [List.all_eq_true]
  intro i hi
  rw [List.mem_range] at hi
  rw [decide_eq_true_eq, k1 i hi]
  unfold prevI
  by_cases h0 : i = 0
  · rw [if_pos h0, if_pos h0]
    exact (k2 hn).symm
  · rw [if_neg h0, if_neg h0]
/-- from a point that was lowered late a long chain -/
theorem Low.long (s : Low l q T done v last pn tm low) : ∀ (k : Nat) (x : Int), k ≤ pn x → ∃ ps y, Ch last x ps y ∧ ps.length = k ∧ pn x ≤ pn y + k
  | 0, x, _ => ⟨[], x, .nil _, rfl, Nat.le_refl _⟩
  | k + 1, x, h => by
    cases e : last x with
    | none =>
      have := s.non x e
      omega
    | some p =>
      obtain ⟨a1, a2, a3⟩ := s.som x p e
      obtain ⟨ps, y, h1, h2, h3⟩ := Low.long s k p.2.1 (by omega)
      exact ⟨p :: ps, y, .cons e h1, by rw [List.length_cons, h2], by omega⟩
end
/-! ### pigeons -/
theorem pigeons : ∀ (n : Nat) (L : List Nat), L.Nodup → (∀ x ∈ L, x < n) → L.length ≤ n
  | 0, L, _, h => by
    cases L with
    | nil => exact Nat.le_refl _
    | cons a L => exact absurd (h a List.mem_cons_self) (by omega)
  | n + 1, L, hd, h => by
    by_cases hm : n ∈ L
    · have h1 := pigeons n (L.erase n) (hd.erase n) (fun x hx => by
        have h2 := (hd.mem_erase_iff).mp hx
        have := h x h2.2
        omega)
      rw [List.length_erase_of_mem hm] at h1
      omega
    · have := pigeons n L hd (fun x hx => by
        have h2 := h x hx
        have : x ≠ n := fun e => hm (e ▸ hx)
        omega)
      omega
theorem twice {n : Nat} (f : Nat → Nat) (h : ∀ i, i ≤ n → f i < n) : ∃ i j, i < j ∧ j ≤ n ∧ f i = f j := by
  refine Classical.byContradiction fun hc => ?_
  have hd : ((List.range (n + 1)).map f).Nodup := by
    unfold List.Nodup
    rw [List.pairwise_map]
    refine List.Pairwise.imp_of_mem ?_ List.pairwise_lt_range
    intro a b ha hb hab e
    rw [List.mem_range] at hb
    exact hc ⟨a, b, hab, by omega, e⟩
  have := pigeons n _ hd (fun x hx => by
    obtain ⟨i, hi, rfl⟩ := List.mem_map.mp hx
    rw [List.mem_range] at hi
    exact h i (by omega))
  simp at this
  omega
end G

/-! S14: find_ring. -/
namespace G
open PySem PySem.Spec PyProof.Rows L2 D
noncomputable def l_ring_at_1 : DS := (dSeq (dIfS (dCmp gIs (dOp2 gIx (dVar 1) (dVar 4)) (dC .non)) (dRet (dC .non)) dPass) (dSeq (dExpr (dMeth "list" gAppend (dVar 3) (dCons (dOp2 gIx (dVar 1) (dVar 4)) dNil))) (dSeq (dSet 4 (dOp2 gIx (dOp2 gIx (dVar 1) (dVar 4)) (dC (.int 1)))) (dIfS (dCmp gEq (dVar 4) (dVar 2)) (dRet (dOpA gTuple (dCons (dVar 3) dNil))) dPass))))
noncomputable def b_ring_at : DS := (dSeq (dSet 3 (dLst dNil)) (dSeq (dSet 4 (dVar 2)) (dSeq (dFor (dRng1 (dCons (dVar 0) dNil)) (gN 5) [5] l_ring_at_1) (dRet (dC .non)))))
noncomputable def F_ring_at : DF := dDef 3 6 b_ring_at
noncomputable def l_ring_from_1 : DS := (dSet 3 (dOp2 gIx (dOp2 gIx (dVar 1) (dVar 3)) (dC (.int 1))))
noncomputable def l_ring_from_2 : DS := (dExpr (dMeth "list" gAppend (dVar 5) (dCons (dOp2 gIx (dVar 1) (dOp2 gIx (dOp2 gIx (dVar 5) (dOp1 gNeg (dC (.int 1)))) (dC (.int 1)))) dNil)))
noncomputable def b_ring_from : DS := (dSeq (dSet 3 (dVar 2)) (dSeq (dFor (dRng1 (dCons (dVar 0) dNil)) (gN 4) [4] l_ring_from_1) (dSeq (dSet 5 (dLst (dCons (dOp2 gIx (dVar 1) (dVar 3)) dNil))) (dSeq (dWhile (dCmp gNe (dOp2 gIx (dOp2 gIx (dVar 5) (dOp1 gNeg (dC (.int 1)))) (dC (.int 1))) (dVar 3)) [] l_ring_from_2) (dRet (dOpA gTuple (dCons (dVar 5) dNil)))))))
noncomputable def F_ring_from : DF := dDef 3 6 b_ring_from
noncomputable def l_find_ring_1 : DS := (dSeq (dAsg (gT 3 (gsCons (gN 7) (gsCons (gN 8) (gsCons (gN 9) gsNil)))) (dVar 6)) (dIfS (dCmp gGt (dOp2 gIx (dVar 2) (dVar 7)) (dOp2 gAdd (dOp2 gIx (dVar 2) (dVar 8)) (dVar 9))) (dSeq (dAsg (gSubT gSetL (dVar 2) (dVar 7)) (dOp2 gAdd (dOp2 gIx (dVar 2) (dVar 8)) (dVar 9))) (dSeq (dAsg (gSubT gSetL (dVar 3) (dVar 7)) (dVar 6)) (dSet 4 (dVar 7)))) dPass))
noncomputable def l_find_ring_2 : DS := (dSeq (dSet 4 (dC .non)) (dSeq (dFor (dSeqI (dVar 1)) (gN 6) [6, 7, 8, 9] l_find_ring_1) (dSeq (dIfS (dCmp gIs (dVar 4) (dC .non)) (dRet (dC .non)) dPass) (dSeq (dSet 10 (dOpA F_ring_at (dCons (dVar 0) (dCons (dVar 3) (dCons (dVar 4) dNil))))) (dIfS (dCmp gIsNot (dVar 10) (dC .non)) (dRet (dVar 10)) dPass)))))
noncomputable def b_find_ring : DS := (dSeq (dExpr (dOpA F_check_literals (dCons (dVar 0) (dCons (dVar 1) dNil)))) (dSeq (dSet 2 (dOp2 gMul (dLst (dCons (dC (.int 0)) dNil)) (dVar 0))) (dSeq (dSet 3 (dOp2 gMul (dLst (dCons (dC .non) dNil)) (dVar 0))) (dSeq (dSet 4 (dC .non)) (dSeq (dFor (dRng1 (dCons (dOp2 gAdd (dVar 0) (dC (.int 1))) dNil)) (gN 5) [5, 6, 7, 8, 9, 10] l_find_ring_2) (dRet (dOpA F_ring_from (dCons (dVar 0) (dCons (dVar 3) (dCons (dVar 4) dNil))))))))))
noncomputable def F_find_ring : DF := dDef 2 11 b_find_ring
/-! ### rows -/
def rowF (n : Nat) (f : Int → PV) : List PV := (List.range n).map fun i : Nat => f (i : Int)
theorem rowF_len {n : Nat} {f : Int → PV} : (rowF n f).length = n := by simp [rowF]
theorem rowF_at {n : Nat} {f : Int → PV} {a : Int} (h0 : 0 ≤ a) (h : a < n) : atI (rowF n f) a = some (f a) := by
  rw [atI_nat h0 (by rw [rowF_len]; omega)]
  simp only [rowF, List.getElem_map, List.getElem_range]
  rw [show ((a.toNat : Nat) : Int) = a by omega]
theorem rowF_set {n : Nat} {f : Int → PV} {a : Int} {w : PV} (h0 : 0 ≤ a) (h : a < n) : (rowF n f).set a.toNat w = rowF n (up1 f a w) := by
  refine List.ext_getElem (by simp [rowF]) fun i h1 h2 => ?_
  rw [List.getElem_set]
  simp only [rowF, List.getElem_map, List.getElem_range]
  by_cases hi : a.toNat = i
  · rw [if_pos hi, show (i : Int) = a by omega, up1_same]
  · rw [if_neg hi, up1_ne (by omega)]
theorem rowF_rep {n : Nat} {w : PV} : (List.replicate n [w]).flatten = rowF n fun _ => w := by
  induction n with
  | zero => rfl
  | succ n ih =>
    rw [List.replicate_succ', List.flatten_append, ih]
    simp [rowF, List.range_succ]
theorem ev_setL {S : Sto} {k : Nat} {l : List PV} {a : Int} {v : PV} (hk : S[k]? = some (.lst l)) (h0 : 0 ≤ a) (h : a < l.length) : gSetL (.loc k) (.int a) v S = some (S.set k (.lst (l.set a.toNat v))) := by
  have : ixN l.length a = some a.toNat := by unfold ixN; rw [if_pos h0, if_pos h]
  unfold gSetL
  simp only [hk, this]
theorem ev_repL {S : Sto} {n : Int} {w : PV} (h0 : 0 ≤ n) (h : n ≤ 1000) : gMul (.loc S.length) (.int n) (S ++ [.lst [w]]) = some (.ok (.loc (S.length + 1)) (S ++ [.lst [w], .lst (rowF n.toNat fun _ => w)])) := by
  unfold gMul gOr2 gMulI gI2 gMulL
  simp only [at_0]
  rw [if_pos ⟨by omega, by omega, by simp; omega⟩, rowF_rep]
  simp
theorem put_3 {S T : Sto} {a b c d o : PO} : (S ++ a :: b :: c :: d :: T).set (S.length + 3) o = S ++ a :: b :: c :: o :: T := by
  rw [List.set_append_right _ _ (by omega)]
  simp
def oT : Option T3 → PV
  | none => .non
  | some p => tripP p
def lowV : Option Int → PV
  | none => .non
  | some x => .int x
theorem is_oT {S : Sto} (o : Option T3) : gIsN false (oT o) .non S = some (.ok (.bl o.isNone) S) := by cases o <;> rfl
theorem is_lowV {S : Sto} (o : Option Int) : gIsN false (lowV o) .non S = some (.ok (.bl o.isNone) S) := by cases o <;> rfl
def InN (n : Nat) (l : List T3) : Prop := ∀ p ∈ l, (0 ≤ p.1 ∧ p.1 < n) ∧ (0 ≤ p.2.1 ∧ p.2.1 < n)
theorem Ch.inN {n : Nat} {last : Int → Option T3} {x y : Int} {ps : List T3} (h : Ch last x ps y) (hp : InN n ps) (hx : 0 ≤ x ∧ x < n) : 0 ≤ y ∧ y < n := by
  induction h with
  | nil x => exact hx
  | @cons x y p ps e h ih => exact ih (fun r hr => hp r (List.mem_cons_of_mem _ hr)) (hp p List.mem_cons_self).2
/-! ### a closed chain behind a long one -/
theorem Ch.rep {last : Int → Option T3} {z : Int} {cs : List T3} (h : Ch last z cs z) : ∀ k : Nat, ∃ rs, Ch last z rs z ∧ rs.length = k * cs.length
  | 0 => ⟨[], .nil _, by simp⟩
  | k + 1 => by
    obtain ⟨rs, h1, h2⟩ := h.rep k
    exact ⟨cs ++ rs, h.append h1, by rw [List.length_append, h2, Nat.succ_mul, Nat.add_comm]⟩
theorem Ch.closed {n : Nat} {last : Int → Option T3} {x y : Int} {ps : List T3} (h : Ch last x ps y) (hl : ps.length = n) (hp : InN n ps) (hx : 0 ≤ x ∧ x < n) : ∃ rs, Ch last y rs y ∧ rs ≠ [] ∧ rs.length ≤ (n + 1) * n := by
  have hz : ∀ i, ∃ z, i ≤ n → (Ch last x (ps.take i) z ∧ Ch last z (ps.drop i) y ∧ 0 ≤ z ∧ z < n) := fun i => by
    by_cases hi : i ≤ n
    · obtain ⟨z, h1, h2⟩ := h.split i (by omega)
      exact ⟨z, fun _ => ⟨h1, h2, h1.inN (fun r hr => hp r (List.mem_of_mem_take hr)) hx⟩⟩
    · exact ⟨0, fun h => absurd h hi⟩
  let f : Nat → Int := fun i => Classical.choose (hz i)
  have hf : ∀ i, i ≤ n → (Ch last x (ps.take i) (f i) ∧ Ch last (f i) (ps.drop i) y ∧ 0 ≤ f i ∧ f i < n) := fun i => Classical.choose_spec (hz i)
  obtain ⟨i, j, hij, hj, e⟩ := twice (n := n) (fun i => (f i).toNat) (fun i hi => by
    have := hf i hi
    omega)
  obtain ⟨a1, a2, a3, a4⟩ := hf i (by omega)
  obtain ⟨b1, b2, b3, b4⟩ := hf j hj
  have e : f i = f j := by omega
  obtain ⟨z, c1, c2⟩ := a2.split (j - i) (by rw [List.length_drop]; omega)
  have hzj : z = f j := ((a1.append c1).same b1 (by simp; omega)).2
  rw [hzj, ← e] at c1
  generalize hcs : (ps.drop i).take (j - i) = cs at c1
  have cl : cs.length = j - i := by rw [← hcs, List.length_take, List.length_drop]; omega
  obtain ⟨rs, r1, r2⟩ := c1.rep (n - i + 1)
  have hm : (n - i + 1) * 1 ≤ (n - i + 1) * cs.length := Nat.mul_le_mul_left _ (by omega)
  have hm2 : (n - i + 1) * cs.length ≤ (n + 1) * n := Nat.mul_le_mul (by omega) (by omega)
  obtain ⟨w, s1, s2⟩ := r1.split (n - i) (by omega)
  have hw : w = y := (s1.same a2 (by rw [List.length_take, List.length_drop]; omega)).2
  rw [hw] at s1 s2
  refine ⟨rs.drop (n - i) ++ rs.take (n - i), s2.append s1, fun e => ?_, ?_⟩
  · have := congrArg List.length e
    rw [List.length_append, List.length_drop, List.length_take, List.length_nil] at this
    omega
  · rw [List.length_append, List.length_drop, List.length_take]
    omega
/-! ### ring_at -/
theorem at_loop {S : Sto} {k n : Nat} {last : Int → Option T3} (hk : S[k]? = some (.lst (rowF n fun i => oT (last i)))) {l : List T3} (hin : InN n l) (hlast : ∀ x p, last x = some p → p ∈ l) {x : Int} (hx : 0 ≤ x ∧ x < n) {nn : PV} : ∀ (is : List Int) (ps : List T3) (a : Int), Ch last x ps a → (0 ≤ a ∧ a < n) → ps.length + is.length ≤ 1000 →
    (∃ ρ' T, forL (gN 5) [5] l_ring_at_1 [] (intsP is) [some nn, some (.loc k), some (.int x), some (.loc S.length), some (.int a), none] (S ++ [.lst (tripsP ps)]) = some (.next ρ' (S ++ T))) ∨
    (∃ T, forL (gN 5) [5] l_ring_at_1 [] (intsP is) [some nn, some (.loc k), some (.int x), some (.loc S.length), some (.int a), none] (S ++ [.lst (tripsP ps)]) = some (.ret .non (S ++ T))) ∨
    (∃ T rs, Ch last x rs x ∧ rs ≠ [] ∧ rs.length ≤ 1000 ∧ forL (gN 5) [5] l_ring_at_1 [] (intsP is) [some nn, some (.loc k), some (.int x), some (.loc S.length), some (.int a), none] (S ++ [.lst (tripsP ps)]) = some (.ret (.tup (tripsP rs)) (S ++ T)))
  | [], ps, a, _, _, _ => .inl ⟨_, _, by rw [intsP_nil, forL_nil (by simp)]⟩
  | i :: is, ps, a, hc, ha, hl => by
    rw [intsP_cons, forL_cons (by simp)]
    have ix := fun T => ev_ixL (S := S ++ T) (at_old hk) (rowF_at (n := n) (f := fun i => oT (last i)) ha.1 ha.2)
    rw [List.length_cons] at hl
    cases e : last a with
    | none =>
      rw [e] at ix
      have is1 := fun T => is_oT (S := S ++ T) none
      refine .inr (.inl ⟨[.lst (tripsP ps)], ?_⟩)
      have body : l_ring_at_1 [some nn, some (.loc k), some (.int x), some (.loc S.length), some (.int a), some (.int i)] (S ++ [.lst (tripsP ps)]) = some (.ret .non (S ++ [.lst (tripsP ps)])) := by
        simp only [l_ring_at_1, ev_seq, ev_ifS, ev_cmp, ev_op2, ev_var, List.getElem?_cons_succ, List.getElem?_cons_zero, ev_bR_ok, ix, ev_c, is1, Option.isNone_none, ev_asB, ev_bS_ok, if_true, ev_ret, ev_bN_ret]
      simp only [ev_gN, List.set_cons_succ, List.set_cons_zero, body]
    | some p =>
      rw [e] at ix
      have is1 := fun T => is_oT (S := S ++ T) (some p)
      have hp := hlast _ _ e
      have hpn := (hin p hp).2
      have hc2 := hc.snoc e
      have ap : gAppend (.loc S.length) [oT (some p)] (S ++ [.lst (tripsP ps)]) = some (.ok .non (S ++ [.lst (tripsP (ps ++ [p]))])) := by
        rw [ev_append at_0 (by rw [tripsP_len]; omega), put_0, ← tripsP_snoc]
        rfl
      have ty : tyP "list" (.loc S.length) (S ++ [.lst (tripsP ps)]) = true := ev_tyL at_0
      have ix1 : ∀ T : Sto, gIx (oT (some p)) (.int 1) T = some (.ok (.int p.2.1) T) := fun _ => rfl
      by_cases hx2 : p.2.1 = x
      · refine .inr (.inr ⟨[.lst (tripsP (ps ++ [p]))], ps ++ [p], hx2 ▸ hc2, by simp, by simp; omega, ?_⟩)
        have tp := ev_tupleL (S := S ++ [.lst (tripsP (ps ++ [p]))]) (k := S.length) at_0
        have body : l_ring_at_1 [some nn, some (.loc k), some (.int x), some (.loc S.length), some (.int a), some (.int i)] (S ++ [.lst (tripsP ps)]) = some (.ret (.tup (tripsP (ps ++ [p]))) (S ++ [.lst (tripsP (ps ++ [p]))])) := by
          simp only [l_ring_at_1, ev_seq, ev_ifS, ev_cmp, ev_op2, ev_var, List.getElem?_cons_succ, List.getElem?_cons_zero, ev_bR_ok, ix, ev_c, is1, Option.isNone_some, ev_asB, ev_bS_ok, Bool.false_eq_true, if_false, ev_pass, ev_bN_next, ev_expr, ev_meth, ty, if_true, ev_cons, ev_nil, ap, ev_set, ix1, List.set_cons_succ, List.set_cons_zero, ev_eqI, hx2, decide_true, ev_ret, ev_opA, tp]
        simp only [ev_gN, List.set_cons_succ, List.set_cons_zero, body]
      · have ih := at_loop hk hin hlast hx (nn := nn) is (ps ++ [p]) p.2.1 hc2 hpn (by simp; omega)
        have body : l_ring_at_1 [some nn, some (.loc k), some (.int x), some (.loc S.length), some (.int a), some (.int i)] (S ++ [.lst (tripsP ps)]) = some (.next [some nn, some (.loc k), some (.int x), some (.loc S.length), some (.int p.2.1), some (.int i)] (S ++ [.lst (tripsP (ps ++ [p]))])) := by
          simp only [l_ring_at_1, ev_seq, ev_ifS, ev_cmp, ev_op2, ev_var, List.getElem?_cons_succ, List.getElem?_cons_zero, ev_bR_ok, ix, ev_c, is1, Option.isNone_some, ev_asB, ev_bS_ok, Bool.false_eq_true, if_false, ev_pass, ev_bN_next, ev_expr, ev_meth, ty, if_true, ev_cons, ev_nil, ap, ev_set, ix1, List.set_cons_succ, List.set_cons_zero, ev_eqI, hx2, decide_false]
        simp only [ev_gN, List.set_cons_succ, List.set_cons_zero, body, ev_killC, ev_killN]
        exact ih
theorem ring_at_spec {S : Sto} {k n : Nat} {last : Int → Option T3} (hk : S[k]? = some (.lst (rowF n fun i => oT (last i)))) {l : List T3} (hin : InN n l) (hlast : ∀ x p, last x = some p → p ∈ l) {x : Int} (hx : 0 ≤ x ∧ x < n) (hn : n ≤ 80) :
    F_ring_at [.int n, .loc k, .int x] S = some (.ok .non S) ∨ ∃ rs, Ch last x rs x ∧ rs ≠ [] ∧ rs.length ≤ 1000 ∧ F_ring_at [.int n, .loc k, .int x] S = some (.ok (.tup (tripsP rs)) S) := by
  have lp := at_loop hk hin hlast hx (nn := .int (n : Int)) ((List.range (n : Int).toNat).map fun i : Nat => (0 : Int) + (i : Int)) [] x (.nil _) hx (by simp; omega)
  rw [← range_ints] at lp
  rcases lp with ⟨ρ', T, h⟩ | ⟨T, h⟩ | ⟨T, rs, h1, h2, h3, h⟩
  · refine .inl (call_val (T := T) ?_ rfl)
    rw [tripsP_nil] at h
    simp only [b_ring_at, ev_seq, ev_set, ev_lst, ev_nil, ev_bR_ok, ev_lst0, ev_bS_ok, ev_bN_next, List.map_cons, List.map_nil, List.cons_append, List.nil_append, List.replicate, Nat.reduceSub, List.set_cons_succ, List.set_cons_zero, ev_var, List.getElem?_cons_succ, List.getElem?_cons_zero, ev_for, ev_rng1, ev_cons, ev_killC, ev_killN, h, ev_ret, ev_c]
  · refine .inl (call_val (T := T) ?_ rfl)
    rw [tripsP_nil] at h
    simp only [b_ring_at, ev_seq, ev_set, ev_lst, ev_nil, ev_bR_ok, ev_lst0, ev_bS_ok, ev_bN_next, List.map_cons, List.map_nil, List.cons_append, List.nil_append, List.replicate, Nat.reduceSub, List.set_cons_succ, List.set_cons_zero, ev_var, List.getElem?_cons_succ, List.getElem?_cons_zero, ev_for, ev_rng1, ev_cons, ev_killC, ev_killN, h, ev_bN_ret]
  · refine .inr ⟨rs, h1, h2, h3, call_val (T := T) ?_ (noLocs_trips _)⟩
    rw [tripsP_nil] at h
    simp only [b_ring_at, ev_seq, ev_set, ev_lst, ev_nil, ev_bR_ok, ev_lst0, ev_bS_ok, ev_bN_next, List.map_cons, List.map_nil, List.cons_append, List.nil_append, List.replicate, Nat.reduceSub, List.set_cons_succ, List.set_cons_zero, ev_var, List.getElem?_cons_succ, List.getElem?_cons_zero, ev_for, ev_rng1, ev_cons, ev_killC, ev_killN, h, ev_bN_ret]
/-! ### ring_from -/
theorem from_loop {S : Sto} {k n : Nat} {last : Int → Option T3} (hk : S[k]? = some (.lst (rowF n fun i => oT (last i)))) {nn sx : PV} : ∀ (is : List Int) (ps : List T3) (a y : Int), Ch last a ps y → ps.length = is.length → InN n ps → (0 ≤ a ∧ a < n) →
    forL (gN 4) [4] l_ring_from_1 [] (intsP is) [some nn, some (.loc k), some sx, some (.int a), none, none] S = some (.next [some nn, some (.loc k), some sx, some (.int y), none, none] S)
  | [], ps, a, y, hc, hl, _, _ => by
    cases ps with
    | nil => cases hc; rw [intsP_nil, forL_nil (by simp)]
    | cons => simp at hl
  | i :: is, ps, a, y, hc, hl, hin, ha => by
    cases hc with
    | nil => simp at hl
    | @cons _ _ p ps e hc =>
      have ih := from_loop hk (nn := nn) (sx := sx) is ps p.2.1 y hc (by simpa using hl) (fun r hr => hin r (List.mem_cons_of_mem _ hr)) (hin p List.mem_cons_self).2
      have ix := ev_ixL hk (rowF_at (n := n) (f := fun i => oT (last i)) ha.1 ha.2)
      rw [e] at ix
      have ix1 : gIx (oT (some p)) (.int 1) S = some (.ok (.int p.2.1) S) := rfl
      rw [intsP_cons, forL_cons (by simp)]
      have body : l_ring_from_1 [some nn, some (.loc k), some sx, some (.int a), some (.int i), none] S = some (.next [some nn, some (.loc k), some sx, some (.int p.2.1), some (.int i), none] S) := by
        simp only [l_ring_from_1, ev_set, ev_op2, ev_var, List.getElem?_cons_succ, List.getElem?_cons_zero, ev_bR_ok, ix, ev_c, ix1, ev_bS_ok, List.set_cons_succ, List.set_cons_zero]
      simp only [ev_gN, List.set_cons_succ, List.set_cons_zero, body, ev_killC, ev_killN]
      exact ih
theorem trips_last {l : List T3} {p : T3} : atI (tripsP (l ++ [p])) (-1) = some (tripP p) := by
  rw [← tripsP_snoc]
  exact atI_last
theorem while_loop {S : Sto} {k n : Nat} {last : Int → Option T3} (hk : S[k]? = some (.lst (rowF n fun i => oT (last i)))) {nn sx : PV} {y : Int} : ∀ (rest : List T3) (ps : List T3) (p : T3), Ch last y (ps ++ [p]) p.2.1 → Ch last p.2.1 rest y → InN n [p] → InN n rest → ps.length + rest.length ≤ 100000 →
    ∃ rs m, Ch last y rs y ∧ (rs ≠ [] ∧ rs.length ≤ ps.length + rest.length + 1) ∧ whN (dCmp gNe (dOp2 gIx (dOp2 gIx (dVar 5) (dOp1 gNeg (dC (.int 1)))) (dC (.int 1))) (dVar 3)) [] l_ring_from_2 m [some nn, some (.loc k), some sx, some (.int y), none, some (.loc S.length)] (S ++ [.lst (tripsP (ps ++ [p]))]) =
      some (.next [some nn, some (.loc k), some sx, some (.int y), none, some (.loc S.length)] (S ++ [.lst (tripsP rs)])) := fun rest => by
  induction rest with
  | nil =>
    intro ps p hc hr _ _ hl
    have hy : p.2.1 = y := by generalize p.2.1 = q at hr; cases hr; rfl
    have ix := ev_ixL (S := S ++ [.lst (tripsP (ps ++ [p]))]) (k := S.length) at_0 (trips_last (l := ps) (p := p))
    have ix1 : ∀ T : Sto, gIx (tripP p) (.int 1) T = some (.ok (.int p.2.1) T) := fun _ => rfl
    refine ⟨ps ++ [p], 1, hy ▸ hc, ⟨by simp, by rw [List.length_append, List.length_singleton]; omega⟩, ?_⟩
    unfold whN
    simp only [ev_cmp, ev_op2, ev_op1, ev_var, List.getElem?_cons_succ, List.getElem?_cons_zero, ev_bR_ok, ev_c, ev_neg, ix, ix1, ev_neI, hy, decide_true, Bool.not_true, ev_asB, ev_bS_ok, Bool.false_eq_true, if_false]
  | cons r rest ih =>
    intro ps p hc hr hp hin hl
    have ix := ev_ixL (S := S ++ [.lst (tripsP (ps ++ [p]))]) (k := S.length) at_0 (trips_last (l := ps) (p := p))
    have ix1 : ∀ T : Sto, gIx (tripP p) (.int 1) T = some (.ok (.int p.2.1) T) := fun _ => rfl
    by_cases hy : p.2.1 = y
    · refine ⟨ps ++ [p], 1, hy ▸ hc, ⟨by simp, by rw [List.length_append, List.length_singleton]; omega⟩, ?_⟩
      unfold whN
      simp only [ev_cmp, ev_op2, ev_op1, ev_var, List.getElem?_cons_succ, List.getElem?_cons_zero, ev_bR_ok, ev_c, ev_neg, ix, ix1, ev_neI, hy, decide_true, Bool.not_true, ev_asB, ev_bS_ok, Bool.false_eq_true, if_false]
    · generalize hq : p.2.1 = q at hr
      cases hr with
      | cons e hr =>
        rw [← hq] at e
        rw [List.length_cons] at hl
        obtain ⟨rs, m, h1, h2, h3⟩ := ih (ps ++ [p]) r (hc.snoc e) hr (fun t ht => by
          rw [List.mem_singleton] at ht
          subst ht
          exact hin _ List.mem_cons_self) (fun t ht => hin t (List.mem_cons_of_mem _ ht)) (by simp; omega)
        refine ⟨rs, m + 1, h1, ⟨h2.1, by have := h2.2; rw [List.length_append, List.length_singleton] at this; rw [List.length_cons]; omega⟩, ?_⟩
        have hpn := (hp p (by simp)).2
        have il := ev_ixL (S := S ++ [.lst (tripsP (ps ++ [p]))]) (at_old hk) (rowF_at (n := n) (f := fun i => oT (last i)) hpn.1 hpn.2)
        rw [e] at il
        have ap : gAppend (.loc S.length) [oT (some r)] (S ++ [.lst (tripsP (ps ++ [p]))]) = some (.ok .non (S ++ [.lst (tripsP (ps ++ [p] ++ [r]))])) := by
          rw [ev_append at_0 (by rw [tripsP_len]; simp; omega), put_0, ← tripsP_snoc (ps ++ [p]) r]
          rfl
        have ty : tyP "list" (.loc S.length) (S ++ [.lst (tripsP (ps ++ [p]))]) = true := ev_tyL at_0
        unfold whN
        simp only [ev_cmp, ev_op2, ev_op1, ev_var, List.getElem?_cons_succ, List.getElem?_cons_zero, ev_bR_ok, ev_c, ev_neg, ix, ix1, ev_neI, hy, decide_false, Bool.not_false, ev_asB, ev_bS_ok, if_true, l_ring_from_2, ev_expr, ev_meth, ty, ev_cons, ev_nil, il, ap, ev_killN]
        exact h3
theorem Ch.inL {n : Nat} {last : Int → Option T3} {l : List T3} (hin : InN n l) (hlast : ∀ x p, last x = some p → p ∈ l) {a b : Int} {qs : List T3} (h : Ch last a qs b) : InN n qs := by
  induction h with
  | nil x => exact fun _ hp => by cases hp
  | cons e _ ih =>
    intro r hr
    rcases List.mem_cons.mp hr with hr | hr
    · subst hr
      exact hin _ (hlast _ _ e)
    · exact ih r hr
theorem ring_from_spec {S : Sto} {k n : Nat} {last : Int → Option T3} (hk : S[k]? = some (.lst (rowF n fun i => oT (last i)))) {l : List T3} (hin : InN n l) (hlast : ∀ x p, last x = some p → p ∈ l) {x y : Int} (hx : 0 ≤ x ∧ x < n) (hn : n ≤ 80) {ps : List T3} (hc : Ch last x ps y) (hl : ps.length = n) :
    ∃ rs, Ch last y rs y ∧ (rs ≠ [] ∧ rs.length ≤ 10000) ∧ F_ring_from [.int n, .loc k, .int x] S = some (.ok (.tup (tripsP rs)) S) := by
  have mem : ∀ {a b : Int} {qs : List T3}, Ch last a qs b → InN n qs := fun h => h.inL hin hlast
  obtain ⟨cs, c1, c2, c3⟩ := hc.closed hl (mem hc) hx
  have hy := hc.inN (mem hc) hx
  have lp := from_loop hk (nn := .int (n : Int)) (sx := .int x) ((List.range (n : Int).toNat).map fun i : Nat => (0 : Int) + (i : Int)) ps x y hc (by simp [hl]) (mem hc) hx
  rw [← range_ints] at lp
  have hcs := mem c1
  have hm : (n + 1) * n ≤ 81 * 80 := Nat.mul_le_mul (by omega) hn
  cases c1 with
  | nil => exact absurd rfl c2
  | @cons _ _ p ps e c1 =>
    rw [List.length_cons] at c3
    obtain ⟨rs, m, r1, r2, r3⟩ := while_loop hk (nn := .int (n : Int)) (sx := .int x) ps [] p (.cons e (.nil _)) c1 (fun t ht => by
      rw [List.mem_singleton] at ht
      subst ht
      exact hcs _ List.mem_cons_self) (fun t ht => hcs t (List.mem_cons_of_mem _ ht)) (by simp; omega)
    have w := dWhile_eq (ρ := [some (.int (n : Int)), some (.loc k), some (.int x), some (.int y), none, some (.loc S.length)]) r3
    have ix := ev_ixL hk (rowF_at (n := n) (f := fun i => oT (last i)) hy.1 hy.2)
    rw [e] at ix
    have tp := ev_tupleL (S := S ++ [.lst (tripsP rs)]) (k := S.length) at_0
    have ls : gLstP [oT (some p)] S = some (.ok (.loc S.length) (S ++ [.lst (tripsP ([] ++ [p]))])) := ev_lst1 _
    refine ⟨rs, r1, ⟨r2.1, by have := r2.2; rw [List.length_nil] at this; omega⟩, call_val (T := [.lst (tripsP rs)]) ?_ (noLocs_trips _)⟩
    simp only [b_ring_from, ev_seq, ev_set, List.map_cons, List.map_nil, List.cons_append, List.nil_append, List.replicate, Nat.reduceSub, ev_var, List.getElem?_cons_succ, List.getElem?_cons_zero, ev_bS_ok, ev_bN_next, List.set_cons_succ, List.set_cons_zero, ev_for, ev_rng1, ev_cons, ev_nil, ev_bR_ok, ev_killC, ev_killN, lp, ev_lst, ev_op2, ix]
    rw [ls]
    simp only [ev_seq, ev_bR_ok, ev_bS_ok, ev_bN_next, List.set_cons_succ, List.set_cons_zero, w, ev_ret, ev_opA, ev_cons, ev_var, List.getElem?_cons_succ, List.getElem?_cons_zero, ev_nil, tp]
/-! ### find_ring -/
def stF (S : Sto) (n : Nat) (v : Int → Int) (last : Int → Option T3) : Sto := S ++ [.lst [.int 0], .lst (rowF n fun i => .int (v i)), .lst [.non], .lst (rowF n fun i => oT (last i))]
theorem stF_v {S : Sto} {n : Nat} {v : Int → Int} {last : Int → Option T3} : (stF S n v last)[S.length + 1]? = some (.lst (rowF n fun i => .int (v i))) := at_1
theorem stF_l {S : Sto} {n : Nat} {v : Int → Int} {last : Int → Option T3} : (stF S n v last)[S.length + 3]? = some (.lst (rowF n fun i => oT (last i))) := at_3
theorem up1_map {α β : Type} (g : α → β) (f : Int → α) (a : Int) (w : α) : (fun i => g (up1 f a w i)) = up1 (fun i => g (f i)) a (g w) := by
  funext i
  unfold up1
  split <;> rfl
theorem stF_setV {S : Sto} {n : Nat} {v : Int → Int} {last : Int → Option T3} {a w : Int} (h : 0 ≤ a ∧ a < n) : gSetL (.loc (S.length + 1)) (.int a) (.int w) (stF S n v last) = some (stF S n (up1 v a w) last) := by
  rw [ev_setL stF_v h.1 (by rw [rowF_len]; exact h.2), rowF_set h.1 h.2]
  unfold stF
  rw [put_1, up1_map PV.int]
theorem stF_setL {S : Sto} {n : Nat} {v : Int → Int} {last : Int → Option T3} {a : Int} {p : T3} (h : 0 ≤ a ∧ a < n) : gSetL (.loc (S.length + 3)) (.int a) (tripP p) (stF S n v last) = some (stF S n v (up1 last a (some p))) := by
  rw [ev_setL stF_l h.1 (by rw [rowF_len]; exact h.2), rowF_set h.1 h.2]
  unfold stF
  rw [put_3, up1_map oT]
  rfl
theorem pass_loop {S : Sto} {n : Nat} {l : List T3} (hin : InN n l) {keep : List (Nat × PO)} (hk : ∀ v last, Kept keep (stF S n v last)) {nn lv a5 a10 : Option PV} {q : Nat} (hq : 1 ≤ q) : ∀ (rest done : List T3) (T : Nat) (v : Int → Int) (last : Int → Option T3) (pn tm : Int → Nat) (low : Option Int), Low l q T done v last pn tm low → (∀ p ∈ rest, p ∈ l) → (∀ x, low = some x → 0 ≤ x ∧ x < n) →
    ∃ T' v' last' pn' tm' low', Low l q T' (done ++ rest) v' last' pn' tm' low' ∧ (∀ x, low' = some x → 0 ≤ x ∧ x < n) ∧
      forL (gN 6) [6, 7, 8, 9] l_find_ring_1 keep (tripsP rest) [nn, lv, some (.loc (S.length + 1)), some (.loc (S.length + 3)), some (lowV low), a5, none, none, none, none, a10] (stF S n v last) =
        some (.next [nn, lv, some (.loc (S.length + 1)), some (.loc (S.length + 3)), some (lowV low'), a5, none, none, none, none, a10] (stF S n v' last'))
  | [], done, T, v, last, pn, tm, low, s, _, hx => ⟨T, v, last, pn, tm, low, by rw [List.append_nil]; exact s, hx, by rw [tripsP_nil, forL_nil (hk _ _)]⟩
  | p :: rest, done, T, v, last, pn, tm, low, s, hm, hx => by
    have hp := hm p List.mem_cons_self
    obtain ⟨h1, h2⟩ := hin p hp
    have x1 := ev_ixL (S := stF S n v last) (k := S.length + 1) stF_v (rowF_at (f := fun i => .int (v i)) h1.1 h1.2)
    have x2 := ev_ixL (S := stF S n v last) (k := S.length + 1) stF_v (rowF_at (f := fun i => .int (v i)) h2.1 h2.2)
    rw [tripsP_cons, forL_cons (hk _ _)]
    by_cases hd : v p.2.1 + p.2.2 < v p.1
    · obtain ⟨T', v', last', pn', tm', low', r1, r2, r3⟩ := pass_loop hin hk hq (nn := nn) (lv := lv) (a5 := a5) (a10 := a10) rest (done ++ [p]) _ _ _ _ _ _ (s.lower hp hq hd) (fun r hr => hm r (List.mem_cons_of_mem _ hr)) (fun x e => by cases e; exact h1)
      refine ⟨T', v', last', pn', tm', low', by rw [List.append_assoc] at r1; exact r1, r2, ?_⟩
      have s1 := stF_setV (S := S) (last := last) (v := v) (w := v p.2.1 + p.2.2) h1
      have s2 := stF_setL (S := S) (last := last) (v := up1 v p.1 (v p.2.1 + p.2.2)) (p := p) h1
      have body : l_find_ring_1 [nn, lv, some (.loc (S.length + 1)), some (.loc (S.length + 3)), some (lowV low), a5, some (tripP p), none, none, none, a10] (stF S n v last) =
          some (.next [nn, lv, some (.loc (S.length + 1)), some (.loc (S.length + 3)), some (.int p.1), a5, some (tripP p), some (.int p.1), some (.int p.2.1), some (.int p.2.2), a10] (stF S n (up1 v p.1 (v p.2.1 + p.2.2)) (up1 last p.1 (some p)))) := by
        have tt : ∀ ρ T, gT 3 (gsCons (gN 7) (gsCons (gN 8) (gsCons (gN 9) gsNil))) (tripP p) ρ T = some (((ρ.set 7 (some (.int p.1))).set 8 (some (.int p.2.1))).set 9 (some (.int p.2.2)), T) := fun _ _ => rfl
        simp only [l_find_ring_1, ev_seq, ev_asg, ev_var, List.getElem?_cons_succ, List.getElem?_cons_zero, ev_bS_ok, tt, List.set_cons_succ, List.set_cons_zero, ev_bN_next, ev_ifS, ev_cmp, ev_op2, ev_bR_ok, x1, x2, ev_addI, ev_rel, hd, decide_true, ev_asB, if_true, ev_gsub, s1, s2, ev_set]
      simp only [ev_gN, List.set_cons_succ, List.set_cons_zero, body, ev_killC, ev_killN]
      exact r3
    · obtain ⟨T', v', last', pn', tm', low', r1, r2, r3⟩ := pass_loop hin hk hq (nn := nn) (lv := lv) (a5 := a5) (a10 := a10) rest (done ++ [p]) _ _ _ _ _ _ (s.stay hd) (fun r hr => hm r (List.mem_cons_of_mem _ hr)) hx
      refine ⟨T', v', last', pn', tm', low', by rw [List.append_assoc] at r1; exact r1, r2, ?_⟩
      have body : l_find_ring_1 [nn, lv, some (.loc (S.length + 1)), some (.loc (S.length + 3)), some (lowV low), a5, some (tripP p), none, none, none, a10] (stF S n v last) =
          some (.next [nn, lv, some (.loc (S.length + 1)), some (.loc (S.length + 3)), some (lowV low), a5, some (tripP p), some (.int p.1), some (.int p.2.1), some (.int p.2.2), a10] (stF S n v last)) := by
        have tt : ∀ ρ T, gT 3 (gsCons (gN 7) (gsCons (gN 8) (gsCons (gN 9) gsNil))) (tripP p) ρ T = some (((ρ.set 7 (some (.int p.1))).set 8 (some (.int p.2.1))).set 9 (some (.int p.2.2)), T) := fun _ _ => rfl
        simp only [l_find_ring_1, ev_seq, ev_asg, ev_var, List.getElem?_cons_succ, List.getElem?_cons_zero, ev_bS_ok, tt, List.set_cons_succ, List.set_cons_zero, ev_bN_next, ev_ifS, ev_cmp, ev_op2, ev_bR_ok, x1, x2, ev_addI, ev_rel, hd, decide_false, ev_asB, Bool.false_eq_true, if_false, ev_pass]
      simp only [ev_gN, List.set_cons_succ, List.set_cons_zero, body, ev_killC, ev_killN]
      exact r3
/-- what find_ring answers -/
def FoundR (l : List T3) (r : PV) : Prop := (r = .non ∧ ∃ v, Pot l v) ∨ ∃ rs, r = .tup (tripsP rs) ∧ ringB rs = true ∧ (∀ p ∈ rs, p ∈ l) ∧ Wk l (rs.getD 0 (0, 0, 0)).1 (rs.getD 0 (0, 0, 0)).1 (rs.map fun p => p.2.2).sum ∧ rs.length ≤ 10000
theorem Ch.wk {l : List T3} {last : Int → Option T3} (hlast : ∀ x p, last x = some p → p.1 = x ∧ p ∈ l) {x y : Int} {ps : List T3} (h : Ch last x ps y) : Wk l x y (ps.map fun p => p.2.2).sum := by
  induction h with
  | nil x => exact .nil x
  | @cons x y p ps e h ih =>
    obtain ⟨a1, a2⟩ := hlast _ _ e
    rw [List.map_cons, List.sum_cons, ← a1]
    exact .cons a2 ih
theorem Low.found {l : List T3} {q T : Nat} {done : List T3} {v : Int → Int} {last : Int → Option T3} {pn tm : Int → Nat} {low : Option Int} (s : Low l q T done v last pn tm low) {x : Int} {rs : List T3} (h : Ch last x rs x) (hn : rs ≠ [] ∧ rs.length ≤ 10000) : FoundR l (.tup (tripsP rs)) := by
  refine .inr ⟨rs, rfl, s.ring h hn.1, s.mem h, ?_, hn.2⟩
  have h1 := (s.link h).1 0 (List.length_pos_iff.mpr hn.1)
  rw [if_pos rfl] at h1
  rw [h1]
  exact h.wk fun x p e => ⟨(s.som x p e).1, (s.som x p e).2.1⟩
theorem rounds {S : Sto} {n : Nat} (hn : n ≤ 80) {l : List T3} (hin : InN n l) {lv : PV} {keep : List (Nat × PO)} (hv : Seq S lv (tripsP l) keep) : ∀ (is : List Int) (q T : Nat) (v : Int → Int) (last : Int → Option T3) (pn tm : Int → Nat) (lo : PV), 1 ≤ q → Low l q T [] v last pn tm none →
    (∃ r S', FoundR l r ∧ noLoc r = true ∧ forL (gN 5) [5, 6, 7, 8, 9, 10] l_find_ring_2 [] (intsP is) [some (.int (n : Int)), some lv, some (.loc (S.length + 1)), some (.loc (S.length + 3)), some lo, none, none, none, none, none, none] (stF S n v last) = some (.ret r (S ++ S'))) ∨
    (∃ T' v' last' pn' tm' lo', Low l (q + is.length) T' [] v' last' pn' tm' none ∧ (0 < is.length → ∃ x : Int, lo' = .int x ∧ (0 ≤ x ∧ x < n) ∧ pn' x + 1 = q + is.length) ∧
      forL (gN 5) [5, 6, 7, 8, 9, 10] l_find_ring_2 [] (intsP is) [some (.int (n : Int)), some lv, some (.loc (S.length + 1)), some (.loc (S.length + 3)), some lo, none, none, none, none, none, none] (stF S n v last) =
        some (.next [some (.int (n : Int)), some lv, some (.loc (S.length + 1)), some (.loc (S.length + 3)), some lo', none, none, none, none, none, none] (stF S n v' last')))
  | [], q, T, v, last, pn, tm, lo, _, s => .inr ⟨T, v, last, pn, tm, lo, s, fun h => absurd h (by simp), by rw [intsP_nil, forL_nil (by simp)]⟩
  | i :: is, q, T, v, last, pn, tm, lo, hq, s => by
    have hv2 : ∀ v last, Seq (stF S n v last) lv (tripsP l) keep := fun v last => hv.app
    obtain ⟨T1, v1, last1, pn1, tm1, low1, s1, hx, e⟩ := pass_loop (S := S) hin (keep := keep) (fun v last => (hv2 v last).kept) hq (nn := some (.int (n : Int))) (lv := some lv) (a5 := some (.int i)) (a10 := none) l [] T v last pn tm none s (fun p hp => hp) (fun x h => by cases h)
    rw [List.nil_append] at s1
    have it := (hv2 v last).it (f := dVar 1) (ρ := [some (.int (n : Int)), some lv, some (.loc (S.length + 1)), some (.loc (S.length + 3)), some .non, some (.int i), none, none, none, none, none]) (by simp)
    have hlast : ∀ x p, last1 x = some p → p ∈ l := fun x p h => (s1.som x p h).2.1
    rw [intsP_cons, forL_cons (by simp)]
    cases low1 with
    | none =>
      refine .inl ⟨.non, [.lst [.int 0], .lst (rowF n fun i => .int (v1 i)), .lst [.non], .lst (rowF n fun i => oT (last1 i))], .inl ⟨rfl, v1, s1.pot⟩, rfl, ?_⟩
      have is1 := is_lowV (S := stF S n v1 last1) none
      have body : l_find_ring_2 [some (.int (n : Int)), some lv, some (.loc (S.length + 1)), some (.loc (S.length + 3)), some lo, some (.int i), none, none, none, none, none] (stF S n v last) = some (.ret .non (stF S n v1 last1)) := by
        have e : forL (gN 6) [6, 7, 8, 9] l_find_ring_1 keep (tripsP l) [some (.int (n : Int)), some lv, some (.loc (S.length + 1)), some (.loc (S.length + 3)), some .non, some (.int i), none, none, none, none, none] (stF S n v last) = _ := e
        simp only [l_find_ring_2, ev_seq, ev_set, ev_c, ev_bS_ok, List.set_cons_succ, List.set_cons_zero, ev_bN_next, ev_for, it, ev_killC, ev_killN, e, ev_ifS, ev_cmp, ev_op2, ev_var, List.getElem?_cons_succ, List.getElem?_cons_zero, ev_bR_ok, is1, Option.isNone_none, ev_asB, if_true, ev_ret, ev_bN_ret]
      simp only [ev_gN, List.set_cons_succ, List.set_cons_zero, body]
      rfl
    | some x =>
      have hx := hx x rfl
      have is1 := is_lowV (S := stF S n v1 last1) (some x)
      rcases ring_at_spec (S := stF S n v1 last1) (k := S.length + 3) stF_l hin hlast hx hn with ra | ⟨rs, c1, c2, c3, ra⟩
      · have body : l_find_ring_2 [some (.int (n : Int)), some lv, some (.loc (S.length + 1)), some (.loc (S.length + 3)), some lo, some (.int i), none, none, none, none, none] (stF S n v last) = some (.next [some (.int (n : Int)), some lv, some (.loc (S.length + 1)), some (.loc (S.length + 3)), some (.int x), some (.int i), none, none, none, none, some .non] (stF S n v1 last1)) := by
          have e : forL (gN 6) [6, 7, 8, 9] l_find_ring_1 keep (tripsP l) [some (.int (n : Int)), some lv, some (.loc (S.length + 1)), some (.loc (S.length + 3)), some .non, some (.int i), none, none, none, none, none] (stF S n v last) = _ := e
          simp only [l_find_ring_2, ev_seq, ev_set, ev_c, ev_bS_ok, List.set_cons_succ, List.set_cons_zero, ev_bN_next, ev_for, it, ev_killC, ev_killN, e, ev_ifS, ev_cmp, ev_op2, ev_var, List.getElem?_cons_succ, List.getElem?_cons_zero, ev_bR_ok, is1, Option.isNone_some, ev_asB, Bool.false_eq_true, if_false, ev_pass]
          simp only [lowV, ev_pass, ev_ifS, ev_cmp, ev_op2, ev_c, ev_opA, ev_cons, ev_var, List.getElem?_cons_succ, List.getElem?_cons_zero, ev_nil, ev_bR_ok, ra, ev_bS_ok, List.set_cons_succ, List.set_cons_zero, ev_bN_next, show ∀ T : Sto, gIsN true .non .non T = some (.ok (.bl false) T) from fun _ => rfl, ev_asB, Bool.false_eq_true, if_false]
        rcases rounds hn hin hv is (q + 1) T1 v1 last1 pn1 tm1 (.int x) (by omega) s1.next with ⟨r, S', f1, f2, f3⟩ | ⟨T', v', last', pn', tm', lo', f1, f2, f3⟩
        · refine .inl ⟨r, S', f1, f2, ?_⟩
          simp only [ev_gN, List.set_cons_succ, List.set_cons_zero, body, ev_killC, ev_killN]
          exact f3
        · have hpx := s1.low1 x rfl
          have f1' : Low l (q + (i :: is).length) T' [] v' last' pn' tm' none := by
            rw [List.length_cons, show q + (is.length + 1) = q + 1 + is.length by omega]
            exact f1
          cases is with
          | nil =>
            rw [intsP_nil, forL_nil (by simp)] at f3
            refine .inr ⟨T1, v1, last1, pn1, tm1, .int x, s1.next, fun _ => ⟨x, rfl, hx, by simp; omega⟩, ?_⟩
            simp only [ev_gN, List.set_cons_succ, List.set_cons_zero, body, ev_killC, ev_killN]
            rw [intsP_nil, forL_nil (by simp)]
          | cons i2 is =>
            obtain ⟨y, g1, g2, g3⟩ := f2 (by simp)
            refine .inr ⟨T', v', last', pn', tm', lo', f1', fun _ => ⟨y, g1, g2, by rw [g3]; simp only [List.length_cons]; omega⟩, ?_⟩
            simp only [ev_gN, List.set_cons_succ, List.set_cons_zero, body, ev_killC, ev_killN]
            exact f3
      · refine .inl ⟨.tup (tripsP rs), [.lst [.int 0], .lst (rowF n fun i => .int (v1 i)), .lst [.non], .lst (rowF n fun i => oT (last1 i))], s1.found c1 ⟨c2, by omega⟩, noLocs_trips _, ?_⟩
        have body : l_find_ring_2 [some (.int (n : Int)), some lv, some (.loc (S.length + 1)), some (.loc (S.length + 3)), some lo, some (.int i), none, none, none, none, none] (stF S n v last) = some (.ret (.tup (tripsP rs)) (stF S n v1 last1)) := by
          have e : forL (gN 6) [6, 7, 8, 9] l_find_ring_1 keep (tripsP l) [some (.int (n : Int)), some lv, some (.loc (S.length + 1)), some (.loc (S.length + 3)), some .non, some (.int i), none, none, none, none, none] (stF S n v last) = _ := e
          simp only [l_find_ring_2, ev_seq, ev_set, ev_c, ev_bS_ok, List.set_cons_succ, List.set_cons_zero, ev_bN_next, ev_for, it, ev_killC, ev_killN, e, ev_ifS, ev_cmp, ev_op2, ev_var, List.getElem?_cons_succ, List.getElem?_cons_zero, ev_bR_ok, is1, Option.isNone_some, ev_asB, Bool.false_eq_true, if_false, ev_pass]
          simp only [lowV, ev_pass, ev_ifS, ev_cmp, ev_op2, ev_c, ev_opA, ev_cons, ev_var, List.getElem?_cons_succ, List.getElem?_cons_zero, ev_nil, ev_bR_ok, ra, ev_bS_ok, List.set_cons_succ, List.set_cons_zero, ev_bN_next, show ∀ T : Sto, gIsN true (.tup (tripsP rs)) .non T = some (.ok (.bl true) T) from fun _ => rfl, ev_asB, if_true, ev_ret]
        simp only [ev_gN, List.set_cons_succ, List.set_cons_zero, body]
        rfl
theorem find_ring_spec {S : Sto} {n : Nat} (h1 : 1 ≤ n) (hn : n ≤ 80) {l : List T3} (hp : ptsB n l = true) {lv : PV} {keep : List (Nat × PO)} (hv : Seq S lv (tripsP l) keep) : ∃ r, FoundR l r ∧ F_find_ring [.int n, lv] S = some (.ok r S) := by
  have hin : InN n l := fun p hm => by
    unfold ptsB at hp
    rw [List.all_eq_true] at hp
    have := hp p hm
    simp only [Bool.and_eq_true, decide_eq_true_eq] at this
    exact this
  have ck := lits_ok (S := S) hv (n := n) ⟨by omega, by omega⟩ hp
  have r1 := ev_repL (S := S) (n := (n : Int)) (w := .int 0) (by omega) (by omega)
  have r2 := ev_repL (S := S ++ [.lst [.int 0], .lst (rowF n fun _ => .int 0)]) (n := (n : Int)) (w := .non) (by omega) (by omega)
  rw [Int.toNat_natCast] at r1 r2
  have l2 : gLstP [.non] (S ++ [.lst [.int 0], .lst (rowF n fun _ => .int 0)]) = some (.ok (.loc (S.length + 2)) (S ++ [.lst [.int 0], .lst (rowF n fun _ => .int 0)] ++ [.lst [.non]])) := by rw [ev_lst1]; simp
  have r2 : gMul (.loc (S.length + 2)) (.int (n : Int)) (S ++ [.lst [.int 0], .lst (rowF n fun _ => .int 0)] ++ [.lst [.non]]) = some (.ok (.loc (S.length + 3)) (stF S n (fun _ => 0) fun _ => none)) := by
    rw [List.length_append] at r2
    refine r2.trans ?_
    unfold stF
    simp
    rfl
  have front : ∀ g : DS, (dSeq (dExpr (dOpA F_check_literals (dCons (dVar 0) (dCons (dVar 1) dNil)))) (dSeq (dSet 2 (dOp2 gMul (dLst (dCons (dC (.int 0)) dNil)) (dVar 0))) (dSeq (dSet 3 (dOp2 gMul (dLst (dCons (dC .non) dNil)) (dVar 0))) (dSeq (dSet 4 (dC .non)) g)))) [some (.int (n : Int)), some lv, none, none, none, none, none, none, none, none, none] S =
      g [some (.int (n : Int)), some lv, some (.loc (S.length + 1)), some (.loc (S.length + 3)), some .non, none, none, none, none, none, none] (stF S n (fun _ => 0) fun _ => none) := fun g => by
    simp only [ev_seq, ev_expr, ev_opA, ev_cons, ev_var, List.getElem?_cons_succ, List.getElem?_cons_zero, ev_nil, ev_bR_ok, ck, ev_bS_ok, ev_bN_next, ev_set, ev_op2, ev_lst, ev_c, ev_lst1, r1, List.set_cons_succ, List.set_cons_zero, l2, r2]
  have rg : dRng1 (dCons (dOp2 gAdd (dVar 0) (dC (.int 1))) dNil) [some (.int (n : Int)), some lv, some (.loc (S.length + 1)), some (.loc (S.length + 3)), some .non, none, none, none, none, none, none] (stF S n (fun _ => 0) fun _ => none) =
      some (.ok ⟨intsP ((List.range (n + 1)).map fun i : Nat => (0 : Int) + (i : Int)), []⟩ (stF S n (fun _ => 0) fun _ => none)) := by
    simp only [ev_rng1, ev_cons, ev_op2, ev_var, List.getElem?_cons_succ, List.getElem?_cons_zero, ev_c, ev_bR_ok, ev_addI, ev_nil, range_ints, show ((n : Int) + 1).toNat = n + 1 by omega]
  rcases rounds hn hin hv ((List.range (n + 1)).map fun i : Nat => (0 : Int) + (i : Int)) 1 0 _ _ _ _ .non (Nat.le_refl _) (Low.start l) with ⟨r, S', f1, f2, f3⟩ | ⟨T', v', last', pn', tm', lo', f1, f2, f3⟩
  · refine ⟨r, f1, call_val (T := S') ?_ f2⟩
    refine (front _).trans ?_
    simp only [ev_seq, ev_for, rg, ev_bS_ok, ev_killC, ev_killN, List.set_cons_succ, List.set_cons_zero, f3, ev_bN_ret]
  · obtain ⟨x, rfl, hx, hpx⟩ := f2 (by simp)
    simp at hpx
    obtain ⟨ps, y, c1, c2, _⟩ := f1.long n x (by omega)
    have hlast : ∀ x p, last' x = some p → p ∈ l := fun x p h => (f1.som x p h).2.1
    obtain ⟨rs, g1, g2, g3⟩ := ring_from_spec (S := stF S n v' last') (k := S.length + 3) stF_l hin hlast hx hn c1 c2
    refine ⟨.tup (tripsP rs), f1.found g1 g2, call_val (T := [.lst [.int 0], .lst (rowF n fun i => .int (v' i)), .lst [.non], .lst (rowF n fun i => oT (last' i))]) ?_ (noLocs_trips _)⟩
    refine (front _).trans ?_
    simp only [ev_seq, ev_for, rg, ev_bS_ok, ev_killC, ev_killN, List.set_cons_succ, List.set_cons_zero, f3, ev_bN_next, ev_ret, ev_opA, ev_cons, ev_var, List.getElem?_cons_succ, List.getElem?_cons_zero, ev_nil, ev_bR_ok, g3]
    rfl
end G

/-! S15: _law_least. -/
namespace G
open PySem PySem.Spec PyProof.Rows L2 D
noncomputable def l__law_least_1 : DS := (dSeq (dSet 4 (dOp2 gIx (dVar 2) (dVar 3))) (dAsg (gSubT gSetL (dVar 4) (dVar 3)) (dC (.int 0))))
noncomputable def l__law_least_2 : DS := (dSeq (dSet 4 (dOp2 gIx (dVar 2) (dVar 3))) (dIfS (dOrT (dCmp gIs (dOp2 gIx (dVar 4) (dVar 5)) (dC .non)) (dCmp gLt (dVar 6) (dOp2 gIx (dVar 4) (dVar 5)))) (dAsg (gSubT gSetL (dVar 4) (dVar 5)) (dVar 6)) dPass))
noncomputable def l__law_least_3 : DS := (dIfS (dAndT (dCmp gIsNot (dOp2 gIx (dVar 4) (dVar 7)) (dC .non)) (dCmp gIsNot (dOp2 gIx (dOp2 gIx (dVar 2) (dVar 7)) (dVar 5)) (dC .non))) (dSeq (dSet 8 (dOp2 gAdd (dOp2 gIx (dVar 4) (dVar 7)) (dOp2 gIx (dOp2 gIx (dVar 2) (dVar 7)) (dVar 5)))) (dIfS (dOrT (dCmp gIs (dOp2 gIx (dVar 4) (dVar 5)) (dC .non)) (dCmp gLt (dVar 8) (dOp2 gIx (dVar 4) (dVar 5)))) (dAsg (gSubT gSetL (dVar 4) (dVar 5)) (dVar 8)) dPass)) dPass)
noncomputable def l__law_least_4 : DS := (dSeq (dSet 4 (dOp2 gIx (dVar 2) (dVar 3))) (dFor (dRng1 (dCons (dVar 0) dNil)) (gN 5) [5, 8] l__law_least_3))
noncomputable def l__law_least_5 : DS := (dFor (dRng1 (dCons (dVar 0) dNil)) (gN 3) [3, 4, 5, 8] l__law_least_4)
noncomputable def l__law_least_6 : DS := (dIfS (dCmp gLt (dOp2 gIx (dOp2 gIx (dVar 2) (dVar 3)) (dVar 3)) (dC (.int 0))) (dRet (dC .non)) dPass)
noncomputable def b__law_least : DS := (dSeq (dSet 2 (dComp (dRng1 (dCons (dVar 0) dNil)) (nmOne 3) [3] dYes (dOp2 gMul (dLst (dCons (dC .non) dNil)) (dVar 0)))) (dSeq (dFor (dRng1 (dCons (dVar 0) dNil)) (gN 3) [3, 4] l__law_least_1) (dSeq (dFor (dSeqI (dVar 1)) (gT 3 (gsCons (gN 3) (gsCons (gN 5) (gsCons (gN 6) gsNil)))) [3, 4, 5, 6] l__law_least_2) (dSeq (dFor (dRng1 (dCons (dVar 0) dNil)) (gN 7) [3, 4, 5, 7, 8] l__law_least_5) (dSeq (dFor (dRng1 (dCons (dVar 0) dNil)) (gN 3) [3] l__law_least_6) (dRet (dVar 2)))))))
noncomputable def F__law_least : DF := dDef 2 9 b__law_least
/-! ### the table in the store -/
def slot (N : Nat) (i : Int) : Nat := N + 2 + 2 * i.toNat
structure Tab (N n : Nat) (S : Sto) (D : Tb) : Prop where
  tab : S[N]? = some (.lst (rowF n fun i => .loc (slot N i)))
  row : ∀ i : Int, 0 ≤ i → i < n → S[slot N i]? = some (.lst (rowF n fun b => lowV (D i b)))
def Fr (N : Nat) (S S' : Sto) : Prop := S'.length = S.length ∧ ∀ k, k < N → S'[k]? = S[k]?
theorem Fr.refl {N : Nat} {S : Sto} : Fr N S S := ⟨rfl, fun _ _ => rfl⟩
theorem Fr.trans {N : Nat} {S S' S'' : Sto} (h : Fr N S S') (h2 : Fr N S' S'') : Fr N S S'' := ⟨h2.1.trans h.1, fun k hk => (h2.2 k hk).trans (h.2 k hk)⟩
theorem Tab.put {N n : Nat} {S : Sto} {D : Tb} (t : Tab N n S D) {a b : Int} {w : Option Int} (ha : 0 ≤ a ∧ a < n) (hb : 0 ≤ b ∧ b < n) : ∃ S', gSetL (.loc (slot N a)) (.int b) (lowV w) S = some S' ∧ Tab N n S' (putT D a b w) ∧ Fr N S S' := by
  have hr := t.row a ha.1 ha.2
  have hlt := lt_of_get hr
  refine ⟨_, ev_setL hr hb.1 (by rw [rowF_len]; exact hb.2), ⟨?_, fun i h0 h1 => ?_⟩, ?_, fun k hk => ?_⟩
  · rw [List.getElem?_set_ne (by unfold slot; omega)]
    exact t.tab
  · by_cases hi : i = a
    · subst hi
      rw [List.getElem?_set_self hlt, rowF_set hb.1 hb.2]
      congr 2
      have : (fun y => lowV (putT D i b w i y)) = up1 (fun y => lowV (D i y)) b (lowV w) := by
        funext y
        unfold putT up1
        by_cases hy : y = b
        · simp [hy]
        · simp [hy]
      rw [this]
    · rw [List.getElem?_set_ne (by unfold slot; omega), t.row i h0 h1]
      congr 2
      have : (fun y => lowV (putT D a b w i y)) = fun y => lowV (D i y) := by
        funext y
        unfold putT
        simp [hi]
      rw [this]
  · rw [List.length_set]
  · rw [List.getElem?_set_ne (by unfold slot; omega)]
theorem Tab.getRow {N n : Nat} {S : Sto} {D : Tb} (t : Tab N n S D) {a : Int} (ha : 0 ≤ a ∧ a < n) : gIx (.loc N) (.int a) S = some (.ok (.loc (slot N a)) S) := ev_ixL t.tab (rowF_at (f := fun i => .loc (slot N i)) ha.1 ha.2)
theorem Tab.get {N n : Nat} {S : Sto} {D : Tb} (t : Tab N n S D) {a b : Int} (ha : 0 ≤ a ∧ a < n) (hb : 0 ≤ b ∧ b < n) : gIx (.loc (slot N a)) (.int b) S = some (.ok (lowV (D a b)) S) := ev_ixL (t.row a ha.1 ha.2) (rowF_at (f := fun b => lowV (D a b)) hb.1 hb.2)
theorem isnot_lowV {S : Sto} (o : Option Int) : gIsN true (lowV o) .non S = some (.ok (.bl o.isSome) S) := by cases o <;> rfl
/-! ### making it -/
theorem rowF_succ {n : Nat} {f : Int → PV} : rowF n f ++ [f (n : Int)] = rowF (n + 1) f := by
  unfold rowF
  rw [List.range_succ, List.map_append]
  rfl
theorem cell_at {S : Sto} {o : PO} {cells : Sto} {i : Nat} : (S ++ o :: cells)[S.length + 2 + 2 * i]? = cells[2 * i + 1]? := by
  rw [List.getElem?_append_right (by omega), show S.length + 2 + 2 * i - S.length = (2 * i + 1) + 1 by omega, List.getElem?_cons_succ]
theorem rows_made {S : Sto} {n : Nat} (hn : n ≤ 1000) {r : List (Option PV)} : ∀ (is : List Int) (i : Nat) (cells : Sto), cells.length = 2 * i → (∀ j, j < i → cells[2 * j + 1]? = some (.lst (rowF n fun _ => .non))) → i + is.length ≤ 1000 →
    ∃ cells' : Sto, cells'.length = 2 * (i + is.length) ∧ (∀ j, j < i + is.length → cells'[2 * j + 1]? = some (.lst (rowF n fun _ => .non))) ∧
      compL S.length (nmOne 3) [3] dYes (dOp2 gMul (dLst (dCons (dC .non) dNil)) (dVar 0)) [] (intsP is) (some (.int (n : Int)) :: r) (S ++ .lst (rowF i fun j => .loc (slot S.length j)) :: cells) =
        some (.ok (.loc S.length) (S ++ .lst (rowF (i + is.length) fun j => .loc (slot S.length j)) :: cells'))
  | [], i, cells, h1, h2, _ => ⟨cells, h1, h2, by
      unfold compL
      rw [intsP_nil]
      simp⟩
  | x :: is, i, cells, h1, h2, hl => by
    rw [List.length_cons] at hl
    have hU : (S ++ PO.lst (rowF i fun j => .loc (slot S.length j)) :: cells).length = S.length + 1 + 2 * i := by simp; omega
    have rp := ev_repL (S := S ++ PO.lst (rowF i fun j => .loc (slot S.length j)) :: cells) (n := (n : Int)) (w := .non) (by omega) (by omega)
    rw [Int.toNat_natCast] at rp
    obtain ⟨cells', g1, g2, g3⟩ := rows_made hn (S := S) (r := r) is (i + 1) (cells ++ [.lst [.non], .lst (rowF n fun _ => .non)]) (by rw [List.length_append, h1]; simp; omega) (fun j hj => by
      by_cases hji : j = i
      · subst hji
        rw [List.getElem?_append_right (by omega), h1, show 2 * j + 1 - 2 * j = 1 by omega]
        rfl
      · rw [List.getElem?_append_left (by omega)]
        exact h2 j (by omega)) (by omega)
    refine ⟨cells', by rw [g1, List.length_cons]; omega, fun j hj => g2 j (by rw [List.length_cons] at hj; omega), ?_⟩
    rw [intsP_cons]
    unfold compL
    have e1 : (dOp2 gMul (dLst (dCons (dC .non) dNil)) (dVar 0)) (setsE [3] [.int x] (killE [3] (some (.int (n : Int)) :: r))) (S ++ PO.lst (rowF i fun j => .loc (slot S.length j)) :: cells) = some (.ok (.loc (slot S.length i)) (S ++ PO.lst (rowF i fun j => .loc (slot S.length j)) :: (cells ++ [.lst [.non], .lst (rowF n fun _ => .non)]))) := by
      simp only [setsE, ev_killC, ev_killN, List.set_cons_succ, ev_op2, ev_lst, ev_cons, ev_c, ev_nil, ev_bR_ok, ev_lst1, ev_var, List.getElem?_cons_zero, rp]
      rw [hU]
      simp [slot]
      omega
    simp only [nmOne, dYes]
    rw [if_pos (by simp), e1]
    simp only [at_0]
    rw [if_pos (by rw [rowF_len]; omega), put_0, rowF_succ (f := fun j => .loc (slot S.length j)), g3, List.length_cons, show i + 1 + is.length = i + (is.length + 1) by omega]
/-! ### the loops -/
def diagT (as : List Int) (D : Tb) : Tb := as.foldl (fun D a => putT D a a (some 0)) D
def litT (l : List T3) (D : Tb) : Tb := l.foldl (fun D p => relax D p.1 p.2.1 p.2.2) D
section
variable {N n : Nat} {nv : PV} {lv : Option PV}
def InL (n : Nat) (is : List Int) : Prop := ∀ i ∈ is, 0 ≤ i ∧ i < (n : Int)
theorem InL.tl {i : Int} {is : List Int} (h : InL n (i :: is)) : InL n is := fun j hj => h j (List.mem_cons_of_mem _ hj)
theorem loop1 : ∀ (is : List Int) (S : Sto) (D : Tb), InL n is → Tab N n S D → ∃ S', Tab N n S' (diagT is D) ∧ Fr N S S' ∧
    forL (gN 3) [3, 4] l__law_least_1 [] (intsP is) [some nv, lv, some (.loc N), none, none, none, none, none, none] S = some (.next [some nv, lv, some (.loc N), none, none, none, none, none, none] S')
  | [], S, D, _, t => ⟨S, t, .refl, by rw [intsP_nil, forL_nil (by simp)]⟩
  | a :: is, S, D, h, t => by
    have ha := h a List.mem_cons_self
    obtain ⟨S1, e, t1, f1⟩ := t.put (w := some 0) ha ha
    obtain ⟨S2, t2, f2, e2⟩ := loop1 is S1 _ h.tl t1
    refine ⟨S2, t2, f1.trans f2, ?_⟩
    have e : gSetL (.loc (slot N a)) (.int a) (.int 0) S = some S1 := e
    have body : l__law_least_1 [some nv, lv, some (.loc N), some (.int a), none, none, none, none, none] S = some (.next [some nv, lv, some (.loc N), some (.int a), some (.loc (slot N a)), none, none, none, none] S1) := by
      simp only [l__law_least_1, ev_seq, ev_set, ev_op2, ev_var, List.getElem?_cons_succ, List.getElem?_cons_zero, ev_bR_ok, t.getRow ha, ev_bS_ok, ev_bN_next, List.set_cons_succ, List.set_cons_zero, ev_asg, ev_c, ev_gsub, e]
    rw [intsP_cons, forL_cons (by simp)]
    simp only [ev_gN, List.set_cons_succ, List.set_cons_zero, body, ev_killC, ev_killN]
    exact e2
theorem lt_lowV {S : Sto} {w d : Int} : gLt (.int w) (lowV (some d)) S = some (.ok (.bl (decide (w < d))) S) := by simp [lowV]
theorem relax_yes {D : Tb} {a b w : Int} (h : lessO w (D a b) = true) : relax D a b w = putT D a b (some w) := by unfold relax; rw [if_pos h]
theorem relax_no {D : Tb} {a b w : Int} (h : lessO w (D a b) = false) : relax D a b w = D := by unfold relax; rw [if_neg (by rw [h]; simp)]
theorem Tab.relax {S : Sto} {D : Tb} (t : Tab N n S D) {a b w : Int} (ha : 0 ≤ a ∧ a < n) (hb : 0 ≤ b ∧ b < n) {ρ : En} {kb kw : Nat} (h4 : ρ[4]? = some (some (.loc (slot N a)))) (h5 : ρ[kb]? = some (some (.int b))) (h6 : ρ[kw]? = some (some (.int w))) :
    ∃ S', Tab N n S' (relax D a b w) ∧ Fr N S S' ∧ (dIfS (dOrT (dCmp gIs (dOp2 gIx (dVar 4) (dVar kb)) (dC .non)) (dCmp gLt (dVar kw) (dOp2 gIx (dVar 4) (dVar kb)))) (dAsg (gSubT gSetL (dVar 4) (dVar kb)) (dVar kw)) dPass) ρ S = some (.next ρ S') := by
  have g := t.get ha hb
  have is1 := is_lowV (S := S) (D a b)
  obtain ⟨S1, e, t1, f1⟩ := t.put (w := some w) ha hb
  have e : gSetL (.loc (slot N a)) (.int b) (.int w) S = some S1 := e
  cases hd : D a b with
  | none =>
    rw [hd] at g is1
    refine ⟨S1, by rw [relax_yes (by rw [hd]; rfl)]; exact t1, f1, ?_⟩
    simp only [ev_ifS, ev_orT, ev_cmp, ev_op2, ev_var, h4, h5, h6, ev_bR_ok, g, ev_c, is1, Option.isNone_none, ev_asB, if_true, ev_bS_ok, ev_asg, ev_gsub, e]
  | some d =>
    rw [hd] at g is1
    have lt := lt_lowV (S := S) (w := w) (d := d)
    by_cases hw : w < d
    · refine ⟨S1, by rw [relax_yes (by rw [hd]; simp [lessO, hw])]; exact t1, f1, ?_⟩
      simp only [ev_ifS, ev_orT, ev_cmp, ev_op2, ev_var, h4, h5, h6, ev_bR_ok, g, ev_c, is1, Option.isNone_some, ev_asB, Bool.false_eq_true, if_false, lt, hw, decide_true, if_true, ev_bS_ok, ev_asg, ev_gsub, e]
    · refine ⟨S, by rw [relax_no (by rw [hd]; simp [lessO]; omega)]; exact t, .refl, ?_⟩
      simp only [ev_ifS, ev_orT, ev_cmp, ev_op2, ev_var, h4, h5, h6, ev_bR_ok, g, ev_c, is1, Option.isNone_some, ev_asB, Bool.false_eq_true, if_false, lt, hw, decide_false, ev_bS_ok, ev_pass]
theorem loop2 {keep : List (Nat × PO)} (hkN : ∀ p ∈ keep, p.1 < N) : ∀ (l : List T3) (S : Sto) (D : Tb), Kept keep S → InN n l → Tab N n S D → ∃ S', Tab N n S' (litT l D) ∧ Fr N S S' ∧
    forL (gT 3 (gsCons (gN 3) (gsCons (gN 5) (gsCons (gN 6) gsNil)))) [3, 4, 5, 6] l__law_least_2 keep (tripsP l) [some nv, lv, some (.loc N), none, none, none, none, none, none] S = some (.next [some nv, lv, some (.loc N), none, none, none, none, none, none] S')
  | [], S, D, hk, _, t => ⟨S, t, .refl, by rw [tripsP_nil, forL_nil hk]⟩
  | p :: l, S, D, hk, h, t => by
    obtain ⟨ha, hb⟩ := h p List.mem_cons_self
    obtain ⟨S1, t1, f1, e⟩ := t.relax (w := p.2.2) ha hb (ρ := [some nv, lv, some (.loc N), some (.int p.1), some (.loc (slot N p.1)), some (.int p.2.1), some (.int p.2.2), none, none]) (kb := 5) (kw := 6) rfl rfl rfl
    obtain ⟨S2, t2, f2, e2⟩ := loop2 hkN l S1 _ (fun r hr => by rw [f1.2 _ (hkN r hr)]; exact hk r hr) (fun r hr => h r (List.mem_cons_of_mem _ hr)) t1
    refine ⟨S2, t2, f1.trans f2, ?_⟩
    have body : l__law_least_2 [some nv, lv, some (.loc N), some (.int p.1), none, some (.int p.2.1), some (.int p.2.2), none, none] S = some (.next [some nv, lv, some (.loc N), some (.int p.1), some (.loc (slot N p.1)), some (.int p.2.1), some (.int p.2.2), none, none] S1) := by
      unfold l__law_least_2
      simp only [ev_seq, ev_set, ev_op2, ev_var, List.getElem?_cons_succ, List.getElem?_cons_zero, ev_bR_ok, t.getRow ha, ev_bS_ok, ev_bN_next, List.set_cons_succ, List.set_cons_zero]
      exact e
    rw [tripsP_cons, forL_cons hk]
    simp only [tripP, ev_gT, List.length_cons, List.length_nil, Nat.reduceAdd, if_true, ev_gsCons, ev_gN, ev_gsNil, List.set_cons_succ, List.set_cons_zero, body, ev_killC, ev_killN]
    exact e2
theorem loop3 {m a : Int} (hm : 0 ≤ m ∧ m < n) (ha : 0 ≤ a ∧ a < n) : ∀ (is : List Int) (S : Sto) (D : Tb), InL n is → Tab N n S D → ∃ S', Tab N n S' (rowT m a is D) ∧ Fr N S S' ∧
    forL (gN 5) [5, 8] l__law_least_3 [] (intsP is) [some nv, lv, some (.loc N), some (.int a), some (.loc (slot N a)), none, none, some (.int m), none] S = some (.next [some nv, lv, some (.loc N), some (.int a), some (.loc (slot N a)), none, none, some (.int m), none] S')
  | [], S, D, _, t => ⟨S, t, .refl, by rw [intsP_nil, forL_nil (by simp)]⟩
  | b :: is, S, D, h, t => by
    have hb := h b List.mem_cons_self
    have g1 := t.get ha hm
    have g2 := t.get hm hb
    have i1 := isnot_lowV (S := S) (D a m)
    have i2 := isnot_lowV (S := S) (D m b)
    have step : ∃ S1 z, Tab N n S1 (midT m a b D) ∧ Fr N S S1 ∧ l__law_least_3 [some nv, lv, some (.loc N), some (.int a), some (.loc (slot N a)), some (.int b), none, some (.int m), none] S = some (.next [some nv, lv, some (.loc N), some (.int a), some (.loc (slot N a)), some (.int b), none, some (.int m), z] S1) := by
      cases e1 : D a m with
      | none =>
        rw [e1] at g1 i1
        refine ⟨S, none, by unfold midT; rw [e1]; exact t, .refl, ?_⟩
        simp only [l__law_least_3, ev_ifS, ev_andT, ev_cmp, ev_op2, ev_var, List.getElem?_cons_succ, List.getElem?_cons_zero, ev_bR_ok, g1, ev_c, i1, Option.isSome_none, ev_asB, Bool.false_eq_true, if_false, ev_bS_ok, ev_pass]
      | some p =>
        rw [e1] at g1 i1
        cases e2 : D m b with
        | none =>
          rw [e2] at g2 i2
          refine ⟨S, none, by unfold midT; rw [e1, e2]; exact t, .refl, ?_⟩
          simp only [l__law_least_3, ev_ifS, ev_andT, ev_cmp, ev_op2, ev_var, List.getElem?_cons_succ, List.getElem?_cons_zero, ev_bR_ok, g1, ev_c, i1, Option.isSome_some, ev_asB, if_true, t.getRow hm, g2, i2, Option.isSome_none, Bool.false_eq_true, if_false, ev_bS_ok, ev_pass]
        | some q =>
          rw [e2] at g2 i2
          obtain ⟨S1, t1, f1, e⟩ := t.relax (w := p + q) ha hb (ρ := [some nv, lv, some (.loc N), some (.int a), some (.loc (slot N a)), some (.int b), none, some (.int m), some (.int (p + q))]) (kb := 5) (kw := 8) rfl rfl rfl
          refine ⟨S1, some (.int (p + q)), by rw [midT_some e1 e2]; exact t1, f1, ?_⟩
          have ad : gAdd (lowV (some p)) (lowV (some q)) S = some (.ok (.int (p + q)) S) := by simp [lowV]
          unfold l__law_least_3
          simp only [ev_ifS, ev_andT, ev_cmp, ev_op2, ev_var, List.getElem?_cons_succ, List.getElem?_cons_zero, ev_bR_ok, g1, ev_c, i1, Option.isSome_some, ev_asB, if_true, t.getRow hm, g2, i2, ev_bS_ok, ev_seq, ev_set, ad, ev_bN_next, List.set_cons_succ, List.set_cons_zero]
          exact (by simpa only [ev_ifS, ev_orT, ev_cmp, ev_op2, ev_var, List.getElem?_cons_succ, List.getElem?_cons_zero, ev_bR_ok, ev_c] using e)
    obtain ⟨S1, z, t1, f1, body⟩ := step
    obtain ⟨S2, t2, f2, e2⟩ := loop3 hm ha is S1 _ h.tl t1
    refine ⟨S2, t2, f1.trans f2, ?_⟩
    rw [intsP_cons, forL_cons (by simp)]
    simp only [ev_gN, List.set_cons_succ, List.set_cons_zero, body, ev_killC, ev_killN]
    exact e2
theorem loop4 {m : Int} (hm : 0 ≤ m ∧ m < n) : ∀ (is : List Int) (S : Sto) (D : Tb), InL n is → Tab N n S D → ∃ S', Tab N n S' (stT m is ((List.range n).map fun i : Nat => (0 : Int) + (i : Int)) D) ∧ Fr N S S' ∧
    forL (gN 3) [3, 4, 5, 8] l__law_least_4 [] (intsP is) [some (.int (n : Int)), lv, some (.loc N), none, none, none, none, some (.int m), none] S = some (.next [some (.int (n : Int)), lv, some (.loc N), none, none, none, none, some (.int m), none] S')
  | [], S, D, _, t => ⟨S, t, .refl, by rw [intsP_nil, forL_nil (by simp)]⟩
  | a :: is, S, D, h, t => by
    have ha := h a List.mem_cons_self
    obtain ⟨S1, t1, f1, e1⟩ := loop3 (nv := .int (n : Int)) (lv := lv) hm ha ((List.range n).map fun i : Nat => (0 : Int) + (i : Int)) S D (fun i hi => by
      obtain ⟨j, hj, rfl⟩ := List.mem_map.mp hi
      rw [List.mem_range] at hj
      omega) t
    obtain ⟨S2, t2, f2, e2⟩ := loop4 hm is S1 _ h.tl t1
    rw [← range_ints] at e1
    refine ⟨S2, t2, f1.trans f2, ?_⟩
    have body : l__law_least_4 [some (.int (n : Int)), lv, some (.loc N), some (.int a), none, none, none, some (.int m), none] S = some (.next [some (.int (n : Int)), lv, some (.loc N), some (.int a), some (.loc (slot N a)), none, none, some (.int m), none] S1) := by
      simp only [l__law_least_4, ev_seq, ev_set, ev_op2, ev_var, List.getElem?_cons_succ, List.getElem?_cons_zero, ev_bR_ok, t.getRow ha, ev_bS_ok, ev_bN_next, List.set_cons_succ, List.set_cons_zero, ev_for, ev_rng1, ev_cons, ev_nil, Int.toNat_natCast, ev_killC, ev_killN, e1]
    rw [intsP_cons, forL_cons (by simp)]
    simp only [ev_gN, List.set_cons_succ, List.set_cons_zero, body, ev_killC, ev_killN]
    exact e2
theorem loop5 : ∀ (is : List Int) (S : Sto) (D : Tb), InL n is → Tab N n S D → ∃ S', Tab N n S' (fwT is ((List.range n).map fun i : Nat => (0 : Int) + (i : Int)) ((List.range n).map fun i : Nat => (0 : Int) + (i : Int)) D) ∧ Fr N S S' ∧
    forL (gN 7) [3, 4, 5, 7, 8] l__law_least_5 [] (intsP is) [some (.int (n : Int)), lv, some (.loc N), none, none, none, none, none, none] S = some (.next [some (.int (n : Int)), lv, some (.loc N), none, none, none, none, none, none] S')
  | [], S, D, _, t => ⟨S, t, .refl, by rw [intsP_nil, forL_nil (by simp)]⟩
  | m :: is, S, D, h, t => by
    have hm := h m List.mem_cons_self
    obtain ⟨S1, t1, f1, e1⟩ := loop4 (lv := lv) hm ((List.range n).map fun i : Nat => (0 : Int) + (i : Int)) S D (fun i hi => by
      obtain ⟨j, hj, rfl⟩ := List.mem_map.mp hi
      rw [List.mem_range] at hj
      omega) t
    obtain ⟨S2, t2, f2, e2⟩ := loop5 is S1 _ h.tl t1
    rw [← range_ints] at e1
    refine ⟨S2, t2, f1.trans f2, ?_⟩
    have body : l__law_least_5 [some (.int (n : Int)), lv, some (.loc N), none, none, none, none, some (.int m), none] S = some (.next [some (.int (n : Int)), lv, some (.loc N), none, none, none, none, some (.int m), none] S1) := by
      simp only [l__law_least_5, ev_for, ev_rng1, ev_cons, ev_var, List.getElem?_cons_succ, List.getElem?_cons_zero, ev_nil, ev_bR_ok, Int.toNat_natCast, ev_bS_ok, ev_killC, ev_killN, List.set_cons_succ, List.set_cons_zero, e1]
    rw [intsP_cons, forL_cons (by simp)]
    simp only [ev_gN, List.set_cons_succ, List.set_cons_zero, body, ev_killC, ev_killN]
    exact e2
theorem loop6 {S : Sto} {D : Tb} (t : Tab N n S D) (hd : ∀ a, 0 ≤ a → a < (n : Int) → leO (D a a) 0) : ∀ (is : List Int), InL n is →
    ((∃ a w, 0 ≤ a ∧ a < (n : Int) ∧ D a a = some w ∧ w < 0) ∧ forL (gN 3) [3] l__law_least_6 [] (intsP is) [some nv, lv, some (.loc N), none, none, none, none, none, none] S = some (.ret .non S)) ∨
    ((∀ a w, a ∈ is → D a a = some w → 0 ≤ w) ∧ forL (gN 3) [3] l__law_least_6 [] (intsP is) [some nv, lv, some (.loc N), none, none, none, none, none, none] S = some (.next [some nv, lv, some (.loc N), none, none, none, none, none, none] S))
  | [], _ => .inr ⟨fun _ _ h => (by cases h), by rw [intsP_nil, forL_nil (by simp)]⟩
  | a :: is, h => by
    have ha := h a List.mem_cons_self
    obtain ⟨w, e, _⟩ := hd a ha.1 ha.2
    have g := t.get ha ha
    rw [e] at g
    have lt : gLt (lowV (some w)) (.int 0) S = some (.ok (.bl (decide (w < 0))) S) := by simp [lowV]
    rw [intsP_cons, forL_cons (by simp)]
    by_cases hw : w < 0
    · refine .inl ⟨⟨a, w, ha.1, ha.2, e, hw⟩, ?_⟩
      have body : l__law_least_6 [some nv, lv, some (.loc N), some (.int a), none, none, none, none, none] S = some (.ret .non S) := by
        simp only [l__law_least_6, ev_ifS, ev_cmp, ev_op2, ev_var, List.getElem?_cons_succ, List.getElem?_cons_zero, ev_bR_ok, t.getRow ha, g, ev_c, lt, hw, decide_true, ev_asB, ev_bS_ok, if_true, ev_ret]
      simp only [ev_gN, List.set_cons_succ, List.set_cons_zero, body]
    · have body : l__law_least_6 [some nv, lv, some (.loc N), some (.int a), none, none, none, none, none] S = some (.next [some nv, lv, some (.loc N), some (.int a), none, none, none, none, none] S) := by
        simp only [l__law_least_6, ev_ifS, ev_cmp, ev_op2, ev_var, List.getElem?_cons_succ, List.getElem?_cons_zero, ev_bR_ok, t.getRow ha, g, ev_c, lt, hw, decide_false, ev_asB, ev_bS_ok, Bool.false_eq_true, if_false, ev_pass]
      simp only [ev_gN, List.set_cons_succ, List.set_cons_zero, body, ev_killC, ev_killN]
      rcases loop6 t hd is h.tl with ⟨h1, h2⟩ | ⟨h1, h2⟩
      · exact .inl ⟨h1, h2⟩
      · refine .inr ⟨fun b u hb hu => ?_, h2⟩
        rcases List.mem_cons.mp hb with rfl | hb
        · rw [e] at hu
          cases hu
          omega
        · exact h1 b u hb hu
end
/-! ### what the table tells -/
theorem diagT_of {l : List T3} : ∀ (as : List Int) (D : Tb), Sound l D → Sound l (diagT as D) ∧ (∀ a, a ∈ as ∨ D a a = some 0 → diagT as D a a = some 0)
  | [], D, h => ⟨h, fun a ha => by
      rcases ha with ha | ha
      · cases ha
      · exact ha⟩
  | b :: as, D, h => by
    have h1 : Sound l (putT D b b (some 0)) := fun x y w e => by
      unfold putT at e
      split at e
      · rename_i hxy
        cases e
        rw [hxy.1, hxy.2]
        exact .nil b
      · exact h _ _ _ e
    obtain ⟨r1, r2⟩ := diagT_of as _ h1
    refine ⟨r1, fun a ha => r2 a ?_⟩
    by_cases hab : a = b
    · subst hab
      exact .inr (by simp [putT])
    · rcases ha with ha | ha
      · rcases List.mem_cons.mp ha with ha | ha
        · exact absurd ha hab
        · exact .inl ha
      · exact .inr (by simp [putT, hab, ha])
theorem litT_mono {x y u : Int} : ∀ (r : List T3) {D : Tb}, leO (D x y) u → leO (litT r D x y) u
  | [], _, h => h
  | p :: r, _, h => litT_mono r (relax_mono h)
theorem litT_sound {l : List T3} : ∀ (r : List T3) {D : Tb}, (∀ p ∈ r, p ∈ l) → Sound l D → Sound l (litT r D)
  | [], _, _, h => h
  | p :: r, _, hm, h => litT_sound r (fun q hq => hm q (List.mem_cons_of_mem _ hq)) (h.relax (.one (hm p List.mem_cons_self)))
theorem litT_edge : ∀ (r : List T3) {D : Tb}, ∀ p ∈ r, leO (litT r D p.1 p.2.1) p.2.2
  | [], _, _, h => by cases h
  | q :: r, D, p, h => by
    rcases List.mem_cons.mp h with h | h
    · subst h
      exact litT_mono r (relax_same D p.1 p.2.1 p.2.2)
    · exact litT_edge r p h
def idx (n : Nat) : List Int := (List.range n).map fun i : Nat => (0 : Int) + (i : Int)
theorem idx_in {n : Nat} : InL n (idx n) := fun i hi => by
  obtain ⟨j, hj, rfl⟩ := List.mem_map.mp hi
  rw [List.mem_range] at hj
  omega
theorem in_idx {n : Nat} {a : Int} (h : 0 ≤ a ∧ a < n) : a ∈ idx n := List.mem_map.mpr ⟨a.toNat, List.mem_range.mpr (by omega), by omega⟩
def leastT (n : Nat) (l : List T3) : Tb := fwT (idx n) (idx n) (idx n) (litT l (diagT (idx n) fun _ _ => none))
theorem leastT_sound (n : Nat) (l : List T3) : Sound l (leastT n l) :=
  Sound.fwT _ (litT_sound l (fun _ h => h) (diagT_of (idx n) _ (fun _ _ _ h => by cases h)).1)
theorem leastT_diag {n : Nat} {l : List T3} {a : Int} (h : 0 ≤ a ∧ a < n) : leO (leastT n l a a) 0 :=
  fwT_mono _ (litT_mono l (leO.self ((diagT_of (l := l) (idx n) _ (fun _ _ _ h => by cases h)).2 a (.inl (in_idx h)))))
/-- with no negative way back the table is below every walk -/
theorem leastT_wk {n : Nat} {l : List T3} (hin : InN n l) (hd : ∀ a w, 0 ≤ a ∧ a < (n : Int) → leastT n l a a = some w → 0 ≤ w) {a b w : Int} (ha : 0 ≤ a ∧ a < (n : Int)) (h : Wk l a b w) : leO (leastT n l a b) w := by
  have ds := diagT_of (l := l) (idx n) (fun _ _ => none) (fun _ _ _ h => by cases h)
  obtain ⟨done, k1, t⟩ := Tri.fw (P := fun x => 0 ≤ x ∧ x < (n : Int)) (as := idx n) (fun x hx => in_idx hx) (idx n) (D := litT l (diagT (idx n) fun _ _ => none)) (done := []) (fun k hk => idx_in k hk) (fun _ h => by cases h) (fun a ha => litT_mono l (leO.self (ds.2 a (.inl (in_idx ha))))) (fun a w ha e => hd a w ha e) (fun _ _ _ _ _ _ _ h => by cases h)
  exact (Tri.wk (P := fun x => 0 ≤ x ∧ x < (n : Int)) (D := leastT n l) (ms := done) (fun x hx => k1 x (.inl (in_idx hx))) hin (fun p hp => fwT_mono _ (litT_edge l p hp)) (fun a ha => leastT_diag ha) t ha h).1
theorem Fr.seq {N : Nat} {S S' : Sto} {v : PV} {l : List PV} {keep : List (Nat × PO)} (h : Seq S v l keep) (f : ∀ k, k < S.length → S'[k]? = S[k]?) : Seq S' v l keep := by
  rcases h with h | ⟨k, h1, h2, h3⟩
  · exact .inl h
  · exact .inr ⟨k, h1, by rw [f k (lt_of_get h2)]; exact h2, h3⟩
theorem pre_of {S S' : Sto} (hl : S.length ≤ S'.length) (f : ∀ k, k < S.length → S'[k]? = S[k]?) : ∃ T, S' = S ++ T := by
  refine ⟨S'.drop S.length, ?_⟩
  refine List.ext_getElem? fun j => ?_
  by_cases hj : j < S.length
  · rw [List.getElem?_append_left hj, f j hj]
  · rw [List.getElem?_append_right (by omega), List.getElem?_drop, show S.length + (j - S.length) = j by omega]
theorem least_spec {S : Sto} {n : Nat} (h1 : 1 ≤ n) (hn : n ≤ 80) {l : List T3} (hp : ptsB n l = true) {lv : PV} {keep : List (Nat × PO)} (hv : Seq S lv (tripsP l) keep) :
    ((∃ a w, Wk l a a w ∧ w < 0) ∧ F__law_least [.int n, lv] S = some (.ok .non S)) ∨
    ((∀ a b w, 0 ≤ a ∧ a < (n : Int) → Wk l a b w → leO (leastT n l a b) w) ∧ (∀ a w, Wk l a a w → 0 ≤ w) ∧ ∃ T, F__law_least [.int n, lv] S = some (.ok (.loc S.length) (S ++ T)) ∧ Tab S.length n (S ++ T) (leastT n l)) := by
  have hin : InN n l := fun p hm => by
    unfold ptsB at hp
    rw [List.all_eq_true] at hp
    have := hp p hm
    simp only [Bool.and_eq_true, decide_eq_true_eq] at this
    exact this
  obtain ⟨cells, c1, c2, c3⟩ := rows_made (S := S) (n := n) (by omega) (r := [some lv, none, none, none, none, none, none, none]) (idx n) 0 [] rfl (fun j hj => absurd hj (by omega)) (by simp [idx]; omega)
  have hlen : (idx n).length = n := by simp [idx]
  rw [hlen, Nat.zero_add] at c1 c2 c3
  have t0 : Tab S.length n (S ++ .lst (rowF n fun j => .loc (slot S.length j)) :: cells) fun _ _ => none := ⟨at_0, fun i h0 hi => by
    unfold slot
    rw [cell_at]
    exact c2 i.toNat (by omega)⟩
  have f0 : ∀ k, k < S.length → (S ++ PO.lst (rowF n fun j => .loc (slot S.length j)) :: cells)[k]? = S[k]? := fun k hk => List.getElem?_append_left hk
  generalize hS0 : S ++ PO.lst (rowF n fun j => .loc (slot S.length j)) :: cells = S0 at c3 t0 f0
  have hS0l : S.length ≤ S0.length := by rw [← hS0]; simp
  obtain ⟨S1, t1, f1, e1⟩ := loop1 (nv := .int (n : Int)) (lv := some lv) (idx n) S0 _ idx_in t0
  have q1 : ∀ k, k < S.length → S1[k]? = S[k]? := fun k hk => (f1.2 k hk).trans (f0 k hk)
  have hv1 := Fr.seq (N := 0) hv q1
  obtain ⟨S2, t2, f2, e2⟩ := loop2 (nv := .int (n : Int)) (lv := some lv) (N := S.length) (keep := keep) (fun p hp => lt_of_get (hv.kept p hp)) l S1 _ hv1.kept hin t1
  obtain ⟨S3, t3, f3, e3⟩ := loop5 (lv := some lv) (idx n) S2 _ idx_in t2
  have t3 : Tab S.length n S3 (leastT n l) := t3
  have q3 : ∀ k, k < S.length → S3[k]? = S[k]? := fun k hk => (f3.2 k hk).trans ((f2.2 k hk).trans (q1 k hk))
  obtain ⟨T, hT⟩ := pre_of (S := S) (S' := S3) (by rw [f3.1, f2.1, f1.1]; exact hS0l) q3
  have it := hv1.it (f := dVar 1) (ρ := [some (.int (n : Int)), some lv, some (.loc S.length), none, none, none, none, none, none]) (by simp)
  have rg : rangeP 0 n = intsP (idx n) := by unfold idx; rw [range_ints]
  have cm : dComp (dRng1 (dCons (dVar 0) dNil)) (nmOne 3) [3] dYes (dOp2 gMul (dLst (dCons (dC .non) dNil)) (dVar 0)) [some (.int (n : Int)), some lv, none, none, none, none, none, none, none] S = some (.ok (.loc S.length) S0) := by
    unfold dComp
    simp only [ev_rng1, ev_cons, ev_var, List.getElem?_cons_zero, ev_nil, ev_bR_ok, Int.toNat_natCast, rg]
    have c3 : compL S.length (nmOne 3) [3] dYes (dOp2 gMul (dLst (dCons (dC .non) dNil)) (dVar 0)) [] (intsP (idx n)) [some (.int (n : Int)), some lv, none, none, none, none, none, none, none] (S ++ [.lst []]) = _ := c3
    rw [c3]
  have front : ∀ g : DS, (dSeq (dSet 2 (dComp (dRng1 (dCons (dVar 0) dNil)) (nmOne 3) [3] dYes (dOp2 gMul (dLst (dCons (dC .non) dNil)) (dVar 0)))) (dSeq (dFor (dRng1 (dCons (dVar 0) dNil)) (gN 3) [3, 4] l__law_least_1) (dSeq (dFor (dSeqI (dVar 1)) (gT 3 (gsCons (gN 3) (gsCons (gN 5) (gsCons (gN 6) gsNil)))) [3, 4, 5, 6] l__law_least_2) (dSeq (dFor (dRng1 (dCons (dVar 0) dNil)) (gN 7) [3, 4, 5, 7, 8] l__law_least_5) g)))) [some (.int (n : Int)), some lv, none, none, none, none, none, none, none] S =
      g [some (.int (n : Int)), some lv, some (.loc S.length), none, none, none, none, none, none] S3 := fun g => by
    simp only [ev_seq, ev_set, cm, ev_bS_ok, ev_bN_next, List.set_cons_succ, List.set_cons_zero, ev_for, ev_rng1, ev_cons, ev_var, List.getElem?_cons_succ, List.getElem?_cons_zero, ev_nil, ev_bR_ok, Int.toNat_natCast, rg, ev_killC, ev_killN, e1, it, e2, e3]
  rcases loop6 (nv := .int (n : Int)) (lv := some lv) t3 (fun a h0 h1 => leastT_diag ⟨h0, h1⟩) (idx n) idx_in with ⟨⟨a, w, a0, a1, e, hw⟩, e6⟩ | ⟨hd, e6⟩
  · refine .inl ⟨⟨a, w, leastT_sound n l a a w e, hw⟩, call_val (T := T) ?_ rfl⟩
    refine (front _).trans ?_
    simp only [ev_seq, ev_for, ev_rng1, ev_cons, ev_var, List.getElem?_cons_succ, List.getElem?_cons_zero, ev_nil, ev_bR_ok, Int.toNat_natCast, rg, ev_bS_ok, ev_killC, ev_killN, List.set_cons_succ, List.set_cons_zero, e6, ev_bN_ret]
    rw [hT]
  · have wk : ∀ a b w, 0 ≤ a ∧ a < (n : Int) → Wk l a b w → leO (leastT n l a b) w := fun a b w ha h => leastT_wk hin (fun a w ha e => hd a w (in_idx ha) e) ha h
    refine .inr ⟨wk, fun a w h => ?_, T, ?_, hT ▸ t3⟩
    · generalize ha' : a = a' at h
      cases h with
      | nil => exact Int.le_refl _
      | @cons _ b c _ w hm h =>
        have ha := (hin _ hm).1
        have h2 : Wk l a a (c + w) := by
          subst ha'
          exact .cons hm h
        have ha : 0 ≤ a ∧ a < (n : Int) := by rw [ha']; exact ha
        obtain ⟨d, g1, g2⟩ := wk a a _ ha h2
        have := hd a d (in_idx ha) g1
        omega
    · have body : b__law_least ([PV.int (n : Int), lv].map some ++ List.replicate (9 - 2) none) S = some (.ret (.loc S.length) S3) := by
        refine (front _).trans ?_
        simp only [ev_seq, ev_for, ev_rng1, ev_cons, ev_var, List.getElem?_cons_succ, List.getElem?_cons_zero, ev_nil, ev_bR_ok, Int.toNat_natCast, rg, ev_bS_ok, ev_killC, ev_killN, List.set_cons_succ, List.set_cons_zero, e6, ev_bN_next, ev_ret]
      refine (dDef_ret (k := 2) (n := 9) rfl body).trans ?_
      have tb := t3.tab
      have nl : noLocs (rowF n fun i => .loc (slot S.length i)) = false := by
        obtain ⟨m, rfl⟩ : ∃ m, n = m + 1 := ⟨n - 1, by omega⟩
        unfold rowF
        rw [List.range_succ_eq_map]
        rfl
      have hh : gcE S (.ok (.loc S.length) S3) = .ok (.loc S.length) S3 := by
        have nlc : noLoc (.loc S.length) = false := rfl
        unfold gcE
        simp only [tb, nl, nlc]
        simp
      rw [hh, hT]
end G

/-! S16: a table of least ways, one literal more (plain). -/
namespace G
open PySem PySem.Spec PyProof.Rows L2 D
/-- D tells just the least ways of l among n points, and there is no ring -/
structure Lst (n : Nat) (l : List T3) (D : Tb) : Prop where
  inn : InN n l
  snd : Sound l D
  wk : ∀ a b w, 0 ≤ a ∧ a < (n : Int) → Wk l a b w → leO (D a b) w
  ring : ∀ a w, Wk l a a w → 0 ≤ w
theorem Lst.diag {n : Nat} {l : List T3} {D : Tb} (L : Lst n l D) {a : Int} (h : 0 ≤ a ∧ a < (n : Int)) : D a a = some 0 := by
  obtain ⟨d, h1, h2⟩ := L.wk a a 0 h (.nil a)
  have := L.ring a d (L.snd _ _ _ h1)
  rw [h1]
  congr 1
  omega
theorem Lst.same {n : Nat} {l l' : List T3} {D D' : Tb} (L : Lst n l D) (L' : Lst n l' D') (h1 : ∀ p ∈ l, p ∈ l') (h2 : ∀ p ∈ l', p ∈ l) {a b : Int} (h : 0 ≤ a ∧ a < (n : Int)) : D a b = D' a b := by
  cases e : D a b with
  | none =>
    cases e' : D' a b with
    | none => rfl
    | some w =>
      obtain ⟨d, h3, _⟩ := L.wk a b w h ((L'.snd _ _ _ e').mono h2)
      rw [e] at h3; cases h3
  | some w =>
    obtain ⟨d, h3, h4⟩ := L'.wk a b w h ((L.snd _ _ _ e).mono h1)
    obtain ⟨d', h5, h6⟩ := L.wk a b d h ((L'.snd _ _ _ h3).mono h2)
    rw [e] at h5; cases h5
    rw [h3]
    congr 1
    omega
/-- a way over one literal more -/
theorem wk_snoc {l : List T3} {a b c : Int} (hr : ∀ w, Wk l b a w → 0 ≤ w + c) {x y w : Int} (h : Wk (l ++ [(a, b, c)]) x y w) : (∃ u, Wk l x y u ∧ u ≤ w) ∨ ∃ p q, Wk l x a p ∧ Wk l b y q ∧ p + c + q ≤ w := by
  induction h with
  | nil x => exact .inl ⟨0, .nil x, Int.le_refl _⟩
  | @cons x z c' y w hm _ ih =>
    rcases List.mem_append.mp hm with hm | hm
    · rcases ih with ⟨u, h1, h2⟩ | ⟨p, q, h1, h2, h3⟩
      · exact .inl ⟨c' + u, .cons hm h1, by omega⟩
      · exact .inr ⟨c' + p, q, .cons hm h1, h2, by omega⟩
    · rw [List.mem_singleton] at hm
      cases hm
      rcases ih with ⟨u, h1, h2⟩ | ⟨p, q, h1, h2, h3⟩
      · exact .inr ⟨0, u, .nil _, h1, by omega⟩
      · have := hr p h1
        exact .inr ⟨0, q, .nil _, h2, by omega⟩
theorem ring_snoc {l : List T3} {a b c : Int} (hr : ∀ w, Wk l b a w → 0 ≤ w + c) (h0 : ∀ a w, Wk l a a w → 0 ≤ w) {x w : Int} (h : Wk (l ++ [(a, b, c)]) x x w) : 0 ≤ w := by
  rcases wk_snoc hr h with ⟨u, h1, h2⟩ | ⟨p, q, h1, h2, h3⟩
  · have := h0 _ _ h1
    omega
  · have := hr _ (h2.append h1)
    omega
/-- what leads from b on -/
def after (n : Nat) (D : Tb) (b : Int) : List (Int × Int) := (idx n).filterMap fun p => (D b p).map fun r => (p, r)
theorem mem_after {n : Nat} {D : Tb} {b : Int} {p r : Int} : (p, r) ∈ after n D b ↔ (0 ≤ p ∧ p < (n : Int)) ∧ D b p = some r := by
  unfold after
  rw [List.mem_filterMap]
  constructor
  · rintro ⟨q, hq, e⟩
    rw [Option.map_eq_some_iff] at e
    obtain ⟨r', h1, h2⟩ := e
    cases h2
    exact ⟨idx_in _ hq, h1⟩
  · rintro ⟨h1, h2⟩
    exact ⟨p, in_idx h1, by rw [h2]; rfl⟩
def relaxes (i ah : Int) (ps : List (Int × Int)) (D : Tb) : Tb := ps.foldl (fun D p => relax D i p.1 (ah + p.2)) D
def short1 (a b c : Int) (af : List (Int × Int)) (D : Tb) (i : Int) : Tb := match D i a with
  | none => D
  | some x => if lessO (x + c) (D i b) = true then relaxes i (x + c) af D else D
def shortT (a b c : Int) (af : List (Int × Int)) (is : List Int) (D : Tb) : Tb := is.foldl (short1 a b c af) D
section
variable {a b c i ah x y u : Int} {af ps : List (Int × Int)}
theorem relaxes_ne : ∀ (ps : List (Int × Int)) {D : Tb}, x ≠ i → relaxes i ah ps D x y = D x y
  | [], _, _ => rfl
  | p :: ps, D, h => (relaxes_ne ps h).trans (relax_ne fun z => h z.1)
theorem relaxes_mono : ∀ (ps : List (Int × Int)) {D : Tb}, leO (D x y) u → leO (relaxes i ah ps D x y) u
  | [], _, h => h
  | p :: ps, D, h => relaxes_mono ps (relax_mono h)
theorem relaxes_at : ∀ (ps : List (Int × Int)) {D : Tb} {p r : Int}, (p, r) ∈ ps → leO (relaxes i ah ps D i p) (ah + r)
  | [], _, _, _, h => by cases h
  | q :: ps, D, p, r, h => by
    rcases List.mem_cons.mp h with h | h
    · subst h
      exact relaxes_mono ps (relax_same D i p (ah + r))
    · exact relaxes_at ps h
theorem relaxes_sound {l : List T3} : ∀ (ps : List (Int × Int)) {D : Tb}, Sound l D → (∀ p r, (p, r) ∈ ps → Wk l i p (ah + r)) → Sound l (relaxes i ah ps D)
  | [], _, h, _ => h
  | p :: ps, D, h, hw => relaxes_sound ps (h.relax (hw p.1 p.2 List.mem_cons_self)) fun q r hq => hw q r (List.mem_cons_of_mem _ hq)
theorem short1_or (D : Tb) (i : Int) : short1 a b c af D i = D ∨ ∃ x, D i a = some x ∧ lessO (x + c) (D i b) = true ∧ short1 a b c af D i = relaxes i (x + c) af D := by
  unfold short1
  cases e : D i a with
  | none => exact .inl rfl
  | some x =>
    dsimp only
    by_cases h : lessO (x + c) (D i b) = true
    · rw [if_pos h]; exact .inr ⟨x, rfl, h, rfl⟩
    · rw [if_neg h]; exact .inl rfl
theorem short1_ne {D : Tb} (h : x ≠ i) : short1 a b c af D i x y = D x y := by
  rcases short1_or (a := a) (b := b) (c := c) (af := af) D i with e | ⟨_, _, _, e⟩ <;> rw [e]
  exact relaxes_ne _ h
theorem short1_mono {D : Tb} (h : leO (D x y) u) : leO (short1 a b c af D i x y) u := by
  rcases short1_or (a := a) (b := b) (c := c) (af := af) D i with e | ⟨_, _, _, e⟩ <;> rw [e]
  · exact h
  · exact relaxes_mono _ h
theorem shortT_mono : ∀ (is : List Int) {D : Tb}, leO (D x y) u → leO (shortT a b c af is D x y) u
  | [], _, h => h
  | i :: is, D, h => shortT_mono is (short1_mono h)
theorem shortT_sound {l : List T3} (hm : (a, b, c) ∈ l) (ha : ∀ p r, (p, r) ∈ af → Wk l b p r) : ∀ (is : List Int) {D : Tb}, Sound l D → Sound l (shortT a b c af is D)
  | [], _, h => h
  | i :: is, D, h => by
    refine shortT_sound hm ha is (D := short1 a b c af D i) ?_
    unfold short1
    split
    · exact h
    · rename_i x e
      split
      · refine relaxes_sound _ h fun p r hp => ?_
        exact ((h _ _ _ e).append (.one hm)).append (ha p r hp)
      · exact h
theorem shortT_at {D0 : Tb} : ∀ (is : List Int) {D : Tb}, is.Nodup → (∀ j ∈ is, ∀ y, D j y = D0 j y) → ∀ j ∈ is, ∀ x p r, D0 j a = some x → lessO (x + c) (D0 j b) = true → (p, r) ∈ af → leO (shortT a b c af is D j p) (x + c + r)
  | [], _, _, _, j, hj, _, _, _, _, _, _ => by cases hj
  | i :: is, D, hn, hD, j, hj, x, p, r, h1, h2, h3 => by
    rw [List.nodup_cons] at hn
    rcases List.mem_cons.mp hj with rfl | hj
    · refine shortT_mono is (D := short1 a b c af D j) ?_
      unfold short1
      rw [hD j List.mem_cons_self a, h1]
      dsimp only
      rw [hD j List.mem_cons_self b, if_pos h2]
      exact relaxes_at _ h3
    · exact shortT_at is (D := short1 a b c af D i) hn.2 (fun k hk y => by
        rw [short1_ne (fun e => hn.1 (by rw [← e]; exact hk))]
        exact hD k (List.mem_cons_of_mem _ hk) y) j hj x p r h1 h2 h3
end
theorem idx_nodup {n : Nat} : (idx n).Nodup := by
  unfold idx
  refine List.Pairwise.map _ (fun a b h => ?_) (List.nodup_range (n := n))
  omega
/-- the table with one literal more -/
def addT (n : Nat) (a b c : Int) (D : Tb) : Tb := if lessO c (D a b) = true then shortT a b c (after n D b) (idx n) D else D
theorem Lst.add {n : Nat} {l : List T3} {D : Tb} (L : Lst n l D) {a b c : Int} (ha : 0 ≤ a ∧ a < (n : Int)) (hb : 0 ≤ b ∧ b < (n : Int)) (hr : ∀ w, D b a = some w → 0 ≤ w + c) : Lst n (l ++ [(a, b, c)]) (addT n a b c D) := by
  have hr' : ∀ w, Wk l b a w → 0 ≤ w + c := fun w h => by
    obtain ⟨d, h1, h2⟩ := L.wk b a w hb h
    have := hr d h1
    omega
  have hm : ∀ p ∈ l, p ∈ l ++ [(a, b, c)] := fun p hp => List.mem_append_left _ hp
  have hs : Sound (l ++ [(a, b, c)]) D := fun x y w e => (L.snd x y w e).mono hm
  have tri : ∀ x y z p q, 0 ≤ x ∧ x < (n : Int) → D x y = some p → D y z = some q → leO (D x z) (p + q) := fun x y z p q hx h1 h2 => L.wk x z _ hx ((L.snd _ _ _ h1).append (L.snd _ _ _ h2))
  refine ⟨fun p hp => ?_, ?_, fun x y w hx h => ?_, fun x w h => ring_snoc hr' L.ring h⟩
  · rcases List.mem_append.mp hp with hp | hp
    · exact L.inn p hp
    · rw [List.mem_singleton] at hp
      subst hp
      exact ⟨ha, hb⟩
  · unfold addT
    split
    · exact shortT_sound (List.mem_append_right _ (List.mem_singleton.mpr rfl)) (fun p r hp => hs _ _ _ (mem_after.mp hp).2) _ hs
    · exact hs
  · rcases wk_snoc hr' h with ⟨u, h1, h2⟩ | ⟨p, q, h1, h2, h3⟩
    · have := (L.wk x y u hx h1).le h2
      unfold addT
      split
      · exact shortT_mono _ this
      · exact this
    · obtain ⟨p', e1, k1⟩ := L.wk x a p hx h1
      obtain ⟨q', e2, k2⟩ := L.wk b y q hb h2
      have hy : 0 ≤ y ∧ y < (n : Int) := by
        clear h h3 e1 e2 k1 k2 h1
        generalize hbb : b = b' at h2
        have hb' : 0 ≤ b' ∧ b' < (n : Int) := hbb ▸ hb
        clear hbb
        induction h2 with
        | nil _ => exact hb'
        | cons hm _ ih => exact ih (L.inn _ hm).2
      by_cases hc : lessO c (D a b) = true
      · unfold addT
        rw [if_pos hc]
        by_cases hx2 : lessO (p' + c) (D x b) = true
        · have := shortT_at (a := a) (b := b) (c := c) (af := after n D b) (D0 := D) (idx n) (D := D) idx_nodup (fun _ _ _ => rfl) x (in_idx hx) p' y q' e1 hx2 (mem_after.mpr ⟨hy, e2⟩)
          exact this.le (by omega)
        · cases e3 : D x b with
          | none => rw [e3] at hx2; exact absurd rfl hx2
          | some d =>
            rw [e3] at hx2
            simp [lessO] at hx2
            have := tri x b y d q' hx e3 e2
            exact shortT_mono _ (this.le (by omega))
      · cases e3 : D a b with
        | none => rw [e3] at hc; exact absurd rfl hc
        | some d =>
          rw [e3] at hc
          simp [lessO] at hc
          obtain ⟨d1, g1, g2⟩ := tri x a b p' d hx e1 e3
          have := tri x b y d1 q' hx g1 e2
          unfold addT
          rw [if_neg (by rw [e3]; simp [lessO]; omega)]
          exact this.le (by omega)
/-- a literal that would make a ring -/
theorem ring_of {l : List T3} {D : Tb} (h : Sound l D) {a b c w : Int} (e : D b a = some w) (hw : w + c < 0) : Wk (l ++ [(a, b, c)]) a a (c + w) :=
  .cons (List.mem_append_right _ (List.mem_singleton.mpr rfl)) ((h _ _ _ e).mono fun p hp => List.mem_append_left _ hp)
/-- no literals -/
theorem Lst.nil (n : Nat) : Lst n [] (fun a b => if a = b then some 0 else none) := by
  refine ⟨fun p hp => (by cases hp), fun a b w e => ?_, fun a b w _ h => ?_, fun a w h => ?_⟩
  · split at e
    · rename_i hab
      cases e
      subst hab
      exact .nil a
    · cases e
  · cases h with
    | nil _ => exact ⟨0, by simp, Int.le_refl _⟩
    | cons hm _ => cases hm
  · generalize hb : a = b at h
    cases h with
    | nil _ => exact Int.le_refl _
    | cons hm _ => cases hm
theorem leastT_lst {n : Nat} {l : List T3} (hin : InN n l) (h1 : ∀ a b w, 0 ≤ a ∧ a < (n : Int) → Wk l a b w → leO (leastT n l a b) w) (h2 : ∀ a w, Wk l a a w → 0 ≤ w) : Lst n l (leastT n l) := ⟨hin, leastT_sound n l, h1, h2⟩
end G

/-! S17: Bounds: making, size, literals, bound, add, copy. -/
namespace G
open PySem PySem.Spec PyProof.Rows L2 D
/-! Bounds___init__(self, n): slots 0 self, 1 n, 2 a, 3 _ -/
noncomputable def l_Bounds___init___1 : DS := (dAsg (gSubT gSetL (dOp2 gIx (dFld "Bounds" "_least" (dVar 0)) (dVar 2)) (dVar 2)) (dC (.int 0)))
noncomputable def b_Bounds___init___t3 : DS := (dFor (dRng1 (dCons (dVar 1) dNil)) (gN 2) [2] l_Bounds___init___1)
noncomputable def b_Bounds___init___t2 : DS := (dSeq (dSetF "Bounds" "_least" (dVar 0) (dComp (dRng1 (dCons (dVar 1) dNil)) (nmOne 3) [3] dYes (dGc (dOp2 gMul (dLst (dCons (dC .non) dNil)) (dVar 1))))) b_Bounds___init___t3)
noncomputable def b_Bounds___init___t1 : DS := (dSeq (dSetF "Bounds" "_literals" (dVar 0) (dLst dNil)) b_Bounds___init___t2)
noncomputable def b_Bounds___init___t0 : DS := (dSeq (dExpr (dOpA F_check_points (dCons (dVar 1) dNil))) b_Bounds___init___t1)
noncomputable def b_Bounds___init__ : DS := b_Bounds___init___t0
noncomputable def F_Bounds___init__ : DF := dDef 2 4 b_Bounds___init__
/-! is_less(first, second): slots 0 first, 1 second -/
noncomputable def b_is_less : DS := (dRet (dAnd2 (dOp2 gIsNot (dVar 0) (dC .non)) (dOr2 (dOp2 gIs (dVar 1) (dC .non)) (dOp2 gLt (dVar 0) (dVar 1)))))
noncomputable def F_is_less : DF := dDef 2 2 b_is_less
/-! joined(first, second): slots 0 first, 1 second -/
noncomputable def b_joined : DS := (dSeq (dIfS (dOrT (dCmp gIs (dVar 0) (dC .non)) (dCmp gIs (dVar 1) (dC .non))) (dRet (dC .non)) dPass) (dRet (dOp2 gAdd (dVar 0) (dVar 1))))
noncomputable def F_joined : DF := dDef 2 2 b_joined
/-! Bounds__shorten(self, a, b, c): slots 0 self, 1 a, 2 b, 3 c, 4 after, 5 row, 6 ahead, 7 point, 8 rest -/
noncomputable def l_Bounds__shorten_2 : DS := (dIfS (dTru (dOpA F_is_less (dCons (dOp2 gAdd (dVar 6) (dVar 8)) (dCons (dOp2 gIx (dVar 5) (dVar 7)) dNil)))) (dAsg (gSubT gSetL (dVar 5) (dVar 7)) (dOp2 gAdd (dVar 6) (dVar 8))) dPass)
noncomputable def l_Bounds__shorten_1_t2 : DS := (dFor (dSeqI (dVar 4)) (gT 2 (gsCons (gN 7) (gsCons (gN 8) gsNil))) [7, 8] l_Bounds__shorten_2)
noncomputable def l_Bounds__shorten_1_t1 : DS := (dSeq (dIfS (dNotT (dTru (dOpA F_is_less (dCons (dVar 6) (dCons (dOp2 gIx (dVar 5) (dVar 2)) dNil))))) dCtn dPass) l_Bounds__shorten_1_t2)
noncomputable def l_Bounds__shorten_1_t0 : DS := (dSeq (dSet 6 (dOpA F_joined (dCons (dOp2 gIx (dVar 5) (dVar 1)) (dCons (dVar 3) dNil)))) l_Bounds__shorten_1_t1)
noncomputable def l_Bounds__shorten_1 : DS := l_Bounds__shorten_1_t0
noncomputable def b_Bounds__shorten : DS := (dSeq (dSet 4 (dComp (dEnumI (dCons (dOp2 gIx (dFld "Bounds" "_least" (dVar 0)) (dVar 2)) dNil)) (nmTup [7, 8]) [7, 8] (dCmp gIsNot (dVar 8) (dC .non)) (dTup (dCons (dVar 7) (dCons (dVar 8) dNil))))) (dFor (dSeqI (dFld "Bounds" "_least" (dVar 0))) (gN 5) [5, 6, 7, 8] l_Bounds__shorten_1))
noncomputable def F_Bounds__shorten : DF := dDef 4 9 b_Bounds__shorten
/-! Bounds_bound(self, a, b): slots 0 self, 1 a, 2 b, 3 n -/
noncomputable def b_Bounds_bound_t2 : DS := (dRet (dOp2 gIx (dOp2 gIx (dFld "Bounds" "_least" (dVar 0)) (dVar 1)) (dVar 2)))
noncomputable def b_Bounds_bound_t1 : DS := (dSeq (dIfS (dOrT (dCmp gLt (dVar 1) (dC (.int 0))) (dOrT (dCmp gLt (dVar 2) (dC (.int 0))) (dOrT (dCmp gGe (dVar 1) (dVar 3)) (dCmp gGe (dVar 2) (dVar 3))))) (dRaise "NotAllowed") dPass) b_Bounds_bound_t2)
noncomputable def b_Bounds_bound_t0 : DS := (dSeq (dSet 3 (dOpA gLen (dCons (dFld "Bounds" "_least" (dVar 0)) dNil))) b_Bounds_bound_t1)
noncomputable def b_Bounds_bound : DS := b_Bounds_bound_t0
noncomputable def F_Bounds_bound : DF := dDef 3 4 b_Bounds_bound
/-! Bounds_add(self, a, b, c): slots 0 self, 1 a, 2 b, 3 c, 4 back -/
noncomputable def b_Bounds_add_t4 : DS := (dRet (dC (.bl true)))
noncomputable def b_Bounds_add_t3 : DS := (dSeq (dIfS (dTru (dOpA F_is_less (dCons (dVar 3) (dCons (dOp2 gIx (dOp2 gIx (dFld "Bounds" "_least" (dVar 0)) (dVar 1)) (dVar 2)) dNil)))) (dExpr (dIMeth "Bounds" "_shorten" F_Bounds__shorten (dVar 0) (dCons (dVar 1) (dCons (dVar 2) (dCons (dVar 3) dNil))))) dPass) b_Bounds_add_t4)
noncomputable def b_Bounds_add_t2 : DS := (dSeq (dExpr (dMeth "list" gAppend (dFld "Bounds" "_literals" (dVar 0)) (dCons (dTup (dCons (dVar 1) (dCons (dVar 2) (dCons (dVar 3) dNil)))) dNil))) b_Bounds_add_t3)
noncomputable def b_Bounds_add_t1 : DS := (dSeq (dIfS (dAndT (dCmp gIsNot (dVar 4) (dC .non)) (dCmp gLt (dOp2 gAdd (dVar 4) (dVar 3)) (dC (.int 0)))) (dRet (dC (.bl false))) dPass) b_Bounds_add_t2)
noncomputable def b_Bounds_add_t0 : DS := (dSeq (dSet 4 (dIMeth "Bounds" "bound" F_Bounds_bound (dVar 0) (dCons (dVar 2) (dCons (dVar 1) dNil)))) b_Bounds_add_t1)
noncomputable def b_Bounds_add : DS := b_Bounds_add_t0
noncomputable def F_Bounds_add : DF := dDef 4 5 b_Bounds_add
/-! Bounds__take(self, literals, least): slots 0 self, 1 literals, 2 least, 3 row -/
noncomputable def b_Bounds__take : DS := (dSeq (dSetF "Bounds" "_literals" (dVar 0) (dOpA gList (dCons (dVar 1) dNil))) (dSetF "Bounds" "_least" (dVar 0) (dComp (dSeqI (dVar 2)) (nmOne 3) [3] dYes (dGc (dOpA gList (dCons (dVar 3) dNil))))))
noncomputable def F_Bounds__take : DF := dDef 3 4 b_Bounds__take
/-! Bounds_size(self): slots 0 self -/
noncomputable def b_Bounds_size : DS := (dRet (dOpA gLen (dCons (dFld "Bounds" "_least" (dVar 0)) dNil)))
noncomputable def F_Bounds_size : DF := dDef 1 1 b_Bounds_size
/-! Bounds_copy(self): slots 0 self, 1 other -/
noncomputable def b_Bounds_copy_t2 : DS := (dRet (dVar 1))
noncomputable def b_Bounds_copy_t1 : DS := (dSeq (dExpr (dIMeth "Bounds" "_take" F_Bounds__take (dVar 1) (dCons (dFld "Bounds" "_literals" (dVar 0)) (dCons (dFld "Bounds" "_least" (dVar 0)) dNil)))) b_Bounds_copy_t2)
noncomputable def b_Bounds_copy_t0 : DS := (dSeq (dSet 1 (dMake "Bounds" F_Bounds___init__ (dCons (dIMeth "Bounds" "size" F_Bounds_size (dVar 0) dNil) dNil))) b_Bounds_copy_t1)
noncomputable def b_Bounds_copy : DS := b_Bounds_copy_t0
noncomputable def F_Bounds_copy : DF := dDef 1 2 b_Bounds_copy
/-! Bounds_literals(self): slots 0 self -/
noncomputable def b_Bounds_literals : DS := (dRet (dOpA gList (dCons (dFld "Bounds" "_literals" (dVar 0)) dNil)))
noncomputable def F_Bounds_literals : DF := dDef 1 1 b_Bounds_literals
/-! _law_literals(_law_numbers_here, _law_at, _law_n, _law_count, _law_size): slots 0 _law_numbers_here, 1 _law_at, 2 _law_n, 3 _law_count, 4 _law_size, 5 _law_literals_here, 6 _law_k, 7 _law_number, 8 _law_a, 9 _law_b -/
noncomputable def l__law_literals_1_t3 : DS := (dExpr (dMeth "list" gAppend (dVar 5) (dCons (dTup (dCons (dVar 8) (dCons (dVar 9) (dCons (dOp2 gSub (dOp2 gMod (dOp2 gDiv (dVar 7) (dC (.int 143))) (dOp2 gAdd (dOp2 gMul (dC (.int 2)) (dVar 4)) (dC (.int 1)))) (dOp2 gDiv (dVar 4) (dC (.int 2)))) dNil)))) dNil)))
noncomputable def l__law_literals_1_t2 : DS := (dSeq (dSet 9 (dOp2 gMod (dOp2 gDiv (dVar 7) (dC (.int 11))) (dVar 2))) l__law_literals_1_t3)
noncomputable def l__law_literals_1_t1 : DS := (dSeq (dSet 8 (dOp2 gMod (dVar 7) (dVar 2))) l__law_literals_1_t2)
noncomputable def l__law_literals_1_t0 : DS := (dSeq (dSet 7 (dOp2 gIx (dVar 0) (dOp2 gMod (dOpA gInt (dCons (dOp2 gAdd (dVar 1) (dVar 6)) dNil)) (dOpA gLen (dCons (dVar 0) dNil))))) l__law_literals_1_t1)
noncomputable def l__law_literals_1 : DS := l__law_literals_1_t0
noncomputable def b__law_literals_t2 : DS := (dRet (dVar 5))
noncomputable def b__law_literals_t1 : DS := (dSeq (dFor (dRng1 (dCons (dVar 3) dNil)) (gN 6) [6, 7, 8, 9] l__law_literals_1) b__law_literals_t2)
noncomputable def b__law_literals_t0 : DS := (dSeq (dSet 5 (dLst dNil)) b__law_literals_t1)
noncomputable def b__law_literals : DS := b__law_literals_t0
noncomputable def F__law_literals : DF := dDef 5 10 b__law_literals
/-! ### a Bounds in the store -/
def bF (l t : Nat) : List (Str × PV) := [("_literals", .loc l), ("_least", .loc t)]
theorem bF_lit {l t : Nat} : (bF l t).lookup ("_literals" : Str) = some (.loc l) := rfl
theorem bF_lst {l t : Nat} : (bF l t).lookup ("_least" : Str) = some (.loc t) := by
  unfold bF
  rw [List.lookup_cons, show (("_least" : Str) == "_literals") = false by decide +kernel]
  rfl
theorem bF_no {l t : Nat} {m : Str} (h1 : (m == ("_literals" : Str)) = false := by decide +kernel) (h2 : (m == ("_least" : Str)) = false := by decide +kernel) : (bF l t).lookup m = none := by
  unfold bF
  rw [List.lookup_cons, h1, List.lookup_cons, h2]
  rfl
structure BAt (S : Sto) (k n : Nat) (lits : List T3) (D : Tb) (l t : Nat) (r : Int → Nat) : Prop where
  ins : S[k]? = some (.ins "Bounds" (bF l t))
  lit : S[l]? = some (.lst (tripsP lits))
  tab : S[t]? = some (.lst (rowF n fun i => .loc (r i)))
  row : ∀ i : Int, 0 ≤ i → i < n → S[r i]? = some (.lst (rowF n fun b => lowV (D i b)))
  inj : ∀ i j : Int, 0 ≤ i → i < n → 0 ≤ j → j < n → r i = r j → i = j
  lt : l ≠ t
  lr : ∀ i : Int, 0 ≤ i → i < n → l ≠ r i
  tr : ∀ i : Int, 0 ≤ i → i < n → t ≠ r i
/-- what of the store is the table's -/
def RowsAt (n : Nat) (r : Int → Nat) (j : Nat) : Prop := ∃ i : Int, 0 ≤ i ∧ i < n ∧ j = r i
def FrO (P : Nat → Prop) (S S' : Sto) : Prop := S'.length = S.length ∧ ∀ j, ¬ P j → S'[j]? = S[j]?
theorem FrO.refl {P : Nat → Prop} {S : Sto} : FrO P S S := ⟨rfl, fun _ _ => rfl⟩
theorem FrO.trans {P : Nat → Prop} {S S' S'' : Sto} (h : FrO P S S') (h2 : FrO P S' S'') : FrO P S S'' := ⟨h2.1.trans h.1, fun k hk => (h2.2 k hk).trans (h.2 k hk)⟩
theorem FrO.imp {P Q : Nat → Prop} {S S' : Sto} (h : FrO P S S') (i : ∀ j, P j → Q j) : FrO Q S S' := ⟨h.1, fun k hk => h.2 k fun z => hk (i k z)⟩
section
variable {S : Sto} {k n l t : Nat} {lits : List T3} {D : Tb} {r : Int → Nat}
theorem BAt.kl (B : BAt S k n lits D l t r) : k ≠ l := fun e => by
  have := B.ins; rw [e, B.lit] at this; cases this
theorem BAt.kr (B : BAt S k n lits D l t r) {i : Int} (h0 : 0 ≤ i) (h : i < n) : k ≠ r i := fun e => by
  have := B.ins; rw [e, B.row i h0 h] at this; cases this
theorem BAt.app (B : BAt S k n lits D l t r) (T : Sto) : BAt (S ++ T) k n lits D l t r := ⟨at_old B.ins, at_old B.lit, at_old B.tab, fun i a b => at_old (B.row i a b), B.inj, B.lt, B.lr, B.tr⟩
theorem BAt.fr (B : BAt S k n lits D l t r) {S' : Sto} (h : ∀ j, j < S.length → S'[j]? = S[j]?) : BAt S' k n lits D l t r :=
  ⟨(h _ (lt_of_get B.ins)).trans B.ins, (h _ (lt_of_get B.lit)).trans B.lit, (h _ (lt_of_get B.tab)).trans B.tab, fun i a b => (h _ (lt_of_get (B.row i a b))).trans (B.row i a b), B.inj, B.lt, B.lr, B.tr⟩
theorem BAt.put (B : BAt S k n lits D l t r) {a b : Int} {w : Option Int} (ha : 0 ≤ a ∧ a < (n : Int)) (hb : 0 ≤ b ∧ b < (n : Int)) : ∃ S', gSetL (.loc (r a)) (.int b) (lowV w) S = some S' ∧ BAt S' k n lits (putT D a b w) l t r ∧ FrO (RowsAt n r) S S' := by
  have hr := B.row a ha.1 ha.2
  have hlt := lt_of_get hr
  refine ⟨_, ev_setL hr hb.1 (by rw [rowF_len]; exact hb.2), ⟨?_, ?_, ?_, fun i h0 h1 => ?_, B.inj, B.lt, B.lr, B.tr⟩, by rw [List.length_set], fun j hj => ?_⟩
  · rw [List.getElem?_set_ne (fun e => B.kr ha.1 ha.2 e.symm)]; exact B.ins
  · rw [List.getElem?_set_ne (fun e => B.lr a ha.1 ha.2 e.symm)]; exact B.lit
  · rw [List.getElem?_set_ne (fun e => B.tr a ha.1 ha.2 e.symm)]; exact B.tab
  · by_cases hi : i = a
    · subst hi
      rw [List.getElem?_set_self hlt, rowF_set hb.1 hb.2]
      congr 2
      have : (fun y => lowV (putT D i b w i y)) = up1 (fun y => lowV (D i y)) b (lowV w) := by
        funext y
        unfold putT up1
        by_cases hy : y = b
        · simp [hy]
        · simp [hy]
      rw [this]
    · rw [List.getElem?_set_ne (fun e => hi (B.inj i a h0 h1 ha.1 ha.2 e.symm)), B.row i h0 h1]
      congr 2
      have : (fun y => lowV (putT D a b w i y)) = fun y => lowV (D i y) := by
        funext y
        unfold putT
        simp [hi]
      rw [this]
  · exact List.getElem?_set_ne fun e => hj ⟨a, ha.1, ha.2, e.symm⟩
theorem BAt.getRow (B : BAt S k n lits D l t r) {a : Int} (ha : 0 ≤ a ∧ a < (n : Int)) : gIx (.loc t) (.int a) S = some (.ok (.loc (r a)) S) := ev_ixL B.tab (rowF_at (f := fun i => .loc (r i)) ha.1 ha.2)
theorem BAt.get (B : BAt S k n lits D l t r) {a b : Int} (ha : 0 ≤ a ∧ a < (n : Int)) (hb : 0 ≤ b ∧ b < (n : Int)) : gIx (.loc (r a)) (.int b) S = some (.ok (lowV (D a b)) S) := ev_ixL (B.row a ha.1 ha.2) (rowF_at (f := fun b => lowV (D a b)) hb.1 hb.2)
theorem BAt.fL (B : BAt S k n lits D l t r) : gFld "Bounds" "_literals" (.loc k) S = some (.ok (.loc l) S) := ev_gFld B.ins bF_lit
theorem BAt.fT (B : BAt S k n lits D l t r) : gFld "Bounds" "_least" (.loc k) S = some (.ok (.loc t) S) := ev_gFld B.ins bF_lst
theorem BAt.is (B : BAt S k n lits D l t r) {m : Str} (h1 : (m == ("_literals" : Str)) = false := by decide +kernel) (h2 : (m == ("_least" : Str)) = false := by decide +kernel) : isInsP "Bounds" m (.loc k) S = true := ev_isIns B.ins (bF_no h1 h2)
/-! ### the small ones -/
def lessB : Option Int → Option Int → Bool
  | none, _ => false
  | some w, o => lessO w o
theorem is_less_spec {S : Sto} (x y : Option Int) : F_is_less [lowV x, lowV y] S = some (.ok (.bl (lessB x y)) S) := by
  refine call_val0 ?_ rfl
  cases x <;> cases y <;> simp [b_is_less, lowV, lessB, lessO]
theorem is_less_int {S : Sto} (x : Int) (y : Option Int) : F_is_less [.int x, lowV y] S = some (.ok (.bl (lessO x y)) S) := is_less_spec (some x) y
theorem joined_spec {S : Sto} (x : Option Int) (c : Int) : F_joined [lowV x, .int c] S = some (.ok (lowV (x.map (· + c))) S) := by
  refine call_val0 ?_ (by cases x <;> rfl)
  cases x <;> simp [b_joined, lowV]
theorem size_spec (B : BAt S k n lits D l t r) : F_Bounds_size [.loc k] S = some (.ok (.int n) S) := by
  refine call_val0 ?_ rfl
  have h := ev_lenL B.tab
  rw [rowF_len] at h
  simp [b_Bounds_size, B.fT, h]
theorem literals_spec (B : BAt S k n lits D l t r) : F_Bounds_literals [.loc k] S = some (.ok (.loc S.length) (S ++ [.lst (tripsP lits)])) := by
  refine (dDef_ret (v := .loc S.length) (S' := S ++ [.lst (tripsP lits)]) rfl ?_).trans ?_
  · simp [b_Bounds_literals, B.fL, ev_listL B.lit]
  · rw [gc_ok_new (l := tripsP lits) (by simp) (Nat.le_refl _)]
    clear B
    induction lits with
    | nil => rfl
    | cons p q ih => simpa [noLocs, noLoc, tripP] using ih
theorem bound_spec (B : BAt S k n lits D l t r) {a b : Int} (ha : 0 ≤ a ∧ a < (n : Int)) (hb : 0 ≤ b ∧ b < (n : Int)) : F_Bounds_bound [.loc k, .int a, .int b] S = some (.ok (lowV (D a b)) S) := by
  refine call_val0 ?_ (by cases D a b <;> rfl)
  have h := ev_lenL B.tab
  rw [rowF_len] at h
  have c1 : ¬ a < 0 := by omega
  have c2 : ¬ b < 0 := by omega
  have c3 : ¬ (n : Int) ≤ a := by omega
  have c4 : ¬ (n : Int) ≤ b := by omega
  simp [b_Bounds_bound, b_Bounds_bound_t0, b_Bounds_bound_t1, b_Bounds_bound_t2, B.fT, h, c1, c2, c3, c4, B.getRow ha, B.get ha hb]
theorem bound_bad (B : BAt S k n lits D l t r) {a b : Int} (h : ¬ ((0 ≤ a ∧ a < (n : Int)) ∧ 0 ≤ b ∧ b < (n : Int))) : F_Bounds_bound [.loc k, .int a, .int b] S = some (.exc ⟨"NotAllowed", []⟩ S) := by
  have h2 := ev_lenL B.tab
  rw [rowF_len] at h2
  refine (dDef_exc (e := ⟨"NotAllowed", []⟩) (ρ := [some (.loc k), some (.int a), some (.int b), some (.int n)]) (S' := S) rfl ?_).trans (by rw [gc_exc_same])
  by_cases c1 : a < 0
  · simp [b_Bounds_bound, b_Bounds_bound_t0, b_Bounds_bound_t1, B.fT, h2, c1]
  · by_cases c2 : b < 0
    · simp [b_Bounds_bound, b_Bounds_bound_t0, b_Bounds_bound_t1, B.fT, h2, c1, c2]
    · by_cases c3 : (n : Int) ≤ a
      · simp [b_Bounds_bound, b_Bounds_bound_t0, b_Bounds_bound_t1, B.fT, h2, c1, c2, c3]
      · have c4 : (n : Int) ≤ b := by omega
        simp [b_Bounds_bound, b_Bounds_bound_t0, b_Bounds_bound_t1, B.fT, h2, c1, c2, c3, c4]
/-! ### _shorten -/
theorem BAt.relax (B : BAt S k n lits D l t r) {i p w : Int} (hi : 0 ≤ i ∧ i < (n : Int)) (hp : 0 ≤ p ∧ p < (n : Int)) {a b c : Int} {na : Nat} {ah rest : Int} (hw : ah + rest = w) :
    ∃ S', BAt S' k n lits (relax D i p w) l t r ∧ FrO (RowsAt n r) S S' ∧ l_Bounds__shorten_2 [some (.loc k), some (.int a), some (.int b), some (.int c), some (.loc na), some (.loc (r i)), some (.int ah), some (.int p), some (.int rest)] S =
      some (.next [some (.loc k), some (.int a), some (.int b), some (.int c), some (.loc na), some (.loc (r i)), some (.int ah), some (.int p), some (.int rest)] S') := by
  subst hw
  have g := B.get hi hp
  have e := is_less_int (S := S) (ah + rest) (D i p)
  by_cases h : lessO (ah + rest) (D i p) = true
  · obtain ⟨S1, e1, B1, f1⟩ := B.put (w := some (ah + rest)) hi hp
    refine ⟨S1, by rw [relax_yes h]; exact B1, f1, ?_⟩
    have e1 : gSetL (.loc (r i)) (.int p) (.int (ah + rest)) S = some S1 := e1
    rw [h] at e
    simp [l_Bounds__shorten_2, g, e, e1]
  · rw [Bool.not_eq_true] at h
    refine ⟨S, by rw [relax_no h]; exact B, .refl, ?_⟩
    rw [h] at e
    simp [l_Bounds__shorten_2, g, e]
theorem short_in {i ah : Int} (hi : 0 ≤ i ∧ i < (n : Int)) {a b c : Int} {na : Nat} {af : List (Int × Int)} (hna : ¬ RowsAt n r na) : ∀ (ps : List (Int × Int)) (S : Sto) (D : Tb), (∀ p ∈ ps, 0 ≤ p.1 ∧ p.1 < (n : Int)) → S[na]? = some (.lst (pairsP af)) → BAt S k n lits D l t r →
    ∃ S', BAt S' k n lits (relaxes i ah ps D) l t r ∧ FrO (RowsAt n r) S S' ∧ forL (gT 2 (gsCons (gN 7) (gsCons (gN 8) gsNil))) [7, 8] l_Bounds__shorten_2 [(na, .lst (pairsP af))] (pairsP ps) [some (.loc k), some (.int a), some (.int b), some (.int c), some (.loc na), some (.loc (r i)), some (.int ah), none, none] S =
      some (.next [some (.loc k), some (.int a), some (.int b), some (.int c), some (.loc na), some (.loc (r i)), some (.int ah), none, none] S')
  | [], S, D, _, hk, B => ⟨S, B, .refl, by rw [pairsP_nil, forL_nil (by simpa using hk)]⟩
  | p :: ps, S, D, h, hk, B => by
    obtain ⟨S1, B1, f1, e1⟩ := B.relax (w := ah + p.2) hi (h p List.mem_cons_self) (a := a) (b := b) (c := c) (na := na) rfl
    obtain ⟨S2, B2, f2, e2⟩ := short_in hi hna ps S1 _ (fun q hq => h q (List.mem_cons_of_mem _ hq)) ((f1.2 na hna).trans hk) B1
    refine ⟨S2, B2, f1.trans f2, ?_⟩
    rw [pairsP_cons, forL_cons (by simpa using hk)]
    simp [pairP, e1]
    exact e2
theorem short_out {a b c : Int} (ha : 0 ≤ a ∧ a < (n : Int)) (hb : 0 ≤ b ∧ b < (n : Int)) {na : Nat} {af : List (Int × Int)} (hna : ¬ RowsAt n r na) (hat : ¬ RowsAt n r t) (haf : ∀ p ∈ af, 0 ≤ p.1 ∧ p.1 < (n : Int)) : ∀ (is : List Int) (S : Sto) (D : Tb), InL n is → S[na]? = some (.lst (pairsP af)) → BAt S k n lits D l t r →
    ∃ S', BAt S' k n lits (shortT a b c af is D) l t r ∧ FrO (RowsAt n r) S S' ∧ forL (gN 5) [5, 6, 7, 8] l_Bounds__shorten_1 [(t, .lst (rowF n fun i => .loc (r i)))] (is.map fun i => .loc (r i)) [some (.loc k), some (.int a), some (.int b), some (.int c), some (.loc na), none, none, none, none] S =
      some (.next [some (.loc k), some (.int a), some (.int b), some (.int c), some (.loc na), none, none, none, none] S')
  | [], S, D, _, hk, B => ⟨S, B, .refl, by rw [List.map_nil, forL_nil (by simpa using B.tab)]⟩
  | i :: is, S, D, h, hk, B => by
    have hi := h i List.mem_cons_self
    have g1 := B.get hi ha
    have g2 := B.get hi hb
    have j1 := joined_spec (S := S) (D i a) c
    have l1 := is_less_spec (S := S) ((D i a).map (· + c)) (D i b)
    have step : ∃ S1, BAt S1 k n lits (short1 a b c af D i) l t r ∧ FrO (RowsAt n r) S S1 ∧ ∃ v, l_Bounds__shorten_1 [some (.loc k), some (.int a), some (.int b), some (.int c), some (.loc na), some (.loc (r i)), none, none, none] S =
        some (v [some (.loc k), some (.int a), some (.int b), some (.int c), some (.loc na), some (.loc (r i)), some (lowV ((D i a).map (· + c))), none, none] S1) ∧ (v = RS.next ∨ v = RS.ctn) := by
      cases e : D i a with
      | none =>
        rw [e] at g1 j1 l1
        refine ⟨S, by unfold short1; rw [e]; exact B, .refl, RS.ctn, ?_, .inr rfl⟩
        have l1 : F_is_less [lowV none, lowV (D i b)] S = some (.ok (.bl false) S) := l1
        simp [l_Bounds__shorten_1, l_Bounds__shorten_1_t0, l_Bounds__shorten_1_t1, g1, g2, j1, l1]
      | some x =>
        rw [e] at g1 j1 l1
        have l1 : F_is_less [.int (x + c), lowV (D i b)] S = some (.ok (.bl (lessO (x + c) (D i b))) S) := l1
        have j1 : F_joined [lowV (some x), .int c] S = some (.ok (.int (x + c)) S) := j1
        by_cases hl : lessO (x + c) (D i b) = true
        · obtain ⟨S1, B1, f1, e1⟩ := short_in (ah := x + c) hi hna (a := a) (b := b) (c := c) af S D haf hk B
          refine ⟨S1, by unfold short1; rw [e]; dsimp only; rw [if_pos hl]; exact B1, f1, RS.next, ?_, .inl rfl⟩
          rw [hl] at l1
          simp [l_Bounds__shorten_1, l_Bounds__shorten_1_t0, l_Bounds__shorten_1_t1, l_Bounds__shorten_1_t2, g1, g2, j1, l1, hk, e1, show lowV (some (x + c)) = PV.int (x + c) from rfl]
        · refine ⟨S, by unfold short1; rw [e]; dsimp only; rw [if_neg hl]; exact B, .refl, RS.ctn, ?_, .inr rfl⟩
          rw [Bool.not_eq_true] at hl
          rw [hl] at l1
          simp [l_Bounds__shorten_1, l_Bounds__shorten_1_t0, l_Bounds__shorten_1_t1, l_Bounds__shorten_1_t2, g1, g2, j1, l1, show lowV (some (x + c)) = PV.int (x + c) from rfl]
    obtain ⟨S1, B1, f1, v, e1, hv⟩ := step
    obtain ⟨S2, B2, f2, e2⟩ := short_out ha hb hna hat haf is S1 _ h.tl ((f1.2 na hna).trans hk) B1
    refine ⟨S2, B2, f1.trans f2, ?_⟩
    rw [List.map_cons, forL_cons (by simpa using B.tab)]
    simp only [ev_gN, List.set_cons_succ, List.set_cons_zero, e1]
    rcases hv with rfl | rfl
    · simp only [ev_killC, ev_killN, List.set_cons_succ, List.set_cons_zero]
      exact e2
    · simp only [ev_killC, ev_killN, List.set_cons_succ, List.set_cons_zero]
      exact e2
end
end G

/-! S18: Bounds: adding, making, copying: what they do. -/
namespace G
open PySem PySem.Spec PyProof.Rows L2 D
theorem enumP_rowF {n : Nat} {f : Int → PV} : enumP 0 (rowF n f) = (idx n).map fun i => .tup [.int i, f i] := by
  refine List.ext_getElem? fun j => ?_
  by_cases hj : j < n
  · have hl : j < (enumP 0 (rowF n f)).length := by rw [enumP_len, rowF_len]; exact hj
    rw [List.getElem?_eq_getElem hl]
    obtain ⟨x, h1, h2⟩ := enumP_at (List.getElem?_eq_getElem hl)
    rw [h2]
    have : x = f (j : Int) := by
      unfold rowF at h1
      rw [List.getElem?_map, List.getElem?_range hj] at h1
      exact (Option.some.inj h1).symm
    subst this
    unfold idx
    rw [List.getElem?_map, List.getElem?_map, List.getElem?_range hj]
    simp
  · rw [List.getElem?_eq_none (by rw [enumP_len, rowF_len]; omega), List.getElem?_eq_none (by simp [idx]; omega)]
theorem rowF_idx {n : Nat} {f : Int → PV} : rowF n f = (idx n).map f := by
  unfold rowF idx
  rw [List.map_map]
  refine List.map_congr_left fun i _ => ?_
  simp
theorem noLocs_row {n : Nat} {f : Int → Option Int} : noLocs (rowF n fun b => lowV (f b)) = true := by
  unfold rowF
  generalize List.range n = l
  induction l with
  | nil => rfl
  | cons x l ih =>
    rw [List.map_cons]
    show (noLoc _ && noLocs _) = true
    rw [ih]
    have : noLoc (lowV (f (x : Int))) = true := by cases f (x : Int) <;> rfl
    rw [this]
    rfl
section
variable {S : Sto} {k n l t : Nat} {lits : List T3} {D : Tb} {r : Int → Nat}
theorem BAt.fr' {S' : Sto} (B : BAt S k n lits D l t r) (h : ∀ j, (j = k ∨ j = l ∨ j = t ∨ RowsAt n r j) → S'[j]? = S[j]?) : BAt S' k n lits D l t r :=
    ⟨(h _ (.inl rfl)).trans B.ins, (h _ (.inr (.inl rfl))).trans B.lit, (h _ (.inr (.inr (.inl rfl)))).trans B.tab, fun i a b => (h _ (.inr (.inr (.inr ⟨i, a, b, rfl⟩)))).trans (B.row i a b), B.inj, B.lt, B.lr, B.tr⟩
theorem BAt.take (B : BAt S k n lits D l t r) {S2 : Sto} {lits2 : List T3} {D2 : Tb} (B2 : BAt S2 k n lits2 D2 l t r) : BAt (S2.take S.length) k n lits2 D2 l t r := B2.fr' fun j hj => by
    rcases hj with rfl | rfl | rfl | ⟨i, h0, h1, rfl⟩
    · exact List.getElem?_take_of_lt (lt_of_get B.ins)
    · exact List.getElem?_take_of_lt (lt_of_get B.lit)
    · exact List.getElem?_take_of_lt (lt_of_get B.tab)
    · exact List.getElem?_take_of_lt (lt_of_get (B.row i h0 h1))
theorem BAt.cl (B : BAt S k n lits D l t r) {S' : Sto} {lits' : List T3} {D' : Tb} (B' : BAt S' k n lits' D' l t r) (h : ∀ j, j < S.length → ¬ (j = l ∨ RowsAt n r j) → S'[j]? = S[j]?) : Cl S S' := Cl.of fun j o hj e ne => by
  by_cases hp : j = l ∨ RowsAt n r j
  · rcases hp with rfl | ⟨i, h0, h1, rfl⟩
    · rw [B'.lit] at e; cases e
      exact bds_noLoc _ _ (noLocs_trips _)
    · rw [B'.row i h0 h1] at e; cases e
      exact bds_noLoc _ _ noLocs_row
  · exact absurd ((h j hj hp).symm.trans e) ne
theorem shorten_spec (B : BAt S k n lits D l t r) (hn : n ≤ 100) {a b c : Int} (ha : 0 ≤ a ∧ a < (n : Int)) (hb : 0 ≤ b ∧ b < (n : Int)) :
    ∃ S', F_Bounds__shorten [.loc k, .int a, .int b, .int c] S = some (.ok .non S') ∧ BAt S' k n lits (shortT a b c (after n D b) (idx n) D) l t r ∧ FrO (RowsAt n r) S S' := by
  have hrl : ∀ {j}, RowsAt n r j → j < S.length := fun ⟨i, h0, h1, e⟩ => e ▸ lt_of_get (B.row i h0 h1)
  have cm : dComp (dEnumI (dCons (dOp2 gIx (dFld "Bounds" "_least" (dVar 0)) (dVar 2)) dNil)) (nmTup [7, 8]) [7, 8] (dCmp gIsNot (dVar 8) (dC .non)) (dTup (dCons (dVar 7) (dCons (dVar 8) dNil))) [some (.loc k), some (.int a), some (.int b), some (.int c), none, none, none, none, none] S = some (.ok (.loc S.length) (S ++ [.lst (pairsP (after n D b))])) := by
    rw [ev_compF (fun i => .tup [.int i, lowV (D b i)]) (fun i => (D b i).isSome) (fun i => .tup [.int i, lowV (D b i)]) (items := idx n) (S1 := S) (keep := [(r b, .lst (rowF n fun p => lowV (D b p)))]) (by
      simp [dEnumI, B.fT, B.getRow hb, B.row b hb.1 hb.2, enumP_rowF]) (by simpa using B.row b hb.1 hb.2) (fun i hi acc => ⟨[7, 8], [.int i, lowV (D b i)], rfl, by
        cases D b i <;> simp [setsE, lowV], fun _ => by simp [setsE]⟩) (by simp [idx]; omega)]
    congr 4
    unfold after pairsP
    clear B ha hb hrl
    induction idx n with
    | nil => rfl
    | cons x q ih =>
      cases e : D b x with
      | none => simp [e, ih]
      | some w =>
        simp only [PO.lst.injEq] at ih
        simp [e, ih, pairP, show lowV (some w) = PV.int w from rfl]
  have hat : ¬ RowsAt n r t := fun ⟨i, h0, h1, e⟩ => B.tr i h0 h1 e
  have B1 := B.app [.lst (pairsP (after n D b))]
  obtain ⟨S2, B2, f2, e2⟩ := short_out (c := c) ha hb (na := S.length) (af := after n D b) (fun h => absurd (hrl h) (by omega)) hat (fun p hp => (mem_after.mp (show (p.1, p.2) ∈ after n D b from hp)).1) (idx n) _ D idx_in (by simp) B1
  have hl2 : S2.length = S.length + 1 := by rw [f2.1]; simp
  have hfr : ∀ j, j < S.length → ¬ RowsAt n r j → S2[j]? = S[j]? := fun j hj hp => (f2.2 j hp).trans (List.getElem?_append_left hj)
  refine ⟨S2.take S.length, (dDef_next (ρ := [some (.loc k), some (.int a), some (.int b), some (.int c), some (.loc S.length), none, none, none, none]) (S' := S2) rfl ?_).trans ?_, B.take B2, by rw [List.length_take]; omega, fun j hj => ?_⟩
  · rw [← rowF_idx] at e2
    simp [b_Bounds__shorten, cm, B1.fT, B1.tab, e2]
  · rw [gc_cl rfl (B.cl B2 fun j hj hp => hfr j hj fun z => hp (.inr z))]
  · by_cases h : j < S.length
    · rw [List.getElem?_take_of_lt h]
      exact hfr j h hj
    · rw [List.getElem?_eq_none (by rw [List.length_take]; omega), List.getElem?_eq_none (by omega)]
theorem add_no (B : BAt S k n lits D l t r) {a b c w : Int} (ha : 0 ≤ a ∧ a < (n : Int)) (hb : 0 ≤ b ∧ b < (n : Int)) (h : D b a = some w) (hw : w + c < 0) : F_Bounds_add [.loc k, .int a, .int b, .int c] S = some (.ok (.bl false) S) := by
  refine call_val0 ?_ rfl
  have e := bound_spec B hb ha
  rw [h] at e
  have e : F_Bounds_bound [.loc k, .int b, .int a] S = some (.ok (.int w) S) := e
  have i : isInsP "Bounds" "bound" (.loc k) S = true := B.is
  simp [b_Bounds_add, b_Bounds_add_t0, b_Bounds_add_t1, i, e, hw]
theorem add_yes (B : BAt S k n lits D l t r) (hn : n ≤ 100) (hl : lits.length < 100000) {a b c : Int} (ha : 0 ≤ a ∧ a < (n : Int)) (hb : 0 ≤ b ∧ b < (n : Int)) (h : ∀ w, D b a = some w → 0 ≤ w + c) :
    ∃ S', F_Bounds_add [.loc k, .int a, .int b, .int c] S = some (.ok (.bl true) S') ∧ BAt S' k n (lits ++ [(a, b, c)]) (addT n a b c D) l t r ∧ FrO (fun j => j = l ∨ RowsAt n r j) S S' := by
  have e := bound_spec B hb ha
  have i : isInsP "Bounds" "bound" (.loc k) S = true := B.is
  have hlt := lt_of_get B.lit
  have ap : gAppend (.loc l) [.tup [.int a, .int b, .int c]] S = some (.ok .non (S.set l (.lst (tripsP (lits ++ [(a, b, c)]))))) := by
    rw [ev_append B.lit (by rw [tripsP_len]; omega), ← tripsP_snoc]
    rfl
  have B1 : BAt (S.set l (.lst (tripsP (lits ++ [(a, b, c)])))) k n (lits ++ [(a, b, c)]) D l t r :=
    ⟨by rw [List.getElem?_set_ne B.kl.symm]; exact B.ins, List.getElem?_set_self hlt, by rw [List.getElem?_set_ne B.lt]; exact B.tab, fun i h0 h1 => by rw [List.getElem?_set_ne (B.lr i h0 h1)]; exact B.row i h0 h1, B.inj, B.lt, B.lr, B.tr⟩
  have f1 : FrO (fun j => j = l ∨ RowsAt n r j) S (S.set l (.lst (tripsP (lits ++ [(a, b, c)])))) := ⟨List.length_set, fun j hj => List.getElem?_set_ne fun z => hj (.inl z.symm)⟩
  generalize S.set l (.lst (tripsP (lits ++ [(a, b, c)]))) = S1 at ap B1 f1
  have g1 := B1.getRow ha
  have g2 := B1.get ha hb
  have ls := is_less_int (S := S1) c (D a b)
  have i1 : isInsP "Bounds" "_shorten" (.loc k) S1 = true := B1.is
  have front : b_Bounds_add ([PV.loc k, .int a, .int b, .int c].map some ++ List.replicate (5 - 4) none) S = b_Bounds_add_t3 [some (.loc k), some (.int a), some (.int b), some (.int c), some (lowV (D b a))] S1 := by
    cases hd : D b a with
    | none =>
      rw [hd] at e
      have e : F_Bounds_bound [.loc k, .int b, .int a] S = some (.ok .non S) := e
      simp [b_Bounds_add, b_Bounds_add_t0, b_Bounds_add_t1, b_Bounds_add_t2, i, e, B.fL, ev_tyL B.lit, ap, lowV]
    | some w =>
      rw [hd] at e
      have e : F_Bounds_bound [.loc k, .int b, .int a] S = some (.ok (.int w) S) := e
      have hw := h w hd
      have hw : ¬ w + c < 0 := by omega
      simp [b_Bounds_add, b_Bounds_add_t0, b_Bounds_add_t1, b_Bounds_add_t2, i, e, B.fL, ev_tyL B.lit, ap, lowV, hw]
  have fin : ∀ S2, BAt S2 k n (lits ++ [(a, b, c)]) (addT n a b c D) l t r → FrO (fun j => j = l ∨ RowsAt n r j) S S2 → (∃ ρ', b_Bounds_add_t3 [some (.loc k), some (.int a), some (.int b), some (.int c), some (lowV (D b a))] S1 = b_Bounds_add_t4 ρ' S2) →
      ∃ S', F_Bounds_add [.loc k, .int a, .int b, .int c] S = some (.ok (.bl true) S') ∧ BAt S' k n (lits ++ [(a, b, c)]) (addT n a b c D) l t r ∧ FrO (fun j => j = l ∨ RowsAt n r j) S S' := fun S2 B2 f2 ⟨ρ', e2⟩ => by
    refine ⟨S2, (dDef_ret (v := .bl true) (S' := S2) rfl ?_).trans ?_, B2, f2⟩
    · refine (front.trans e2).trans ?_
      simp [b_Bounds_add_t4]
    · rw [gc_len rfl (B.cl B2 fun j _ hp => f2.2 j hp) f2.1]
  by_cases hc : lessO c (D a b) = true
  · obtain ⟨S2, e2, B2, f2⟩ := shorten_spec B1 hn (c := c) ha hb
    refine fin S2 (by unfold addT; rw [if_pos hc]; exact B2) (f1.trans (f2.imp fun j h => .inr h)) ⟨[some (.loc k), some (.int a), some (.int b), some (.int c), some (lowV (D b a))], ?_⟩
    rw [hc] at ls
    simp [b_Bounds_add_t3, B1.fT, g1, g2, ls, i1, e2]
  · refine fin S1 (by unfold addT; rw [if_neg hc]; exact B1) f1 ⟨[some (.loc k), some (.int a), some (.int b), some (.int c), some (lowV (D b a))], ?_⟩
    rw [Bool.not_eq_true] at hc
    rw [hc] at ls
    simp [b_Bounds_add_t3, B1.fT, g1, g2, ls]
end
end G

/-! S19: Bounds: making, copying; the literals that are drawn. -/
namespace G
open PySem PySem.Spec PyProof.Rows L2 D
/-! ### a comprehension that makes a list for each item -/
theorem compL_new {α : Type} {B : Sto} {f : PV → Option (List Nat × List PV)} {own : List Nat} {elt : DE} {keep : List (Nat × PO)} {ρ : En} (e : α → PV) (row : α → List PV) (hk : Kept keep B) :
    ∀ (items : List α) (acc : List PV) (cells : Sto), (∀ x ∈ items, ∀ acc cells, ∃ is l, f (e x) = some (is, l) ∧ elt (setsE is l (killE own ρ)) (B ++ .lst acc :: cells) = some (.ok (.loc (B.length + 1 + cells.length)) (B ++ .lst acc :: (cells ++ [.lst (row x)])))) → acc.length + items.length ≤ 16777216 →
    compL B.length f own dYes elt keep (items.map e) ρ (B ++ .lst acc :: cells) = some (.ok (.loc B.length) (B ++ .lst (acc ++ (List.range items.length).map fun j => .loc (B.length + 1 + cells.length + j)) :: (cells ++ items.map fun x => .lst (row x))))
  | [], acc, cells, _, _ => by
    have hkp : Kept keep (B ++ .lst acc :: cells) := fun p hp => by
      rw [List.getElem?_append_left (lt_of_get (hk p hp))]
      exact hk p hp
    rw [List.map_nil]
    unfold compL
    rw [if_pos hkp]
    simp
  | x :: items, acc, cells, h, hl => by
    rw [List.length_cons] at hl
    have hkp : Kept keep (B ++ .lst acc :: cells) := fun p hp => by
      rw [List.getElem?_append_left (lt_of_get (hk p hp))]
      exact hk p hp
    obtain ⟨is, l, h1, h2⟩ := h x List.mem_cons_self acc cells
    have ih := compL_new e row hk items (acc ++ [.loc (B.length + 1 + cells.length)]) (cells ++ [.lst (row x)]) (fun y hy => h y (List.mem_cons_of_mem _ hy)) (by rw [List.length_append, List.length_singleton]; omega)
    rw [List.map_cons]
    unfold compL
    rw [if_pos hkp, h1]
    simp only [dYes, h2, at_0]
    rw [if_pos (by omega), put_0, ih, List.length_cons, List.range_succ_eq_map, List.map_cons, List.map_map, List.map_cons]
    have : ((fun j => PV.loc (B.length + 1 + cells.length + j)) ∘ Nat.succ) = fun j => PV.loc (B.length + 1 + (cells ++ [PO.lst (row x)]).length + j) := by
      funext j
      simp only [Function.comp_apply, List.length_append, List.length_singleton]
      congr 1
      omega
    rw [this]
    simp
theorem ev_compN {α : Type} {f : PV → Option (List Nat × List PV)} {own : List Nat} {elt : DE} {keep : List (Nat × PO)} {ρ : En} {S B : Sto} {it : DI} {items : List α} (e : α → PV) (row : α → List PV) (hi : it ρ S = some (.ok ⟨items.map e, keep⟩ B)) (hk : Kept keep B)
    (h : ∀ x ∈ items, ∀ acc cells, ∃ is l, f (e x) = some (is, l) ∧ elt (setsE is l (killE own ρ)) (B ++ .lst acc :: cells) = some (.ok (.loc (B.length + 1 + cells.length)) (B ++ .lst acc :: (cells ++ [.lst (row x)])))) (hl : items.length ≤ 16777216) :
    dComp it f own dYes elt ρ S = some (.ok (.loc B.length) (B ++ .lst ((List.range items.length).map fun j => .loc (B.length + 1 + j)) :: (items.map fun x => .lst (row x)))) := by
  unfold dComp
  rw [hi]
  simp only [ev_bR_ok]
  rw [compL_new e row hk items [] [] h (by simpa using hl)]
  simp
theorem rng_idx (n : Nat) : rangeP 0 n = intsP (idx n) := by unfold idx; rw [range_ints]
theorem rng_row {n c : Nat} {g : Int → PV} (h : ∀ j : Nat, PV.loc (c + j) = g (j : Int)) : (List.range (idx n).length).map (fun j => PV.loc (c + j)) = rowF n g := by
  unfold rowF idx
  rw [List.length_map, List.length_range]
  exact List.map_congr_left fun j _ => h j
/-! ### making -/
section
variable {S : Sto} {k n l t : Nat} {lits : List T3} {D : Tb} {r : Int → Nat}
theorem init_loop : ∀ (is : List Int) (S : Sto) (D : Tb), InL n is → BAt S k n lits D l t r → ∃ S', BAt S' k n lits (diagT is D) l t r ∧ FrO (RowsAt n r) S S' ∧
    forL (gN 2) [2] l_Bounds___init___1 [] (intsP is) [some (.loc k), some (.int (n : Int)), none, none] S = some (.next [some (.loc k), some (.int (n : Int)), none, none] S')
  | [], S, D, _, B => ⟨S, B, .refl, by rw [intsP_nil, forL_nil (by simp)]⟩
  | a :: is, S, D, h, B => by
    have ha := h a List.mem_cons_self
    obtain ⟨S1, e, B1, f1⟩ := B.put (w := some 0) ha ha
    obtain ⟨S2, B2, f2, e2⟩ := init_loop is S1 _ h.tl B1
    refine ⟨S2, B2, f1.trans f2, ?_⟩
    have e : gSetL (.loc (r a)) (.int a) (.int 0) S = some S1 := e
    rw [intsP_cons, forL_cons (by simp)]
    simp [l_Bounds___init___1, B.fT, B.getRow ha, e]
    exact e2
theorem Lst.start (n : Nat) : Lst n [] (diagT (idx n) fun _ _ => none) := by
  have h := diagT_of (l := []) (idx n) (fun _ _ => none) (fun _ _ _ e => by cases e)
  refine ⟨fun p hp => (by cases hp), h.1, fun a b w ha h2 => ?_, fun a w h2 => ?_⟩
  · cases h2 with
    | nil _ => exact ⟨0, h.2 a (.inl (in_idx ha)), Int.le_refl _⟩
    | cons hm _ => cases hm
  · generalize hb : a = b at h2
    cases h2 with
    | nil _ => exact Int.le_refl _
    | cons hm _ => cases hm
theorem rep_row {U : Sto} {n : Nat} (hn : n ≤ 1000) {ρ : En} {i : Nat} (h : ρ[i]? = some (some (.int (n : Int)))) : (dGc (dOp2 gMul (dLst (dCons (dC .non) dNil)) (dVar i))) ρ U = some (.ok (.loc U.length) (U ++ [.lst (rowF n fun _ => .non)])) := by
  have rp := ev_repL (S := U) (n := (n : Int)) (w := .non) (by omega) (by omega)
  rw [Int.toNat_natCast] at rp
  simp only [ev_gc, ev_op2, ev_lst, ev_cons, ev_c, ev_nil, ev_bR_ok, ev_lst1, ev_var, h, rp, Option.map_some]
  rw [gc_ok_new (l := rowF n fun _ => .non) (by simp) (by omega)]
  have := noLocs_row (n := n) (f := fun _ => none)
  exact this
theorem make_spec {S : Sto} {n : Nat} (h1 : 1 ≤ n) (hn : n ≤ 80) : ∃ T, gMake "Bounds" F_Bounds___init__ [.int n] S = some (.ok (.loc S.length) (S ++ T)) ∧ T.length = n + 3 ∧ BAt (S ++ T) S.length n [] (diagT (idx n) fun _ _ => none) (S.length + 1) (S.length + 2) (fun i => S.length + 3 + i.toNat) := by
  have hB : ∀ U : Sto, U = S ++ [.ins "Bounds" (bF (S.length + 1) (S.length + 2)), .lst [], .lst (rowF n fun i => .loc (S.length + 3 + i.toNat))] ++ (idx n).map (fun _ => .lst (rowF n fun _ => .non)) → BAt U S.length n [] (fun _ _ => none) (S.length + 1) (S.length + 2) (fun i => S.length + 3 + i.toNat) := fun U hU => by
    subst hU
    refine ⟨by simp, by simp, by simp, fun i h0 hi => ?_, fun i j a b c d e => ?_, by omega, fun i a b => ?_, fun i a b => ?_⟩
    · rw [List.append_assoc, Nat.add_assoc, get_off, show 3 + i.toNat = i.toNat + 1 + 1 + 1 by omega]
      simp only [List.cons_append, List.nil_append, List.getElem?_cons_succ]
      rw [List.getElem?_map]
      have : (idx n)[i.toNat]? = some i := by
        unfold idx
        rw [List.getElem?_map, List.getElem?_range (by omega)]
        simp
        omega
      rw [this]
      rfl
    · have e : S.length + 3 + i.toNat = S.length + 3 + j.toNat := e
      omega
    · show S.length + 1 ≠ S.length + 3 + i.toNat
      omega
    · show S.length + 2 ≠ S.length + 3 + i.toNat
      omega
  obtain ⟨S2, B2, f2, e2⟩ := init_loop (lits := []) (idx n) _ _ idx_in (hB _ rfl)
  have hl : (S ++ [PO.ins "Bounds" (bF (S.length + 1) (S.length + 2)), .lst [], .lst (rowF n fun i => .loc (S.length + 3 + i.toNat))] ++ (idx n).map (fun _ => PO.lst (rowF n fun _ => .non))).length = S.length + n + 3 := by simp [idx]; omega
  have hpre : ∀ j, j < S.length → S2[j]? = S[j]? := fun j hj => by
    rw [f2.2 j fun ⟨i, a, b, e⟩ => by
      have e : j = S.length + 3 + i.toNat := e
      omega, List.append_assoc, List.getElem?_append_left hj]
  obtain ⟨T, hT⟩ := pre_of (S := S) (S' := S2) (by rw [f2.1, hl]; omega) hpre
  refine ⟨T, ?_, ?_, hT ▸ B2⟩
  · refine ev_gMake ?_
    have cm : dComp (dRng1 (dCons (dVar 1) dNil)) (nmOne 3) [3] dYes (dGc (dOp2 gMul (dLst (dCons (dC .non) dNil)) (dVar 1))) [some (.loc S.length), some (.int (n : Int)), none, none] (S ++ [.ins "Bounds" [("_literals", .loc (S.length + 1))], .lst []]) =
        some (.ok (.loc (S.length + 2)) (S ++ [.ins "Bounds" [("_literals", .loc (S.length + 1))], .lst [], .lst (rowF n fun i => .loc (S.length + 3 + i.toNat))] ++ (idx n).map (fun _ => .lst (rowF n fun _ => .non)))) := by
      rw [ev_compN (items := idx n) (B := S ++ [.ins "Bounds" [("_literals", .loc (S.length + 1))], .lst []]) (keep := []) (fun i => PV.int i) (fun _ => rowF n fun _ => .non) (by simp [rng_idx, intsP]) (by simp) (fun x _ acc cells => ⟨[3], [.int x], rfl, by
        rw [rep_row (n := n) (by omega) (by simp [setsE])]
        simp
        omega⟩) (by simp [idx]; omega)]
      rw [rng_row (g := fun i => .loc (S.length + 3 + i.toNat)) fun j => by simp]
      simp
    refine (dDef_next (ρ := [some (.loc S.length), some (.int n), none, none]) (S' := S ++ T) rfl ?_).trans ?_
    · have st : ∀ o, (S ++ [PO.ins "Bounds" []] ++ [o]).set S.length (.ins "Bounds" (putFP "_literals" (.loc (S.length + 1)) [])) = S ++ [.ins "Bounds" [("_literals", .loc (S.length + 1))], o] := fun o => by simp [putFP]
      have sf : ∀ v U, gSetF "Bounds" "_least" v (.loc S.length) [some (.loc S.length), some (.int (n : Int)), none, none] (S ++ [.ins "Bounds" [("_literals", .loc (S.length + 1))]] ++ U) = some (.next [some (.loc S.length), some (.int (n : Int)), none, none] (S ++ [.ins "Bounds" [("_literals", .loc (S.length + 1)), ("_least", v)]] ++ U)) := fun v U => by
        rw [ev_gSetF (fs := [("_literals", .loc (S.length + 1))]) (by simp) (by show 1 < 1000; decide)]
        have : putFP "_least" v [("_literals", .loc (S.length + 1))] = ([("_literals", .loc (S.length + 1)), ("_least", v)] : List (Str × PV)) := by
          unfold putFP
          rw [if_neg (by decide +kernel)]
          rfl
        rw [this]
        simp
      have s1 : gSetF "Bounds" "_literals" (.loc (S.length + 1)) (.loc S.length) [some (.loc S.length), some (.int (n : Int)), none, none] (S ++ [.ins "Bounds" [], .lst []]) = some (.next [some (.loc S.length), some (.int (n : Int)), none, none] (S ++ [.ins "Bounds" [("_literals", .loc (S.length + 1))], .lst []])) := by
        rw [ev_gSetF (fs := []) (by simp) (by decide)]
        simp [putFP]
      have s2 := sf (.loc (S.length + 2)) (.lst [] :: .lst (rowF n fun i => .loc (S.length + 3 + i.toNat)) :: (idx n).map (fun _ => .lst (rowF n fun _ => .non)))
      simp only [List.append_assoc, List.cons_append, List.nil_append] at cm s2 e2
      rw [← hT]
      have rg := rng_idx n
      simp [b_Bounds___init__, b_Bounds___init___t0, b_Bounds___init___t1, b_Bounds___init___t2, b_Bounds___init___t3, points_ok (n := (n : Int)) (by omega), s1, cm, s2, rg]
      exact e2
    · have i2 := B2.ins
      rw [hT] at i2
      have hne : ¬ Cl (S ++ [PO.ins "Bounds" []]) (S ++ T) := fun h => by
        rcases h S.length _ (by simp) i2 with h | h
        · simp [bF] at h
        · have := h _ (List.mem_cons_self ..)
          have this : S.length + 1 < (S ++ [PO.ins "Bounds" []]).length := this
          simp at this
      have hne2 : ¬ (S ++ T).take (S ++ [PO.ins "Bounds" []]).length = S ++ [PO.ins "Bounds" []] := fun h => hne fun j o hj e => .inl (by
        rw [← h, List.getElem?_take_of_lt hj]
        exact e)
      unfold gcE gc2
      simp only [hne, hne2, if_false]
      rfl
  · have := f2.1
    rw [hl, hT, List.length_append] at this
    omega
theorem make_bad {S : Sto} {n : Int} (h : ¬ (1 ≤ n ∧ n ≤ 80)) : gMake "Bounds" F_Bounds___init__ [.int n] S = some (.exc ⟨"NotAllowed", []⟩ (S ++ [.ins "Bounds" []])) := by
  refine ev_gMakeX ?_
  refine call_exc0 (ρ := [some (.loc S.length), some (.int n), none, none]) ?_
  simp [b_Bounds___init__, b_Bounds___init___t0, points_bad h]
end
end G

/-! S20: the literals that are drawn; one more literal for a Bounds and for the law's own table. -/
namespace G
open PySem PySem.Spec PyProof.Rows L2 D
/-- a number of the row -/
def nbAt (ns : List Int) (i : Int) : Int := ns.getD (i % (ns.length : Int)).toNat 0
theorem nb_ix {S : Sto} {k : Nat} {ns : List Int} (hk : S[k]? = some (.lst (intsP ns))) (hn : 0 < ns.length) (i : Int) : gIx (.loc k) (.int (i % (ns.length : Int))) S = some (.ok (.int (nbAt ns i)) S) :=
  ev_ixL hk (ints_at (Int.emod_nonneg _ (by omega)) (Int.emod_lt_of_pos _ (by omega)))
theorem nb_at {S : Sto} {k : Nat} {ns : List Int} (hk : S[k]? = some (.lst (intsP ns))) {i : Int} (h0 : 0 ≤ i) (h : i < ns.length) : gIx (.loc k) (.int i) S = some (.ok (.int (ns.getD i.toNat 0)) S) := ev_ixL hk (ints_at h0 h)
/-! literals -/
theorem lits_made {S : Sto} {ns : List Int} {k : Nat} (hk : S[k]? = some (.lst (intsP ns))) (hn : 0 < ns.length) {at_ n c sz : Int} (h1 : 1 ≤ n) (hc : c ≤ 1000) (hz : 1 ≤ sz ∧ sz ≤ 100) : ∃ l : List T3, ptsB n l = true ∧ l.length ≤ c.toNat ∧ (∀ p ∈ l, -1000 ≤ p.2.2 ∧ p.2.2 ≤ 1000) ∧
    F__law_literals [.loc k, .int at_, .int n, .int c, .int sz] S = some (.ok (.loc S.length) (S ++ [.lst (tripsP l)])) := by
  have loop : ∀ (is : List Int) (acc : List T3), ptsB n acc = true → (∀ p ∈ acc, -1000 ≤ p.2.2 ∧ p.2.2 ≤ 1000) → acc.length + is.length ≤ 100000 → ∃ l : List T3, ptsB n l = true ∧ (∀ p ∈ l, -1000 ≤ p.2.2 ∧ p.2.2 ≤ 1000) ∧ l.length = acc.length + is.length ∧
      forL (gN 6) [6, 7, 8, 9] l__law_literals_1 [] (intsP is) [some (.loc k), some (.int at_), some (.int n), some (.int c), some (.int sz), some (.loc S.length), none, none, none, none] (S ++ [.lst (tripsP acc)]) = some (.next [some (.loc k), some (.int at_), some (.int n), some (.int c), some (.int sz), some (.loc S.length), none, none, none, none] (S ++ [.lst (tripsP l)])) := by
    intro is
    induction is with
    | nil => intro acc h hb _; exact ⟨acc, h, hb, by simp, by rw [intsP_nil, forL_nil (by simp)]⟩
    | cons i is ih =>
      intro acc h hb hl
      rw [List.length_cons] at hl
      have ix := fun T => nb_ix (S := S ++ T) (at_old hk) hn (at_ + i)
      generalize nbAt ns (at_ + i) = w at ix
      have hln := fun T => ev_lenL (S := S ++ T) (k := k) (l := intsP ns) (at_old hk)
      simp only [intsP_len] at hln
      have md := fun T => ev_mod (S := S ++ T) (i := at_ + i) (j := (ns.length : Int)) (by omega)
      have h0 : 0 < n := by omega
      have h2 : 0 < 2 * sz + 1 := by omega
      have e1 := Int.emod_nonneg w (show n ≠ 0 by omega)
      have e2 := Int.emod_lt_of_pos w (show 0 < n by omega)
      have e3 := Int.emod_nonneg (w / 11) (show n ≠ 0 by omega)
      have e4 := Int.emod_lt_of_pos (w / 11) (show 0 < n by omega)
      have e5 := Int.emod_nonneg (w / 143) (show 2 * sz + 1 ≠ 0 by omega)
      have e6 := Int.emod_lt_of_pos (w / 143) (show (0 : Int) < 2 * sz + 1 by omega)
      let t : T3 := (w % n, w / 11 % n, w / 143 % (2 * sz + 1) - sz / 2)
      obtain ⟨l, r1, r2, r3, r4⟩ := ih (acc ++ [t]) (by
        unfold ptsB at h ⊢
        rw [List.all_append, h]
        simp [t, e1, e2, e3, e4]) (fun p hp => by
        rcases List.mem_append.mp hp with q | q
        · exact hb p q
        · rw [List.mem_singleton] at q
          subst q
          simp only [t]
          omega) (by simp; omega)
      refine ⟨l, r1, r2, by rw [r3]; simp; omega, ?_⟩
      have ap : gAppend (.loc S.length) [.tup [.int (w % n), .int (w / 11 % n), .int (w / 143 % (2 * sz + 1) - sz / 2)]] (S ++ [.lst (tripsP acc)]) = some (.ok .non (S ++ [.lst (tripsP (acc ++ [t]))])) := by
        rw [ev_append at_0 (by rw [tripsP_len]; omega), put_0, ← tripsP_snoc]
        rfl
      have ty : tyP "list" (.loc S.length) (S ++ [.lst (tripsP acc)]) = true := ev_tyL at_0
      rw [intsP_cons, forL_cons (by simp)]
      have body : l__law_literals_1 [some (.loc k), some (.int at_), some (.int n), some (.int c), some (.int sz), some (.loc S.length), some (.int i), none, none, none] (S ++ [.lst (tripsP acc)]) = some (.next [some (.loc k), some (.int at_), some (.int n), some (.int c), some (.int sz), some (.loc S.length), some (.int i), some (.int w), some (.int (w % n)), some (.int (w / 11 % n))] (S ++ [.lst (tripsP (acc ++ [t]))])) := by
        simp [l__law_literals_1, l__law_literals_1_t0, l__law_literals_1_t1, l__law_literals_1_t2, l__law_literals_1_t3, hln, ix, md, ev_mod, h0, h2, ev_div, ev_mulL, ap, ty]
      simp only [ev_gN, List.set_cons_succ, List.set_cons_zero, body, ev_killC, ev_killN]
      exact r4
  obtain ⟨l, r1, r2, r3, r4⟩ := loop ((List.range c.toNat).map fun i : Nat => (0 : Int) + (i : Int)) [] rfl (fun p hp => by cases hp) (by simp; omega)
  rw [← range_ints, tripsP_nil] at r4
  refine ⟨l, r1, by rw [r3]; simp, r2, call_new (j := S.length) (l := tripsP l) (T := [.lst (tripsP l)]) ?_ at_0 (Nat.le_refl _) (noLocs_trips _)⟩
  simp [b__law_literals, b__law_literals_t0, b__law_literals_t1, b__law_literals_t2, r4]
theorem pts_in {n : Nat} {l : List T3} (h : ptsB n l = true) : InN n l := fun p hm => by
  unfold ptsB at h
  rw [List.all_eq_true] at h
  have := h p hm
  simp only [Bool.and_eq_true, decide_eq_true_eq] at this
  exact this
theorem in_pts {n : Nat} {l : List T3} (h : InN n l) : ptsB n l = true := by
  unfold ptsB
  rw [List.all_eq_true]
  intro p hm
  simp only [Bool.and_eq_true, decide_eq_true_eq]
  exact h p hm
theorem trips_enc (l : List T3) : tripsP l = l.map Dat.enc := rfl
/-- two lists of literals -/
theorem eq_trips {S : Sto} {neg : Bool} {j k : Nat} {l r : List T3} (h1 : S[j]? = some (.lst (tripsP l))) (h2 : S[k]? = some (.lst (tripsP r))) : gEqN neg (.loc j) (.loc k) S = some (.ok (.bl (if neg then !decide (l = r) else decide (l = r))) S) := eq_lists (α := T3) h1 h2
/-- one of three -/
theorem of3 {S : Sto} {k : Nat} {a b c x : Int} (hk : S[k]? = some (.lst [.int a, .int b, .int c])) : ∃ y, (y = a ∨ y = b ∨ y = c) ∧ gIx (.loc k) (.int (x % 3)) S = some (.ok (.int y) S) := by
  have h1 := Int.emod_nonneg x (show (3 : Int) ≠ 0 by omega)
  have h2 := Int.emod_lt_of_pos x (show (0 : Int) < 3 by omega)
  refine ⟨_, ?_, ev_ixL (l := intsP [a, b, c]) hk (ints_at h1 h2)⟩
  rcases (show x % 3 = 0 ∨ x % 3 = 1 ∨ x % 3 = 2 by omega) with h | h | h <;> rw [h]
  · exact .inl rfl
  · exact .inr (.inl rfl)
  · exact .inr (.inr rfl)
theorem mul_small {S : Sto} {x g : Int} (h : -1000 ≤ x ∧ x ≤ 1000) : gMul (.int x) (.int g) S = some (.ok (.int (x * g)) S) := ev_mulL (by omega)
/-- the row's numbers are scaled -/
theorem eq_low {S : Sto} {neg : Bool} (x y : Option Int) : gEqN neg (lowV x) (lowV y) S = some (.ok (.bl (if neg then !decide (x = y) else decide (x = y))) S) := by
  cases x with
  | none =>
    cases y with
    | none => exact (ev_eq toD_non toD_non).trans (by simp)
    | some b => exact (ev_eq toD_non (toD_int b)).trans (by cases neg <;> simp [PyData.eqv])
  | some a =>
    cases y with
    | none => exact (ev_eq (toD_int a) toD_non).trans (by cases neg <;> simp [PyData.eqv])
    | some b => exact (ev_eq (toD_int a) (toD_int b)).trans (by simp)
end G

/-! S21: Bounds: values. -/
namespace G
open PySem PySem.Spec PyProof.Rows L2 D
/-! Bounds__low(self, points): slots 0 self, 1 points, 2 found, 3 a, 4 b -/
noncomputable def l_Bounds__low_1 : DS := (dBody [3] (dAsg (gSubT gSetD (dVar 2) (dVar 3)) (dOpA gMinL (dCons (dComp (dSeqI (dVar 1)) (nmOne 4) [4] (dCmp gIsNot (dOp2 gIx (dOp2 gIx (dFld "Bounds" "_least" (dVar 0)) (dVar 3)) (dVar 4)) (dC .non)) (dOp2 gIx (dOp2 gIx (dFld "Bounds" "_least" (dVar 0)) (dVar 3)) (dVar 4))) dNil))))
noncomputable def b_Bounds__low_t2 : DS := (dRet (dVar 2))
noncomputable def b_Bounds__low_t1 : DS := (dSeq (dFor (dSeqI (dVar 1)) (gN 3) [3] l_Bounds__low_1) b_Bounds__low_t2)
noncomputable def b_Bounds__low_t0 : DS := (dSeq (dSet 2 dNewD) b_Bounds__low_t1)
noncomputable def b_Bounds__low : DS := b_Bounds__low_t0
noncomputable def F_Bounds__low : DF := dDef 2 5 b_Bounds__low
/-! moved(values): slots 0 values, 1 value -/
noncomputable def b_moved : DS := (dRet (dOpA gTuple (dCons (dComp (dSeqI (dVar 0)) (nmOne 1) [1] dYes (dOp2 gSub (dVar 1) (dOp2 gIx (dVar 0) (dC (.int 0))))) dNil)))
noncomputable def F_moved : DF := dDef 1 2 b_moved
/-! Bounds_any_values(self): slots 0 self, 1 low, 2 a -/
noncomputable def b_Bounds_any_values : DS := (dSeq (dSet 1 (dIMeth "Bounds" "_low" F_Bounds__low (dVar 0) (dCons (dListR (dIMeth "Bounds" "size" F_Bounds_size (dVar 0) dNil)) dNil))) (dRet (dOpA F_moved (dCons (dComp (dRng1 (dCons (dIMeth "Bounds" "size" F_Bounds_size (dVar 0) dNil) dNil)) (nmOne 2) [2] dYes (dOp2 gIxD (dVar 1) (dVar 2))) dNil))))
noncomputable def F_Bounds_any_values : DF := dDef 1 3 b_Bounds_any_values
/-! Bounds__high(self, b, a, least): slots 0 self, 1 b, 2 a, 3 least, 4 n, 5 far, 6 low, 7 lift, 8 point, 9 other -/
noncomputable def l_Bounds__high_2 : DS := (dIfS (dAndT (dCmp gNotIn (dVar 8) (dVar 5)) (dCmp gIsNot (dOp2 gIx (dOp2 gIx (dFld "Bounds" "_least" (dVar 0)) (dVar 8)) (dVar 9)) (dC .non))) (dSet 7 (dOpA gMax2 (dCons (dVar 7) (dCons (dOp2 gSub (dOp2 gSub (dOp2 gIx (dOp2 gIx (dFld "Bounds" "_least" (dVar 0)) (dVar 8)) (dVar 1)) (dOp2 gIx (dOp2 gIx (dFld "Bounds" "_least" (dVar 0)) (dVar 8)) (dVar 9))) (dOp2 gIxD (dVar 6) (dVar 9))) dNil)))) dPass)
noncomputable def l_Bounds__high_1 : DS := (dFor (dSeqI (dVar 5)) (gN 9) [9] l_Bounds__high_2)
noncomputable def b_Bounds__high_t6 : DS := (dRet (dOpA F_moved (dCons (dComp (dRng1 (dCons (dVar 4) dNil)) (nmOne 8) [8] dYes (dIf (dCmp gIn (dVar 8) (dVar 5)) (dOp2 gAdd (dOp2 gIxD (dVar 6) (dVar 8)) (dVar 7)) (dOp2 gIx (dOp2 gIx (dFld "Bounds" "_least" (dVar 0)) (dVar 8)) (dVar 1)))) dNil)))
noncomputable def b_Bounds__high_t5 : DS := (dSeq (dFor (dRng1 (dCons (dVar 4) dNil)) (gN 8) [8, 9] l_Bounds__high_1) b_Bounds__high_t6)
noncomputable def b_Bounds__high_t4 : DS := (dSeq (dIfS (dCmp gIn (dVar 2) (dVar 5)) (dSet 7 (dOpA gMax2 (dCons (dC (.int 0)) (dCons (dOp2 gSub (dVar 3) (dOp2 gIxD (dVar 6) (dVar 2))) dNil)))) dPass) b_Bounds__high_t5)
noncomputable def b_Bounds__high_t3 : DS := (dSeq (dSet 7 (dC (.int 0))) b_Bounds__high_t4)
noncomputable def b_Bounds__high_t2 : DS := (dSeq (dSet 6 (dIMeth "Bounds" "_low" F_Bounds__low (dVar 0) (dCons (dVar 5) dNil))) b_Bounds__high_t3)
noncomputable def b_Bounds__high_t1 : DS := (dSeq (dSet 5 (dComp (dRng1 (dCons (dVar 4) dNil)) (nmOne 8) [8] (dCmp gIs (dOp2 gIx (dOp2 gIx (dFld "Bounds" "_least" (dVar 0)) (dVar 8)) (dVar 1)) (dC .non)) (dVar 8))) b_Bounds__high_t2)
noncomputable def b_Bounds__high_t0 : DS := (dSeq (dSet 4 (dIMeth "Bounds" "size" F_Bounds_size (dVar 0) dNil)) b_Bounds__high_t1)
noncomputable def b_Bounds__high : DS := b_Bounds__high_t0
noncomputable def F_Bounds__high : DF := dDef 4 10 b_Bounds__high
/-! Bounds_values_at(self, a, b): slots 0 self, 1 a, 2 b -/
noncomputable def b_Bounds_values_at : DS := (dSeq (dIfS (dCmp gIs (dIMeth "Bounds" "bound" F_Bounds_bound (dVar 0) (dCons (dVar 1) (dCons (dVar 2) dNil))) (dC .non)) (dRaiseF "Missing" "name" (dC (.str "there is no greatest difference"))) dPass) (dRet (dIMeth "Bounds" "_high" F_Bounds__high (dVar 0) (dCons (dVar 2) (dCons (dVar 1) (dCons (dC (.int 0)) dNil))))))
noncomputable def F_Bounds_values_at : DF := dDef 3 3 b_Bounds_values_at
/-! Bounds_values_beyond(self, a, b, least): slots 0 self, 1 a, 2 b, 3 least -/
noncomputable def b_Bounds_values_beyond : DS := (dSeq (dIfS (dCmp gIsNot (dIMeth "Bounds" "bound" F_Bounds_bound (dVar 0) (dCons (dVar 1) (dCons (dVar 2) dNil))) (dC .non)) (dRaise "NotAllowed") dPass) (dRet (dIMeth "Bounds" "_high" F_Bounds__high (dVar 0) (dCons (dVar 2) (dCons (dVar 1) (dCons (dVar 3) dNil))))))
noncomputable def F_Bounds_values_beyond : DF := dDef 4 4 b_Bounds_values_beyond
/-! ### the least of ints; ints in a list; dicts from ints -/
theorem minI_mem : ∀ (l : List Int) (x : Int), minI (x :: l) ∈ x :: l
  | [], x => by simp [minI]
  | y :: l, x => by
    unfold minI
    split
    · exact List.mem_cons_of_mem _ (minI_mem l y)
    · exact List.mem_cons_self
theorem minI_le : ∀ (l : List Int) (x y : Int), y ∈ x :: l → minI (x :: l) ≤ y
  | [], x, y, h => by simp [minI] at h ⊢; omega
  | z :: l, x, y, h => by
    unfold minI
    split
    · rcases List.mem_cons.mp h with rfl | h
      · assumption
      · exact minI_le l z y h
    · rcases List.mem_cons.mp h with rfl | h
      · exact Int.le_refl _
      · have := minI_le l z y h; omega
theorem mapO_intP (l : List Int) : mapO intP (intsP l) = some l := by
  have := mapO_map (f := intP) (e := PV.int) (d := id) (l := l) fun x _ => rfl
  simpa [intsP] using this
theorem ev_minL {S : Sto} {k : Nat} {l : List Int} (hk : S[k]? = some (.lst (intsP l))) (h : l ≠ []) : gMinL [.loc k] S = some (.ok (.int (minI l)) S) := by
  unfold gMinL intsAt lstOf
  dsimp only
  rw [hk]
  dsimp only
  rw [mapO_intP]
  dsimp only
  rw [if_pos (List.length_pos_iff.mpr h)]
theorem ev_inL {S : Sto} {neg : Bool} {k : Nat} {l : List Int} {i : Int} (hk : S[k]? = some (.lst (intsP l))) : gInN neg (.int i) (.loc k) S = some (.ok (.bl (if neg then !decide (i ∈ l) else decide (i ∈ l))) S) := by
  unfold gInN inP
  rw [toD_int, toD_lst (n := 59) hk (mapO_ints l)]
  dsimp only
  have : ((l.map PyData.int).any fun z => PyData.eqv z (.int i)) = decide (i ∈ l) := by
    clear hk
    induction l with
    | nil => rfl
    | cons x l ih =>
      rw [List.map_cons, List.any_cons, ih, eqv_int]
      by_cases h : x = i
      · simp [h]
      · have : ¬ i = x := fun e => h e.symm
        simp [h, this]
  rw [this]
/-- a dict from ints to ints -/
def dI (l : List Int) (f : Int → Int) : List (PV × PV) := l.map fun a => (.int a, .int (f a))
theorem valD_dI {f : Int → Int} : ∀ {l : List Int} {a : Int}, a ∈ l → valD (dI l f) (.inl a) = some (.int (f a))
  | [], a, h => by cases h
  | x :: l, a, h => by
    have e : valD (dI (x :: l) f) (.inl a) = if kP (.int x) = some (.inl a) then some (.int (f x)) else valD (dI l f) (.inl a) := rfl
    rw [e]
    by_cases hx : x = a
    · subst hx
      simp [kP]
    · rw [if_neg (by simp [kP, hx])]
      rcases List.mem_cons.mp h with h | h
      · exact absurd h.symm hx
      · exact valD_dI h
theorem ev_ixD {S : Sto} {k : Nat} {l : List Int} {f : Int → Int} {a : Int} (hk : S[k]? = some (.dct false (dI l f))) (h : a ∈ l) : gIxD (.loc k) (.int a) S = some (.ok (.int (f a)) S) := by
  unfold gIxD
  simp only [hk, kP, valD_dI h]
theorem putD_new {l : List Int} {f : Int → Int} {a : Int} (h : a ∉ l) : putD (dI l f) (.int a) (.int (f a)) (.inl a) = dI (l ++ [a]) f := by
  unfold putD
  have : ((dI l f).any fun p => decide (kP p.1 = some (.inl a))) = false := by
    rw [List.any_eq_false]
    intro p hp
    obtain ⟨x, hx, rfl⟩ := List.mem_map.mp hp
    simp only [kP, decide_eq_true_eq, Option.some.injEq, Sum.inl.injEq]
    exact fun e => h (e ▸ hx)
  rw [if_neg (by rw [this]; simp)]
  unfold dI
  rw [List.map_append]
  rfl
theorem ev_setD {S : Sto} {k : Nat} {l : List Int} {f : Int → Int} {a : Int} (hk : S[k]? = some (.dct false (dI l f))) (h : a ∉ l) (hl : l.length < 1000) : gSetD (.loc k) (.int a) (.int (f a)) S = some (S.set k (.dct false (dI (l ++ [a]) f))) := by
  unfold gSetD
  simp only [hk, kP]
  rw [if_pos (by unfold dI; rw [List.length_map]; omega), putD_new h]
/-! ### _low -/
/-- the least bound of a to one of the points -/
def lowI (D : Tb) (pts : List Int) (a : Int) : Int := minI (pts.filterMap fun b => D a b)
theorem low_ne {D : Tb} {pts : List Int} {a : Int} (h : a ∈ pts) (hd : D a a = some 0) : (pts.filterMap fun b => D a b) ≠ [] := fun e => by
  have : (0 : Int) ∈ pts.filterMap fun b => D a b := List.mem_filterMap.mpr ⟨a, h, hd⟩
  rw [e] at this
  cases this
theorem low_mem {D : Tb} {pts : List Int} {a : Int} (h : a ∈ pts) (hd : D a a = some 0) : ∃ b ∈ pts, D a b = some (lowI D pts a) := by
  have hn := low_ne h hd
  unfold lowI
  cases e : pts.filterMap fun b => D a b with
  | nil => exact absurd e hn
  | cons x l =>
    have := minI_mem l x
    rw [← e] at this ⊢
    obtain ⟨b, hb, e2⟩ := List.mem_filterMap.mp this
    exact ⟨b, hb, e2⟩
theorem low_le {D : Tb} {pts : List Int} {a b w : Int} (hb : b ∈ pts) (e : D a b = some w) : lowI D pts a ≤ w := by
  have hm : w ∈ pts.filterMap fun b => D a b := List.mem_filterMap.mpr ⟨b, hb, e⟩
  unfold lowI
  cases q : pts.filterMap fun b => D a b with
  | nil => rw [q] at hm; cases hm
  | cons x l => rw [q] at hm; exact minI_le l x w hm
section
variable {S : Sto} {k n l t : Nat} {lits : List T3} {D : Tb} {r : Int → Nat}
theorem low_loop {q : Nat} {pts : List Int} (hp : InL n pts) (hpl : pts.length ≤ 100) (hd : ∀ a, 0 ≤ a ∧ a < (n : Int) → D a a = some 0) (B : BAt S k n lits D l t r) (hq : S[q]? = some (.lst (intsP pts))) : ∀ (is done : List Int), (done ++ is).Nodup → (∀ a ∈ is, a ∈ pts) → done.length + is.length ≤ 100 →
    forL (gN 3) [3] l_Bounds__low_1 [(q, .lst (intsP pts))] (intsP is) [some (.loc k), some (.loc q), some (.loc S.length), none, none] (S ++ [.dct false (dI done (lowI D pts))]) = some (.next [some (.loc k), some (.loc q), some (.loc S.length), none, none] (S ++ [.dct false (dI (done ++ is) (lowI D pts))]))
  | [], done, _, _, _ => by
    rw [intsP_nil, forL_nil (by rw [kept_one]; exact at_old hq), List.append_nil]
  | a :: is, done, hn, hm, hl => by
    rw [List.length_cons] at hl
    have ha := hm a List.mem_cons_self
    have hna : a ∉ done := fun h => by
      rw [List.nodup_append] at hn
      exact hn.2.2 a h a List.mem_cons_self rfl
    have ih := low_loop hp hpl hd B hq is (done ++ [a]) (by rw [List.append_assoc]; exact hn) (fun b hb => hm b (List.mem_cons_of_mem _ hb)) (by rw [List.length_append, List.length_singleton]; omega)
    have B1 := B.app [.dct false (dI done (lowI D pts))]
    have hra := hp a ha
    have cm : dComp (dSeqI (dVar 1)) (nmOne 4) [4] (dCmp gIsNot (dOp2 gIx (dOp2 gIx (dFld "Bounds" "_least" (dVar 0)) (dVar 3)) (dVar 4)) (dC .non)) (dOp2 gIx (dOp2 gIx (dFld "Bounds" "_least" (dVar 0)) (dVar 3)) (dVar 4)) [some (.loc k), some (.loc q), some (.loc S.length), some (.int a), none] (S ++ [.dct false (dI done (lowI D pts))]) =
        some (.ok (.loc (S.length + 1)) (S ++ [.dct false (dI done (lowI D pts)), .lst (intsP (pts.filterMap fun b => D a b))])) := by
      rw [ev_compF (S1 := S ++ [.dct false (dI done (lowI D pts))]) (keep := [(q, .lst (intsP pts))]) PV.int (fun b => (D a b).isSome) (fun b => lowV (D a b)) (items := pts) (by
        simp [at_old (T := [PO.dct false (dI done (lowI D pts))]) hq, intsP]) (by rw [kept_one]; exact at_old hq) (fun b hb acc => ⟨[4], [.int b], rfl, by
        have B2 := B1.app [.lst acc]
        simp only [setsE, ev_killC, ev_killN, List.set_cons_succ, List.set_cons_zero, ev_cmp, ev_op2, ev_fld, ev_var, List.getElem?_cons_zero, List.getElem?_cons_succ, ev_bR_ok, B2.fT, B2.getRow hra, B2.get hra (hp b hb), ev_c, isnot_lowV, ev_asB], fun _ => by
        have B2 := B1.app [.lst acc]
        simp only [setsE, ev_killC, ev_killN, List.set_cons_succ, List.set_cons_zero, ev_op2, ev_fld, ev_var, List.getElem?_cons_zero, List.getElem?_cons_succ, ev_bR_ok, B2.fT, B2.getRow hra, B2.get hra (hp b hb)]⟩) (by omega)]
      have : (List.filter (fun b => (D a b).isSome) pts).map (fun b => lowV (D a b)) = intsP (pts.filterMap fun b => D a b) := by
        clear ih B B1 hn hm hq hp hl hpl ha
        induction pts with
        | nil => rfl
        | cons x y ih =>
          cases e : D a x with
          | none => simp [e, ih]
          | some w => simp [e, ih, show lowV (some w) = PV.int w from rfl]
      rw [this]
      simp
    have mn := ev_minL (S := S ++ [.dct false (dI done (lowI D pts)), .lst (intsP (pts.filterMap fun b => D a b))]) (k := S.length + 1) (by simp) (low_ne ha (hd a hra))
    have st := ev_setD (S := S ++ [.dct false (dI done (lowI D pts)), .lst (intsP (pts.filterMap fun b => D a b))]) (k := S.length) (f := lowI D pts) (by simp) hna (by omega)
    have st : gSetD (.loc S.length) (.int a) (.int (minI (pts.filterMap fun b => D a b))) (S ++ [.dct false (dI done (lowI D pts)), .lst (intsP (pts.filterMap fun b => D a b))]) = _ := st
    have body : l_Bounds__low_1 [some (.loc k), some (.loc q), some (.loc S.length), some (.int a), none] (S ++ [.dct false (dI done (lowI D pts))]) = some (.next [some (.loc k), some (.loc q), some (.loc S.length), none, none] (S ++ [.dct false (dI (done ++ [a]) (lowI D pts))])) := by
      have h := body_next (kill := [3]) (f := dAsg (gSubT gSetD (dVar 2) (dVar 3)) (dOpA gMinL (dCons (dComp (dSeqI (dVar 1)) (nmOne 4) [4] (dCmp gIsNot (dOp2 gIx (dOp2 gIx (dFld "Bounds" "_least" (dVar 0)) (dVar 3)) (dVar 4)) (dC .non)) (dOp2 gIx (dOp2 gIx (dFld "Bounds" "_least" (dVar 0)) (dVar 3)) (dVar 4))) dNil))) (ρ := [some (.loc k), some (.loc q), some (.loc S.length), some (.int a), none]) (S := S ++ [.dct false (dI done (lowI D pts))]) (ρ' := [some (.loc k), some (.loc q), some (.loc S.length), some (.int a), none]) (S' := S ++ [.dct false (dI (done ++ [a]) (lowI D pts)), .lst (intsP (pts.filterMap fun b => D a b))]) (by
        simp only [ev_asg, ev_opA, ev_cons, cm, ev_bR_ok, ev_nil, mn, ev_bS_ok, ev_gsub, ev_var, List.getElem?_cons_zero, List.getElem?_cons_succ, st]
        simp) (by
        refine Cl.of fun j o hj e ne => ?_
        rw [List.length_append, List.length_singleton] at hj
        by_cases hjs : j = S.length
        · subst hjs
          simp at e
          subst e
          intro p hp
          obtain ⟨x, _, rfl⟩ := List.mem_map.mp hp
          trivial
        · refine absurd ?_ ne
          rw [List.getElem?_append_left (by omega)] at e ⊢
          exact e) ⟨by have := lt_of_get B.ins; show k < _; simp; omega, by have := lt_of_get hq; show q < _; simp; omega, by show S.length < _; simp, trivial⟩
      unfold l_Bounds__low_1
      rw [h]
      simp [killE]
    rw [intsP_cons, forL_cons (by rw [kept_one]; exact at_old hq)]
    simp only [ev_gN, List.set_cons_succ, List.set_cons_zero, body, ev_killC, ev_killN]
    rw [ih, List.append_assoc, List.singleton_append]
theorem low_spec {q : Nat} {pts : List Int} (hp : InL n pts) (hn : pts.Nodup) (hl : pts.length ≤ 100) (hd : ∀ a, 0 ≤ a ∧ a < (n : Int) → D a a = some 0) (B : BAt S k n lits D l t r) (hq : S[q]? = some (.lst (intsP pts))) :
    F_Bounds__low [.loc k, .loc q] S = some (.ok (.loc S.length) (S ++ [.dct false (dI pts (lowI D pts))])) := by
  have lp := low_loop hp hl hd B hq pts [] (by simpa using hn) (fun _ h => h) (by simpa using hl)
  refine (dDef_ret (v := .loc S.length) (S' := S ++ [.dct false (dI pts (lowI D pts))]) rfl ?_).trans ?_
  · have lp : forL (gN 3) [3] l_Bounds__low_1 [(q, .lst (intsP pts))] (intsP pts) [some (.loc k), some (.loc q), some (.loc S.length), none, none] (S ++ [.dct false []]) = _ := lp
    simp [b_Bounds__low, b_Bounds__low_t0, b_Bounds__low_t1, b_Bounds__low_t2, at_old (T := [PO.dct false []]) hq, lp]
  · unfold gcE
    simp
    rfl
/-! ### values -/
theorem moved_spec {q : Nat} {u : Int → Int} (hn : 1 ≤ n) (hn2 : n ≤ 100) (hq : S[q]? = some (.lst (intsP ((idx n).map u)))) : F_moved [.loc q] S = some (.ok (.tup (intsP ((idx n).map fun i => u i - u 0))) S) := by
  have cm : dComp (dSeqI (dVar 0)) (nmOne 1) [1] dYes (dOp2 gSub (dVar 1) (dOp2 gIx (dVar 0) (dC (.int 0)))) [some (.loc q), none] S = some (.ok (.loc S.length) (S ++ [.lst (intsP ((idx n).map fun i => u i - u 0))])) := by
    rw [ev_compF (S1 := S) (keep := [(q, .lst (intsP ((idx n).map u)))]) (fun i => .int (u i)) (fun _ => true) (fun i => .int (u i - u 0)) (items := idx n) (by
      simp [hq, intsP]) (by rw [kept_one]; exact hq) (fun i hi acc => ⟨[1], [.int (u i)], rfl, rfl, fun _ => by
      have ix := ev_ixL (S := S ++ [.lst acc]) (at_old hq) (ints_at (l := (idx n).map u) (i := 0) (by omega) (by simp [idx]; omega))
      have h0 : ((idx n).map u).getD (0 : Int).toNat 0 = u 0 := by
        obtain ⟨m, rfl⟩ : ∃ m, n = m + 1 := ⟨n - 1, by omega⟩
        unfold idx
        rw [List.range_succ_eq_map]
        simp
      rw [h0] at ix
      simp [setsE, ix]⟩) (by simp [idx]; omega)]
    rw [List.filter_eq_self.mpr fun _ _ => rfl]
    simp [intsP, Function.comp_def]
  refine call_val (T := [.lst (intsP ((idx n).map fun i => u i - u 0))]) ?_ (noLocs_ints _)
  simp [b_moved, cm, ev_tupleL at_0]
/-- values of n points that satisfy literals -/
structure Vls (n : Nat) (l : List T3) (v : Int → Int) : Prop where
  zero : v 0 = 0
  sat : ∀ p ∈ l, v p.1 - v p.2.1 ≤ p.2.2
def rowI (n : Nat) (v : Int → Int) : List PV := intsP ((idx n).map v)
theorem any_spec (B : BAt S k n lits D l t r) (L : Lst n lits D) (hn : 1 ≤ n) (hn2 : n ≤ 80) : ∃ v, Vls n lits v ∧ F_Bounds_any_values [.loc k] S = some (.ok (.tup (rowI n v)) S) := by
  refine ⟨fun i => lowI D (idx n) i - lowI D (idx n) 0, ⟨by omega, fun p hp => ?_⟩, ?_⟩
  · obtain ⟨h1, h2⟩ := L.inn p hp
    obtain ⟨x, hx, e⟩ := low_mem (in_idx h2) (L.diag h2)
    obtain ⟨d, e1, e2⟩ := L.wk p.1 x _ h1 (.cons (c := p.2.2) (b := p.2.1) hp (L.snd _ _ _ e))
    have := low_le (a := p.1) hx e1
    show lowI D (idx n) p.1 - _ - (lowI D (idx n) p.2.1 - _) ≤ _
    omega
  · have sz := size_spec B
    have is1 : isInsP "Bounds" "size" (.loc k) S = true := B.is
    have is2 : isInsP "Bounds" "_low" (.loc k) S = true := B.is
    have lr := ev_gListR (S := S) (j := (n : Int)) (by omega) (by omega)
    have B1 := B.app [.lst (intsP (idx n))]
    have lo := low_spec (q := S.length) (pts := idx n) idx_in idx_nodup (by simp [idx]; omega) (fun a h => L.diag h) B1 at_0
    have B2 := B1.app [.dct false (dI (idx n) (lowI D (idx n)))]
    have sz2 := size_spec B2
    have is3 : isInsP "Bounds" "size" (.loc k) (S ++ [.lst (intsP (idx n))] ++ [.dct false (dI (idx n) (lowI D (idx n)))]) = true := B2.is
    have cm : dComp (dRng1 (dCons (dIMeth "Bounds" "size" F_Bounds_size (dVar 0) dNil) dNil)) (nmOne 2) [2] dYes (dOp2 gIxD (dVar 1) (dVar 2)) [some (.loc k), some (.loc (S.length + 1)), none] (S ++ [.lst (intsP (idx n))] ++ [.dct false (dI (idx n) (lowI D (idx n)))]) =
        some (.ok (.loc (S.length + 2)) (S ++ [.lst (intsP (idx n))] ++ [.dct false (dI (idx n) (lowI D (idx n)))] ++ [.lst (intsP ((idx n).map (lowI D (idx n))))])) := by
      rw [ev_compF (S1 := S ++ [.lst (intsP (idx n))] ++ [.dct false (dI (idx n) (lowI D (idx n)))]) (keep := []) PV.int (fun _ => true) (fun i => .int (lowI D (idx n) i)) (items := idx n) (by
        simp only [ev_rng1, ev_cons, ev_imeth, ev_var, List.getElem?_cons_zero, ev_bR_ok, is3, if_true, ev_nil, sz2, Int.toNat_natCast, rng_idx]
        rfl) (by simp) (fun i hi acc => ⟨[2], [.int i], rfl, rfl, fun _ => by
        have ix := ev_ixD (S := S ++ [.lst (intsP (idx n))] ++ [.dct false (dI (idx n) (lowI D (idx n)))] ++ [.lst acc]) (k := S.length + 1) (f := lowI D (idx n)) (l := idx n) (by simp) hi
        simp [setsE] at ix ⊢
        exact ix⟩) (by simp [idx]; omega)]
      rw [List.filter_eq_self.mpr fun _ _ => rfl]
      simp [intsP, Function.comp_def]
    have mv := moved_spec (S := S ++ [.lst (intsP (idx n))] ++ [.dct false (dI (idx n) (lowI D (idx n)))] ++ [.lst (intsP ((idx n).map (lowI D (idx n))))]) (q := S.length + 2) (u := lowI D (idx n)) hn (by omega) (by simp)
    have lo : F_Bounds__low [.loc k, .loc S.length] (S ++ [.lst (intsP (idx n))]) = some (.ok (.loc (S.length + 1)) (S ++ [.lst (intsP (idx n))] ++ [.dct false (dI (idx n) (lowI D (idx n)))])) := by rw [lo]; simp
    refine call_val (T := [.lst (intsP (idx n)), .dct false (dI (idx n) (lowI D (idx n))), .lst (intsP ((idx n).map (lowI D (idx n))))]) ?_ (noLocs_ints _)
    simp only [b_Bounds_any_values, ev_seq, ev_set, ev_imeth, List.map_cons, List.map_nil, List.cons_append, List.nil_append, List.replicate, List.length_cons, List.length_nil, Nat.reduceSub, ev_var, List.getElem?_cons_zero, ev_bR_ok, is2, if_true, ev_cons, ev_listR, is1, ev_nil, sz, lr, Int.toNat_natCast, rng_idx, lo, ev_bS_ok, ev_bN_next, List.set_cons_succ, List.set_cons_zero, ev_ret, ev_opA, cm, mv]
    simp [rowI]
/-! ### _high -/
def farL (n : Nat) (D : Tb) (b : Int) : List Int := (idx n).filter fun p => (D p b).isNone
theorem mem_far {b p : Int} : p ∈ farL n D b ↔ (0 ≤ p ∧ p < (n : Int)) ∧ D p b = none := by
  unfold farL
  rw [List.mem_filter, Option.isNone_iff_eq_none]
  exact ⟨fun h => ⟨idx_in _ h.1, h.2⟩, fun h => ⟨in_idx h.1, h.2⟩⟩
theorem far_in {b : Int} : InL n (farL n D b) := fun p h => (mem_far.mp h).1
def hiV (D : Tb) (far : List Int) (b Lf : Int) (i : Int) : Int := if i ∈ far then lowI D far i + Lf else (D i b).getD 0
structure HiOk (n : Nat) (D : Tb) (a b least Lf : Int) : Prop where
  a_ : a ∈ farL n D b → least - lowI D (farL n D b) a ≤ Lf
  o : ∀ p o w x, 0 ≤ p ∧ p < (n : Int) → o ∈ farL n D b → D p b = some x → D p o = some w → x - w - lowI D (farL n D b) o ≤ Lf
theorem Hi.sat (L : Lst n lits D) {a b least Lf : Int} (hb : 0 ≤ b ∧ b < (n : Int)) (h : HiOk n D a b least Lf) : ∀ p ∈ lits, hiV D (farL n D b) b Lf p.1 - hiV D (farL n D b) b Lf p.2.1 ≤ p.2.2 := fun p hp => by
  obtain ⟨h1, h2⟩ := L.inn p hp
  unfold hiV
  by_cases f2 : p.2.1 ∈ farL n D b
  · rw [if_pos f2]
    by_cases f1 : p.1 ∈ farL n D b
    · rw [if_pos f1]
      obtain ⟨x, hx, e⟩ := low_mem f2 (L.diag h2)
      obtain ⟨d, e1, e2⟩ := L.wk p.1 x _ h1 (.cons (c := p.2.2) (b := p.2.1) hp (L.snd _ _ _ e))
      have := low_le (a := p.1) hx e1
      omega
    · rw [if_neg f1]
      cases e : D p.1 b with
      | none => exact absurd (mem_far.mpr ⟨h1, e⟩) f1
      | some x =>
        obtain ⟨w, e1, e2⟩ := L.wk p.1 p.2.1 _ h1 (.one hp)
        have := h.o p.1 p.2.1 w x h1 f2 e e1
        have e2 : w ≤ p.2.2 := e2
        simp only [Option.getD_some]
        omega
  · rw [if_neg f2]
    cases e : D p.2.1 b with
    | none => exact absurd (mem_far.mpr ⟨h2, e⟩) f2
    | some y =>
      obtain ⟨d, e1, e2⟩ := L.wk p.1 b _ h1 (.cons (c := p.2.2) (b := p.2.1) hp (L.snd _ _ _ e))
      have f1 : p.1 ∉ farL n D b := fun f => by
        rw [(mem_far.mp f).2] at e1; cases e1
      rw [if_neg f1, e1]
      simp only [Option.getD_some]
      omega
theorem hi_in {U : Sto} {a b least p : Int} (B : BAt U k n lits D l t r) (hb : 0 ≤ b ∧ b < (n : Int)) (hp : 0 ≤ p ∧ p < (n : Int)) {qf ql : Nat} (hf : U[qf]? = some (.lst (intsP (farL n D b)))) (hl : U[ql]? = some (.dct false (dI (farL n D b) (lowI D (farL n D b))))) : ∀ (os : List Int) (Lf : Int), (∀ o ∈ os, o ∈ farL n D b) →
    ∃ Lf', Lf ≤ Lf' ∧ (∀ o w x, o ∈ os → D p b = some x → D p o = some w → x - w - lowI D (farL n D b) o ≤ Lf') ∧
      forL (gN 9) [9] l_Bounds__high_2 [(qf, .lst (intsP (farL n D b)))] (intsP os) [some (.loc k), some (.int b), some (.int a), some (.int least), some (.int n), some (.loc qf), some (.loc ql), some (.int Lf), some (.int p), none] U =
        some (.next [some (.loc k), some (.int b), some (.int a), some (.int least), some (.int n), some (.loc qf), some (.loc ql), some (.int Lf'), some (.int p), none] U)
  | [], Lf, _ => ⟨Lf, Int.le_refl _, fun _ _ _ h => (by cases h), by rw [intsP_nil, forL_nil (by rw [kept_one]; exact hf)]⟩
  | o :: os, Lf, h => by
    have ho := h o List.mem_cons_self
    have hor := far_in _ ho
    have hos := fun x hx => h x (List.mem_cons_of_mem _ hx)
    have g1 := B.getRow hp
    have g2 := B.get hp hor
    have g3 := B.get hp hb
    have ni := ev_inL (S := U) (neg := true) (i := p) hf
    have ix := ev_ixD hl ho
    have step : ∃ L1, Lf ≤ L1 ∧ (∀ w x, D p b = some x → D p o = some w → x - w - lowI D (farL n D b) o ≤ L1) ∧ l_Bounds__high_2 [some (.loc k), some (.int b), some (.int a), some (.int least), some (.int n), some (.loc qf), some (.loc ql), some (.int Lf), some (.int p), some (.int o)] U =
        some (.next [some (.loc k), some (.int b), some (.int a), some (.int least), some (.int n), some (.loc qf), some (.loc ql), some (.int L1), some (.int p), some (.int o)] U) := by
      by_cases hpf : p ∈ farL n D b
      · refine ⟨Lf, Int.le_refl _, fun w x e => ?_, ?_⟩
        · rw [(mem_far.mp hpf).2] at e; cases e
        · simp [hpf] at ni
          simp [l_Bounds__high_2, ni]
      · simp [hpf] at ni
        cases e : D p o with
        | none =>
          rw [e] at g2
          refine ⟨Lf, Int.le_refl _, fun w x _ e2 => (by cases e2), ?_⟩
          simp [l_Bounds__high_2, ni, B.fT, g1, g2, lowV]
        | some w =>
          rw [e] at g2
          cases e2 : D p b with
          | none => exact absurd (mem_far.mpr ⟨hp, e2⟩) hpf
          | some x =>
            rw [e2] at g3
            have g2 : gIx (.loc (r p)) (.int o) U = some (.ok (.int w) U) := g2
            have g3 : gIx (.loc (r p)) (.int b) U = some (.ok (.int x) U) := g3
            refine ⟨if x - w - lowI D (farL n D b) o > Lf then x - w - lowI D (farL n D b) o else Lf, by split <;> omega, fun w' x' q1 q2 => by
              cases q1; cases q2
              split <;> omega, ?_⟩
            simp [l_Bounds__high_2, ni, B.fT, g1, g2, g3, ix]
    obtain ⟨L1, s1, s2, s3⟩ := step
    obtain ⟨L2, r1, r2, r3⟩ := hi_in (a := a) (least := least) B hb hp hf hl os L1 hos
    refine ⟨L2, by omega, fun o' w x ho' e1 e2 => ?_, ?_⟩
    · rcases List.mem_cons.mp ho' with rfl | ho'
      · have := s2 w x e1 e2; omega
      · exact r2 o' w x ho' e1 e2
    · rw [intsP_cons, forL_cons (by rw [kept_one]; exact hf)]
      simp only [ev_gN, List.set_cons_succ, List.set_cons_zero, s3, ev_killC, ev_killN]
      exact r3
theorem hi_out {U : Sto} {a b least : Int} (B : BAt U k n lits D l t r) (hb : 0 ≤ b ∧ b < (n : Int)) {qf ql : Nat} (hf : U[qf]? = some (.lst (intsP (farL n D b)))) (hl : U[ql]? = some (.dct false (dI (farL n D b) (lowI D (farL n D b))))) : ∀ (ps : List Int) (Lf : Int), InL n ps →
    ∃ Lf', Lf ≤ Lf' ∧ (∀ p o w x, p ∈ ps → o ∈ farL n D b → D p b = some x → D p o = some w → x - w - lowI D (farL n D b) o ≤ Lf') ∧
      forL (gN 8) [8, 9] l_Bounds__high_1 [] (intsP ps) [some (.loc k), some (.int b), some (.int a), some (.int least), some (.int n), some (.loc qf), some (.loc ql), some (.int Lf), none, none] U =
        some (.next [some (.loc k), some (.int b), some (.int a), some (.int least), some (.int n), some (.loc qf), some (.loc ql), some (.int Lf'), none, none] U)
  | [], Lf, _ => ⟨Lf, Int.le_refl _, fun _ _ _ _ h => (by cases h), by rw [intsP_nil, forL_nil (by simp)]⟩
  | p :: ps, Lf, h => by
    obtain ⟨L1, s1, s2, s3⟩ := hi_in (a := a) (least := least) B hb (h p List.mem_cons_self) hf hl (farL n D b) Lf (fun _ h => h)
    obtain ⟨L2, r1, r2, r3⟩ := hi_out (a := a) (least := least) B hb hf hl ps L1 h.tl
    refine ⟨L2, by omega, fun p' o w x hp' ho e1 e2 => ?_, ?_⟩
    · rcases List.mem_cons.mp hp' with rfl | hp'
      · have := s2 o w x ho e1 e2; omega
      · exact r2 p' o w x hp' ho e1 e2
    · rw [intsP_cons, forL_cons (by simp)]
      simp [l_Bounds__high_1, hf, s3]
      exact r3
theorem lowV_add {U : Sto} {o : Option Int} (h : o ≠ none) : lowV o = .int (o.getD 0) := by
  cases o with
  | none => exact absurd rfl h
  | some x => rfl
theorem high_spec (B : BAt S k n lits D l t r) (L : Lst n lits D) (hn : 1 ≤ n) (hn2 : n ≤ 80) {a b least : Int} (hb : 0 ≤ b ∧ b < (n : Int)) :
    ∃ Lf, HiOk n D a b least Lf ∧ F_Bounds__high [.loc k, .int b, .int a, .int least] S = some (.ok (.tup (rowI n fun i => hiV D (farL n D b) b Lf i - hiV D (farL n D b) b Lf 0)) S) := by
  have sz := size_spec B
  have is1 : isInsP "Bounds" "size" (.loc k) S = true := B.is
  have cm : ∀ x y z w v, dComp (dRng1 (dCons (dVar 4) dNil)) (nmOne 8) [8] (dCmp gIs (dOp2 gIx (dOp2 gIx (dFld "Bounds" "_least" (dVar 0)) (dVar 8)) (dVar 1)) (dC .non)) (dVar 8) [some (.loc k), some (.int b), some (.int a), some (.int least), some (.int n), x, y, z, w, v] S = some (.ok (.loc S.length) (S ++ [.lst (intsP (farL n D b))])) := fun x y z w v => by
    rw [ev_compF (S1 := S) (keep := []) PV.int (fun p => (D p b).isNone) PV.int (items := idx n) (by
      simp [rng_idx, intsP]) (by simp) (fun p hp acc => ⟨[8], [.int p], rfl, by
      have B2 := B.app [.lst acc]
      have hp := idx_in _ hp
      simp only [setsE, ev_killC, ev_killN, List.set_cons_succ, List.set_cons_zero, ev_cmp, ev_op2, ev_fld, ev_var, List.getElem?_cons_zero, List.getElem?_cons_succ, ev_bR_ok, B2.fT, B2.getRow hp, B2.get hp hb, ev_c, is_lowV, ev_asB], fun _ => by
      simp [setsE]⟩) (by simp [idx]; omega)]
    rfl
  have B1 := B.app [.lst (intsP (farL n D b))]
  have is2 : isInsP "Bounds" "_low" (.loc k) (S ++ [.lst (intsP (farL n D b))]) = true := B1.is
  have lo := low_spec (q := S.length) (pts := farL n D b) far_in (idx_nodup.filter _) (by
    have : (farL n D b).length ≤ (idx n).length := List.length_filter_le _ _
    have h2 : (idx n).length = n := by simp [idx]
    omega) (fun a h => L.diag h) B1 at_0
  have lo : F_Bounds__low [.loc k, .loc S.length] (S ++ [.lst (intsP (farL n D b))]) = some (.ok (.loc (S.length + 1)) (S ++ [.lst (intsP (farL n D b)), .dct false (dI (farL n D b) (lowI D (farL n D b)))])) := by rw [lo]; simp
  have B2 := B.app [.lst (intsP (farL n D b)), .dct false (dI (farL n D b) (lowI D (farL n D b)))]
  have hf : (S ++ [PO.lst (intsP (farL n D b)), .dct false (dI (farL n D b) (lowI D (farL n D b)))])[S.length]? = some (.lst (intsP (farL n D b))) := by simp
  have hl : (S ++ [PO.lst (intsP (farL n D b)), .dct false (dI (farL n D b) (lowI D (farL n D b)))])[S.length + 1]? = some (.dct false (dI (farL n D b) (lowI D (farL n D b)))) := by simp
  generalize hU : S ++ [PO.lst (intsP (farL n D b)), .dct false (dI (farL n D b) (lowI D (farL n D b)))] = U at lo B2 hf hl
  have ina := ev_inL (S := U) (neg := false) (i := a) hf
  have st4 : ∃ L0, (a ∈ farL n D b → least - lowI D (farL n D b) a ≤ L0) ∧ ∀ g, bN (dIfS (dCmp gIn (dVar 2) (dVar 5)) (dSet 7 (dOpA gMax2 (dCons (dC (.int 0)) (dCons (dOp2 gSub (dVar 3) (dOp2 gIxD (dVar 6) (dVar 2))) dNil)))) dPass [some (.loc k), some (.int b), some (.int a), some (.int least), some (.int n), some (.loc S.length), some (.loc (S.length + 1)), some (.int 0), none, none] U) g =
      g [some (.loc k), some (.int b), some (.int a), some (.int least), some (.int n), some (.loc S.length), some (.loc (S.length + 1)), some (.int L0), none, none] U := by
    by_cases h : a ∈ farL n D b
    · have ix := ev_ixD hl h
      simp [h] at ina
      refine ⟨if least - lowI D (farL n D b) a > 0 then least - lowI D (farL n D b) a else 0, fun _ => by split <;> omega, fun g => ?_⟩
      simp [ina, ix]
    · simp [h] at ina
      refine ⟨0, fun z => absurd z h, fun g => ?_⟩
      simp [ina]
  obtain ⟨L0, a1, a2⟩ := st4
  obtain ⟨Lf, b1, b2, b3⟩ := hi_out (a := a) (least := least) B2 hb hf hl (idx n) L0 idx_in
  have cm2 : dComp (dRng1 (dCons (dVar 4) dNil)) (nmOne 8) [8] dYes (dIf (dCmp gIn (dVar 8) (dVar 5)) (dOp2 gAdd (dOp2 gIxD (dVar 6) (dVar 8)) (dVar 7)) (dOp2 gIx (dOp2 gIx (dFld "Bounds" "_least" (dVar 0)) (dVar 8)) (dVar 1))) [some (.loc k), some (.int b), some (.int a), some (.int least), some (.int n), some (.loc S.length), some (.loc (S.length + 1)), some (.int Lf), none, none] U =
      some (.ok (.loc U.length) (U ++ [.lst (intsP ((idx n).map (hiV D (farL n D b) b Lf)))])) := by
    rw [ev_compF (S1 := U) (keep := []) PV.int (fun _ => true) (fun p => .int (hiV D (farL n D b) b Lf p)) (items := idx n) (by
      simp [rng_idx, intsP]) (by simp) (fun p hp acc => ⟨[8], [.int p], rfl, rfl, fun _ => by
      have B3 := B2.app [.lst acc]
      have hp := idx_in _ hp
      have inp := ev_inL (S := U ++ [.lst acc]) (neg := false) (i := p) (at_old hf)
      unfold hiV
      by_cases h : p ∈ farL n D b
      · have ix := ev_ixD (at_old (T := [PO.lst acc]) hl) h
        simp [h] at inp
        simp [setsE, inp, ix, h]
      · simp [h] at inp
        have gv := B3.get hp hb
        rw [lowV_add (U := U) fun e => h (mem_far.mpr ⟨hp, e⟩)] at gv
        simp [setsE, inp, h, B3.fT, B3.getRow hp, gv]⟩) (by simp [idx]; omega)]
    rw [List.filter_eq_self.mpr fun _ _ => rfl]
    simp [intsP, Function.comp_def]
  have mv := moved_spec (S := U ++ [.lst (intsP ((idx n).map (hiV D (farL n D b) b Lf)))]) (q := U.length) (u := hiV D (farL n D b) b Lf) hn (by omega) at_0
  refine ⟨Lf, ⟨fun h => by have := a1 h; omega, fun p o w x hp ho e1 e2 => b2 p o w x (in_idx hp) ho e1 e2⟩, call_val (T := [.lst (intsP (farL n D b)), .dct false (dI (farL n D b) (lowI D (farL n D b))), .lst (intsP ((idx n).map (hiV D (farL n D b) b Lf)))]) ?_ (noLocs_ints _)⟩
  simp only [b_Bounds__high, b_Bounds__high_t0, ev_seq, ev_set, ev_imeth, List.map_cons, List.map_nil, List.cons_append, List.nil_append, List.replicate, List.length_cons, List.length_nil, Nat.reduceSub, ev_var, List.getElem?_cons_zero, List.getElem?_cons_succ, ev_bR_ok, is1, if_true, ev_nil, sz, ev_bS_ok, ev_bN_next, List.set_cons_succ, List.set_cons_zero]
  simp only [b_Bounds__high_t1, ev_seq, ev_set, cm, ev_bS_ok, ev_bN_next, List.set_cons_succ, List.set_cons_zero]
  simp only [b_Bounds__high_t2, ev_seq, ev_set, ev_imeth, ev_var, List.getElem?_cons_zero, List.getElem?_cons_succ, ev_bR_ok, is2, if_true, ev_cons, ev_nil, lo, ev_bS_ok, ev_bN_next, List.set_cons_succ, List.set_cons_zero]
  simp only [b_Bounds__high_t3, ev_seq, ev_set, ev_c, ev_bS_ok, ev_bN_next, List.set_cons_succ, List.set_cons_zero]
  have a2' := a2 b_Bounds__high_t5
  simp only [b_Bounds__high_t4, ev_seq, a2']
  simp only [b_Bounds__high_t5, ev_seq, ev_for, ev_rng1, ev_cons, ev_var, List.getElem?_cons_zero, List.getElem?_cons_succ, ev_bR_ok, ev_nil, Int.toNat_natCast, rng_idx, ev_bS_ok, ev_killC, ev_killN, List.set_cons_succ, List.set_cons_zero, b3, ev_bN_next]
  simp only [b_Bounds__high_t6, ev_ret, ev_opA, ev_cons, cm2, ev_bR_ok, ev_nil, mv, ev_bS_ok, rowI]
  rw [← hU, List.append_assoc]
  rfl
theorem gc_excF {c f : Str} {v : PV} (h : noLoc v = true) : gcE S (.exc ⟨c, [(f, v)]⟩ S) = .exc ⟨c, [(f, v)]⟩ S := by
  unfold gcE
  simp [h]
theorem values_at_none (B : BAt S k n lits D l t r) {a b : Int} (ha : 0 ≤ a ∧ a < (n : Int)) (hb : 0 ≤ b ∧ b < (n : Int)) (h : D a b = none) : F_Bounds_values_at [.loc k, .int a, .int b] S = some (.exc ⟨"Missing", [("name", .str "there is no greatest difference")]⟩ S) := by
  have e := bound_spec B ha hb
  rw [h] at e
  have e : F_Bounds_bound [.loc k, .int a, .int b] S = some (.ok .non S) := e
  have is1 : isInsP "Bounds" "bound" (.loc k) S = true := B.is
  refine (dDef_exc (e := ⟨"Missing", [("name", .str "there is no greatest difference")]⟩) (ρ := [some (.loc k), some (.int a), some (.int b)]) (S' := S) rfl ?_).trans (by rw [gc_excF rfl])
  simp [b_Bounds_values_at, is1, e]
theorem hi_same (L : Lst n lits D) {b Lf : Int} (hb : 0 ≤ b ∧ b < (n : Int)) : hiV D (farL n D b) b Lf b = 0 := by
  have d := L.diag hb
  have : b ∉ farL n D b := fun h => by rw [(mem_far.mp h).2] at d; cases d
  unfold hiV
  rw [if_neg this, d]
  rfl
theorem values_at_some (B : BAt S k n lits D l t r) (L : Lst n lits D) (hn : 1 ≤ n) (hn2 : n ≤ 80) {a b w : Int} (ha : 0 ≤ a ∧ a < (n : Int)) (hb : 0 ≤ b ∧ b < (n : Int)) (h : D a b = some w) : ∃ v, Vls n lits v ∧ v a - v b = w ∧ F_Bounds_values_at [.loc k, .int a, .int b] S = some (.ok (.tup (rowI n v)) S) := by
  have e := bound_spec B ha hb
  rw [h] at e
  have e : F_Bounds_bound [.loc k, .int a, .int b] S = some (.ok (.int w) S) := e
  have is1 : isInsP "Bounds" "bound" (.loc k) S = true := B.is
  have is2 : isInsP "Bounds" "_high" (.loc k) S = true := B.is
  obtain ⟨Lf, h1, h2⟩ := high_spec B L hn hn2 (a := a) (least := 0) hb
  refine ⟨_, ⟨by omega, fun p hp => by have := Hi.sat L hb h1 p hp; omega⟩, ?_, call_val0 (v := .tup (rowI n fun i => hiV D (farL n D b) b Lf i - hiV D (farL n D b) b Lf 0)) ?_ (noLocs_ints _)⟩
  · have hs := hi_same (Lf := Lf) L hb
    have hna : a ∉ farL n D b := fun z => by rw [(mem_far.mp z).2] at h; cases h
    have : hiV D (farL n D b) b Lf a = w := by
      unfold hiV
      rw [if_neg hna, h]
      rfl
    omega
  · simp [b_Bounds_values_at, is1, e, is2, h2]
theorem values_beyond_some (B : BAt S k n lits D l t r) {a b least w : Int} (ha : 0 ≤ a ∧ a < (n : Int)) (hb : 0 ≤ b ∧ b < (n : Int)) (h : D a b = some w) : F_Bounds_values_beyond [.loc k, .int a, .int b, .int least] S = some (.exc ⟨"NotAllowed", []⟩ S) := by
  have e := bound_spec B ha hb
  rw [h] at e
  have e : F_Bounds_bound [.loc k, .int a, .int b] S = some (.ok (.int w) S) := e
  have is1 : isInsP "Bounds" "bound" (.loc k) S = true := B.is
  refine call_exc0 (ρ := [some (.loc k), some (.int a), some (.int b), some (.int least)]) ?_
  simp [b_Bounds_values_beyond, is1, e]
theorem values_beyond_none (B : BAt S k n lits D l t r) (L : Lst n lits D) (hn : 1 ≤ n) (hn2 : n ≤ 80) {a b least : Int} (ha : 0 ≤ a ∧ a < (n : Int)) (hb : 0 ≤ b ∧ b < (n : Int)) (h : D a b = none) : ∃ v, Vls n lits v ∧ least ≤ v a - v b ∧ F_Bounds_values_beyond [.loc k, .int a, .int b, .int least] S = some (.ok (.tup (rowI n v)) S) := by
  have e := bound_spec B ha hb
  rw [h] at e
  have e : F_Bounds_bound [.loc k, .int a, .int b] S = some (.ok .non S) := e
  have is1 : isInsP "Bounds" "bound" (.loc k) S = true := B.is
  have is2 : isInsP "Bounds" "_high" (.loc k) S = true := B.is
  obtain ⟨Lf, h1, h2⟩ := high_spec B L hn hn2 (a := a) (least := least) hb
  refine ⟨_, ⟨by omega, fun p hp => by have := Hi.sat L hb h1 p hp; omega⟩, ?_, call_val0 (v := .tup (rowI n fun i => hiV D (farL n D b) b Lf i - hiV D (farL n D b) b Lf 0)) ?_ (noLocs_ints _)⟩
  · have hs := hi_same (Lf := Lf) L hb
    have hna : a ∈ farL n D b := mem_far.mpr ⟨ha, h⟩
    have h3 := h1.a_ hna
    have : hiV D (farL n D b) b Lf a = lowI D (farL n D b) a + Lf := by
      unfold hiV
      rw [if_pos hna]
    omega
  · simp [b_Bounds_values_beyond, is1, e, is2, h2]
/-- one of the two is no point -/
theorem values_bad (B : BAt S k n lits D l t r) {a b least : Int} (h : ¬ ((0 ≤ a ∧ a < (n : Int)) ∧ 0 ≤ b ∧ b < (n : Int))) : F_Bounds_values_at [.loc k, .int a, .int b] S = some (.exc ⟨"NotAllowed", []⟩ S) ∧ F_Bounds_values_beyond [.loc k, .int a, .int b, .int least] S = some (.exc ⟨"NotAllowed", []⟩ S) := by
  have e := bound_bad B h
  have is1 : isInsP "Bounds" "bound" (.loc k) S = true := B.is
  refine ⟨call_exc0 (ρ := [some (.loc k), some (.int a), some (.int b)]) ?_, call_exc0 (ρ := [some (.loc k), some (.int a), some (.int b), some (.int least)]) ?_⟩
  · simp [b_Bounds_values_at, is1, e]
  · simp [b_Bounds_values_beyond, is1, e]
end
end G

/-! S20: the literals that are drawn; one more literal for a Bounds and for the law's own table. -/
set_option Elab.async false
set_option linter.all false
set_option maxRecDepth 100000
set_option maxHeartbeats 4000000
set_option autoImplicit false
/-! S22: a Bounds beside a list of what it keeps. -/
namespace G
open PySem PySem.Spec PyProof.Rows L2 D
section
variable {U : Sto} {kb kk n l t : Nat} {lits : List T3} {D : Tb} {r : Int → Nat}
structure At (U : Sto) (kb kk n l t : Nat) (r : Int → Nat) (lits : List T3) (D : Tb) : Prop where
  B : BAt U kb n lits D l t r
  L : Lst n lits D
  K : U[kk]? = some (.lst (tripsP lits))
  kl : kk ≠ l
  kr : ¬ RowsAt n r kk
def AtP (kk n l : Nat) (r : Int → Nat) (j : Nat) : Prop := j = l ∨ RowsAt n r j ∨ j = kk
theorem At.kt (A : At U kb kk n l t r lits D) (h1 : 1 ≤ n) : kk ≠ t := fun e => by
  have := A.B.tab
  rw [← e, A.K] at this
  have h0 : (rowF n fun i => PV.loc (r i)).length = lits.length := by
    have := congrArg (fun o => match o with
      | some (PO.lst l) => l.length
      | _ => 0) this
    simpa using this.symm
  rw [rowF_len] at h0
  obtain ⟨m, rfl⟩ : ∃ m, n = m + 1 := ⟨n - 1, by omega⟩
  cases lits with
  | nil => simp at h0
  | cons x y =>
    simp only [Option.some.injEq, PO.lst.injEq, tripsP_cons] at this
    unfold rowF at this
    rw [List.range_succ_eq_map, List.map_cons] at this
    injection this with h1 h2
    cases h1
theorem At.kb_ (A : At U kb kk n l t r lits D) : kk ≠ kb := fun e => by
  have := A.B.ins
  rw [← e, A.K] at this
  cases this
theorem At.cl (A : At U kb kk n l t r lits D) {U' : Sto} {lits' : List T3} {D' : Tb} (A' : At U' kb kk n l t r lits' D') (f : ∀ j, j < U.length → ¬ AtP kk n l r j → U'[j]? = U[j]?) : Cl U U' := Cl.of fun j o hj e ne => by
  by_cases hk : j = kk
  · subst hk
    rw [A'.K] at e; cases e
    exact bds_noLoc _ _ (noLocs_trips _)
  · by_cases hp : j = l ∨ RowsAt n r j
    · rcases hp with rfl | ⟨i, h0, h1, rfl⟩
      · rw [A'.B.lit] at e; cases e
        exact bds_noLoc _ _ (noLocs_trips _)
      · rw [A'.B.row i h0 h1] at e; cases e
        exact bds_noLoc _ _ noLocs_row
    · exact absurd ((f j hj (by
        rintro (h | h | h)
        · exact hp (.inl h)
        · exact hp (.inr h)
        · exact hk h)).symm.trans e) ne
theorem At.take (A : At U kb kk n l t r lits D) {U2 : Sto} {lits2 : List T3} {D2 : Tb} (A2 : At U2 kb kk n l t r lits2 D2) : At (U2.take U.length) kb kk n l t r lits2 D2 :=
  ⟨A.B.take A2.B, A2.L, by rw [List.getElem?_take_of_lt (lt_of_get A.K)]; exact A2.K, A.kl, A.kr⟩
theorem At.app (A : At U kb kk n l t r lits D) (T : Sto) : At (U ++ T) kb kk n l t r lits D := ⟨A.B.app T, A.L, at_old A.K, A.kl, A.kr⟩
/-- a literal is taken by the Bounds -/
theorem At.yes (A : At U kb kk n l t r lits D) (h1 : 1 ≤ n) (hn : n ≤ 80) (hl : lits.length ≤ 1000) {a b c : Int} (ha : 0 ≤ a ∧ a < (n : Int)) (hb : 0 ≤ b ∧ b < (n : Int)) (hr : ∀ w, D b a = some w → 0 ≤ w + c) :
    ∃ S1, F_Bounds_add [.loc kb, .int a, .int b, .int c] U = some (.ok (.bl true) S1) ∧ S1.length = U.length ∧ S1[kk]? = some (.lst (tripsP lits)) ∧ BAt S1 kb n (lits ++ [(a, b, c)]) (addT n a b c D) l t r ∧ (∀ j, ¬ AtP kk n l r j → S1[j]? = U[j]?) ∧
      gAppend (.loc kk) [.tup [.int a, .int b, .int c]] S1 = some (.ok .non (S1.set kk (.lst (tripsP (lits ++ [(a, b, c)]))))) ∧
      At (S1.set kk (.lst (tripsP (lits ++ [(a, b, c)])))) kb kk n l t r (lits ++ [(a, b, c)]) (addT n a b c D) ∧ (∀ j, ¬ AtP kk n l r j → (S1.set kk (.lst (tripsP (lits ++ [(a, b, c)]))))[j]? = U[j]?) := by
  obtain ⟨S1, ad, B1, f1⟩ := add_yes A.B (by omega) (by omega) ha hb hr
  have L1 := A.L.add ha hb hr
  have K1 : S1[kk]? = some (.lst (tripsP lits)) := (f1.2 kk fun h => by
    rcases h with h | h
    · exact A.kl h
    · exact A.kr h).trans A.K
  have hset : ∀ j, j ≠ kk → (S1.set kk (.lst (tripsP (lits ++ [(a, b, c)]))))[j]? = S1[j]? := fun j hj => List.getElem?_set_ne (Ne.symm hj)
  have hf : ∀ j, ¬ AtP kk n l r j → S1[j]? = U[j]? := fun j hp => f1.2 j fun h => hp (by
    rcases h with h | h
    · exact .inl h
    · exact .inr (.inl h))
  refine ⟨S1, ad, f1.1, K1, B1, hf, ?_, ⟨B1.fr' fun j hj => hset j ?_, L1, List.getElem?_set_self (lt_of_get K1), A.kl, A.kr⟩, fun j hp => ?_⟩
  · rw [ev_append K1 (by rw [tripsP_len]; omega), ← tripsP_snoc]
    rfl
  · rcases hj with rfl | rfl | rfl | h
    · exact A.kb_.symm
    · exact A.kl.symm
    · exact (A.kt h1).symm
    · intro e; exact A.kr (e ▸ h)
  · rw [hset j (fun e => hp (.inr (.inr e)))]
    exact hf j hp
end
/-- values as a tuple -/
theorem row_ix {S : Sto} {n : Nat} {v : Int → Int} {a : Int} (h : 0 ≤ a ∧ a < (n : Int)) : gIx (.tup (rowI n v)) (.int a) S = some (.ok (.int (v a)) S) := by
  have := ev_ixT (S := S) (ints_at (l := (idx n).map v) (i := a) h.1 (by simp [idx]; omega))
  unfold rowI
  rw [this]
  congr 3
  rw [List.getD_eq_getElem?_getD, List.getElem?_map]
  unfold idx
  rw [List.getElem?_map, List.getElem?_range (by omega)]
  simp
  congr 1
  omega
theorem row_len {n : Nat} {v : Int → Int} : (rowI n v).length = n := by simp [rowI, idx]
end G

/-! S23: Bounds as a whole: copying, adding, what the store keeps. -/
namespace G
open PySem PySem.Spec PyProof.Rows L2 D
theorem body_keep {S S' : Sto} {ρ ρ' : En} {kill : List Nat} {f : DS} (h : f ρ S = some (.next ρ' S')) (c : ¬ Cl S S') : dBody kill f ρ S = some (.next ρ' S') := by
  unfold dBody
  rw [h]
  exact congrArg some (if_neg fun z => c z.1)
def lowD : Option Int → PyData
  | none => .none
  | some w => .int w
theorem toD_low {k : Nat} {S : Sto} (o : Option Int) : toD k S (lowV o) = some (lowD o) := by cases o <;> simp [lowV, lowD]
theorem eqvAll_self {l : List PyData} (h : ∀ x ∈ l, PyData.eqv x x = true) : PyData.eqvAll l l = true := by
  induction l with
  | nil => exact eqvAll_nil
  | cons x l ih => rw [eqvAll_cc, h x List.mem_cons_self, ih fun y hy => h y (List.mem_cons_of_mem _ hy)]; rfl
def Bd (S : Sto) (k n : Nat) (lits : List T3) (D : Tb) (lo hi : Nat) : Prop := ∃ l t r, BAt S k n lits D l t r ∧ (lo ≤ k ∧ k < hi) ∧ (lo ≤ l ∧ l < hi) ∧ (lo ≤ t ∧ t < hi) ∧ ∀ i : Int, 0 ≤ i → i < n → lo ≤ r i ∧ r i < hi
section
variable {S S' U : Sto} {k kb n lo hi : Nat} {lits : List T3} {D : Tb} {v : PV}
theorem Bd.fr (h : Bd S k n lits D lo hi) (f : ∀ j, lo ≤ j → j < hi → S'[j]? = S[j]?) : Bd S' k n lits D lo hi := by
  obtain ⟨l, t, r, B, h0, h1, h2, h3⟩ := h
  exact ⟨l, t, r, ⟨(f _ h0.1 h0.2).trans B.ins, (f _ h1.1 h1.2).trans B.lit, (f _ h2.1 h2.2).trans B.tab, fun i a b => (f _ (h3 i a b).1 (h3 i a b).2).trans (B.row i a b), B.inj, B.lt, B.lr, B.tr⟩, h0, h1, h2, h3⟩
theorem Bd.app (h : Bd S k n lits D lo hi) (T : Sto) : Bd (S ++ T) k n lits D lo hi := by
  obtain ⟨l, t, r, B, h0, h1, h2, h3⟩ := h
  exact ⟨l, t, r, B.app T, h0, h1, h2, h3⟩
theorem bds_last {m : Nat} {x : PV} : ∀ {l : List PV}, bds m (l ++ [x]) → bd m x
  | [], h => h.1
  | _ :: l, h => bds_last (l := l) h.2
/-! ### copying -/
theorem row_copy {U : Sto} {ρ : En} {i j : Nat} {f : Int → Option Int} (h : ρ[i]? = some (some (.loc j))) (hj : U[j]? = some (.lst (rowF n fun b => lowV (f b)))) : (dGc (dOpA gList (dCons (dVar i) dNil))) ρ U = some (.ok (.loc U.length) (U ++ [.lst (rowF n fun b => lowV (f b))])) := by
  simp only [ev_gc, ev_opA, ev_cons, ev_var, h, ev_bR_ok, ev_nil, ev_listL hj, Option.map_some]
  rw [gc_ok_new (l := rowF n fun b => lowV (f b)) at_0 (Nat.le_refl _) noLocs_row]
theorem take_spec {l t l2 t2 : Nat} {r : Int → Nat} {m : Nat} (B : BAt S k n lits D l t r) (hn : n ≤ 80) (hm : S[m]? = some (.ins "Bounds" (bF l2 t2))) (hl2 : l2 < S.length) :
    F_Bounds__take [.loc m, .loc l, .loc t] S = some (.ok .non (S.set m (.ins "Bounds" (bF S.length (S.length + 1))) ++ .lst (tripsP lits) :: .lst (rowF n fun i => .loc (S.length + 2 + i.toNat)) :: (idx n).map fun i => .lst (rowF n fun b => lowV (D i b)))) := by
  have hlt := lt_of_get hm
  have s1 : ∀ ρ U, gSetF "Bounds" "_literals" (.loc S.length) (.loc m) ρ (S ++ U) = some (.next ρ (S.set m (.ins "Bounds" (bF S.length t2)) ++ U)) := fun ρ U => by
    rw [ev_gSetF (fs := bF l2 t2) (at_old hm) (by show 2 < 1000; decide), List.set_append_left _ _ hlt]
    have : putFP "_literals" (.loc S.length) (bF l2 t2) = bF S.length t2 := by
      unfold bF putFP
      rw [if_pos (by decide +kernel)]
    rw [this]
  have hlen : (S.set m (PO.ins "Bounds" (bF S.length t2))).length = S.length := List.length_set
  have hm2 : (S.set m (PO.ins "Bounds" (bF S.length t2)))[m]? = some (.ins "Bounds" (bF S.length t2)) := List.getElem?_set_self hlt
  have s2 : ∀ ρ U, gSetF "Bounds" "_least" (.loc (S.length + 1)) (.loc m) ρ (S.set m (.ins "Bounds" (bF S.length t2)) ++ U) = some (.next ρ (S.set m (.ins "Bounds" (bF S.length (S.length + 1))) ++ U)) := fun ρ U => by
    rw [ev_gSetF (fs := bF S.length t2) (at_old hm2) (by show 2 < 1000; decide), List.set_append_left _ _ (by rw [hlen]; exact hlt), List.set_set]
    have : putFP "_least" (.loc (S.length + 1)) (bF S.length t2) = bF S.length (S.length + 1) := by
      unfold bF putFP
      rw [if_neg (by decide +kernel)]
      unfold putFP
      rw [if_pos (by decide +kernel)]
    rw [this]
  have hne : ∀ j o, S[j]? = some o → (∀ c fs, o ≠ .ins c fs) → m ≠ j := fun j o e h z => by
    subst z
    rw [hm] at e
    cases e
    exact h _ _ rfl
  have hr : ∀ T i, 0 ≤ i → i < (n : Int) → (S.set m (PO.ins "Bounds" (bF S.length t2)) ++ T)[r i]? = some (.lst (rowF n fun b => lowV (D i b))) := fun T i h0 h1 => at_old (by
    rw [List.getElem?_set_ne (hne _ _ (B.row i h0 h1) (fun _ _ => by simp))]
    exact B.row i h0 h1)
  have ht : (S.set m (PO.ins "Bounds" (bF S.length t2)) ++ [.lst (tripsP lits)])[t]? = some (.lst (rowF n fun i => .loc (r i))) := at_old (by
    rw [List.getElem?_set_ne (hne _ _ B.tab (fun _ _ => by simp))]
    exact B.tab)
  have cm : dComp (dSeqI (dVar 2)) (nmOne 3) [3] dYes (dGc (dOpA gList (dCons (dVar 3) dNil))) [some (.loc m), some (.loc l), some (.loc t), none] (S.set m (.ins "Bounds" (bF S.length t2)) ++ [.lst (tripsP lits)]) =
      some (.ok (.loc (S.length + 1)) (S.set m (.ins "Bounds" (bF S.length t2)) ++ .lst (tripsP lits) :: .lst (rowF n fun i => .loc (S.length + 2 + i.toNat)) :: (idx n).map fun i => .lst (rowF n fun b => lowV (D i b)))) := by
    rw [ev_compN (items := idx n) (B := S.set m (.ins "Bounds" (bF S.length t2)) ++ [.lst (tripsP lits)]) (keep := [(t, .lst (rowF n fun i => .loc (r i)))]) (fun i => PV.loc (r i)) (fun i => rowF n fun b => lowV (D i b)) (by simp [ht, rowF_idx]) (by rw [kept_one]; exact ht) (fun x hx acc cells => ⟨[3], [.loc (r x)], rfl, by
      have hx := idx_in x hx
      have hg := hr ([.lst (tripsP lits)] ++ (.lst acc :: cells)) x hx.1 hx.2
      rw [← List.append_assoc] at hg
      rw [row_copy (by rfl) hg]
      have hc : (S.set m (PO.ins "Bounds" (bF S.length t2)) ++ [PO.lst (tripsP lits)] ++ (PO.lst acc :: cells)).length = (S.set m (PO.ins "Bounds" (bF S.length t2)) ++ [PO.lst (tripsP lits)]).length + 1 + cells.length := by
        rw [List.length_append, List.length_cons]; omega
      rw [hc, List.append_assoc, List.cons_append]⟩) (by simp [idx]; omega)]
    rw [rng_row (g := fun i => .loc (S.length + 2 + i.toNat)) fun j => by simp]
    simp
  have hlit : S[l]? = some (.lst (tripsP lits)) := B.lit
  refine (dDef_next (ρ := [some (.loc m), some (.loc l), some (.loc t), none]) (S' := S.set m (.ins "Bounds" (bF S.length (S.length + 1))) ++ PO.lst (tripsP lits) :: PO.lst (rowF n fun i => .loc (S.length + 2 + i.toNat)) :: (idx n).map fun i => PO.lst (rowF n fun b => lowV (D i b))) rfl ?_).trans ?_
  · simp [b_Bounds__take, ev_listL hlit, s1, cm, s2]
  · have nw : ∀ T, (S.set m (PO.ins "Bounds" (bF S.length (S.length + 1))) ++ T)[m]? = some (.ins "Bounds" (bF S.length (S.length + 1))) := fun T => at_old (List.getElem?_set_self hlt)
    have hcl : ∀ T, ¬ Cl S (S.set m (PO.ins "Bounds" (bF S.length (S.length + 1))) ++ T) := fun T c => by
      rcases c m _ hlt (nw T) with h | h
      · rw [hm] at h
        simp only [bF, Option.some.injEq, PO.ins.injEq, List.cons.injEq, Prod.mk.injEq, PV.loc.injEq, true_and] at h
        omega
      · have := h _ (List.mem_cons_self ..)
        have this : S.length < S.length := this
        omega
    have htk : ∀ T, ¬ (S.set m (PO.ins "Bounds" (bF S.length (S.length + 1))) ++ T).take S.length = S := fun T h => hcl T fun j o hj e => .inl (by
      rw [← h, List.getElem?_take_of_lt hj]
      exact e)
    unfold gcE gc2
    simp only [hcl, htk, if_false]
    rfl
theorem copy_spec (h : Bd S k n lits D lo hi) (h1 : 1 ≤ n) (hn : n ≤ 80) : ∃ T, F_Bounds_copy [.loc k] S = some (.ok (.loc S.length) (S ++ T)) ∧ Bd (S ++ T) S.length n lits D S.length (S ++ T).length := by
  obtain ⟨l, t, r, B, _⟩ := h
  obtain ⟨T, mk, hT, B0⟩ := make_spec (S := S) h1 hn
  have sz := size_spec B
  have is1 : isInsP "Bounds" "size" (.loc k) S = true := B.is
  have is2 : isInsP "Bounds" "_take" (.loc S.length) (S ++ T) = true := B0.is
  have tk := take_spec (B.app T) hn B0.ins (by simp; omega)
  have BT := B.app T
  have e : ∀ o U, (S ++ T).set S.length o ++ U = S ++ (T.set 0 o ++ U) := fun o U => by rw [set_off0, List.append_assoc]
  rw [e] at tk
  have hl : (S ++ T).length = S.length + n + 3 := by rw [List.length_append, hT]; omega
  rw [hl] at tk
  have hset : ∀ o, (T.set 0 o).length = n + 3 := fun o => by rw [List.length_set, hT]
  have hlen : ∀ o U, (S ++ (T.set 0 o ++ U)).length = S.length + n + 3 + U.length := fun o U => by simp only [List.length_append, hset]; omega
  have ge : ∀ o U j, (S ++ (T.set 0 o ++ U))[S.length + n + 3 + j]? = U[j]? := fun o U j => by
    rw [← List.append_assoc, show S.length + n + 3 + j = (S ++ T.set 0 o).length + j by simp only [List.length_append, hset]; omega, get_off]
  have ins : ∀ o U, (S ++ (T.set 0 o ++ U))[S.length]? = some o := fun o U => by
    rw [get_off0, List.getElem?_append_left (by rw [hset]; omega), List.getElem?_set_self (by omega)]
  obtain ⟨T', hT'⟩ : ∃ T', T' = T.set 0 (PO.ins "Bounds" (bF (S.length + n + 3) (S.length + n + 3 + 1))) ++ PO.lst (tripsP lits) :: PO.lst (rowF n fun i => PV.loc (S.length + n + 3 + 2 + i.toNat)) :: (idx n).map fun i => PO.lst (rowF n fun b => lowV (D i b)) := ⟨_, rfl⟩
  have t1 : (S ++ T')[S.length]? = some (.ins "Bounds" (bF (S.length + n + 3) (S.length + n + 3 + 1))) := by rw [hT']; exact ins _ _
  have t2 : (S ++ T')[S.length + n + 3]? = some (.lst (tripsP lits)) := by rw [hT']; exact ge _ _ 0
  have t3 : (S ++ T')[S.length + n + 3 + 1]? = some (.lst (rowF n fun i => PV.loc (S.length + n + 3 + 2 + i.toNat))) := by rw [hT']; exact ge _ _ 1
  have t4 : ∀ i : Int, 0 ≤ i → i < n → (S ++ T')[S.length + n + 3 + 2 + i.toNat]? = some (.lst (rowF n fun b => lowV (D i b))) := fun i h0 h1 => by
    rw [hT', Nat.add_assoc (S.length + n + 3), ge, Nat.add_comm 2]
    simp only [List.getElem?_cons_succ]
    have : (idx n)[i.toNat]? = some i := by
      unfold idx
      rw [List.getElem?_map, List.getElem?_range (by omega)]
      simp
      omega
    rw [List.getElem?_map, this]
    rfl
  have t5 : (S ++ T').length = S.length + n + 3 + (n + 2) := by rw [hT', hlen]; simp [idx]
  rw [← hT'] at tk
  clear hT'
  refine ⟨T', (dDef_ret (v := .loc S.length) (S' := S ++ T') rfl ?_).trans ?_, ?_⟩
  · simp [b_Bounds_copy, b_Bounds_copy_t0, b_Bounds_copy_t1, b_Bounds_copy_t2, is1, sz, mk, is2, BT.fL, BT.fT, tk]
  · unfold gcE
    simp only [t1]
    simp [noLoc]
  · refine ⟨S.length + n + 3, S.length + n + 3 + 1, fun i => S.length + n + 3 + 2 + i.toNat, ⟨t1, t2, t3, t4, fun i j a b c d e => ?_, by omega, fun i a b => ?_, fun i a b => ?_⟩, ?_, ?_, ?_, fun i a b => ?_⟩
    · have e : S.length + n + 3 + 2 + i.toNat = S.length + n + 3 + 2 + j.toNat := e
      omega
    · show S.length + n + 3 ≠ S.length + n + 3 + 2 + i.toNat
      omega
    · show S.length + n + 3 + 1 ≠ S.length + n + 3 + 2 + i.toNat
      omega
    all_goals rw [t5]
    · omega
    · omega
    · omega
    · show S.length ≤ S.length + n + 3 + 2 + i.toNat ∧ S.length + n + 3 + 2 + i.toNat < _
      omega
theorem add_bad {l t : Nat} {r : Int → Nat} (B : BAt S k n lits D l t r) {a b c : Int} (h : ¬ ((0 ≤ a ∧ a < (n : Int)) ∧ 0 ≤ b ∧ b < (n : Int))) : F_Bounds_add [.loc k, .int a, .int b, .int c] S = some (.exc ⟨"NotAllowed", []⟩ S) := by
  have e := bound_bad B (a := b) (b := a) (fun z => h ⟨z.2, z.1⟩)
  have is1 : isInsP "Bounds" "bound" (.loc k) S = true := B.is
  refine call_exc0 (ρ := [some (.loc k), some (.int a), some (.int b), some (.int c), none]) ?_
  simp [b_Bounds_add, b_Bounds_add_t0, is1, e]
theorem add_any (h : Bd U kb n lits D lo hi) (hn : n ≤ 80) (hl : lits.length ≤ 1000) {a b c : Int} (ha : 0 ≤ a ∧ a < (n : Int)) (hb : 0 ≤ b ∧ b < (n : Int)) : ∃ U' lits' D' w, lits'.length ≤ lits.length + 1 ∧ Bd U' kb n lits' D' lo hi ∧ U'.length = U.length ∧ (∀ j, ¬ (lo ≤ j ∧ j < hi) → U'[j]? = U[j]?) ∧ isInsP "Bounds" "add" (.loc kb) U = true ∧ F_Bounds_add [.loc kb, .int a, .int b, .int c] U = some (.ok (.bl w) U') := by
  obtain ⟨l, t, r, B, h0, h1, h2, h3⟩ := h
  by_cases hr : ∃ w, D b a = some w ∧ w + c < 0
  · obtain ⟨w, e1, hw⟩ := hr
    exact ⟨U, lits, D, false, by omega, ⟨l, t, r, B, h0, h1, h2, h3⟩, rfl, fun _ _ => rfl, B.is, add_no B ha hb e1 hw⟩
  · have hr : ∀ w, D b a = some w → 0 ≤ w + c := fun w e => by
      by_cases h : w + c < 0
      · exact absurd ⟨w, e, h⟩ hr
      · omega
    obtain ⟨S1, ad, B1, f1⟩ := add_yes B (by omega) (by omega) ha hb hr
    exact ⟨S1, _, _, true, by simp, ⟨l, t, r, B1, h0, h1, h2, h3⟩, f1.1, fun j hj => f1.2 j fun z => hj (by
      rcases z with rfl | ⟨i, i0, i1, rfl⟩
      · exact h1
      · exact h3 i i0 i1), B.is, ad⟩
end
/-! ### stores that grow -/
def Gr (S W : Sto) : Prop := S.length ≤ W.length ∧ ∀ j, j < S.length → W[j]? = S[j]?
theorem Gr.app (S T : Sto) : Gr S (S ++ T) := ⟨by simp, fun j hj => List.getElem?_append_left hj⟩
section
variable {S W : Sto} {k n lo hi : Nat} {lits : List T3} {D : Tb} {v : PV}
theorem Gr.at_ (g : Gr S W) {o : PO} (h : S[k]? = some o) : W[k]? = some o := (g.2 k (lt_of_get h)).trans h
theorem Bd.hi_le (h : Bd S k n lits D lo hi) (g : Gr S W) (hh : hi ≤ S.length) : Bd W k n lits D lo hi := h.fr fun j _ hj => g.2 j (by omega)
theorem copy_gr (h : Bd S k n lits D lo hi) (h1 : 1 ≤ n) (hn : n ≤ 80) : ∃ W, F_Bounds_copy [.loc k] S = some (.ok (.loc S.length) W) ∧ Gr S W ∧ Bd W S.length n lits D S.length W.length := by
  obtain ⟨T, e, s⟩ := copy_spec h h1 hn
  exact ⟨_, e, Gr.app S T, s⟩
theorem make_gr (h1 : 1 ≤ n) (hn : n ≤ 80) : ∃ W D, gMake "Bounds" F_Bounds___init__ [.int n] S = some (.ok (.loc S.length) W) ∧ Gr S W ∧ Bd W S.length n [] D S.length W.length := by
  obtain ⟨T, mk, hT, B⟩ := make_spec (S := S) h1 hn
  refine ⟨_, _, mk, Gr.app S T, _, _, _, B, ?_, ?_, ?_, fun i a b => ?_⟩
  all_goals rw [List.length_append, hT]
  · omega
  · omega
  · omega
  · show S.length ≤ S.length + 3 + i.toNat ∧ S.length + 3 + i.toNat < _
    omega
theorem lits_gr {ns : List Int} (hk : S[k]? = some (.lst (intsP ns))) (hn : 0 < ns.length) {at_ c sz : Int} (h1 : 1 ≤ n) (hc : c ≤ 1000) (hz : 1 ≤ sz ∧ sz ≤ 100) : ∃ l W, InN n l ∧ l.length ≤ c.toNat ∧ Gr S W ∧ W[S.length]? = some (.lst (tripsP l)) ∧ W.length = S.length + 1 ∧
    F__law_literals [.loc k, .int at_, .int n, .int c, .int sz] S = some (.ok (.loc S.length) W) := by
  obtain ⟨l, a, b, _, e⟩ := lits_made hk hn (at_ := at_) (n := (n : Int)) (c := c) (sz := sz) (by omega) hc hz
  exact ⟨l, _, pts_in a, b, Gr.app S _, at_0, by simp, e⟩
theorem new_gr (S : Sto) (o : PO) : Gr S (S ++ [o]) ∧ (S ++ [o])[S.length]? = some o ∧ (S ++ [o]).length = S.length + 1 := ⟨Gr.app S _, at_0, by simp⟩
theorem literals_gr (h : Bd S k n lits D lo hi) : isInsP "Bounds" "literals" (.loc k) S = true ∧ F_Bounds_literals [.loc k] S = some (.ok (.loc S.length) (S ++ [.lst (tripsP lits)])) := by
  obtain ⟨l, t, r, B, _⟩ := h
  exact ⟨B.is, literals_spec B⟩
theorem copy_is (h : Bd S k n lits D lo hi) : isInsP "Bounds" "copy" (.loc k) S = true := by
  obtain ⟨l, t, r, B, _⟩ := h
  exact B.is
theorem size_gr (h : Bd S k n lits D lo hi) : isInsP "Bounds" "size" (.loc k) S = true ∧ F_Bounds_size [.loc k] S = some (.ok (.int n) S) := by
  obtain ⟨l, t, r, B, _⟩ := h
  exact ⟨B.is, size_spec B⟩
theorem Bd.lt (h : Bd S k n lits D lo hi) : k < S.length := by
  obtain ⟨l, t, r, B, _⟩ := h
  exact lt_of_get B.ins
theorem add_true (h : Bd S k n lits D lo hi) (L : Lst n lits D) (hn : n ≤ 80) (hl : lits.length ≤ 20000) {a b c : Int} (ha : 0 ≤ a ∧ a < (n : Int)) (hb : 0 ≤ b ∧ b < (n : Int)) (hr : ∀ w, D b a = some w → 0 ≤ w + c) :
    ∃ U', Bd U' k n (lits ++ [(a, b, c)]) (addT n a b c D) lo hi ∧ Lst n (lits ++ [(a, b, c)]) (addT n a b c D) ∧ U'.length = S.length ∧ (∀ j, ¬ (lo ≤ j ∧ j < hi) → U'[j]? = S[j]?) ∧ isInsP "Bounds" "add" (.loc k) S = true ∧ F_Bounds_add [.loc k, .int a, .int b, .int c] S = some (.ok (.bl true) U') := by
  obtain ⟨l, t, r, B, h0, h1, h2, h3⟩ := h
  obtain ⟨S1, ad, B1, f1⟩ := add_yes B (by omega) (by omega) ha hb hr
  exact ⟨S1, ⟨l, t, r, B1, h0, h1, h2, h3⟩, L.add ha hb hr, f1.1, fun j hj => f1.2 j fun z => hj (by
    rcases z with rfl | ⟨i, i0, i1, rfl⟩
    · exact h1
    · exact h3 i i0 i1), B.is, ad⟩
theorem add_false (h : Bd S k n lits D lo hi) {a b c w : Int} (ha : 0 ≤ a ∧ a < (n : Int)) (hb : 0 ≤ b ∧ b < (n : Int)) (e : D b a = some w) (hw : w + c < 0) :
    isInsP "Bounds" "add" (.loc k) S = true ∧ F_Bounds_add [.loc k, .int a, .int b, .int c] S = some (.ok (.bl false) S) := by
  obtain ⟨l, t, r, B, h0, h1, h2, h3⟩ := h
  exact ⟨B.is, add_no B ha hb e hw⟩
theorem any_gr (h : Bd S k n lits D lo hi) (L : Lst n lits D) (h1 : 1 ≤ n) (hn : n ≤ 80) : isInsP "Bounds" "any_values" (.loc k) S = true ∧ ∃ v, Vls n lits v ∧ F_Bounds_any_values [.loc k] S = some (.ok (.tup (rowI n v)) S) := by
  obtain ⟨l, t, r, B, _⟩ := h
  exact ⟨B.is, any_spec B L h1 hn⟩
theorem bound_gr (h : Bd S k n lits D lo hi) {a b : Int} (ha : 0 ≤ a ∧ a < (n : Int)) (hb : 0 ≤ b ∧ b < (n : Int)) : isInsP "Bounds" "bound" (.loc k) S = true ∧ F_Bounds_bound [.loc k, .int a, .int b] S = some (.ok (lowV (D a b)) S) := by
  obtain ⟨l, t, r, B, _⟩ := h
  exact ⟨B.is, bound_spec B ha hb⟩
theorem make_start (h1 : 1 ≤ n) (hn : n ≤ 80) : ∃ W D, gMake "Bounds" F_Bounds___init__ [.int n] S = some (.ok (.loc S.length) W) ∧ Gr S W ∧ Bd W S.length n [] D S.length W.length ∧ Lst n [] D := by
  obtain ⟨T, mk, hT, B⟩ := make_spec (S := S) h1 hn
  refine ⟨_, _, mk, Gr.app S T, ⟨_, _, _, B, ?_, ?_, ?_, fun i a b => ?_⟩, Lst.start n⟩
  all_goals rw [List.length_append, hT]
  · omega
  · omega
  · omega
  · show S.length ≤ S.length + 3 + i.toNat ∧ S.length + 3 + i.toNat < _
    omega
end
theorem Gr.ex {S W : Sto} (g : Gr S W) : ∃ T, W = S ++ T := pre_of g.1 g.2
theorem Gr.trans {S W Z : Sto} (g : Gr S W) (h : Gr W Z) : Gr S Z := ⟨Nat.le_trans g.1 h.1, fun j hj => (h.2 j (Nat.lt_of_lt_of_le hj g.1)).trans (g.2 j hj)⟩
theorem Gr.refl (S : Sto) : Gr S S := ⟨Nat.le_refl _, fun _ _ => rfl⟩
theorem Gr.of_out {S W Z : Sto} {hi : Nat} (g : Gr S W) (hl : Z.length = W.length) (f : ∀ j, ¬ (S.length ≤ j ∧ j < hi) → Z[j]? = W[j]?) : Gr S Z := ⟨by rw [hl]; exact g.1, fun j hj => (f j (by omega)).trans (g.2 j hj)⟩
end G

namespace G
end G
namespace Lk20
open PySem PySem.Spec PyProof.Rows L2 D G
/-! ## denotations -/
/-! _law_taken(_law_n, _law_literals_here): slots 0 _law_n, 1 _law_literals_here, 2 _law_bounds, 3 _law_a, 4 _law_b, 5 _law_c -/
noncomputable def l__law_taken_1 : DS := (dIfS (dNotT (dTru (dIMeth "Bounds" "add" F_Bounds_add (dVar 2) (dCons (dVar 3) (dCons (dVar 4) (dCons (dVar 5) dNil)))))) (dRet (dC .non)) dPass)
noncomputable def b__law_taken_t2 : DS := (dRet (dVar 2))
noncomputable def b__law_taken_t1 : DS := (dSeq (dFor (dSeqI (dVar 1)) (gT 3 (gsCons (gN 3) (gsCons (gN 4) (gsCons (gN 5) gsNil)))) [3, 4, 5] l__law_taken_1) b__law_taken_t2)
noncomputable def b__law_taken_t0 : DS := (dSeq (dSet 2 (dMake "Bounds" F_Bounds___init__ (dCons (dVar 0) dNil))) b__law_taken_t1)
noncomputable def b__law_taken : DS := b__law_taken_t0
noncomputable def F__law_taken : DF := dDef 2 6 b__law_taken
/-! _law_either(_law_n, _law_literals_here): slots 0 _law_n, 1 _law_literals_here, 2 _law_bounds, 3 _law_ring -/
noncomputable def b__law_either_t4 : DS := (dRet (dOp2 gIsNot (dOpA F_find_ring (dCons (dVar 0) (dCons (dOpA gList (dCons (dVar 3) dNil)) dNil))) (dC .non)))
noncomputable def b__law_either_t3 : DS := (dSeq (dIfS (dOrT (dCmp gIs (dVar 3) (dC .non)) (dOrT (dNotT (dTru (dOpA F_is_ring (dCons (dVar 3) dNil)))) (dCmp gIsNot (dOpA F__law_taken (dCons (dVar 0) (dCons (dOpA gList (dCons (dVar 3) dNil)) dNil))) (dC .non)))) (dRet (dC (.bl false))) dPass) b__law_either_t4)
noncomputable def b__law_either_t2 : DS := (dSeq (dIfS (dCmp gIsNot (dVar 2) (dC .non)) (dRet (dAnd2 (dOp2 gIs (dVar 3) (dC .non)) (dAnd2 (dOpA F_satisfies (dCons (dIMeth "Bounds" "any_values" F_Bounds_any_values (dVar 2) dNil) (dCons (dVar 1) dNil))) (dOp2 gEq (dOp2 gIx (dIMeth "Bounds" "any_values" F_Bounds_any_values (dVar 2) dNil) (dC (.int 0))) (dC (.int 0)))))) dPass) b__law_either_t3)
noncomputable def b__law_either_t1 : DS := (dSeq (dSet 3 (dOpA F_find_ring (dCons (dVar 0) (dCons (dVar 1) dNil)))) b__law_either_t2)
noncomputable def b__law_either_t0 : DS := (dSeq (dSet 2 (dOpA F__law_taken (dCons (dVar 0) (dCons (dVar 1) dNil)))) b__law_either_t1)
noncomputable def b__law_either : DS := b__law_either_t0
noncomputable def F__law_either : DF := dDef 2 4 b__law_either
/-! _law_long(_law_numbers_here): slots 0 _law_numbers_here, 1 _law_n, 2 _law_target, 3 _law_steps, 4 _law_literals_here, 5 _law_k, 6 _law_ring, 7 _law_one -/
noncomputable def l__law_long_1 : DS := (dExpr (dMeth "list" gAppend (dVar 4) (dCons (dTup (dCons (dOp2 gMod (dOp2 gIx (dVar 0) (dVar 5)) (dVar 1)) (dCons (dOp2 gMod (dOpA gInt (dCons (dOp2 gAdd (dOp2 gIx (dVar 0) (dVar 5)) (dC (.int 2))) dNil)) (dVar 1)) (dCons (dOp2 gAdd (dOp2 gMul (dC (.int 4)) (dVar 1)) (dC (.int 400))) dNil)))) dNil)))
noncomputable def b__law_long_t9 : DS := (dRet (dAnd2 (dOp2 gIsNot (dVar 6) (dC .non)) (dAnd2 (dOpA F_is_ring (dCons (dVar 6) dNil)) (dOpA gAllL (dCons (dComp (dSeqI (dVar 6)) (nmOne 7) [7] dYes (dOp2 gIn (dVar 7) (dVar 4))) dNil)))))
noncomputable def b__law_long_t8 : DS := (dSeq (dIfS (dCmp gEq (dVar 2) (dC (.int 0))) (dRet (dOp2 gIs (dVar 6) (dC .non))) dPass) b__law_long_t9)
noncomputable def b__law_long_t7 : DS := (dSeq (dSet 6 (dOpA F_find_ring (dCons (dVar 1) (dCons (dVar 4) dNil)))) b__law_long_t8)
noncomputable def b__law_long_t6 : DS := (dSeq (dFor (dRng1 (dCons (dC (.int 3)) dNil)) (gN 5) [5] l__law_long_1) b__law_long_t7)
noncomputable def b__law_long_t5 : DS := (dSeq (dIfS (dCmp gEq (dOp2 gMod (dOp2 gIx (dVar 0) (dC (.int 65))) (dC (.int 2))) (dC (.int 0))) (dSet 4 (dRev (dVar 4) (dPart (dOp1 gNeg (dC (.int 1)))))) dPass) b__law_long_t6)
noncomputable def b__law_long_t4 : DS := (dSeq (dSet 4 (dComp (dRng1 (dCons (dVar 1) dNil)) (nmOne 5) [5] dYes (dTup (dCons (dVar 5) (dCons (dOp2 gMod (dOpA gInt (dCons (dOp2 gAdd (dVar 5) (dC (.int 1))) dNil)) (dVar 1)) (dCons (dOp2 gIx (dVar 3) (dVar 5)) dNil)))))) b__law_long_t5)
noncomputable def b__law_long_t3 : DS := (dSeq (dExpr (dMeth "list" gAppend (dVar 3) (dCons (dOp2 gSub (dVar 2) (dOpA gSumL (dCons (dVar 3) dNil))) dNil))) b__law_long_t4)
noncomputable def b__law_long_t2 : DS := (dSeq (dSet 3 (dComp (dRng1 (dCons (dOp2 gSub (dVar 1) (dC (.int 1))) dNil)) (nmOne 5) [5] dYes (dOp2 gSub (dOp2 gMod (dOp2 gIx (dVar 0) (dOp2 gMod (dOpA gInt (dCons (dVar 5) dNil)) (dC (.int 60)))) (dC (.int 9))) (dC (.int 4))))) b__law_long_t3)
noncomputable def b__law_long_t1 : DS := (dSeq (dSet 2 (dOp2 gSub (dC (.int 0)) (dOp2 gMod (dOp2 gIx (dVar 0) (dC (.int 64))) (dC (.int 2))))) b__law_long_t2)
noncomputable def b__law_long_t0 : DS := (dSeq (dSet 1 (dOp2 gAdd (dC (.int 10)) (dOp2 gMod (dOp2 gIx (dVar 0) (dC (.int 63))) (dC (.int 71))))) b__law_long_t1)
noncomputable def b__law_long : DS := b__law_long_t0
noncomputable def F__law_long : DF := dDef 1 8 b__law_long
/-! _law_table(_law_bounds): slots 0 _law_bounds, 1 _law_n, 2 _law_rows, 3 _law_a, 4 _law_b -/
noncomputable def l__law_table_1 : DS := (dBody [3] (dExpr (dMeth "list" gAppend (dVar 2) (dCons (dComp (dRng1 (dCons (dVar 1) dNil)) (nmOne 4) [4] dYes (dIMeth "Bounds" "bound" F_Bounds_bound (dVar 0) (dCons (dVar 3) (dCons (dVar 4) dNil)))) dNil))))
noncomputable def b__law_table_t3 : DS := (dRet (dVar 2))
noncomputable def b__law_table_t2 : DS := (dSeq (dFor (dRng1 (dCons (dVar 1) dNil)) (gN 3) [3] l__law_table_1) b__law_table_t3)
noncomputable def b__law_table_t1 : DS := (dSeq (dSet 2 (dLst dNil)) b__law_table_t2)
noncomputable def b__law_table_t0 : DS := (dSeq (dSet 1 (dIMeth "Bounds" "size" F_Bounds_size (dVar 0) dNil)) b__law_table_t1)
noncomputable def b__law_table : DS := b__law_table_t0
noncomputable def F__law_table : DF := dDef 1 5 b__law_table
/-! _law_within(_law_values, _law_table_here): slots 0 _law_values, 1 _law_table_here, 2 _law_a, 3 _law_b -/
noncomputable def l__law_within_2 : DS := (dIfS (dAndT (dCmp gIsNot (dOp2 gIx (dOp2 gIx (dVar 1) (dVar 2)) (dVar 3)) (dC .non)) (dCmp gGt (dOp2 gSub (dOp2 gIx (dVar 0) (dVar 2)) (dOp2 gIx (dVar 0) (dVar 3))) (dOp2 gIx (dOp2 gIx (dVar 1) (dVar 2)) (dVar 3)))) (dRet (dC (.bl false))) dPass)
noncomputable def l__law_within_1 : DS := (dFor (dRng1 (dCons (dOpA gLen (dCons (dVar 1) dNil)) dNil)) (gN 3) [3] l__law_within_2)
noncomputable def b__law_within : DS := (dSeq (dFor (dRng1 (dCons (dOpA gLen (dCons (dVar 1) dNil)) dNil)) (gN 2) [2, 3] l__law_within_1) (dRet (dC (.bl true))))
noncomputable def F__law_within : DF := dDef 2 4 b__law_within
/-! law(_law_script): slots 0 _law_script, 1 _law_numbers_here, 2 _law_n, 3 _law_great, 4 _law_values, 5 _law_literals_here, 6 _law_a, 7 _law_b, 8 _law_c, 9 _law_bounds, 10 _law_turned, 11 _law_table_here, 12 _law_told, 13 _law_just, 14 _law_other, 15 _law_k -/
noncomputable def l_law_1 : DS := (dExpr (dMeth "list" gAppend (dVar 5) (dCons (dTup (dCons (dVar 6) (dCons (dVar 7) (dCons (dOp2 gAdd (dOp2 gSub (dOp2 gIx (dVar 4) (dVar 6)) (dOp2 gIx (dVar 4) (dVar 7))) (dOpA gAbs (dCons (dVar 8) dNil))) dNil)))) dNil)))
noncomputable def t_19 : DS := (dRet (dAnd2 (dOp2 gIs (dIMeth "Bounds" "add" F_Bounds_add (dVar 14) (dCons (dVar 6) (dCons (dVar 7) (dCons (dVar 13) dNil)))) (dC (.bl true))) (dAnd2 (dOp2 gEq (dIMeth "Bounds" "bound" F_Bounds_bound (dVar 14) (dCons (dVar 6) (dCons (dVar 7) dNil))) (dVar 13)) (dOp2 gIsNot (dOpA F_find_ring (dCons (dVar 2) (dCons (dOp2 gAdd (dVar 5) (dLst (dCons (dTup (dCons (dVar 6) (dCons (dVar 7) (dCons (dOp2 gSub (dVar 13) (dC (.int 1))) dNil)))) dNil))) dNil))) (dC .non)))))
noncomputable def t_18 : DS := (dSeq (dIfS (dOrT (dCmp gIsNot (dIMeth "Bounds" "add" F_Bounds_add (dVar 14) (dCons (dVar 6) (dCons (dVar 7) (dCons (dOp2 gSub (dOp2 gSub (dVar 13) (dC (.int 1))) (dOp2 gMod (dOp2 gIx (dVar 1) (dC (.int 62))) (dC (.int 5)))) dNil)))) (dC (.bl false))) (dCmp gNe (dOpA F__law_table (dCons (dVar 14) dNil)) (dVar 11))) (dRet (dC (.bl false))) dPass) t_19)
noncomputable def t_17 : DS := (dSeq (dSet 14 (dIMeth "Bounds" "copy" F_Bounds_copy (dVar 9) dNil)) t_18)
noncomputable def t_16 : DS := (dSeq (dSet 13 (dOp2 gSub (dC (.int 0)) (dOp2 gIx (dOp2 gIx (dVar 11) (dVar 7)) (dVar 6)))) t_17)
noncomputable def t_15 : DS := (dSeq (dIfS (dCmp gIs (dOp2 gIx (dOp2 gIx (dVar 11) (dVar 7)) (dVar 6)) (dC .non)) (dSeq (dIfS (dCmp gIsNot (dIMeth "Bounds" "add" F_Bounds_add (dVar 9) (dCons (dVar 6) (dCons (dVar 7) (dCons (dOp2 gSub (dC (.int 0)) (dOp2 gPow (dC (.int 10)) (dC (.int 40)))) dNil)))) (dC (.bl true))) (dRet (dC (.bl false))) dPass) (dSeq (dSet 12 (dIMeth "Bounds" "any_values" F_Bounds_any_values (dVar 9) dNil)) (dRet (dAnd2 (dOp2 gGe (dOp2 gSub (dOp2 gIx (dVar 12) (dVar 7)) (dOp2 gIx (dVar 12) (dVar 6))) (dOp2 gPow (dC (.int 10)) (dC (.int 40)))) (dOpA F_satisfies (dCons (dVar 12) (dCons (dVar 5) dNil))))))) dPass) t_16)
noncomputable def t_14 : DS := (dSeq (dSet 7 (dOp2 gMod (dOp2 gIx (dVar 1) (dC (.int 61))) (dVar 2))) t_15)
noncomputable def t_13 : DS := (dSeq (dSet 6 (dOp2 gMod (dOp2 gIx (dVar 1) (dC (.int 60))) (dVar 2))) t_14)
noncomputable def t_12 : DS := (dSeq (dIfS (dOrT (dCmp gNe (dVar 11) (dOpA F__law_table (dCons (dVar 10) dNil))) (dOrT (dNotT (dTru (dOpA F__law_within (dCons (dVar 4) (dCons (dVar 11) dNil))))) (dNotT (dTru (dOpA F__law_within (dCons (dIMeth "Bounds" "any_values" F_Bounds_any_values (dVar 9) dNil) (dCons (dVar 11) dNil))))))) (dRet (dC (.bl false))) dPass) t_13)
noncomputable def t_11 : DS := (dSeq (dSet 11 (dOpA F__law_table (dCons (dVar 9) dNil))) t_12)
noncomputable def t_10 : DS := (dSeq (dIfS (dOrT (dCmp gIs (dVar 9) (dC .non)) (dOrT (dCmp gIs (dVar 10) (dC .non)) (dCmp gIsNot (dOpA F_find_ring (dCons (dVar 2) (dCons (dVar 5) dNil))) (dC .non)))) (dRet (dC (.bl false))) dPass) t_11)
noncomputable def t_9 : DS := (dSeq (dSet 10 (dOpA F__law_taken (dCons (dVar 2) (dCons (dRev (dVar 5) (dPart (dOp1 gNeg (dC (.int 1))))) dNil)))) t_10)
noncomputable def t_8 : DS := (dSeq (dSet 9 (dOpA F__law_taken (dCons (dVar 2) (dCons (dVar 5) dNil)))) t_9)
noncomputable def t_7 : DS := (dSeq (dFor (dSeqI (dOpA F__law_literals (dCons (dVar 1) (dCons (dC (.int 40)) (dCons (dVar 2) (dCons (dOp2 gMod (dOp2 gIx (dVar 1) (dC (.int 4))) (dC (.int 17))) (dCons (dC (.int 7)) dNil))))))) (gT 3 (gsCons (gN 6) (gsCons (gN 7) (gsCons (gN 8) gsNil)))) [6, 7, 8] l_law_1) t_8)
noncomputable def t_6 : DS := (dSeq (dSet 5 (dLst dNil)) t_7)
noncomputable def t_5 : DS := (dSeq (dSet 4 (dOpA gTuple (dCons (dComp (dRng1 (dCons (dVar 2) dNil)) (nmOne 15) [15] dYes (dOp2 gMul (dOp2 gMul (dOpA gInt (dCons (dOp2 gGt (dVar 15) (dC (.int 0))) dNil)) (dOp2 gSub (dOp2 gMod (dOp2 gIx (dVar 1) (dOpA gInt (dCons (dOp2 gAdd (dC (.int 30)) (dVar 15)) dNil))) (dC (.int 61))) (dC (.int 30)))) (dVar 3))) dNil))) t_6)
noncomputable def t_4 : DS := (dSeq (dSet 3 (dOp2 gIx (dLst (dCons (dC (.int 1)) (dCons (dC (.int 1)) (dCons (dOp2 gPow (dC (.int 10)) (dC (.int 22))) dNil)))) (dOp2 gMod (dOp2 gIx (dVar 1) (dC (.int 3))) (dC (.int 3))))) t_5)
noncomputable def t_3 : DS := (dSeq (dIfS (dNotT (dTru (dOpA F__law_long (dCons (dVar 1) dNil)))) (dRet (dC (.bl false))) dPass) t_4)
noncomputable def t_2 : DS := (dSeq (dIfS (dNotT (dTru (dOpA F__law_either (dCons (dVar 2) (dCons (dOpA F__law_literals (dCons (dVar 1) (dCons (dC (.int 10)) (dCons (dVar 2) (dCons (dOp2 gMod (dOp2 gIx (dVar 1) (dC (.int 1))) (dC (.int 17))) (dCons (dOp2 gIx (dLst (dCons (dC (.int 4)) (dCons (dC (.int 9)) (dCons (dC (.int 30)) dNil)))) (dOp2 gMod (dOp2 gIx (dVar 1) (dC (.int 2))) (dC (.int 3)))) dNil)))))) dNil))))) (dRet (dC (.bl false))) dPass) t_3)
noncomputable def t_1 : DS := (dSeq (dSet 2 (dOp2 gAdd (dC (.int 1)) (dOp2 gMod (dOp2 gIx (dVar 1) (dC (.int 0))) (dC (.int 9))))) t_2)
noncomputable def t_0 : DS := (dSeq (dSet 1 (dOpA F__law_numbers (dCons (dVar 0) (dCons (dC (.int 70)) dNil)))) t_1)
noncomputable def b_law : DS := t_0
noncomputable def F_law : DF := dDef 1 16 b_law
/- end of the denotations -/
/-! ## the text -/
def top (i : Nat) : Stmt := PySem.Challenge.pw_diesnon_k20_whole_ring_or_values.main.body.getD i (.Pass ⟨0, 0, 0, 0⟩)
abbrev s_is_less : Stmt := top 16
abbrev s_joined : Stmt := top 15
abbrev s_Bounds__shorten : Stmt := inClass (top 18) 5
abbrev s_Bounds_bound : Stmt := inClass (top 18) 3
abbrev s_Bounds_add : Stmt := inClass (top 18) 4
abbrev s_Bounds__low : Stmt := inClass (top 18) 6
abbrev s_Bounds_size : Stmt := inClass (top 18) 1
abbrev s_moved : Stmt := top 17
abbrev s_Bounds_any_values : Stmt := inClass (top 18) 7
abbrev s_check_points : Stmt := top 6
abbrev s_Bounds___init__ : Stmt := inClass (top 18) 0
abbrev s_Bounds__take : Stmt := inClass (top 18) 11
abbrev s_Bounds_copy : Stmt := inClass (top 18) 12
abbrev s__law_taken : Stmt := top 22
abbrev s_check_point : Stmt := top 7
abbrev s_check_literals : Stmt := top 8
abbrev s_ring_at : Stmt := top 12
abbrev s_ring_from : Stmt := top 13
abbrev s_find_ring : Stmt := top 11
abbrev s_is_ring : Stmt := top 10
abbrev s_satisfies : Stmt := top 9
abbrev s__law_either : Stmt := top 25
abbrev s__law_literals : Stmt := top 21
abbrev s__law_long : Stmt := top 26
abbrev s__law_numbers : Stmt := top 20
abbrev s__law_table : Stmt := top 23
abbrev s__law_within : Stmt := top 24
abbrev s_law : Stmt := top 27
structure Txt (K : PySem.W.Frag) (mg : Str → Option Value) where
  a_NotAllowed : Addr
  o_Bounds : Addr
  g_Bounds : mg "Bounds" = some (.ref o_Bounds)
  cl_Bounds : Cls K o_Bounds
  na_Bounds__least : NoAttr K o_Bounds "_least"
  na_Bounds__literals : NoAttr K o_Bounds "_literals"
  m_MAX_POINTS : ∃ t, mg "MAX_POINTS" = some (.int 80 t)
  m_abs : mg "abs" = none
  m_all : mg "all" = none
  m_enumerate : mg "enumerate" = none
  m_int : mg "int" = none
  m_len : mg "len" = none
  m_list : mg "list" = none
  m_max : mg "max" = none
  m_min : mg "min" = none
  m_range : mg "range" = none
  m_sum : mg "sum" = none
  m_tuple : mg "tuple" = none
  c_NotAllowed : mg "NotAllowed" = some (.ref a_NotAllowed)
  k_NotAllowed : PySem.W.keepIn K (.ref a_NotAllowed) = true
  b_NotAllowed : PySem.W.subIn K (.ref a_NotAllowed) (.type "BaseException") = some true
  t_NotAllowed : PySem.W.typeIn K (.ref a_NotAllowed) = some (.type "type")
  d_NotAllowed : PySem.W.hasDictIn K a_NotAllowed = true
  e_NotAllowed : PySem.W.excIn K a_NotAllowed [.type "ValueError", .type "Exception", .type "BaseException", .type "object"] "ValueError.__new__" = true
  x_NotAllowed : ExcC K a_NotAllowed
  s_NotAllowed_NotAllowed : PySem.W.kitOne K (.ref a_NotAllowed) (.ref a_NotAllowed) = some true
  u_NotAllowed_NotAllowed : PySem.W.subIn K (.ref a_NotAllowed) (.ref a_NotAllowed) = some true
section
variable {P : Program} {w : World} {K : PySem.W.Frag} {mg : Str → Option Value} {base : Heap}
abbrev N_is_less : List Str := ["first", "second"]
theorem sc_is_less : FnScope ["first", "second"] ["first", "second"] (defScope s_is_less) := ⟨rfl, rfl, rfl, by decide +kernel, rfl, by decide +kernel, by decide +kernel⟩
theorem ok_is_less {f : Addr} {fd : FuncData} (F : Fun K "is_less" "is_less" s_is_less f fd) (T : Txt K mg) : FnOk P w K mg base (L2.CX P w) 1 f fd ["first", "second"] (spD K mg 2 F_is_less) := by
  have S := sc_is_less
  unfold F_is_less b_is_less
  exact fn_d F S (fun cdv A outer s H E hr => (dss_one (ds_ret (de_and (de_cmp op_isnot4 ok_isnot (de_var 0) de_non) (de_one (de_or (de_cmp op_is4 ok_is (de_var 1) de_non) (de_one (de_cmp op_lt ok_rel (de_var 0) (de_var 1)))))))))
abbrev N_joined : List Str := ["first", "second"]
theorem sc_joined : FnScope ["first", "second"] ["first", "second"] (defScope s_joined) := ⟨rfl, rfl, rfl, by decide +kernel, rfl, by decide +kernel, by decide +kernel⟩
theorem ok_joined {f : Addr} {fd : FuncData} (F : Fun K "joined" "joined" s_joined f fd) (T : Txt K mg) : FnOk P w K mg base (L2.CX P w) 1 f fd ["first", "second"] (spD K mg 2 F_joined) := by
  have S := sc_joined
  unfold F_joined b_joined
  exact fn_d F S (fun cdv A outer s H E hr => (dss_cons (ds_if (PWd.pt (dw_or (dt_cmp op_is4 ok_is (de_var 0) de_non) (dw_or1 (dt_cmp op_is4 ok_is (de_var 1) de_non)))) (dss_one (ds_ret de_non)) dss_nil) (dss_one (ds_ret (de_op op_add4 ok_add (de_var 0) (de_var 1))))))
abbrev N_Bounds__shorten : List Str := ["self", "a", "b", "c", "after", "row", "ahead", "point", "rest"]
theorem sc_Bounds__shorten : FnScope ["self", "a", "b", "c", "after", "row", "ahead", "point", "rest"] ["self", "a", "b", "c"] (defScope s_Bounds__shorten) := ⟨rfl, rfl, rfl, by decide +kernel, rfl, by decide +kernel, by decide +kernel⟩
theorem ok_Bounds__shorten {f : Addr} {fd : FuncData} (F : Fun K "_shorten" "Bounds._shorten" s_Bounds__shorten f fd) (T : Txt K mg) {f_is_less : Addr} {fd_is_less : FuncData} (G_is_less : FnOk P w K mg base (L2.CX P w) 1 f_is_less fd_is_less ["first", "second"] (spD K mg 2 F_is_less)) (m_is_less : mg "is_less" = some (.ref f_is_less)) (k_is_less : PySem.W.keepIn K (.ref f_is_less) = true) (b_is_less : Binds K fd_is_less ["first", "second"] []) {f_joined : Addr} {fd_joined : FuncData} (G_joined : FnOk P w K mg base (L2.CX P w) 1 f_joined fd_joined ["first", "second"] (spD K mg 2 F_joined)) (m_joined : mg "joined" = some (.ref f_joined)) (k_joined : PySem.W.keepIn K (.ref f_joined) = true) (b_joined : Binds K fd_joined ["first", "second"] []) : FnOk P w K mg base (L2.CX P w) 2 f fd ["self", "a", "b", "c"] (spD K mg 4 F_Bounds__shorten) := by
  have S := sc_Bounds__shorten
  unfold F_Bounds__shorten b_Bounds__shorten l_Bounds__shorten_1 l_Bounds__shorten_1_t0 l_Bounds__shorten_1_t1 l_Bounds__shorten_1_t2 l_Bounds__shorten_2
  exact fn_d F S (fun cdv A outer s H E hr => (dss_cons (ds_setComp (i := 4) (own := [("point", 7), ("rest", 8)]) rfl S.nd rfl rfl (sw_true rfl rfl rfl (by decide +kernel)) (di_enum (by rfl) T.m_enumerate (da_cons (de_ix ix_seq ok_ix (de_fld T.g_Bounds T.cl_Bounds T.na_Bounds__least (de_var 0)) (de_var 2)) da_nil)) (blkOk_by (N := N_Bounds__shorten) (sc := defScope s_Bounds__shorten) (by decide +kernel)) (nm_tup [7, 8]) (fun _ _ _ _ _ => (pg_tup rfl (pgs_cons (pg_name (i := 7) S.nd rfl (Or.inl rfl)) (pgs_cons (pg_name (i := 8) S.nd rfl (Or.inl rfl)) pgs_nil)))) (fun _ _ _ _ _ => (dts_one (dt_cmp op_isnot4 ok_isnot (de_var 8) de_non))) (fun _ _ _ _ _ => (de_tup (da_cons (de_var 7) (da_cons (de_var 8) da_nil))))) (dss_one (ds_for [5, 6, 7, 8] (passes_of rfl) rfl (di_seq (de_fld T.g_Bounds T.cl_Bounds T.na_Bounds__least (de_var 0))) (dg_n 5 S.nd rfl (Or.inl rfl)) (dss_cons (ds_set 6 S.nd rfl (Or.inl rfl) (de_call G_joined (hr.mono (by decide)) (by rfl) m_joined k_joined b_joined (takes_of rfl rfl rfl rfl) (da_cons (de_ix ix_seq ok_ix (de_var 5) (de_var 1)) (da_cons (de_var 3) da_nil)) (by rfl) dDef_len)) (dss_cons (ds_if (dt_not (dt_tru (de_call G_is_less (hr.mono (by decide)) (by rfl) m_is_less k_is_less b_is_less (takes_of rfl rfl rfl rfl) (da_cons (de_var 6) (da_cons (de_ix ix_seq ok_ix (de_var 5) (de_var 2)) da_nil)) (by rfl) dDef_len))) (dss_one ds_ctn) dss_nil) (dss_one (ds_for [7, 8] (passes_of rfl) rfl (di_seq (de_var 4)) (dg_t rfl (dgs_cons (dg_n 7 S.nd rfl (Or.inl rfl)) (dgs_cons (dg_n 8 S.nd rfl (Or.inl rfl)) dgs_nil))) (dss_one (ds_if (dt_tru (de_call G_is_less (hr.mono (by decide)) (by rfl) m_is_less k_is_less b_is_less (takes_of rfl rfl rfl rfl) (da_cons (de_op op_add4 ok_add (de_var 6) (de_var 8)) (da_cons (de_ix ix_seq ok_ix (de_var 5) (de_var 7)) da_nil)) (by rfl) dDef_len)) (dss_one (ds_asg (de_op op_add4 ok_add (de_var 6) (de_var 8)) (dg_sub set_list ok_setL (de_var 5) (de_var 7)))) dss_nil))))))))))
abbrev N_Bounds_bound : List Str := ["self", "a", "b", "n"]
theorem sc_Bounds_bound : FnScope ["self", "a", "b", "n"] ["self", "a", "b"] (defScope s_Bounds_bound) := ⟨rfl, rfl, rfl, by decide +kernel, rfl, by decide +kernel, by decide +kernel⟩
theorem ok_Bounds_bound {f : Addr} {fd : FuncData} (F : Fun K "bound" "Bounds.bound" s_Bounds_bound f fd) (T : Txt K mg) : FnOk P w K mg base (L2.CX P w) 1 f fd ["self", "a", "b"] (spD K mg 3 F_Bounds_bound) := by
  have S := sc_Bounds_bound
  unfold F_Bounds_bound b_Bounds_bound b_Bounds_bound_t0 b_Bounds_bound_t1 b_Bounds_bound_t2
  exact fn_d F S (fun cdv A outer s H E hr => (dss_cons (ds_set 3 S.nd rfl (Or.inl rfl) (de_bi call_len4 ok_len (by rfl) T.m_len (by decide +kernel) (da_cons (de_fld T.g_Bounds T.cl_Bounds T.na_Bounds__least (de_var 0)) da_nil))) (dss_cons (ds_if (PWd.pt (dw_or (dt_cmp op_lt ok_rel (de_var 1) de_int) (dw_or (dt_cmp op_lt ok_rel (de_var 2) de_int) (dw_or (dt_cmp op_ge ok_rel (de_var 1) (de_var 3)) (dw_or1 (dt_cmp op_ge ok_rel (de_var 2) (de_var 3))))))) (dss_one (ds_raise rfl (takes_of rfl rfl rfl rfl) T.e_NotAllowed T.c_NotAllowed T.k_NotAllowed T.b_NotAllowed T.t_NotAllowed (by rfl))) dss_nil) (dss_one (ds_ret (de_ix ix_seq ok_ix (de_ix ix_seq ok_ix (de_fld T.g_Bounds T.cl_Bounds T.na_Bounds__least (de_var 0)) (de_var 1)) (de_var 2)))))))
abbrev N_Bounds_add : List Str := ["self", "a", "b", "c", "back"]
theorem sc_Bounds_add : FnScope ["self", "a", "b", "c", "back"] ["self", "a", "b", "c"] (defScope s_Bounds_add) := ⟨rfl, rfl, rfl, by decide +kernel, rfl, by decide +kernel, by decide +kernel⟩
theorem ok_Bounds_add {f : Addr} {fd : FuncData} (F : Fun K "add" "Bounds.add" s_Bounds_add f fd) (T : Txt K mg) {f_Bounds__shorten : Addr} {fd_Bounds__shorten : FuncData} (G_Bounds__shorten : FnOk P w K mg base (L2.CX P w) 2 f_Bounds__shorten fd_Bounds__shorten ["self", "a", "b", "c"] (spD K mg 4 F_Bounds__shorten)) (m_Bounds__shorten : Meth K T.o_Bounds "_shorten" f_Bounds__shorten) (b_Bounds__shorten : Binds K fd_Bounds__shorten ["self", "a", "b", "c"] []) {f_Bounds_bound : Addr} {fd_Bounds_bound : FuncData} (G_Bounds_bound : FnOk P w K mg base (L2.CX P w) 1 f_Bounds_bound fd_Bounds_bound ["self", "a", "b"] (spD K mg 3 F_Bounds_bound)) (m_Bounds_bound : Meth K T.o_Bounds "bound" f_Bounds_bound) (b_Bounds_bound : Binds K fd_Bounds_bound ["self", "a", "b"] []) {f_is_less : Addr} {fd_is_less : FuncData} (G_is_less : FnOk P w K mg base (L2.CX P w) 1 f_is_less fd_is_less ["first", "second"] (spD K mg 2 F_is_less)) (m_is_less : mg "is_less" = some (.ref f_is_less)) (k_is_less : PySem.W.keepIn K (.ref f_is_less) = true) (b_is_less : Binds K fd_is_less ["first", "second"] []) : FnOk P w K mg base (L2.CX P w) 3 f fd ["self", "a", "b", "c"] (spD K mg 4 F_Bounds_add) := by
  have S := sc_Bounds_add
  unfold F_Bounds_add b_Bounds_add b_Bounds_add_t0 b_Bounds_add_t1 b_Bounds_add_t2 b_Bounds_add_t3 b_Bounds_add_t4
  exact fn_d F S (fun cdv A outer s H E hr => (dss_cons (ds_set 4 S.nd rfl (Or.inl rfl) (de_imeth T.g_Bounds T.cl_Bounds m_Bounds_bound G_Bounds_bound (hr.mono (by decide)) b_Bounds_bound (takes_of rfl rfl rfl rfl) (de_var 0) (da_cons (de_var 2) (da_cons (de_var 1) da_nil)) dDef_len)) (dss_cons (ds_if (PWd.pt (dw_and (dt_cmp op_isnot4 ok_isnot (de_var 4) de_non) (dw_and1 (dt_cmp op_lt ok_rel (de_op op_add4 ok_add (de_var 4) (de_var 3)) de_int)))) (dss_one (ds_ret de_bl)) dss_nil) (dss_cons (ds_expr (de_bm PySem.F.plainAttrs_list PySem.F.slot_list_append PySem.F.type_list_append mt_append ok_append (de_fld T.g_Bounds T.cl_Bounds T.na_Bounds__literals (de_var 0)) (da_cons (de_tup (da_cons (de_var 1) (da_cons (de_var 2) (da_cons (de_var 3) da_nil)))) da_nil))) (dss_cons (ds_if (dt_tru (de_call G_is_less (hr.mono (by decide)) (by rfl) m_is_less k_is_less b_is_less (takes_of rfl rfl rfl rfl) (da_cons (de_var 3) (da_cons (de_ix ix_seq ok_ix (de_ix ix_seq ok_ix (de_fld T.g_Bounds T.cl_Bounds T.na_Bounds__least (de_var 0)) (de_var 1)) (de_var 2)) da_nil)) (by rfl) dDef_len)) (dss_one (ds_expr (de_imeth T.g_Bounds T.cl_Bounds m_Bounds__shorten G_Bounds__shorten (hr.mono (by decide)) b_Bounds__shorten (takes_of rfl rfl rfl rfl) (de_var 0) (da_cons (de_var 1) (da_cons (de_var 2) (da_cons (de_var 3) da_nil))) dDef_len))) dss_nil) (dss_one (ds_ret de_bl)))))))
abbrev N_Bounds__low : List Str := ["self", "points", "found", "a", "b"]
theorem sc_Bounds__low : FnScope ["self", "points", "found", "a", "b"] ["self", "points"] (defScope s_Bounds__low) := ⟨rfl, rfl, rfl, by decide +kernel, rfl, by decide +kernel, by decide +kernel⟩
theorem ok_Bounds__low {f : Addr} {fd : FuncData} (F : Fun K "_low" "Bounds._low" s_Bounds__low f fd) (T : Txt K mg) : FnOk P w K mg base (L2.CX P w) 1 f fd ["self", "points"] (spD K mg 2 F_Bounds__low) := by
  have S := sc_Bounds__low
  unfold F_Bounds__low b_Bounds__low b_Bounds__low_t0 b_Bounds__low_t1 b_Bounds__low_t2 l_Bounds__low_1
  exact fn_d F S (fun cdv A outer s H E hr => (dss_cons (ds_set 2 S.nd rfl (Or.inl rfl) de_dnew) (dss_cons (ds_for [3] (passes_of rfl) rfl (di_seq (de_var 1)) (dg_n 3 S.nd rfl (Or.inr rfl)) (dss_body [3] (dss_one (ds_asg (de_bi (cr_min rfl) ok_minL (by rfl) T.m_min (by decide +kernel) (da_cons (de_comp (own := [("b", 4)]) rfl S.nd (di_seq (de_var 1)) (blkOk_by (N := N_Bounds__low) (sc := defScope s_Bounds__low) (by decide +kernel)) (nm_one 4) (fun _ _ _ _ _ => (pg_name (i := 4) S.nd rfl (Or.inl rfl))) (fun _ _ _ _ _ => (dts_one (dt_cmp op_isnot4 ok_isnot (de_ix ix_seq ok_ix (de_ix ix_seq ok_ix (de_fld T.g_Bounds T.cl_Bounds T.na_Bounds__least (de_var 0)) (de_var 3)) (de_var 4)) de_non))) (fun _ _ _ _ _ => (de_ix ix_seq ok_ix (de_ix ix_seq ok_ix (de_fld T.g_Bounds T.cl_Bounds T.na_Bounds__least (de_var 0)) (de_var 3)) (de_var 4)))) da_nil)) (dg_sub (set_dict (hu1 hr)) ok_setD (de_var 2) (de_var 3)))))) (dss_one (ds_ret (de_var 2))))))
abbrev N_Bounds_size : List Str := ["self"]
theorem sc_Bounds_size : FnScope ["self"] ["self"] (defScope s_Bounds_size) := ⟨rfl, rfl, rfl, by decide +kernel, rfl, by decide +kernel, by decide +kernel⟩
theorem ok_Bounds_size {f : Addr} {fd : FuncData} (F : Fun K "size" "Bounds.size" s_Bounds_size f fd) (T : Txt K mg) : FnOk P w K mg base (L2.CX P w) 1 f fd ["self"] (spD K mg 1 F_Bounds_size) := by
  have S := sc_Bounds_size
  unfold F_Bounds_size b_Bounds_size
  exact fn_d F S (fun cdv A outer s H E hr => (dss_one (ds_ret (de_bi call_len4 ok_len (by rfl) T.m_len (by decide +kernel) (da_cons (de_fld T.g_Bounds T.cl_Bounds T.na_Bounds__least (de_var 0)) da_nil)))))
abbrev N_moved : List Str := ["values", "value"]
theorem sc_moved : FnScope ["values", "value"] ["values"] (defScope s_moved) := ⟨rfl, rfl, rfl, by decide +kernel, rfl, by decide +kernel, by decide +kernel⟩
theorem ok_moved {f : Addr} {fd : FuncData} (F : Fun K "moved" "moved" s_moved f fd) (T : Txt K mg) : FnOk P w K mg base (L2.CX P w) 1 f fd ["values"] (spD K mg 1 F_moved) := by
  have S := sc_moved
  unfold F_moved b_moved
  exact fn_d F S (fun cdv A outer s H E hr => (dss_one (ds_ret (de_bty call_tuple_of ok_tuple (by rfl) T.m_tuple (by decide +kernel) (da_cons (de_comp (own := [("value", 1)]) rfl S.nd (di_seq (de_var 0)) (blkOk_by (N := N_moved) (sc := defScope s_moved) (by decide +kernel)) (nm_one 1) (fun _ _ _ _ _ => (pg_name (i := 1) S.nd rfl (Or.inl rfl))) (fun _ _ _ _ _ => dts_nil) (fun _ _ _ _ _ => (de_op op_sub ok_sub (de_var 1) (de_ix ix_seq ok_ix (de_var 0) de_int)))) da_nil)))))
abbrev N_Bounds_any_values : List Str := ["self", "low", "a"]
theorem sc_Bounds_any_values : FnScope ["self", "low", "a"] ["self"] (defScope s_Bounds_any_values) := ⟨rfl, rfl, rfl, by decide +kernel, rfl, by decide +kernel, by decide +kernel⟩
theorem ok_Bounds_any_values {f : Addr} {fd : FuncData} (F : Fun K "any_values" "Bounds.any_values" s_Bounds_any_values f fd) (T : Txt K mg) {f_Bounds__low : Addr} {fd_Bounds__low : FuncData} (G_Bounds__low : FnOk P w K mg base (L2.CX P w) 1 f_Bounds__low fd_Bounds__low ["self", "points"] (spD K mg 2 F_Bounds__low)) (m_Bounds__low : Meth K T.o_Bounds "_low" f_Bounds__low) (b_Bounds__low : Binds K fd_Bounds__low ["self", "points"] []) {f_Bounds_size : Addr} {fd_Bounds_size : FuncData} (G_Bounds_size : FnOk P w K mg base (L2.CX P w) 1 f_Bounds_size fd_Bounds_size ["self"] (spD K mg 1 F_Bounds_size)) (m_Bounds_size : Meth K T.o_Bounds "size" f_Bounds_size) (b_Bounds_size : Binds K fd_Bounds_size ["self"] []) {f_moved : Addr} {fd_moved : FuncData} (G_moved : FnOk P w K mg base (L2.CX P w) 1 f_moved fd_moved ["values"] (spD K mg 1 F_moved)) (m_moved : mg "moved" = some (.ref f_moved)) (k_moved : PySem.W.keepIn K (.ref f_moved) = true) (b_moved : Binds K fd_moved ["values"] []) : FnOk P w K mg base (L2.CX P w) 2 f fd ["self"] (spD K mg 1 F_Bounds_any_values) := by
  have S := sc_Bounds_any_values
  unfold F_Bounds_any_values b_Bounds_any_values
  exact fn_d F S (fun cdv A outer s H E hr => (dss_cons (ds_set 1 S.nd rfl (Or.inr rfl) (de_imeth T.g_Bounds T.cl_Bounds m_Bounds__low G_Bounds__low (hr.mono (by decide)) b_Bounds__low (takes_of rfl rfl rfl rfl) (de_var 0) (da_cons (de_listR rfl (by rfl) T.m_list (by rfl) T.m_range (de_imeth0 T.g_Bounds T.cl_Bounds m_Bounds_size G_Bounds_size (hr.mono (by decide)) b_Bounds_size (takes_of rfl rfl rfl rfl) (de_var 0) dDef_len)) da_nil) dDef_len)) (dss_one (ds_ret (de_call G_moved (hr.mono (by decide)) (by rfl) m_moved k_moved b_moved (takes_of rfl rfl rfl rfl) (da_cons (de_comp (own := [("a", 2)]) rfl S.nd (di_rng1 (by rfl) T.m_range (da_cons (de_imeth0 T.g_Bounds T.cl_Bounds m_Bounds_size G_Bounds_size (hr.mono (by decide)) b_Bounds_size (takes_of rfl rfl rfl rfl) (de_var 0) dDef_len) da_nil)) (blkOk_by (N := N_Bounds_any_values) (sc := defScope s_Bounds_any_values) (by decide +kernel)) (nm_one 2) (fun _ _ _ _ _ => (pg_name (i := 2) S.nd rfl (Or.inl rfl))) (fun _ _ _ _ _ => dts_nil) (fun _ _ _ _ _ => (de_ix (ix_dict (hu1 hr)) ok_ixD (de_var 1) (de_var 2)))) da_nil) (by rfl) dDef_len)))))
abbrev N_check_points : List Str := ["n"]
theorem sc_check_points : FnScope ["n"] ["n"] (defScope s_check_points) := ⟨rfl, rfl, rfl, by decide +kernel, rfl, by decide +kernel, by decide +kernel⟩
theorem ok_check_points {f : Addr} {fd : FuncData} (F : Fun K "check_points" "check_points" s_check_points f fd) (T : Txt K mg) : FnOk P w K mg base (L2.CX P w) 1 f fd ["n"] (spD K mg 1 F_check_points) :=
  have S := sc_check_points
  fn_d F S (fun cdv A outer s H E hr => (dss_one (ds_if (PWd.pt (dw_or (dt_cmp op_lt ok_rel (de_var 0) de_int) (dw_or1 (dt_cmp op_gt ok_rel (de_var 0) (de_gint (by rfl) T.m_MAX_POINTS.choose_spec))))) (dss_one (ds_raise rfl (takes_of rfl rfl rfl rfl) T.e_NotAllowed T.c_NotAllowed T.k_NotAllowed T.b_NotAllowed T.t_NotAllowed (by rfl))) dss_nil)))
abbrev N_Bounds___init__ : List Str := ["self", "n", "a", "_"]
theorem sc_Bounds___init__ : FnScope ["self", "n", "a", "_"] ["self", "n"] (defScope s_Bounds___init__) := ⟨rfl, rfl, rfl, by decide +kernel, rfl, by decide +kernel, by decide +kernel⟩
theorem ok_Bounds___init__ {f : Addr} {fd : FuncData} (F : Fun K "__init__" "Bounds.__init__" s_Bounds___init__ f fd) (T : Txt K mg) {f_check_points : Addr} {fd_check_points : FuncData} (G_check_points : FnOk P w K mg base (L2.CX P w) 1 f_check_points fd_check_points ["n"] (spD K mg 1 F_check_points)) (m_check_points : mg "check_points" = some (.ref f_check_points)) (k_check_points : PySem.W.keepIn K (.ref f_check_points) = true) (b_check_points : Binds K fd_check_points ["n"] []) : FnOk P w K mg base (L2.CX P w) 2 f fd ["self", "n"] (spD K mg 2 F_Bounds___init__) := by
  have S := sc_Bounds___init__
  unfold F_Bounds___init__ b_Bounds___init__ b_Bounds___init___t0 b_Bounds___init___t1 b_Bounds___init___t2 b_Bounds___init___t3 l_Bounds___init___1
  exact fn_d F S (fun cdv A outer s H E hr => (dss_cons (ds_expr (de_call G_check_points (hr.mono (by decide)) (by rfl) m_check_points k_check_points b_check_points (takes_of rfl rfl rfl rfl) (da_cons (de_var 1) da_nil) (by rfl) dDef_len)) (dss_cons (ds_fld T.g_Bounds T.cl_Bounds T.na_Bounds__literals (de_var 0) (de_lst da_nil)) (dss_cons (ds_fld T.g_Bounds T.cl_Bounds T.na_Bounds__least (de_var 0) (de_comp (own := [("_", 3)]) rfl S.nd (di_rng1 (by rfl) T.m_range (da_cons (de_var 1) da_nil)) (blkOk_by (N := N_Bounds___init__) (sc := defScope s_Bounds___init__) (by decide +kernel)) (nm_one 3) (fun _ _ _ _ _ => (pg_name (i := 3) S.nd rfl (Or.inl rfl))) (fun _ _ _ _ _ => dts_nil) (fun _ _ _ _ _ => (de_gc (de_op op_mul4 ok_mul (de_lst (da_cons de_non da_nil)) (de_var 1)))))) (dss_one (ds_for [2] (passes_of rfl) rfl (di_rng1 (by rfl) T.m_range (da_cons (de_var 1) da_nil)) (dg_n 2 S.nd rfl (Or.inl rfl)) (dss_one (ds_asg de_int (dg_sub set_list ok_setL (de_ix ix_seq ok_ix (de_fld T.g_Bounds T.cl_Bounds T.na_Bounds__least (de_var 0)) (de_var 2)) (de_var 2))))))))))
abbrev N_Bounds__take : List Str := ["self", "literals", "least", "row"]
theorem sc_Bounds__take : FnScope ["self", "literals", "least", "row"] ["self", "literals", "least"] (defScope s_Bounds__take) := ⟨rfl, rfl, rfl, by decide +kernel, rfl, by decide +kernel, by decide +kernel⟩
theorem ok_Bounds__take {f : Addr} {fd : FuncData} (F : Fun K "_take" "Bounds._take" s_Bounds__take f fd) (T : Txt K mg) : FnOk P w K mg base (L2.CX P w) 1 f fd ["self", "literals", "least"] (spD K mg 3 F_Bounds__take) := by
  have S := sc_Bounds__take
  unfold F_Bounds__take b_Bounds__take
  exact fn_d F S (fun cdv A outer s H E hr => (dss_cons (ds_fld T.g_Bounds T.cl_Bounds T.na_Bounds__literals (de_var 0) (de_bty call_list_of ok_list (by rfl) T.m_list (by decide +kernel) (da_cons (de_var 1) da_nil))) (dss_one (ds_fld T.g_Bounds T.cl_Bounds T.na_Bounds__least (de_var 0) (de_comp (own := [("row", 3)]) rfl S.nd (di_seq (de_var 2)) (blkOk_by (N := N_Bounds__take) (sc := defScope s_Bounds__take) (by decide +kernel)) (nm_one 3) (fun _ _ _ _ _ => (pg_name (i := 3) S.nd rfl (Or.inl rfl))) (fun _ _ _ _ _ => dts_nil) (fun _ _ _ _ _ => (de_gc (de_bty call_list_of ok_list (by rfl) T.m_list (by decide +kernel) (da_cons (de_var 3) da_nil)))))))))
abbrev N_Bounds_copy : List Str := ["self", "other"]
theorem sc_Bounds_copy : FnScope ["self", "other"] ["self"] (defScope s_Bounds_copy) := ⟨rfl, rfl, rfl, by decide +kernel, rfl, by decide +kernel, by decide +kernel⟩
theorem ok_Bounds_copy {f : Addr} {fd : FuncData} (F : Fun K "copy" "Bounds.copy" s_Bounds_copy f fd) (T : Txt K mg) {f_Bounds___init__ : Addr} {fd_Bounds___init__ : FuncData} (G_Bounds___init__ : FnOk P w K mg base (L2.CX P w) 2 f_Bounds___init__ fd_Bounds___init__ ["self", "n"] (spD K mg 2 F_Bounds___init__)) (m_Bounds___init__ : Mk K T.o_Bounds f_Bounds___init__) (b_Bounds___init__ : Binds K fd_Bounds___init__ ["self", "n"] []) {f_Bounds__take : Addr} {fd_Bounds__take : FuncData} (G_Bounds__take : FnOk P w K mg base (L2.CX P w) 1 f_Bounds__take fd_Bounds__take ["self", "literals", "least"] (spD K mg 3 F_Bounds__take)) (m_Bounds__take : Meth K T.o_Bounds "_take" f_Bounds__take) (b_Bounds__take : Binds K fd_Bounds__take ["self", "literals", "least"] []) {f_Bounds_size : Addr} {fd_Bounds_size : FuncData} (G_Bounds_size : FnOk P w K mg base (L2.CX P w) 1 f_Bounds_size fd_Bounds_size ["self"] (spD K mg 1 F_Bounds_size)) (m_Bounds_size : Meth K T.o_Bounds "size" f_Bounds_size) (b_Bounds_size : Binds K fd_Bounds_size ["self"] []) : FnOk P w K mg base (L2.CX P w) 4 f fd ["self"] (spD K mg 1 F_Bounds_copy) := by
  have S := sc_Bounds_copy
  unfold F_Bounds_copy b_Bounds_copy b_Bounds_copy_t0 b_Bounds_copy_t1 b_Bounds_copy_t2
  exact fn_d F S (fun cdv A outer s H E hr => (dss_cons (ds_set 1 S.nd rfl (Or.inl rfl) (de_make m_Bounds___init__ G_Bounds___init__ (hr.mono (by decide)) (by rfl) T.g_Bounds b_Bounds___init__ (takes_of rfl rfl rfl rfl) (da_cons (de_imeth0 T.g_Bounds T.cl_Bounds m_Bounds_size G_Bounds_size (hr.mono (by decide)) b_Bounds_size (takes_of rfl rfl rfl rfl) (de_var 0) dDef_len) da_nil) dDef_len)) (dss_cons (ds_expr (de_imeth T.g_Bounds T.cl_Bounds m_Bounds__take G_Bounds__take (hr.mono (by decide)) b_Bounds__take (takes_of rfl rfl rfl rfl) (de_var 1) (da_cons (de_fld T.g_Bounds T.cl_Bounds T.na_Bounds__literals (de_var 0)) (da_cons (de_fld T.g_Bounds T.cl_Bounds T.na_Bounds__least (de_var 0)) da_nil)) dDef_len)) (dss_one (ds_ret (de_var 1))))))
abbrev N__law_taken : List Str := ["_law_n", "_law_literals_here", "_law_bounds", "_law_a", "_law_b", "_law_c"]
theorem sc__law_taken : FnScope ["_law_n", "_law_literals_here", "_law_bounds", "_law_a", "_law_b", "_law_c"] ["_law_n", "_law_literals_here"] (defScope s__law_taken) := ⟨rfl, rfl, rfl, by decide +kernel, rfl, by decide +kernel, by decide +kernel⟩
theorem ok__law_taken {f : Addr} {fd : FuncData} (F : Fun K "_law_taken" "_law_taken" s__law_taken f fd) (T : Txt K mg) {f_Bounds___init__ : Addr} {fd_Bounds___init__ : FuncData} (G_Bounds___init__ : FnOk P w K mg base (L2.CX P w) 2 f_Bounds___init__ fd_Bounds___init__ ["self", "n"] (spD K mg 2 F_Bounds___init__)) (m_Bounds___init__ : Mk K T.o_Bounds f_Bounds___init__) (b_Bounds___init__ : Binds K fd_Bounds___init__ ["self", "n"] []) {f_Bounds_add : Addr} {fd_Bounds_add : FuncData} (G_Bounds_add : FnOk P w K mg base (L2.CX P w) 3 f_Bounds_add fd_Bounds_add ["self", "a", "b", "c"] (spD K mg 4 F_Bounds_add)) (m_Bounds_add : Meth K T.o_Bounds "add" f_Bounds_add) (b_Bounds_add : Binds K fd_Bounds_add ["self", "a", "b", "c"] []) : FnOk P w K mg base (L2.CX P w) 4 f fd ["_law_n", "_law_literals_here"] (spD K mg 2 F__law_taken) := by
  have S := sc__law_taken
  unfold F__law_taken b__law_taken b__law_taken_t0 b__law_taken_t1 b__law_taken_t2 l__law_taken_1
  exact fn_d F S (fun cdv A outer s H E hr => (dss_cons (ds_set 2 S.nd rfl (Or.inl rfl) (de_make m_Bounds___init__ G_Bounds___init__ (hr.mono (by decide)) (by rfl) T.g_Bounds b_Bounds___init__ (takes_of rfl rfl rfl rfl) (da_cons (de_var 0) da_nil) dDef_len)) (dss_cons (ds_for [3, 4, 5] (passes_of rfl) rfl (di_seq (de_var 1)) (dg_t rfl (dgs_cons (dg_n 3 S.nd rfl (Or.inl rfl)) (dgs_cons (dg_n 4 S.nd rfl (Or.inl rfl)) (dgs_cons (dg_n 5 S.nd rfl (Or.inl rfl)) dgs_nil)))) (dss_one (ds_if (dt_not (dt_tru (de_imeth T.g_Bounds T.cl_Bounds m_Bounds_add G_Bounds_add (hr.mono (by decide)) b_Bounds_add (takes_of rfl rfl rfl rfl) (de_var 2) (da_cons (de_var 3) (da_cons (de_var 4) (da_cons (de_var 5) da_nil))) dDef_len))) (dss_one (ds_ret de_non)) dss_nil))) (dss_one (ds_ret (de_var 2))))))
abbrev N_check_point : List Str := ["n", "a"]
theorem sc_check_point : FnScope ["n", "a"] ["n", "a"] (defScope s_check_point) := ⟨rfl, rfl, rfl, by decide +kernel, rfl, by decide +kernel, by decide +kernel⟩
theorem ok_check_point {f : Addr} {fd : FuncData} (F : Fun K "check_point" "check_point" s_check_point f fd) (T : Txt K mg) : FnOk P w K mg base (L2.CX P w) 1 f fd ["n", "a"] (spD K mg 2 F_check_point) :=
  have S := sc_check_point
  fn_d F S (fun cdv A outer s H E hr => (dss_one (ds_if (PWd.pt (dw_or (dt_cmp op_lt ok_rel (de_var 1) de_int) (dw_or1 (dt_cmp op_ge ok_rel (de_var 1) (de_var 0))))) (dss_one (ds_raise rfl (takes_of rfl rfl rfl rfl) T.e_NotAllowed T.c_NotAllowed T.k_NotAllowed T.b_NotAllowed T.t_NotAllowed (by rfl))) dss_nil)))
abbrev N_check_literals : List Str := ["n", "literals", "a", "b", "_"]
theorem sc_check_literals : FnScope ["n", "literals", "a", "b", "_"] ["n", "literals"] (defScope s_check_literals) := ⟨rfl, rfl, rfl, by decide +kernel, rfl, by decide +kernel, by decide +kernel⟩
theorem ok_check_literals {f : Addr} {fd : FuncData} (F : Fun K "check_literals" "check_literals" s_check_literals f fd) (T : Txt K mg) {f_check_point : Addr} {fd_check_point : FuncData} (G_check_point : FnOk P w K mg base (L2.CX P w) 1 f_check_point fd_check_point ["n", "a"] (spD K mg 2 F_check_point)) (m_check_point : mg "check_point" = some (.ref f_check_point)) (k_check_point : PySem.W.keepIn K (.ref f_check_point) = true) (b_check_point : Binds K fd_check_point ["n", "a"] []) {f_check_points : Addr} {fd_check_points : FuncData} (G_check_points : FnOk P w K mg base (L2.CX P w) 1 f_check_points fd_check_points ["n"] (spD K mg 1 F_check_points)) (m_check_points : mg "check_points" = some (.ref f_check_points)) (k_check_points : PySem.W.keepIn K (.ref f_check_points) = true) (b_check_points : Binds K fd_check_points ["n"] []) : FnOk P w K mg base (L2.CX P w) 2 f fd ["n", "literals"] (spD K mg 2 F_check_literals) :=
  have S := sc_check_literals
  fn_d F S (fun cdv A outer s H E hr => (dss_cons (ds_expr (de_call G_check_points (hr.mono (by decide)) (by rfl) m_check_points k_check_points b_check_points (takes_of rfl rfl rfl rfl) (da_cons (de_var 0) da_nil) (by rfl) dDef_len)) (dss_one (ds_for [2, 3, 4] (passes_of rfl) rfl (di_seq (de_var 1)) (dg_t rfl (dgs_cons (dg_n 2 S.nd rfl (Or.inl rfl)) (dgs_cons (dg_n 3 S.nd rfl (Or.inl rfl)) (dgs_cons (dg_n 4 S.nd rfl (Or.inl rfl)) dgs_nil)))) (dss_cons (ds_expr (de_call G_check_point (hr.mono (by decide)) (by rfl) m_check_point k_check_point b_check_point (takes_of rfl rfl rfl rfl) (da_cons (de_var 0) (da_cons (de_var 2) da_nil)) (by rfl) dDef_len)) (dss_one (ds_expr (de_call G_check_point (hr.mono (by decide)) (by rfl) m_check_point k_check_point b_check_point (takes_of rfl rfl rfl rfl) (da_cons (de_var 0) (da_cons (de_var 3) da_nil)) (by rfl) dDef_len))))))))
abbrev N_ring_at : List Str := ["n", "last", "start", "ring", "at", "_"]
theorem sc_ring_at : FnScope ["n", "last", "start", "ring", "at", "_"] ["n", "last", "start"] (defScope s_ring_at) := ⟨rfl, rfl, rfl, by decide +kernel, rfl, by decide +kernel, by decide +kernel⟩
theorem ok_ring_at {f : Addr} {fd : FuncData} (F : Fun K "ring_at" "ring_at" s_ring_at f fd) (T : Txt K mg) : FnOk P w K mg base (L2.CX P w) 1 f fd ["n", "last", "start"] (spD K mg 3 F_ring_at) :=
  have S := sc_ring_at
  fn_d F S (fun cdv A outer s H E hr => (dss_cons (ds_set 3 S.nd rfl (Or.inl rfl) (de_lst da_nil)) (dss_cons (ds_set 4 S.nd rfl (Or.inl rfl) (de_var 2)) (dss_cons (ds_for [5] (passes_of rfl) rfl (di_rng1 (by rfl) T.m_range (da_cons (de_var 0) da_nil)) (dg_n 5 S.nd rfl (Or.inl rfl)) (dss_cons (ds_if (dt_cmp op_is4 ok_is (de_ix ix_seq ok_ix (de_var 1) (de_var 4)) de_non) (dss_one (ds_ret de_non)) dss_nil) (dss_cons (ds_expr (de_bm PySem.F.plainAttrs_list PySem.F.slot_list_append PySem.F.type_list_append mt_append ok_append (de_var 3) (da_cons (de_ix ix_seq ok_ix (de_var 1) (de_var 4)) da_nil))) (dss_cons (ds_set 4 S.nd rfl (Or.inl rfl) (de_ix ix_seq ok_ix (de_ix ix_seq ok_ix (de_var 1) (de_var 4)) de_int)) (dss_one (ds_if (dt_cmp (op_eqP (Room.units hr)) ok_eq (de_var 4) (de_var 2)) (dss_one (ds_ret (de_bty call_tuple_of ok_tuple (by rfl) T.m_tuple (by decide +kernel) (da_cons (de_var 3) da_nil)))) dss_nil)))))) (dss_one (ds_ret de_non))))))
abbrev N_ring_from : List Str := ["n", "last", "start", "at", "_", "ring"]
theorem sc_ring_from : FnScope ["n", "last", "start", "at", "_", "ring"] ["n", "last", "start"] (defScope s_ring_from) := ⟨rfl, rfl, rfl, by decide +kernel, rfl, by decide +kernel, by decide +kernel⟩
theorem ok_ring_from {f : Addr} {fd : FuncData} (F : Fun K "ring_from" "ring_from" s_ring_from f fd) (T : Txt K mg) : FnOk P w K mg base (L2.CX P w) 1 f fd ["n", "last", "start"] (spD K mg 3 F_ring_from) :=
  have S := sc_ring_from
  fn_d F S (fun cdv A outer s H E hr => (dss_cons (ds_set 3 S.nd rfl (Or.inl rfl) (de_var 2)) (dss_cons (ds_for [4] (passes_of rfl) rfl (di_rng1 (by rfl) T.m_range (da_cons (de_var 0) da_nil)) (dg_n 4 S.nd rfl (Or.inl rfl)) (dss_one (ds_set 3 S.nd rfl (Or.inl rfl) (de_ix ix_seq ok_ix (de_ix ix_seq ok_ix (de_var 1) (de_var 3)) de_int)))) (dss_cons (ds_set 5 S.nd rfl (Or.inl rfl) (de_lst (da_cons (de_ix ix_seq ok_ix (de_var 1) (de_var 3)) da_nil))) (dss_cons (ds_while [] (passes_of rfl) (dt_cmp (op_neP (Room.units hr)) ok_eq (de_ix ix_seq ok_ix (de_ix ix_seq ok_ix (de_var 5) (de_un un_neg ok_neg de_int)) de_int) (de_var 3)) (dss_one (ds_expr (de_bm PySem.F.plainAttrs_list PySem.F.slot_list_append PySem.F.type_list_append mt_append ok_append (de_var 5) (da_cons (de_ix ix_seq ok_ix (de_var 1) (de_ix ix_seq ok_ix (de_ix ix_seq ok_ix (de_var 5) (de_un un_neg ok_neg de_int)) de_int)) da_nil))))) (dss_one (ds_ret (de_bty call_tuple_of ok_tuple (by rfl) T.m_tuple (by decide +kernel) (da_cons (de_var 5) da_nil)))))))))
abbrev N_find_ring : List Str := ["n", "literals", "values", "last", "lowered", "_", "literal", "a", "b", "c", "ring"]
theorem sc_find_ring : FnScope ["n", "literals", "values", "last", "lowered", "_", "literal", "a", "b", "c", "ring"] ["n", "literals"] (defScope s_find_ring) := ⟨rfl, rfl, rfl, by decide +kernel, rfl, by decide +kernel, by decide +kernel⟩
theorem ok_find_ring {f : Addr} {fd : FuncData} (F : Fun K "find_ring" "find_ring" s_find_ring f fd) (T : Txt K mg) {f_check_literals : Addr} {fd_check_literals : FuncData} (G_check_literals : FnOk P w K mg base (L2.CX P w) 2 f_check_literals fd_check_literals ["n", "literals"] (spD K mg 2 F_check_literals)) (m_check_literals : mg "check_literals" = some (.ref f_check_literals)) (k_check_literals : PySem.W.keepIn K (.ref f_check_literals) = true) (b_check_literals : Binds K fd_check_literals ["n", "literals"] []) {f_ring_at : Addr} {fd_ring_at : FuncData} (G_ring_at : FnOk P w K mg base (L2.CX P w) 1 f_ring_at fd_ring_at ["n", "last", "start"] (spD K mg 3 F_ring_at)) (m_ring_at : mg "ring_at" = some (.ref f_ring_at)) (k_ring_at : PySem.W.keepIn K (.ref f_ring_at) = true) (b_ring_at : Binds K fd_ring_at ["n", "last", "start"] []) {f_ring_from : Addr} {fd_ring_from : FuncData} (G_ring_from : FnOk P w K mg base (L2.CX P w) 1 f_ring_from fd_ring_from ["n", "last", "start"] (spD K mg 3 F_ring_from)) (m_ring_from : mg "ring_from" = some (.ref f_ring_from)) (k_ring_from : PySem.W.keepIn K (.ref f_ring_from) = true) (b_ring_from : Binds K fd_ring_from ["n", "last", "start"] []) : FnOk P w K mg base (L2.CX P w) 3 f fd ["n", "literals"] (spD K mg 2 F_find_ring) :=
  have S := sc_find_ring
  fn_d F S (fun cdv A outer s H E hr => (dss_cons (ds_expr (de_call G_check_literals (hr.mono (by decide)) (by rfl) m_check_literals k_check_literals b_check_literals (takes_of rfl rfl rfl rfl) (da_cons (de_var 0) (da_cons (de_var 1) da_nil)) (by rfl) dDef_len)) (dss_cons (ds_set 2 S.nd rfl (Or.inl rfl) (de_op op_mul4 ok_mul (de_lst (da_cons de_int da_nil)) (de_var 0))) (dss_cons (ds_set 3 S.nd rfl (Or.inl rfl) (de_op op_mul4 ok_mul (de_lst (da_cons de_non da_nil)) (de_var 0))) (dss_cons (ds_set 4 S.nd rfl (Or.inl rfl) de_non) (dss_cons (ds_for [5, 6, 7, 8, 9, 10] (passes_of rfl) rfl (di_rng1 (by rfl) T.m_range (da_cons (de_op op_add4 ok_add (de_var 0) de_int) da_nil)) (dg_n 5 S.nd rfl (Or.inl rfl)) (dss_cons (ds_set 4 S.nd rfl (Or.inl rfl) de_non) (dss_cons (ds_for [6, 7, 8, 9] (passes_of rfl) rfl (di_seq (de_var 1)) (dg_n 6 S.nd rfl (Or.inl rfl)) (dss_cons (ds_asg (de_var 6) (dg_t rfl (dgs_cons (dg_n 7 S.nd rfl (Or.inl rfl)) (dgs_cons (dg_n 8 S.nd rfl (Or.inl rfl)) (dgs_cons (dg_n 9 S.nd rfl (Or.inl rfl)) dgs_nil))))) (dss_one (ds_if (dt_cmp op_gt ok_rel (de_ix ix_seq ok_ix (de_var 2) (de_var 7)) (de_op op_add4 ok_add (de_ix ix_seq ok_ix (de_var 2) (de_var 8)) (de_var 9))) (dss_cons (ds_asg (de_op op_add4 ok_add (de_ix ix_seq ok_ix (de_var 2) (de_var 8)) (de_var 9)) (dg_sub set_list ok_setL (de_var 2) (de_var 7))) (dss_cons (ds_asg (de_var 6) (dg_sub set_list ok_setL (de_var 3) (de_var 7))) (dss_one (ds_set 4 S.nd rfl (Or.inl rfl) (de_var 7))))) dss_nil)))) (dss_cons (ds_if (dt_cmp op_is4 ok_is (de_var 4) de_non) (dss_one (ds_ret de_non)) dss_nil) (dss_cons (ds_set 10 S.nd rfl (Or.inl rfl) (de_call G_ring_at (hr.mono (by decide)) (by rfl) m_ring_at k_ring_at b_ring_at (takes_of rfl rfl rfl rfl) (da_cons (de_var 0) (da_cons (de_var 3) (da_cons (de_var 4) da_nil))) (by rfl) dDef_len)) (dss_one (ds_if (dt_cmp op_isnot4 ok_isnot (de_var 10) de_non) (dss_one (ds_ret (de_var 10))) dss_nil))))))) (dss_one (ds_ret (de_call G_ring_from (hr.mono (by decide)) (by rfl) m_ring_from k_ring_from b_ring_from (takes_of rfl rfl rfl rfl) (da_cons (de_var 0) (da_cons (de_var 3) (da_cons (de_var 4) da_nil))) (by rfl) dDef_len)))))))))
abbrev N_is_ring : List Str := ["ring", "_", "c", "at"]
theorem sc_is_ring : FnScope ["ring", "_", "c", "at"] ["ring"] (defScope s_is_ring) := ⟨rfl, rfl, rfl, by decide +kernel, rfl, by decide +kernel, by decide +kernel⟩
theorem ok_is_ring {f : Addr} {fd : FuncData} (F : Fun K "is_ring" "is_ring" s_is_ring f fd) (T : Txt K mg) : FnOk P w K mg base (L2.CX P w) 1 f fd ["ring"] (spD K mg 1 F_is_ring) :=
  have S := sc_is_ring
  fn_d F S (fun cdv A outer s H E hr => (dss_cons (ds_if (PWd.pt (dw_or (dt_cmp (op_eqP (Room.units hr)) ok_eq (de_bi call_len4 ok_len (by rfl) T.m_len (by decide +kernel) (da_cons (de_var 0) da_nil)) de_int) (dw_or1 (dt_cmp op_ge ok_rel (de_bi (cr_sum rfl) ok_sumL (by rfl) T.m_sum (by decide +kernel) (da_cons (de_comp (own := [("_", 1), ("c", 2)]) rfl S.nd (di_seq (de_var 0)) (blkOk_by (N := N_is_ring) (sc := defScope s_is_ring) (by decide +kernel)) (nm_tup [1, 1, 2]) (fun _ _ _ _ _ => (pg_tup rfl (pgs_cons (pg_name (i := 1) S.nd rfl (Or.inl rfl)) (pgs_cons (pg_name (i := 1) S.nd rfl (Or.inl rfl)) (pgs_cons (pg_name (i := 2) S.nd rfl (Or.inl rfl)) pgs_nil))))) (fun _ _ _ _ _ => dts_nil) (fun _ _ _ _ _ => (de_var 2))) da_nil)) de_int)))) (dss_one (ds_ret de_bl)) dss_nil) (dss_one (ds_ret (de_bi (cr_all rfl) ok_allL (by rfl) T.m_all (by decide +kernel) (da_cons (de_comp (own := [("at", 3)]) rfl S.nd (di_rng1 (by rfl) T.m_range (da_cons (de_bi call_len4 ok_len (by rfl) T.m_len (by decide +kernel) (da_cons (de_var 0) da_nil)) da_nil)) (blkOk_by (N := N_is_ring) (sc := defScope s_is_ring) (by decide +kernel)) (nm_one 3) (fun _ _ _ _ _ => (pg_name (i := 3) S.nd rfl (Or.inl rfl))) (fun _ _ _ _ _ => dts_nil) (fun _ _ _ _ _ => (de_cmp (op_eqP (Room.units hr)) ok_eq (de_ix ix_seq ok_ix (de_ix ix_seq ok_ix (de_var 0) (de_var 3)) de_int) (de_ix ix_seq ok_ix (de_ix ix_seq ok_ix (de_var 0) (de_op op_sub ok_sub (de_var 3) de_int)) de_int)))) da_nil))))))
abbrev N_satisfies : List Str := ["values", "literals", "a", "b", "c"]
theorem sc_satisfies : FnScope ["values", "literals", "a", "b", "c"] ["values", "literals"] (defScope s_satisfies) := ⟨rfl, rfl, rfl, by decide +kernel, rfl, by decide +kernel, by decide +kernel⟩
theorem ok_satisfies {f : Addr} {fd : FuncData} (F : Fun K "satisfies" "satisfies" s_satisfies f fd) (T : Txt K mg) : FnOk P w K mg base (L2.CX P w) 1 f fd ["values", "literals"] (spD K mg 2 F_satisfies) :=
  have S := sc_satisfies
  fn_d F S (fun cdv A outer s H E hr => (dss_one (ds_ret (de_bi (cr_all rfl) ok_allL (by rfl) T.m_all (by decide +kernel) (da_cons (de_comp (own := [("a", 2), ("b", 3), ("c", 4)]) rfl S.nd (di_seq (de_var 1)) (blkOk_by (N := N_satisfies) (sc := defScope s_satisfies) (by decide +kernel)) (nm_tup [2, 3, 4]) (fun _ _ _ _ _ => (pg_tup rfl (pgs_cons (pg_name (i := 2) S.nd rfl (Or.inl rfl)) (pgs_cons (pg_name (i := 3) S.nd rfl (Or.inl rfl)) (pgs_cons (pg_name (i := 4) S.nd rfl (Or.inl rfl)) pgs_nil))))) (fun _ _ _ _ _ => dts_nil) (fun _ _ _ _ _ => (de_cmp op_le ok_rel (de_op op_sub ok_sub (de_ix ix_seq ok_ix (de_var 0) (de_var 2)) (de_ix ix_seq ok_ix (de_var 0) (de_var 3))) (de_var 4)))) da_nil)))))
abbrev N__law_either : List Str := ["_law_n", "_law_literals_here", "_law_bounds", "_law_ring"]
theorem sc__law_either : FnScope ["_law_n", "_law_literals_here", "_law_bounds", "_law_ring"] ["_law_n", "_law_literals_here"] (defScope s__law_either) := ⟨rfl, rfl, rfl, by decide +kernel, rfl, by decide +kernel, by decide +kernel⟩
theorem ok__law_either {f : Addr} {fd : FuncData} (F : Fun K "_law_either" "_law_either" s__law_either f fd) (T : Txt K mg) {f_Bounds_any_values : Addr} {fd_Bounds_any_values : FuncData} (G_Bounds_any_values : FnOk P w K mg base (L2.CX P w) 2 f_Bounds_any_values fd_Bounds_any_values ["self"] (spD K mg 1 F_Bounds_any_values)) (m_Bounds_any_values : Meth K T.o_Bounds "any_values" f_Bounds_any_values) (b_Bounds_any_values : Binds K fd_Bounds_any_values ["self"] []) {f__law_taken : Addr} {fd__law_taken : FuncData} (G__law_taken : FnOk P w K mg base (L2.CX P w) 4 f__law_taken fd__law_taken ["_law_n", "_law_literals_here"] (spD K mg 2 F__law_taken)) (m__law_taken : mg "_law_taken" = some (.ref f__law_taken)) (k__law_taken : PySem.W.keepIn K (.ref f__law_taken) = true) (b__law_taken : Binds K fd__law_taken ["_law_n", "_law_literals_here"] []) {f_find_ring : Addr} {fd_find_ring : FuncData} (G_find_ring : FnOk P w K mg base (L2.CX P w) 3 f_find_ring fd_find_ring ["n", "literals"] (spD K mg 2 F_find_ring)) (m_find_ring : mg "find_ring" = some (.ref f_find_ring)) (k_find_ring : PySem.W.keepIn K (.ref f_find_ring) = true) (b_find_ring : Binds K fd_find_ring ["n", "literals"] []) {f_is_ring : Addr} {fd_is_ring : FuncData} (G_is_ring : FnOk P w K mg base (L2.CX P w) 1 f_is_ring fd_is_ring ["ring"] (spD K mg 1 F_is_ring)) (m_is_ring : mg "is_ring" = some (.ref f_is_ring)) (k_is_ring : PySem.W.keepIn K (.ref f_is_ring) = true) (b_is_ring : Binds K fd_is_ring ["ring"] []) {f_satisfies : Addr} {fd_satisfies : FuncData} (G_satisfies : FnOk P w K mg base (L2.CX P w) 1 f_satisfies fd_satisfies ["values", "literals"] (spD K mg 2 F_satisfies)) (m_satisfies : mg "satisfies" = some (.ref f_satisfies)) (k_satisfies : PySem.W.keepIn K (.ref f_satisfies) = true) (b_satisfies : Binds K fd_satisfies ["values", "literals"] []) : FnOk P w K mg base (L2.CX P w) 5 f fd ["_law_n", "_law_literals_here"] (spD K mg 2 F__law_either) := by
  have S := sc__law_either
  unfold F__law_either b__law_either b__law_either_t0 b__law_either_t1 b__law_either_t2 b__law_either_t3 b__law_either_t4
  exact fn_d F S (fun cdv A outer s H E hr => (dss_cons (ds_set 2 S.nd rfl (Or.inl rfl) (de_call G__law_taken (hr.mono (by decide)) (by rfl) m__law_taken k__law_taken b__law_taken (takes_of rfl rfl rfl rfl) (da_cons (de_var 0) (da_cons (de_var 1) da_nil)) (by rfl) dDef_len)) (dss_cons (ds_set 3 S.nd rfl (Or.inl rfl) (de_call G_find_ring (hr.mono (by decide)) (by rfl) m_find_ring k_find_ring b_find_ring (takes_of rfl rfl rfl rfl) (da_cons (de_var 0) (da_cons (de_var 1) da_nil)) (by rfl) dDef_len)) (dss_cons (ds_if (dt_cmp op_isnot4 ok_isnot (de_var 2) de_non) (dss_one (ds_ret (de_and (de_cmp op_is4 ok_is (de_var 3) de_non) (de_and (de_call G_satisfies (hr.mono (by decide)) (by rfl) m_satisfies k_satisfies b_satisfies (takes_of rfl rfl rfl rfl) (da_cons (de_imeth0 T.g_Bounds T.cl_Bounds m_Bounds_any_values G_Bounds_any_values (hr.mono (by decide)) b_Bounds_any_values (takes_of rfl rfl rfl rfl) (de_var 2) dDef_len) (da_cons (de_var 1) da_nil)) (by rfl) dDef_len) (de_one (de_cmp (op_eqP (Room.units hr)) ok_eq (de_ix ix_seq ok_ix (de_imeth0 T.g_Bounds T.cl_Bounds m_Bounds_any_values G_Bounds_any_values (hr.mono (by decide)) b_Bounds_any_values (takes_of rfl rfl rfl rfl) (de_var 2) dDef_len) de_int) de_int)))))) dss_nil) (dss_cons (ds_if (PWd.pt (dw_or (dt_cmp op_is4 ok_is (de_var 3) de_non) (dw_or (dt_not (dt_tru (de_call G_is_ring (hr.mono (by decide)) (by rfl) m_is_ring k_is_ring b_is_ring (takes_of rfl rfl rfl rfl) (da_cons (de_var 3) da_nil) (by rfl) dDef_len))) (dw_or1 (dt_cmp op_isnot4 ok_isnot (de_call G__law_taken (hr.mono (by decide)) (by rfl) m__law_taken k__law_taken b__law_taken (takes_of rfl rfl rfl rfl) (da_cons (de_var 0) (da_cons (de_bty call_list_of ok_list (by rfl) T.m_list (by decide +kernel) (da_cons (de_var 3) da_nil)) da_nil)) (by rfl) dDef_len) de_non))))) (dss_one (ds_ret de_bl)) dss_nil) (dss_one (ds_ret (de_cmp op_isnot4 ok_isnot (de_call G_find_ring (hr.mono (by decide)) (by rfl) m_find_ring k_find_ring b_find_ring (takes_of rfl rfl rfl rfl) (da_cons (de_var 0) (da_cons (de_bty call_list_of ok_list (by rfl) T.m_list (by decide +kernel) (da_cons (de_var 3) da_nil)) da_nil)) (by rfl) dDef_len) de_non))))))))
abbrev N__law_literals : List Str := ["_law_numbers_here", "_law_at", "_law_n", "_law_count", "_law_size", "_law_literals_here", "_law_k", "_law_number", "_law_a", "_law_b"]
theorem sc__law_literals : FnScope ["_law_numbers_here", "_law_at", "_law_n", "_law_count", "_law_size", "_law_literals_here", "_law_k", "_law_number", "_law_a", "_law_b"] ["_law_numbers_here", "_law_at", "_law_n", "_law_count", "_law_size"] (defScope s__law_literals) := ⟨rfl, rfl, rfl, by decide +kernel, rfl, by decide +kernel, by decide +kernel⟩
theorem ok__law_literals {f : Addr} {fd : FuncData} (F : Fun K "_law_literals" "_law_literals" s__law_literals f fd) (T : Txt K mg) : FnOk P w K mg base (L2.CX P w) 1 f fd ["_law_numbers_here", "_law_at", "_law_n", "_law_count", "_law_size"] (spD K mg 5 F__law_literals) := by
  have S := sc__law_literals
  unfold F__law_literals b__law_literals b__law_literals_t0 b__law_literals_t1 b__law_literals_t2 l__law_literals_1 l__law_literals_1_t0 l__law_literals_1_t1 l__law_literals_1_t2 l__law_literals_1_t3
  exact fn_d F S (fun cdv A outer s H E hr => (dss_cons (ds_set 5 S.nd rfl (Or.inl rfl) (de_lst da_nil)) (dss_cons (ds_for [6, 7, 8, 9] (passes_of rfl) rfl (di_rng1 (by rfl) T.m_range (da_cons (de_var 3) da_nil)) (dg_n 6 S.nd rfl (Or.inl rfl)) (dss_cons (ds_set 7 S.nd rfl (Or.inl rfl) (de_ix ix_seq ok_ix (de_var 0) (de_op op_mod ok_mod (de_bty call_int1 ok_int (by rfl) T.m_int (by decide +kernel) (da_cons (de_op op_add4 ok_add (de_var 1) (de_var 6)) da_nil)) (de_bi call_len4 ok_len (by rfl) T.m_len (by decide +kernel) (da_cons (de_var 0) da_nil))))) (dss_cons (ds_set 8 S.nd rfl (Or.inl rfl) (de_op op_mod ok_mod (de_var 7) (de_var 2))) (dss_cons (ds_set 9 S.nd rfl (Or.inl rfl) (de_op op_mod ok_mod (de_op op_fdiv ok_div (de_var 7) de_int) (de_var 2))) (dss_one (ds_expr (de_bm PySem.F.plainAttrs_list PySem.F.slot_list_append PySem.F.type_list_append mt_append ok_append (de_var 5) (da_cons (de_tup (da_cons (de_var 8) (da_cons (de_var 9) (da_cons (de_op op_sub ok_sub (de_op op_mod ok_mod (de_op op_fdiv ok_div (de_var 7) de_int) (de_op op_add4 ok_add (de_op op_mul4 ok_mul de_int (de_var 4)) de_int)) (de_op op_fdiv ok_div (de_var 4) de_int)) da_nil)))) da_nil)))))))) (dss_one (ds_ret (de_var 5))))))
abbrev N__law_long : List Str := ["_law_numbers_here", "_law_n", "_law_target", "_law_steps", "_law_literals_here", "_law_k", "_law_ring", "_law_one"]
theorem sc__law_long : FnScope ["_law_numbers_here", "_law_n", "_law_target", "_law_steps", "_law_literals_here", "_law_k", "_law_ring", "_law_one"] ["_law_numbers_here"] (defScope s__law_long) := ⟨rfl, rfl, rfl, by decide +kernel, rfl, by decide +kernel, by decide +kernel⟩
theorem ok__law_long {f : Addr} {fd : FuncData} (F : Fun K "_law_long" "_law_long" s__law_long f fd) (T : Txt K mg) {f_find_ring : Addr} {fd_find_ring : FuncData} (G_find_ring : FnOk P w K mg base (L2.CX P w) 3 f_find_ring fd_find_ring ["n", "literals"] (spD K mg 2 F_find_ring)) (m_find_ring : mg "find_ring" = some (.ref f_find_ring)) (k_find_ring : PySem.W.keepIn K (.ref f_find_ring) = true) (b_find_ring : Binds K fd_find_ring ["n", "literals"] []) {f_is_ring : Addr} {fd_is_ring : FuncData} (G_is_ring : FnOk P w K mg base (L2.CX P w) 1 f_is_ring fd_is_ring ["ring"] (spD K mg 1 F_is_ring)) (m_is_ring : mg "is_ring" = some (.ref f_is_ring)) (k_is_ring : PySem.W.keepIn K (.ref f_is_ring) = true) (b_is_ring : Binds K fd_is_ring ["ring"] []) : FnOk P w K mg base (L2.CX P w) 4 f fd ["_law_numbers_here"] (spD K mg 1 F__law_long) := by
  have S := sc__law_long
  unfold F__law_long b__law_long b__law_long_t0 b__law_long_t1 b__law_long_t2 b__law_long_t3 b__law_long_t4 b__law_long_t5 b__law_long_t6 b__law_long_t7 b__law_long_t8 b__law_long_t9 l__law_long_1
  exact fn_d F S (fun cdv A outer s H E hr => (dss_cons (ds_set 1 S.nd rfl (Or.inr rfl) (de_op op_add4 ok_add de_int (de_op op_mod ok_mod (de_ix ix_seq ok_ix (de_var 0) de_int) de_int))) (dss_cons (ds_set 2 S.nd rfl (Or.inl rfl) (de_op op_sub ok_sub de_int (de_op op_mod ok_mod (de_ix ix_seq ok_ix (de_var 0) de_int) de_int))) (dss_cons (ds_set 3 S.nd rfl (Or.inr rfl) (de_comp (own := [("_law_k", 5)]) rfl S.nd (di_rng1 (by rfl) T.m_range (da_cons (de_op op_sub ok_sub (de_var 1) de_int) da_nil)) (blkOk_by (N := N__law_long) (sc := defScope s__law_long) (by decide +kernel)) (nm_one 5) (fun _ _ _ _ _ => (pg_name (i := 5) S.nd rfl (Or.inl rfl))) (fun _ _ _ _ _ => dts_nil) (fun _ _ _ _ _ => (de_op op_sub ok_sub (de_op op_mod ok_mod (de_ix ix_seq ok_ix (de_var 0) (de_op op_mod ok_mod (de_bty call_int1 ok_int (by rfl) T.m_int (by decide +kernel) (da_cons (de_var 5) da_nil)) de_int)) de_int) de_int)))) (dss_cons (ds_expr (de_bm PySem.F.plainAttrs_list PySem.F.slot_list_append PySem.F.type_list_append mt_append ok_append (de_var 3) (da_cons (de_op op_sub ok_sub (de_var 2) (de_bi (cr_sum rfl) ok_sumL (by rfl) T.m_sum (by decide +kernel) (da_cons (de_var 3) da_nil))) da_nil))) (dss_cons (ds_set 4 S.nd rfl (Or.inr rfl) (de_comp (own := [("_law_k", 5)]) rfl S.nd (di_rng1 (by rfl) T.m_range (da_cons (de_var 1) da_nil)) (blkOk_by (N := N__law_long) (sc := defScope s__law_long) (by decide +kernel)) (nm_one 5) (fun _ _ _ _ _ => (pg_name (i := 5) S.nd rfl (Or.inl rfl))) (fun _ _ _ _ _ => dts_nil) (fun _ _ _ _ _ => (de_tup (da_cons (de_var 5) (da_cons (de_op op_mod ok_mod (de_bty call_int1 ok_int (by rfl) T.m_int (by decide +kernel) (da_cons (de_op op_add4 ok_add (de_var 5) de_int) da_nil)) (de_var 1)) (da_cons (de_ix ix_seq ok_ix (de_var 3) (de_var 5)) da_nil))))))) (dss_cons (ds_if (dt_cmp (op_eqP (Room.units hr)) ok_eq (de_op op_mod ok_mod (de_ix ix_seq ok_ix (de_var 0) de_int) de_int) de_int) (dss_one (ds_set 4 S.nd rfl (Or.inr rfl) (de_rev (de_var 4) (do_some (de_un un_neg ok_neg de_int))))) dss_nil) (dss_cons (ds_for [5] (passes_of rfl) rfl (di_rng1 (by rfl) T.m_range (da_cons de_int da_nil)) (dg_n 5 S.nd rfl (Or.inl rfl)) (dss_one (ds_expr (de_bm PySem.F.plainAttrs_list PySem.F.slot_list_append PySem.F.type_list_append mt_append ok_append (de_var 4) (da_cons (de_tup (da_cons (de_op op_mod ok_mod (de_ix ix_seq ok_ix (de_var 0) (de_var 5)) (de_var 1)) (da_cons (de_op op_mod ok_mod (de_bty call_int1 ok_int (by rfl) T.m_int (by decide +kernel) (da_cons (de_op op_add4 ok_add (de_ix ix_seq ok_ix (de_var 0) (de_var 5)) de_int) da_nil)) (de_var 1)) (da_cons (de_op op_add4 ok_add (de_op op_mul4 ok_mul de_int (de_var 1)) de_int) da_nil)))) da_nil))))) (dss_cons (ds_set 6 S.nd rfl (Or.inl rfl) (de_call G_find_ring (hr.mono (by decide)) (by rfl) m_find_ring k_find_ring b_find_ring (takes_of rfl rfl rfl rfl) (da_cons (de_var 1) (da_cons (de_var 4) da_nil)) (by rfl) dDef_len)) (dss_cons (ds_if (dt_cmp (op_eqP (Room.units hr)) ok_eq (de_var 2) de_int) (dss_one (ds_ret (de_cmp op_is4 ok_is (de_var 6) de_non))) dss_nil) (dss_one (ds_ret (de_and (de_cmp op_isnot4 ok_isnot (de_var 6) de_non) (de_and (de_call G_is_ring (hr.mono (by decide)) (by rfl) m_is_ring k_is_ring b_is_ring (takes_of rfl rfl rfl rfl) (da_cons (de_var 6) da_nil) (by rfl) dDef_len) (de_one (de_bi (cr_all rfl) ok_allL (by rfl) T.m_all (by decide +kernel) (da_cons (de_comp (own := [("_law_one", 7)]) rfl S.nd (di_seq (de_var 6)) (blkOk_by (N := N__law_long) (sc := defScope s__law_long) (by decide +kernel)) (nm_one 7) (fun _ _ _ _ _ => (pg_name (i := 7) S.nd rfl (Or.inl rfl))) (fun _ _ _ _ _ => dts_nil) (fun _ _ _ _ _ => (de_cmp (op_inP (Room.units hr)) ok_in (de_var 7) (de_var 4)))) da_nil)))))))))))))))))
abbrev N__law_numbers : List Str := ["_law_script", "_law_many", "_law_numbers_here", "_law_k", "_law_cell", "_law_j", "_law_mixed", "_law_base", "_law_last"]
theorem sc__law_numbers : FnScope ["_law_script", "_law_many", "_law_numbers_here", "_law_k", "_law_cell", "_law_j", "_law_mixed", "_law_base", "_law_last"] ["_law_script", "_law_many"] (defScope s__law_numbers) := ⟨rfl, rfl, rfl, by decide +kernel, rfl, by decide +kernel, by decide +kernel⟩
theorem ok__law_numbers {f : Addr} {fd : FuncData} (F : Fun K "_law_numbers" "_law_numbers" s__law_numbers f fd) (T : Txt K mg) : FnOk P w K mg base (L2.CX P w) 1 f fd ["_law_script", "_law_many"] (spD K mg 2 F__law_numbers) :=
  have S := sc__law_numbers
  fn_d F S (fun cdv A outer s H E hr => (dss_cons (ds_set 2 S.nd rfl (Or.inl rfl) (de_lst da_nil)) (dss_cons (ds_for [3, 4, 5, 6] (passes_of rfl) rfl (di_rng1 (by rfl) T.m_range (da_cons (de_bi call_len4 ok_len (by rfl) T.m_len (by decide +kernel) (da_cons (de_var 0) da_nil)) da_nil)) (dg_n 3 S.nd rfl (Or.inl rfl)) (dss_cons (ds_set 4 S.nd rfl (Or.inl rfl) (de_bi call_abs ok_abs (by rfl) T.m_abs (by decide +kernel) (da_cons (de_bty call_int1 ok_int (by rfl) T.m_int (by decide +kernel) (da_cons (de_ix ix_seq ok_ix (de_var 0) (de_var 3)) da_nil)) da_nil))) (dss_one (ds_if (dt_cmp op_ge ok_rel (de_var 4) (de_op op_pow ok_pow de_int de_int)) (dss_one (ds_for [5] (passes_of rfl) rfl (di_rng1 (by rfl) T.m_range (da_cons de_int da_nil)) (dg_n 5 S.nd rfl (Or.inl rfl)) (dss_one (ds_if (PWd.pt (dw_and (dt_cmp op_gt ok_rel (de_var 4) de_int) (dw_and1 (dt_cmp op_lt ok_rel (de_bi call_len4 ok_len (by rfl) T.m_len (by decide +kernel) (da_cons (de_var 2) da_nil)) (de_var 1))))) (dss_cons (ds_expr (de_bm PySem.F.plainAttrs_list PySem.F.slot_list_append PySem.F.type_list_append mt_append ok_append (de_var 2) (da_cons (de_op op_mod ok_mod (de_var 4) de_int) da_nil))) (dss_one (ds_set 4 S.nd rfl (Or.inl rfl) (de_op op_fdiv ok_div (de_var 4) de_int)))) dss_nil)))) (dss_one (ds_if (dt_cmp op_lt ok_rel (de_bi call_len4 ok_len (by rfl) T.m_len (by decide +kernel) (da_cons (de_var 2) da_nil)) (de_var 1)) (dss_cons (ds_set 6 S.nd rfl (Or.inl rfl) (de_op op_mod ok_mod (de_bty call_int1 ok_int (by rfl) T.m_int (by decide +kernel) (da_cons (de_op op_add4 ok_add (de_op op_add4 ok_add (de_op op_mul4 ok_mul (de_var 4) de_int) (de_op op_mul4 ok_mul (de_var 3) de_int)) de_int) da_nil)) de_int)) (dss_one (ds_expr (de_bm PySem.F.plainAttrs_list PySem.F.slot_list_append PySem.F.type_list_append mt_append ok_append (de_var 2) (da_cons (de_op op_fdiv ok_div (de_op op_mod ok_mod (de_bty call_int1 ok_int (by rfl) T.m_int (by decide +kernel) (da_cons (de_op op_add4 ok_add (de_op op_add4 ok_add (de_op op_mul4 ok_mul (de_var 6) de_int) (de_op op_mul4 ok_mul de_int (de_var 3))) de_int) da_nil)) de_int) de_int) da_nil))))) dss_nil)))))) (dss_cons (ds_set 7 S.nd rfl (Or.inl rfl) (de_bi call_len4 ok_len (by rfl) T.m_len (by decide +kernel) (da_cons (de_var 2) da_nil))) (dss_cons (ds_set 8 S.nd rfl (Or.inl rfl) (de_op op_add4 ok_add de_int (de_bi call_len4 ok_len (by rfl) T.m_len (by decide +kernel) (da_cons (de_var 0) da_nil)))) (dss_cons (ds_for [3] (passes_of rfl) rfl (di_rng1 (by rfl) T.m_range (da_cons (de_bi (call_max2 rfl) ok_max2 (by rfl) T.m_max (by decide +kernel) (da_cons de_int (da_cons (de_op op_sub ok_sub (de_var 1) (de_var 7)) da_nil))) da_nil)) (dg_n 3 S.nd rfl (Or.inl rfl)) (dss_cons (ds_if (dt_cmp op_gt ok_rel (de_var 7) de_int) (dss_one (ds_set 8 S.nd rfl (Or.inl rfl) (de_op op_add4 ok_add (de_var 8) (de_ix ix_seq ok_ix (de_var 2) (de_op op_mod ok_mod (de_var 3) (de_var 7)))))) dss_nil) (dss_cons (ds_set 8 S.nd rfl (Or.inl rfl) (de_op op_mod ok_mod (de_bty call_int1 ok_int (by rfl) T.m_int (by decide +kernel) (da_cons (de_op op_add4 ok_add (de_op op_mul4 ok_mul (de_var 8) de_int) (de_var 3)) da_nil)) de_int)) (dss_one (ds_expr (de_bm PySem.F.plainAttrs_list PySem.F.slot_list_append PySem.F.type_list_append mt_append ok_append (de_var 2) (da_cons (de_op op_fdiv ok_div (de_var 8) de_int) da_nil))))))) (dss_one (ds_ret (de_sl (de_var 2) do_none (do_some (de_var 1)))))))))))
abbrev N__law_table : List Str := ["_law_bounds", "_law_n", "_law_rows", "_law_a", "_law_b"]
theorem sc__law_table : FnScope ["_law_bounds", "_law_n", "_law_rows", "_law_a", "_law_b"] ["_law_bounds"] (defScope s__law_table) := ⟨rfl, rfl, rfl, by decide +kernel, rfl, by decide +kernel, by decide +kernel⟩
theorem ok__law_table {f : Addr} {fd : FuncData} (F : Fun K "_law_table" "_law_table" s__law_table f fd) (T : Txt K mg) {f_Bounds_bound : Addr} {fd_Bounds_bound : FuncData} (G_Bounds_bound : FnOk P w K mg base (L2.CX P w) 1 f_Bounds_bound fd_Bounds_bound ["self", "a", "b"] (spD K mg 3 F_Bounds_bound)) (m_Bounds_bound : Meth K T.o_Bounds "bound" f_Bounds_bound) (b_Bounds_bound : Binds K fd_Bounds_bound ["self", "a", "b"] []) {f_Bounds_size : Addr} {fd_Bounds_size : FuncData} (G_Bounds_size : FnOk P w K mg base (L2.CX P w) 1 f_Bounds_size fd_Bounds_size ["self"] (spD K mg 1 F_Bounds_size)) (m_Bounds_size : Meth K T.o_Bounds "size" f_Bounds_size) (b_Bounds_size : Binds K fd_Bounds_size ["self"] []) : FnOk P w K mg base (L2.CX P w) 2 f fd ["_law_bounds"] (spD K mg 1 F__law_table) := by
  have S := sc__law_table
  unfold F__law_table b__law_table b__law_table_t0 b__law_table_t1 b__law_table_t2 b__law_table_t3 l__law_table_1
  exact fn_d F S (fun cdv A outer s H E hr => (dss_cons (ds_set 1 S.nd rfl (Or.inl rfl) (de_imeth0 T.g_Bounds T.cl_Bounds m_Bounds_size G_Bounds_size (hr.mono (by decide)) b_Bounds_size (takes_of rfl rfl rfl rfl) (de_var 0) dDef_len)) (dss_cons (ds_set 2 S.nd rfl (Or.inl rfl) (de_lst da_nil)) (dss_cons (ds_for [3] (passes_of rfl) rfl (di_rng1 (by rfl) T.m_range (da_cons (de_var 1) da_nil)) (dg_n 3 S.nd rfl (Or.inr rfl)) (dss_body [3] (dss_one (ds_expr (de_bm PySem.F.plainAttrs_list PySem.F.slot_list_append PySem.F.type_list_append mt_append ok_append (de_var 2) (da_cons (de_comp (own := [("_law_b", 4)]) rfl S.nd (di_rng1 (by rfl) T.m_range (da_cons (de_var 1) da_nil)) (blkOk_by (N := N__law_table) (sc := defScope s__law_table) (by decide +kernel)) (nm_one 4) (fun _ _ _ _ _ => (pg_name (i := 4) S.nd rfl (Or.inl rfl))) (fun _ _ _ _ _ => dts_nil) (fun _ _ _ _ _ => (de_imeth T.g_Bounds T.cl_Bounds m_Bounds_bound G_Bounds_bound (hr.mono (by decide)) b_Bounds_bound takes0 (de_var 0) (da_cons (de_var 3) (da_cons (de_var 4) da_nil)) dDef_len))) da_nil)))))) (dss_one (ds_ret (de_var 2)))))))
abbrev N__law_within : List Str := ["_law_values", "_law_table_here", "_law_a", "_law_b"]
theorem sc__law_within : FnScope ["_law_values", "_law_table_here", "_law_a", "_law_b"] ["_law_values", "_law_table_here"] (defScope s__law_within) := ⟨rfl, rfl, rfl, by decide +kernel, rfl, by decide +kernel, by decide +kernel⟩
theorem ok__law_within {f : Addr} {fd : FuncData} (F : Fun K "_law_within" "_law_within" s__law_within f fd) (T : Txt K mg) : FnOk P w K mg base (L2.CX P w) 1 f fd ["_law_values", "_law_table_here"] (spD K mg 2 F__law_within) := by
  have S := sc__law_within
  unfold F__law_within b__law_within l__law_within_1 l__law_within_2
  exact fn_d F S (fun cdv A outer s H E hr => (dss_cons (ds_for [2, 3] (passes_of rfl) rfl (di_rng1 (by rfl) T.m_range (da_cons (de_bi call_len4 ok_len (by rfl) T.m_len (by decide +kernel) (da_cons (de_var 1) da_nil)) da_nil)) (dg_n 2 S.nd rfl (Or.inl rfl)) (dss_one (ds_for [3] (passes_of rfl) rfl (di_rng1 (by rfl) T.m_range (da_cons (de_bi call_len4 ok_len (by rfl) T.m_len (by decide +kernel) (da_cons (de_var 1) da_nil)) da_nil)) (dg_n 3 S.nd rfl (Or.inl rfl)) (dss_one (ds_if (PWd.pt (dw_and (dt_cmp op_isnot4 ok_isnot (de_ix ix_seq ok_ix (de_ix ix_seq ok_ix (de_var 1) (de_var 2)) (de_var 3)) de_non) (dw_and1 (dt_cmp op_gt ok_rel (de_op op_sub ok_sub (de_ix ix_seq ok_ix (de_var 0) (de_var 2)) (de_ix ix_seq ok_ix (de_var 0) (de_var 3))) (de_ix ix_seq ok_ix (de_ix ix_seq ok_ix (de_var 1) (de_var 2)) (de_var 3)))))) (dss_one (ds_ret de_bl)) dss_nil))))) (dss_one (ds_ret de_bl))))
abbrev N_law : List Str := ["_law_script", "_law_numbers_here", "_law_n", "_law_great", "_law_values", "_law_literals_here", "_law_a", "_law_b", "_law_c", "_law_bounds", "_law_turned", "_law_table_here", "_law_told", "_law_just", "_law_other", "_law_k"]
theorem sc_law : FnScope ["_law_script", "_law_numbers_here", "_law_n", "_law_great", "_law_values", "_law_literals_here", "_law_a", "_law_b", "_law_c", "_law_bounds", "_law_turned", "_law_table_here", "_law_told", "_law_just", "_law_other", "_law_k"] ["_law_script"] (defScope s_law) := ⟨rfl, rfl, rfl, by decide +kernel, rfl, by decide +kernel, by decide +kernel⟩
theorem ok_law {f : Addr} {fd : FuncData} (F : Fun K "law" "law" s_law f fd) (T : Txt K mg) {f_Bounds_add : Addr} {fd_Bounds_add : FuncData} (G_Bounds_add : FnOk P w K mg base (L2.CX P w) 3 f_Bounds_add fd_Bounds_add ["self", "a", "b", "c"] (spD K mg 4 F_Bounds_add)) (m_Bounds_add : Meth K T.o_Bounds "add" f_Bounds_add) (b_Bounds_add : Binds K fd_Bounds_add ["self", "a", "b", "c"] []) {f_Bounds_any_values : Addr} {fd_Bounds_any_values : FuncData} (G_Bounds_any_values : FnOk P w K mg base (L2.CX P w) 2 f_Bounds_any_values fd_Bounds_any_values ["self"] (spD K mg 1 F_Bounds_any_values)) (m_Bounds_any_values : Meth K T.o_Bounds "any_values" f_Bounds_any_values) (b_Bounds_any_values : Binds K fd_Bounds_any_values ["self"] []) {f_Bounds_bound : Addr} {fd_Bounds_bound : FuncData} (G_Bounds_bound : FnOk P w K mg base (L2.CX P w) 1 f_Bounds_bound fd_Bounds_bound ["self", "a", "b"] (spD K mg 3 F_Bounds_bound)) (m_Bounds_bound : Meth K T.o_Bounds "bound" f_Bounds_bound) (b_Bounds_bound : Binds K fd_Bounds_bound ["self", "a", "b"] []) {f_Bounds_copy : Addr} {fd_Bounds_copy : FuncData} (G_Bounds_copy : FnOk P w K mg base (L2.CX P w) 4 f_Bounds_copy fd_Bounds_copy ["self"] (spD K mg 1 F_Bounds_copy)) (m_Bounds_copy : Meth K T.o_Bounds "copy" f_Bounds_copy) (b_Bounds_copy : Binds K fd_Bounds_copy ["self"] []) {f__law_either : Addr} {fd__law_either : FuncData} (G__law_either : FnOk P w K mg base (L2.CX P w) 5 f__law_either fd__law_either ["_law_n", "_law_literals_here"] (spD K mg 2 F__law_either)) (m__law_either : mg "_law_either" = some (.ref f__law_either)) (k__law_either : PySem.W.keepIn K (.ref f__law_either) = true) (b__law_either : Binds K fd__law_either ["_law_n", "_law_literals_here"] []) {f__law_literals : Addr} {fd__law_literals : FuncData} (G__law_literals : FnOk P w K mg base (L2.CX P w) 1 f__law_literals fd__law_literals ["_law_numbers_here", "_law_at", "_law_n", "_law_count", "_law_size"] (spD K mg 5 F__law_literals)) (m__law_literals : mg "_law_literals" = some (.ref f__law_literals)) (k__law_literals : PySem.W.keepIn K (.ref f__law_literals) = true) (b__law_literals : Binds K fd__law_literals ["_law_numbers_here", "_law_at", "_law_n", "_law_count", "_law_size"] []) {f__law_long : Addr} {fd__law_long : FuncData} (G__law_long : FnOk P w K mg base (L2.CX P w) 4 f__law_long fd__law_long ["_law_numbers_here"] (spD K mg 1 F__law_long)) (m__law_long : mg "_law_long" = some (.ref f__law_long)) (k__law_long : PySem.W.keepIn K (.ref f__law_long) = true) (b__law_long : Binds K fd__law_long ["_law_numbers_here"] []) {f__law_numbers : Addr} {fd__law_numbers : FuncData} (G__law_numbers : FnOk P w K mg base (L2.CX P w) 1 f__law_numbers fd__law_numbers ["_law_script", "_law_many"] (spD K mg 2 F__law_numbers)) (m__law_numbers : mg "_law_numbers" = some (.ref f__law_numbers)) (k__law_numbers : PySem.W.keepIn K (.ref f__law_numbers) = true) (b__law_numbers : Binds K fd__law_numbers ["_law_script", "_law_many"] []) {f__law_table : Addr} {fd__law_table : FuncData} (G__law_table : FnOk P w K mg base (L2.CX P w) 2 f__law_table fd__law_table ["_law_bounds"] (spD K mg 1 F__law_table)) (m__law_table : mg "_law_table" = some (.ref f__law_table)) (k__law_table : PySem.W.keepIn K (.ref f__law_table) = true) (b__law_table : Binds K fd__law_table ["_law_bounds"] []) {f__law_taken : Addr} {fd__law_taken : FuncData} (G__law_taken : FnOk P w K mg base (L2.CX P w) 4 f__law_taken fd__law_taken ["_law_n", "_law_literals_here"] (spD K mg 2 F__law_taken)) (m__law_taken : mg "_law_taken" = some (.ref f__law_taken)) (k__law_taken : PySem.W.keepIn K (.ref f__law_taken) = true) (b__law_taken : Binds K fd__law_taken ["_law_n", "_law_literals_here"] []) {f__law_within : Addr} {fd__law_within : FuncData} (G__law_within : FnOk P w K mg base (L2.CX P w) 1 f__law_within fd__law_within ["_law_values", "_law_table_here"] (spD K mg 2 F__law_within)) (m__law_within : mg "_law_within" = some (.ref f__law_within)) (k__law_within : PySem.W.keepIn K (.ref f__law_within) = true) (b__law_within : Binds K fd__law_within ["_law_values", "_law_table_here"] []) {f_find_ring : Addr} {fd_find_ring : FuncData} (G_find_ring : FnOk P w K mg base (L2.CX P w) 3 f_find_ring fd_find_ring ["n", "literals"] (spD K mg 2 F_find_ring)) (m_find_ring : mg "find_ring" = some (.ref f_find_ring)) (k_find_ring : PySem.W.keepIn K (.ref f_find_ring) = true) (b_find_ring : Binds K fd_find_ring ["n", "literals"] []) {f_satisfies : Addr} {fd_satisfies : FuncData} (G_satisfies : FnOk P w K mg base (L2.CX P w) 1 f_satisfies fd_satisfies ["values", "literals"] (spD K mg 2 F_satisfies)) (m_satisfies : mg "satisfies" = some (.ref f_satisfies)) (k_satisfies : PySem.W.keepIn K (.ref f_satisfies) = true) (b_satisfies : Binds K fd_satisfies ["values", "literals"] []) : FnOk P w K mg base (L2.CX P w) 6 f fd ["_law_script"] (spD K mg 1 F_law) := by
  have S := sc_law
  unfold F_law b_law t_0 t_1 t_2 t_3 t_4 t_5 t_6 t_7 t_8 t_9 t_10 t_11 t_12 t_13 t_14 t_15 t_16 t_17 t_18 t_19 l_law_1
  exact fn_d F S (fun cdv A outer s H E hr => (dss_cons (ds_set 1 S.nd rfl (Or.inr rfl) (de_call G__law_numbers (hr.mono (by decide)) (by rfl) m__law_numbers k__law_numbers b__law_numbers (takes_of rfl rfl rfl rfl) (da_cons (de_var 0) (da_cons de_int da_nil)) (by rfl) dDef_len)) (dss_cons (ds_set 2 S.nd rfl (Or.inl rfl) (de_op op_add4 ok_add de_int (de_op op_mod ok_mod (de_ix ix_seq ok_ix (de_var 1) de_int) de_int))) (dss_cons (ds_if (dt_not (dt_tru (de_call G__law_either (hr.mono (by decide)) (by rfl) m__law_either k__law_either b__law_either (takes_of rfl rfl rfl rfl) (da_cons (de_var 2) (da_cons (de_call G__law_literals (hr.mono (by decide)) (by rfl) m__law_literals k__law_literals b__law_literals (takes_of rfl rfl rfl rfl) (da_cons (de_var 1) (da_cons de_int (da_cons (de_var 2) (da_cons (de_op op_mod ok_mod (de_ix ix_seq ok_ix (de_var 1) de_int) de_int) (da_cons (de_ix ix_seq ok_ix (de_lst (da_cons de_int (da_cons de_int (da_cons de_int da_nil)))) (de_op op_mod ok_mod (de_ix ix_seq ok_ix (de_var 1) de_int) de_int)) da_nil))))) (by rfl) dDef_len) da_nil)) (by rfl) dDef_len))) (dss_one (ds_ret de_bl)) dss_nil) (dss_cons (ds_if (dt_not (dt_tru (de_call G__law_long (hr.mono (by decide)) (by rfl) m__law_long k__law_long b__law_long (takes_of rfl rfl rfl rfl) (da_cons (de_var 1) da_nil) (by rfl) dDef_len))) (dss_one (ds_ret de_bl)) dss_nil) (dss_cons (ds_set 3 S.nd rfl (Or.inr rfl) (de_ix ix_seq ok_ix (de_lst (da_cons de_int (da_cons de_int (da_cons (de_op op_pow ok_pow de_int de_int) da_nil)))) (de_op op_mod ok_mod (de_ix ix_seq ok_ix (de_var 1) de_int) de_int))) (dss_cons (ds_set 4 S.nd rfl (Or.inl rfl) (de_bty call_tuple_of ok_tuple (by rfl) T.m_tuple (by decide +kernel) (da_cons (de_comp (own := [("_law_k", 15)]) rfl S.nd (di_rng1 (by rfl) T.m_range (da_cons (de_var 2) da_nil)) (blkOk_by (N := N_law) (sc := defScope s_law) (by decide +kernel)) (nm_one 15) (fun _ _ _ _ _ => (pg_name (i := 15) S.nd rfl (Or.inl rfl))) (fun _ _ _ _ _ => dts_nil) (fun _ _ _ _ _ => (de_op op_mul4 ok_mul (de_op op_mul4 ok_mul (de_bty call_int1 ok_int (by rfl) T.m_int (by decide +kernel) (da_cons (de_cmp op_gt ok_rel (de_var 15) de_int) da_nil)) (de_op op_sub ok_sub (de_op op_mod ok_mod (de_ix ix_seq ok_ix (de_var 1) (de_bty call_int1 ok_int (by rfl) T.m_int (by decide +kernel) (da_cons (de_op op_add4 ok_add de_int (de_var 15)) da_nil))) de_int) de_int)) (de_var 3)))) da_nil))) (dss_cons (ds_set 5 S.nd rfl (Or.inl rfl) (de_lst da_nil)) (dss_cons (ds_for [6, 7, 8] (passes_of rfl) rfl (di_seq (de_call G__law_literals (hr.mono (by decide)) (by rfl) m__law_literals k__law_literals b__law_literals (takes_of rfl rfl rfl rfl) (da_cons (de_var 1) (da_cons de_int (da_cons (de_var 2) (da_cons (de_op op_mod ok_mod (de_ix ix_seq ok_ix (de_var 1) de_int) de_int) (da_cons de_int da_nil))))) (by rfl) dDef_len)) (dg_t rfl (dgs_cons (dg_n 6 S.nd rfl (Or.inl rfl)) (dgs_cons (dg_n 7 S.nd rfl (Or.inl rfl)) (dgs_cons (dg_n 8 S.nd rfl (Or.inl rfl)) dgs_nil)))) (dss_one (ds_expr (de_bm PySem.F.plainAttrs_list PySem.F.slot_list_append PySem.F.type_list_append mt_append ok_append (de_var 5) (da_cons (de_tup (da_cons (de_var 6) (da_cons (de_var 7) (da_cons (de_op op_add4 ok_add (de_op op_sub ok_sub (de_ix ix_seq ok_ix (de_var 4) (de_var 6)) (de_ix ix_seq ok_ix (de_var 4) (de_var 7))) (de_bi call_abs ok_abs (by rfl) T.m_abs (by decide +kernel) (da_cons (de_var 8) da_nil))) da_nil)))) da_nil))))) (dss_cons (ds_set 9 S.nd rfl (Or.inl rfl) (de_call G__law_taken (hr.mono (by decide)) (by rfl) m__law_taken k__law_taken b__law_taken (takes_of rfl rfl rfl rfl) (da_cons (de_var 2) (da_cons (de_var 5) da_nil)) (by rfl) dDef_len)) (dss_cons (ds_set 10 S.nd rfl (Or.inl rfl) (de_call G__law_taken (hr.mono (by decide)) (by rfl) m__law_taken k__law_taken b__law_taken (takes_of rfl rfl rfl rfl) (da_cons (de_var 2) (da_cons (de_rev (de_var 5) (do_some (de_un un_neg ok_neg de_int))) da_nil)) (by rfl) dDef_len)) (dss_cons (ds_if (PWd.pt (dw_or (dt_cmp op_is4 ok_is (de_var 9) de_non) (dw_or (dt_cmp op_is4 ok_is (de_var 10) de_non) (dw_or1 (dt_cmp op_isnot4 ok_isnot (de_call G_find_ring (hr.mono (by decide)) (by rfl) m_find_ring k_find_ring b_find_ring (takes_of rfl rfl rfl rfl) (da_cons (de_var 2) (da_cons (de_var 5) da_nil)) (by rfl) dDef_len) de_non))))) (dss_one (ds_ret de_bl)) dss_nil) (dss_cons (ds_set 11 S.nd rfl (Or.inl rfl) (de_call G__law_table (hr.mono (by decide)) (by rfl) m__law_table k__law_table b__law_table (takes_of rfl rfl rfl rfl) (da_cons (de_var 9) da_nil) (by rfl) dDef_len)) (dss_cons (ds_if (PWd.pt (dw_or (dt_cmp (op_neP (Room.units hr)) ok_eq (de_var 11) (de_call G__law_table (hr.mono (by decide)) (by rfl) m__law_table k__law_table b__law_table (takes_of rfl rfl rfl rfl) (da_cons (de_var 10) da_nil) (by rfl) dDef_len)) (dw_or (dt_not (dt_tru (de_call G__law_within (hr.mono (by decide)) (by rfl) m__law_within k__law_within b__law_within (takes_of rfl rfl rfl rfl) (da_cons (de_var 4) (da_cons (de_var 11) da_nil)) (by rfl) dDef_len))) (dw_or1 (dt_not (dt_tru (de_call G__law_within (hr.mono (by decide)) (by rfl) m__law_within k__law_within b__law_within (takes_of rfl rfl rfl rfl) (da_cons (de_imeth0 T.g_Bounds T.cl_Bounds m_Bounds_any_values G_Bounds_any_values (hr.mono (by decide)) b_Bounds_any_values (takes_of rfl rfl rfl rfl) (de_var 9) dDef_len) (da_cons (de_var 11) da_nil)) (by rfl) dDef_len))))))) (dss_one (ds_ret de_bl)) dss_nil) (dss_cons (ds_set 6 S.nd rfl (Or.inl rfl) (de_op op_mod ok_mod (de_ix ix_seq ok_ix (de_var 1) de_int) (de_var 2))) (dss_cons (ds_set 7 S.nd rfl (Or.inl rfl) (de_op op_mod ok_mod (de_ix ix_seq ok_ix (de_var 1) de_int) (de_var 2))) (dss_cons (ds_if (dt_cmp op_is4 ok_is (de_ix ix_seq ok_ix (de_ix ix_seq ok_ix (de_var 11) (de_var 7)) (de_var 6)) de_non) (dss_cons (ds_if (dt_cmp op_isnot4 ok_isnot (de_imeth T.g_Bounds T.cl_Bounds m_Bounds_add G_Bounds_add (hr.mono (by decide)) b_Bounds_add (takes_of rfl rfl rfl rfl) (de_var 9) (da_cons (de_var 6) (da_cons (de_var 7) (da_cons (de_op op_sub ok_sub de_int (de_op op_pow ok_pow de_int de_int)) da_nil))) dDef_len) de_bl) (dss_one (ds_ret de_bl)) dss_nil) (dss_cons (ds_set 12 S.nd rfl (Or.inl rfl) (de_imeth0 T.g_Bounds T.cl_Bounds m_Bounds_any_values G_Bounds_any_values (hr.mono (by decide)) b_Bounds_any_values (takes_of rfl rfl rfl rfl) (de_var 9) dDef_len)) (dss_one (ds_ret (de_and (de_cmp op_ge ok_rel (de_op op_sub ok_sub (de_ix ix_seq ok_ix (de_var 12) (de_var 7)) (de_ix ix_seq ok_ix (de_var 12) (de_var 6))) (de_op op_pow ok_pow de_int de_int)) (de_one (de_call G_satisfies (hr.mono (by decide)) (by rfl) m_satisfies k_satisfies b_satisfies (takes_of rfl rfl rfl rfl) (da_cons (de_var 12) (da_cons (de_var 5) da_nil)) (by rfl) dDef_len))))))) dss_nil) (dss_cons (ds_set 13 S.nd rfl (Or.inl rfl) (de_op op_sub ok_sub de_int (de_ix ix_seq ok_ix (de_ix ix_seq ok_ix (de_var 11) (de_var 7)) (de_var 6)))) (dss_cons (ds_set 14 S.nd rfl (Or.inl rfl) (de_imeth0 T.g_Bounds T.cl_Bounds m_Bounds_copy G_Bounds_copy (hr.mono (by decide)) b_Bounds_copy (takes_of rfl rfl rfl rfl) (de_var 9) dDef_len)) (dss_cons (ds_if (PWd.pt (dw_or (dt_cmp op_isnot4 ok_isnot (de_imeth T.g_Bounds T.cl_Bounds m_Bounds_add G_Bounds_add (hr.mono (by decide)) b_Bounds_add (takes_of rfl rfl rfl rfl) (de_var 14) (da_cons (de_var 6) (da_cons (de_var 7) (da_cons (de_op op_sub ok_sub (de_op op_sub ok_sub (de_var 13) de_int) (de_op op_mod ok_mod (de_ix ix_seq ok_ix (de_var 1) de_int) de_int)) da_nil))) dDef_len) de_bl) (dw_or1 (dt_cmp (op_neP (Room.units hr)) ok_eq (de_call G__law_table (hr.mono (by decide)) (by rfl) m__law_table k__law_table b__law_table (takes_of rfl rfl rfl rfl) (da_cons (de_var 14) da_nil) (by rfl) dDef_len) (de_var 11))))) (dss_one (ds_ret de_bl)) dss_nil) (dss_one (ds_ret (de_and (de_cmp op_is4 ok_is (de_imeth T.g_Bounds T.cl_Bounds m_Bounds_add G_Bounds_add (hr.mono (by decide)) b_Bounds_add (takes_of rfl rfl rfl rfl) (de_var 14) (da_cons (de_var 6) (da_cons (de_var 7) (da_cons (de_var 13) da_nil))) dDef_len) de_bl) (de_and (de_cmp (op_eqP (Room.units hr)) ok_eq (de_imeth T.g_Bounds T.cl_Bounds m_Bounds_bound G_Bounds_bound (hr.mono (by decide)) b_Bounds_bound (takes_of rfl rfl rfl rfl) (de_var 14) (da_cons (de_var 6) (da_cons (de_var 7) da_nil)) dDef_len) (de_var 13)) (de_one (de_cmp op_isnot4 ok_isnot (de_call G_find_ring (hr.mono (by decide)) (by rfl) m_find_ring k_find_ring b_find_ring (takes_of rfl rfl rfl rfl) (da_cons (de_var 2) (da_cons (de_op op_add4 ok_add (de_var 5) (de_lst (da_cons (de_tup (da_cons (de_var 6) (da_cons (de_var 7) (da_cons (de_op op_sub ok_sub (de_var 13) de_int) da_nil)))) da_nil))) da_nil)) (by rfl) dDef_len) de_non))))))))))))))))))))))))))
end
theorem all_mk {l : PySem.W.OpenLaw} {w : World} {K : PySem.W.Frag} {h : Heap} {mg : Str → Option Value} {fa : Addr} (X : K.In h) (G : h.Ns mainGlobals mg) (hfa : mg "law" = some (.ref fa))
    {oa_Bounds : Addr}
    {f_is_less : Addr} {od_is_less an_is_less : Option Addr} {sl_is_less : Array (Option Value)} {oc_is_less kV_is_less dc_is_less pm_is_less cd_is_less ct_is_less : Value}
    {f_joined : Addr} {od_joined an_joined : Option Addr} {sl_joined : Array (Option Value)} {oc_joined kV_joined dc_joined pm_joined cd_joined ct_joined : Value}
    {f_Bounds__shorten : Addr} {od_Bounds__shorten an_Bounds__shorten : Option Addr} {sl_Bounds__shorten : Array (Option Value)} {oc_Bounds__shorten kV_Bounds__shorten dc_Bounds__shorten pm_Bounds__shorten cd_Bounds__shorten ct_Bounds__shorten : Value}
    {f_Bounds_bound : Addr} {od_Bounds_bound an_Bounds_bound : Option Addr} {sl_Bounds_bound : Array (Option Value)} {oc_Bounds_bound kV_Bounds_bound dc_Bounds_bound pm_Bounds_bound cd_Bounds_bound ct_Bounds_bound : Value}
    {f_Bounds_add : Addr} {od_Bounds_add an_Bounds_add : Option Addr} {sl_Bounds_add : Array (Option Value)} {oc_Bounds_add kV_Bounds_add dc_Bounds_add pm_Bounds_add cd_Bounds_add ct_Bounds_add : Value}
    {f_Bounds__low : Addr} {od_Bounds__low an_Bounds__low : Option Addr} {sl_Bounds__low : Array (Option Value)} {oc_Bounds__low kV_Bounds__low dc_Bounds__low pm_Bounds__low cd_Bounds__low ct_Bounds__low : Value}
    {f_Bounds_size : Addr} {od_Bounds_size an_Bounds_size : Option Addr} {sl_Bounds_size : Array (Option Value)} {oc_Bounds_size kV_Bounds_size dc_Bounds_size pm_Bounds_size cd_Bounds_size ct_Bounds_size : Value}
    {f_moved : Addr} {od_moved an_moved : Option Addr} {sl_moved : Array (Option Value)} {oc_moved kV_moved dc_moved pm_moved cd_moved ct_moved : Value}
    {f_Bounds_any_values : Addr} {od_Bounds_any_values an_Bounds_any_values : Option Addr} {sl_Bounds_any_values : Array (Option Value)} {oc_Bounds_any_values kV_Bounds_any_values dc_Bounds_any_values pm_Bounds_any_values cd_Bounds_any_values ct_Bounds_any_values : Value}
    {f_check_points : Addr} {od_check_points an_check_points : Option Addr} {sl_check_points : Array (Option Value)} {oc_check_points kV_check_points dc_check_points pm_check_points cd_check_points ct_check_points : Value}
    {f_Bounds___init__ : Addr} {od_Bounds___init__ an_Bounds___init__ : Option Addr} {sl_Bounds___init__ : Array (Option Value)} {oc_Bounds___init__ kV_Bounds___init__ dc_Bounds___init__ pm_Bounds___init__ cd_Bounds___init__ ct_Bounds___init__ : Value}
    {f_Bounds__take : Addr} {od_Bounds__take an_Bounds__take : Option Addr} {sl_Bounds__take : Array (Option Value)} {oc_Bounds__take kV_Bounds__take dc_Bounds__take pm_Bounds__take cd_Bounds__take ct_Bounds__take : Value}
    {f_Bounds_copy : Addr} {od_Bounds_copy an_Bounds_copy : Option Addr} {sl_Bounds_copy : Array (Option Value)} {oc_Bounds_copy kV_Bounds_copy dc_Bounds_copy pm_Bounds_copy cd_Bounds_copy ct_Bounds_copy : Value}
    {f__law_taken : Addr} {od__law_taken an__law_taken : Option Addr} {sl__law_taken : Array (Option Value)} {oc__law_taken kV__law_taken dc__law_taken pm__law_taken cd__law_taken ct__law_taken : Value}
    {f_check_point : Addr} {od_check_point an_check_point : Option Addr} {sl_check_point : Array (Option Value)} {oc_check_point kV_check_point dc_check_point pm_check_point cd_check_point ct_check_point : Value}
    {f_check_literals : Addr} {od_check_literals an_check_literals : Option Addr} {sl_check_literals : Array (Option Value)} {oc_check_literals kV_check_literals dc_check_literals pm_check_literals cd_check_literals ct_check_literals : Value}
    {f_ring_at : Addr} {od_ring_at an_ring_at : Option Addr} {sl_ring_at : Array (Option Value)} {oc_ring_at kV_ring_at dc_ring_at pm_ring_at cd_ring_at ct_ring_at : Value}
    {f_ring_from : Addr} {od_ring_from an_ring_from : Option Addr} {sl_ring_from : Array (Option Value)} {oc_ring_from kV_ring_from dc_ring_from pm_ring_from cd_ring_from ct_ring_from : Value}
    {f_find_ring : Addr} {od_find_ring an_find_ring : Option Addr} {sl_find_ring : Array (Option Value)} {oc_find_ring kV_find_ring dc_find_ring pm_find_ring cd_find_ring ct_find_ring : Value}
    {f_is_ring : Addr} {od_is_ring an_is_ring : Option Addr} {sl_is_ring : Array (Option Value)} {oc_is_ring kV_is_ring dc_is_ring pm_is_ring cd_is_ring ct_is_ring : Value}
    {f_satisfies : Addr} {od_satisfies an_satisfies : Option Addr} {sl_satisfies : Array (Option Value)} {oc_satisfies kV_satisfies dc_satisfies pm_satisfies cd_satisfies ct_satisfies : Value}
    {f__law_either : Addr} {od__law_either an__law_either : Option Addr} {sl__law_either : Array (Option Value)} {oc__law_either kV__law_either dc__law_either pm__law_either cd__law_either ct__law_either : Value}
    {f__law_literals : Addr} {od__law_literals an__law_literals : Option Addr} {sl__law_literals : Array (Option Value)} {oc__law_literals kV__law_literals dc__law_literals pm__law_literals cd__law_literals ct__law_literals : Value}
    {f__law_long : Addr} {od__law_long an__law_long : Option Addr} {sl__law_long : Array (Option Value)} {oc__law_long kV__law_long dc__law_long pm__law_long cd__law_long ct__law_long : Value}
    {f__law_numbers : Addr} {od__law_numbers an__law_numbers : Option Addr} {sl__law_numbers : Array (Option Value)} {oc__law_numbers kV__law_numbers dc__law_numbers pm__law_numbers cd__law_numbers ct__law_numbers : Value}
    {f__law_table : Addr} {od__law_table an__law_table : Option Addr} {sl__law_table : Array (Option Value)} {oc__law_table kV__law_table dc__law_table pm__law_table cd__law_table ct__law_table : Value}
    {f__law_within : Addr} {od__law_within an__law_within : Option Addr} {sl__law_within : Array (Option Value)} {oc__law_within kV__law_within dc__law_within pm__law_within cd__law_within ct__law_within : Value}
    {f_law : Addr} {od_law an_law : Option Addr} {sl_law : Array (Option Value)} {oc_law kV_law dc_law pm_law cd_law ct_law : Value}
    {a_NotAllowed : Addr}
    {t_MAX_POINTS : Tok}
    (oA_Bounds : PySem.W.nsIn K mainGlobals "Bounds" = some (some (.ref oa_Bounds)))
    (pg_Bounds : PySem.W.plainGet K oa_Bounds Str.empty = true)
    (hd_Bounds : PySem.W.hasDictIn K oa_Bounds = true)
    (po_Bounds : PySem.W.plainOver K oa_Bounds = true)
    (sa_Bounds : PySem.W.findIn K (.ref oa_Bounds) "__setattr__" = some (some (.builtin "object.__setattr__")))
    (mk_Bounds : PySem.W.makesIn K oa_Bounds = true)
    (kc_Bounds : PySem.W.keepIn K (.ref oa_Bounds) = true)
    (na_Bounds__least : PySem.W.findIn K (.ref oa_Bounds) "_least" = some none)
    (na_Bounds__literals : PySem.W.findIn K (.ref oa_Bounds) "_literals" = some none)
    (a_is_less : PySem.W.nsIn K mainGlobals "is_less" = some (some (.ref f_is_less)))
    (l_is_less : K.lookup f_is_less = some ⟨oc_is_less, od_is_less, .func (PySem.W.fnOf "is_less" "is_less" (defArgs s_is_less) (defBody s_is_less) (defScope s_is_less) .none kV_is_less dc_is_less pm_is_less an_is_less cd_is_less ct_is_less), sl_is_less⟩)
    (c_is_less : PySem.W.codeIn K cd_is_less "is_less" = true)
    (k_is_less : PySem.W.keepIn K (.ref f_is_less) = true)
    (a_joined : PySem.W.nsIn K mainGlobals "joined" = some (some (.ref f_joined)))
    (l_joined : K.lookup f_joined = some ⟨oc_joined, od_joined, .func (PySem.W.fnOf "joined" "joined" (defArgs s_joined) (defBody s_joined) (defScope s_joined) .none kV_joined dc_joined pm_joined an_joined cd_joined ct_joined), sl_joined⟩)
    (c_joined : PySem.W.codeIn K cd_joined "joined" = true)
    (k_joined : PySem.W.keepIn K (.ref f_joined) = true)
    (a_Bounds__shorten : PySem.W.findIn K (.ref oa_Bounds) "_shorten" = some (some (.ref f_Bounds__shorten)))
    (i_Bounds__shorten : PySem.W.isFn K (.ref f_Bounds__shorten) = true)
    (l_Bounds__shorten : K.lookup f_Bounds__shorten = some ⟨oc_Bounds__shorten, od_Bounds__shorten, .func (PySem.W.fnOf "_shorten" "Bounds._shorten" (defArgs s_Bounds__shorten) (defBody s_Bounds__shorten) (defScope s_Bounds__shorten) .none kV_Bounds__shorten dc_Bounds__shorten pm_Bounds__shorten an_Bounds__shorten cd_Bounds__shorten ct_Bounds__shorten), sl_Bounds__shorten⟩)
    (c_Bounds__shorten : PySem.W.codeIn K cd_Bounds__shorten "Bounds._shorten" = true)
    (k_Bounds__shorten : PySem.W.keepIn K (.ref f_Bounds__shorten) = true)
    (a_Bounds_bound : PySem.W.findIn K (.ref oa_Bounds) "bound" = some (some (.ref f_Bounds_bound)))
    (i_Bounds_bound : PySem.W.isFn K (.ref f_Bounds_bound) = true)
    (l_Bounds_bound : K.lookup f_Bounds_bound = some ⟨oc_Bounds_bound, od_Bounds_bound, .func (PySem.W.fnOf "bound" "Bounds.bound" (defArgs s_Bounds_bound) (defBody s_Bounds_bound) (defScope s_Bounds_bound) .none kV_Bounds_bound dc_Bounds_bound pm_Bounds_bound an_Bounds_bound cd_Bounds_bound ct_Bounds_bound), sl_Bounds_bound⟩)
    (c_Bounds_bound : PySem.W.codeIn K cd_Bounds_bound "Bounds.bound" = true)
    (k_Bounds_bound : PySem.W.keepIn K (.ref f_Bounds_bound) = true)
    (a_Bounds_add : PySem.W.findIn K (.ref oa_Bounds) "add" = some (some (.ref f_Bounds_add)))
    (i_Bounds_add : PySem.W.isFn K (.ref f_Bounds_add) = true)
    (l_Bounds_add : K.lookup f_Bounds_add = some ⟨oc_Bounds_add, od_Bounds_add, .func (PySem.W.fnOf "add" "Bounds.add" (defArgs s_Bounds_add) (defBody s_Bounds_add) (defScope s_Bounds_add) .none kV_Bounds_add dc_Bounds_add pm_Bounds_add an_Bounds_add cd_Bounds_add ct_Bounds_add), sl_Bounds_add⟩)
    (c_Bounds_add : PySem.W.codeIn K cd_Bounds_add "Bounds.add" = true)
    (k_Bounds_add : PySem.W.keepIn K (.ref f_Bounds_add) = true)
    (a_Bounds__low : PySem.W.findIn K (.ref oa_Bounds) "_low" = some (some (.ref f_Bounds__low)))
    (i_Bounds__low : PySem.W.isFn K (.ref f_Bounds__low) = true)
    (l_Bounds__low : K.lookup f_Bounds__low = some ⟨oc_Bounds__low, od_Bounds__low, .func (PySem.W.fnOf "_low" "Bounds._low" (defArgs s_Bounds__low) (defBody s_Bounds__low) (defScope s_Bounds__low) .none kV_Bounds__low dc_Bounds__low pm_Bounds__low an_Bounds__low cd_Bounds__low ct_Bounds__low), sl_Bounds__low⟩)
    (c_Bounds__low : PySem.W.codeIn K cd_Bounds__low "Bounds._low" = true)
    (k_Bounds__low : PySem.W.keepIn K (.ref f_Bounds__low) = true)
    (a_Bounds_size : PySem.W.findIn K (.ref oa_Bounds) "size" = some (some (.ref f_Bounds_size)))
    (i_Bounds_size : PySem.W.isFn K (.ref f_Bounds_size) = true)
    (l_Bounds_size : K.lookup f_Bounds_size = some ⟨oc_Bounds_size, od_Bounds_size, .func (PySem.W.fnOf "size" "Bounds.size" (defArgs s_Bounds_size) (defBody s_Bounds_size) (defScope s_Bounds_size) .none kV_Bounds_size dc_Bounds_size pm_Bounds_size an_Bounds_size cd_Bounds_size ct_Bounds_size), sl_Bounds_size⟩)
    (c_Bounds_size : PySem.W.codeIn K cd_Bounds_size "Bounds.size" = true)
    (k_Bounds_size : PySem.W.keepIn K (.ref f_Bounds_size) = true)
    (a_moved : PySem.W.nsIn K mainGlobals "moved" = some (some (.ref f_moved)))
    (l_moved : K.lookup f_moved = some ⟨oc_moved, od_moved, .func (PySem.W.fnOf "moved" "moved" (defArgs s_moved) (defBody s_moved) (defScope s_moved) .none kV_moved dc_moved pm_moved an_moved cd_moved ct_moved), sl_moved⟩)
    (c_moved : PySem.W.codeIn K cd_moved "moved" = true)
    (k_moved : PySem.W.keepIn K (.ref f_moved) = true)
    (a_Bounds_any_values : PySem.W.findIn K (.ref oa_Bounds) "any_values" = some (some (.ref f_Bounds_any_values)))
    (i_Bounds_any_values : PySem.W.isFn K (.ref f_Bounds_any_values) = true)
    (l_Bounds_any_values : K.lookup f_Bounds_any_values = some ⟨oc_Bounds_any_values, od_Bounds_any_values, .func (PySem.W.fnOf "any_values" "Bounds.any_values" (defArgs s_Bounds_any_values) (defBody s_Bounds_any_values) (defScope s_Bounds_any_values) .none kV_Bounds_any_values dc_Bounds_any_values pm_Bounds_any_values an_Bounds_any_values cd_Bounds_any_values ct_Bounds_any_values), sl_Bounds_any_values⟩)
    (c_Bounds_any_values : PySem.W.codeIn K cd_Bounds_any_values "Bounds.any_values" = true)
    (k_Bounds_any_values : PySem.W.keepIn K (.ref f_Bounds_any_values) = true)
    (a_check_points : PySem.W.nsIn K mainGlobals "check_points" = some (some (.ref f_check_points)))
    (l_check_points : K.lookup f_check_points = some ⟨oc_check_points, od_check_points, .func (PySem.W.fnOf "check_points" "check_points" (defArgs s_check_points) (defBody s_check_points) (defScope s_check_points) .none kV_check_points dc_check_points pm_check_points an_check_points cd_check_points ct_check_points), sl_check_points⟩)
    (c_check_points : PySem.W.codeIn K cd_check_points "check_points" = true)
    (k_check_points : PySem.W.keepIn K (.ref f_check_points) = true)
    (a_Bounds___init__ : PySem.W.findIn K (.ref oa_Bounds) "__init__" = some (some (.ref f_Bounds___init__)))
    (i_Bounds___init__ : PySem.W.isFn K (.ref f_Bounds___init__) = true)
    (l_Bounds___init__ : K.lookup f_Bounds___init__ = some ⟨oc_Bounds___init__, od_Bounds___init__, .func (PySem.W.fnOf "__init__" "Bounds.__init__" (defArgs s_Bounds___init__) (defBody s_Bounds___init__) (defScope s_Bounds___init__) .none kV_Bounds___init__ dc_Bounds___init__ pm_Bounds___init__ an_Bounds___init__ cd_Bounds___init__ ct_Bounds___init__), sl_Bounds___init__⟩)
    (c_Bounds___init__ : PySem.W.codeIn K cd_Bounds___init__ "Bounds.__init__" = true)
    (k_Bounds___init__ : PySem.W.keepIn K (.ref f_Bounds___init__) = true)
    (a_Bounds__take : PySem.W.findIn K (.ref oa_Bounds) "_take" = some (some (.ref f_Bounds__take)))
    (i_Bounds__take : PySem.W.isFn K (.ref f_Bounds__take) = true)
    (l_Bounds__take : K.lookup f_Bounds__take = some ⟨oc_Bounds__take, od_Bounds__take, .func (PySem.W.fnOf "_take" "Bounds._take" (defArgs s_Bounds__take) (defBody s_Bounds__take) (defScope s_Bounds__take) .none kV_Bounds__take dc_Bounds__take pm_Bounds__take an_Bounds__take cd_Bounds__take ct_Bounds__take), sl_Bounds__take⟩)
    (c_Bounds__take : PySem.W.codeIn K cd_Bounds__take "Bounds._take" = true)
    (k_Bounds__take : PySem.W.keepIn K (.ref f_Bounds__take) = true)
    (a_Bounds_copy : PySem.W.findIn K (.ref oa_Bounds) "copy" = some (some (.ref f_Bounds_copy)))
    (i_Bounds_copy : PySem.W.isFn K (.ref f_Bounds_copy) = true)
    (l_Bounds_copy : K.lookup f_Bounds_copy = some ⟨oc_Bounds_copy, od_Bounds_copy, .func (PySem.W.fnOf "copy" "Bounds.copy" (defArgs s_Bounds_copy) (defBody s_Bounds_copy) (defScope s_Bounds_copy) .none kV_Bounds_copy dc_Bounds_copy pm_Bounds_copy an_Bounds_copy cd_Bounds_copy ct_Bounds_copy), sl_Bounds_copy⟩)
    (c_Bounds_copy : PySem.W.codeIn K cd_Bounds_copy "Bounds.copy" = true)
    (k_Bounds_copy : PySem.W.keepIn K (.ref f_Bounds_copy) = true)
    (a__law_taken : PySem.W.nsIn K mainGlobals "_law_taken" = some (some (.ref f__law_taken)))
    (l__law_taken : K.lookup f__law_taken = some ⟨oc__law_taken, od__law_taken, .func (PySem.W.fnOf "_law_taken" "_law_taken" (defArgs s__law_taken) (defBody s__law_taken) (defScope s__law_taken) .none kV__law_taken dc__law_taken pm__law_taken an__law_taken cd__law_taken ct__law_taken), sl__law_taken⟩)
    (c__law_taken : PySem.W.codeIn K cd__law_taken "_law_taken" = true)
    (k__law_taken : PySem.W.keepIn K (.ref f__law_taken) = true)
    (a_check_point : PySem.W.nsIn K mainGlobals "check_point" = some (some (.ref f_check_point)))
    (l_check_point : K.lookup f_check_point = some ⟨oc_check_point, od_check_point, .func (PySem.W.fnOf "check_point" "check_point" (defArgs s_check_point) (defBody s_check_point) (defScope s_check_point) .none kV_check_point dc_check_point pm_check_point an_check_point cd_check_point ct_check_point), sl_check_point⟩)
    (c_check_point : PySem.W.codeIn K cd_check_point "check_point" = true)
    (k_check_point : PySem.W.keepIn K (.ref f_check_point) = true)
    (a_check_literals : PySem.W.nsIn K mainGlobals "check_literals" = some (some (.ref f_check_literals)))
    (l_check_literals : K.lookup f_check_literals = some ⟨oc_check_literals, od_check_literals, .func (PySem.W.fnOf "check_literals" "check_literals" (defArgs s_check_literals) (defBody s_check_literals) (defScope s_check_literals) .none kV_check_literals dc_check_literals pm_check_literals an_check_literals cd_check_literals ct_check_literals), sl_check_literals⟩)
    (c_check_literals : PySem.W.codeIn K cd_check_literals "check_literals" = true)
    (k_check_literals : PySem.W.keepIn K (.ref f_check_literals) = true)
    (a_ring_at : PySem.W.nsIn K mainGlobals "ring_at" = some (some (.ref f_ring_at)))
    (l_ring_at : K.lookup f_ring_at = some ⟨oc_ring_at, od_ring_at, .func (PySem.W.fnOf "ring_at" "ring_at" (defArgs s_ring_at) (defBody s_ring_at) (defScope s_ring_at) .none kV_ring_at dc_ring_at pm_ring_at an_ring_at cd_ring_at ct_ring_at), sl_ring_at⟩)
    (c_ring_at : PySem.W.codeIn K cd_ring_at "ring_at" = true)
    (k_ring_at : PySem.W.keepIn K (.ref f_ring_at) = true)
    (a_ring_from : PySem.W.nsIn K mainGlobals "ring_from" = some (some (.ref f_ring_from)))
    (l_ring_from : K.lookup f_ring_from = some ⟨oc_ring_from, od_ring_from, .func (PySem.W.fnOf "ring_from" "ring_from" (defArgs s_ring_from) (defBody s_ring_from) (defScope s_ring_from) .none kV_ring_from dc_ring_from pm_ring_from an_ring_from cd_ring_from ct_ring_from), sl_ring_from⟩)
    (c_ring_from : PySem.W.codeIn K cd_ring_from "ring_from" = true)
    (k_ring_from : PySem.W.keepIn K (.ref f_ring_from) = true)
    (a_find_ring : PySem.W.nsIn K mainGlobals "find_ring" = some (some (.ref f_find_ring)))
    (l_find_ring : K.lookup f_find_ring = some ⟨oc_find_ring, od_find_ring, .func (PySem.W.fnOf "find_ring" "find_ring" (defArgs s_find_ring) (defBody s_find_ring) (defScope s_find_ring) .none kV_find_ring dc_find_ring pm_find_ring an_find_ring cd_find_ring ct_find_ring), sl_find_ring⟩)
    (c_find_ring : PySem.W.codeIn K cd_find_ring "find_ring" = true)
    (k_find_ring : PySem.W.keepIn K (.ref f_find_ring) = true)
    (a_is_ring : PySem.W.nsIn K mainGlobals "is_ring" = some (some (.ref f_is_ring)))
    (l_is_ring : K.lookup f_is_ring = some ⟨oc_is_ring, od_is_ring, .func (PySem.W.fnOf "is_ring" "is_ring" (defArgs s_is_ring) (defBody s_is_ring) (defScope s_is_ring) .none kV_is_ring dc_is_ring pm_is_ring an_is_ring cd_is_ring ct_is_ring), sl_is_ring⟩)
    (c_is_ring : PySem.W.codeIn K cd_is_ring "is_ring" = true)
    (k_is_ring : PySem.W.keepIn K (.ref f_is_ring) = true)
    (a_satisfies : PySem.W.nsIn K mainGlobals "satisfies" = some (some (.ref f_satisfies)))
    (l_satisfies : K.lookup f_satisfies = some ⟨oc_satisfies, od_satisfies, .func (PySem.W.fnOf "satisfies" "satisfies" (defArgs s_satisfies) (defBody s_satisfies) (defScope s_satisfies) .none kV_satisfies dc_satisfies pm_satisfies an_satisfies cd_satisfies ct_satisfies), sl_satisfies⟩)
    (c_satisfies : PySem.W.codeIn K cd_satisfies "satisfies" = true)
    (k_satisfies : PySem.W.keepIn K (.ref f_satisfies) = true)
    (a__law_either : PySem.W.nsIn K mainGlobals "_law_either" = some (some (.ref f__law_either)))
    (l__law_either : K.lookup f__law_either = some ⟨oc__law_either, od__law_either, .func (PySem.W.fnOf "_law_either" "_law_either" (defArgs s__law_either) (defBody s__law_either) (defScope s__law_either) .none kV__law_either dc__law_either pm__law_either an__law_either cd__law_either ct__law_either), sl__law_either⟩)
    (c__law_either : PySem.W.codeIn K cd__law_either "_law_either" = true)
    (k__law_either : PySem.W.keepIn K (.ref f__law_either) = true)
    (a__law_literals : PySem.W.nsIn K mainGlobals "_law_literals" = some (some (.ref f__law_literals)))
    (l__law_literals : K.lookup f__law_literals = some ⟨oc__law_literals, od__law_literals, .func (PySem.W.fnOf "_law_literals" "_law_literals" (defArgs s__law_literals) (defBody s__law_literals) (defScope s__law_literals) .none kV__law_literals dc__law_literals pm__law_literals an__law_literals cd__law_literals ct__law_literals), sl__law_literals⟩)
    (c__law_literals : PySem.W.codeIn K cd__law_literals "_law_literals" = true)
    (k__law_literals : PySem.W.keepIn K (.ref f__law_literals) = true)
    (a__law_long : PySem.W.nsIn K mainGlobals "_law_long" = some (some (.ref f__law_long)))
    (l__law_long : K.lookup f__law_long = some ⟨oc__law_long, od__law_long, .func (PySem.W.fnOf "_law_long" "_law_long" (defArgs s__law_long) (defBody s__law_long) (defScope s__law_long) .none kV__law_long dc__law_long pm__law_long an__law_long cd__law_long ct__law_long), sl__law_long⟩)
    (c__law_long : PySem.W.codeIn K cd__law_long "_law_long" = true)
    (k__law_long : PySem.W.keepIn K (.ref f__law_long) = true)
    (a__law_numbers : PySem.W.nsIn K mainGlobals "_law_numbers" = some (some (.ref f__law_numbers)))
    (l__law_numbers : K.lookup f__law_numbers = some ⟨oc__law_numbers, od__law_numbers, .func (PySem.W.fnOf "_law_numbers" "_law_numbers" (defArgs s__law_numbers) (defBody s__law_numbers) (defScope s__law_numbers) .none kV__law_numbers dc__law_numbers pm__law_numbers an__law_numbers cd__law_numbers ct__law_numbers), sl__law_numbers⟩)
    (c__law_numbers : PySem.W.codeIn K cd__law_numbers "_law_numbers" = true)
    (k__law_numbers : PySem.W.keepIn K (.ref f__law_numbers) = true)
    (a__law_table : PySem.W.nsIn K mainGlobals "_law_table" = some (some (.ref f__law_table)))
    (l__law_table : K.lookup f__law_table = some ⟨oc__law_table, od__law_table, .func (PySem.W.fnOf "_law_table" "_law_table" (defArgs s__law_table) (defBody s__law_table) (defScope s__law_table) .none kV__law_table dc__law_table pm__law_table an__law_table cd__law_table ct__law_table), sl__law_table⟩)
    (c__law_table : PySem.W.codeIn K cd__law_table "_law_table" = true)
    (k__law_table : PySem.W.keepIn K (.ref f__law_table) = true)
    (a__law_within : PySem.W.nsIn K mainGlobals "_law_within" = some (some (.ref f__law_within)))
    (l__law_within : K.lookup f__law_within = some ⟨oc__law_within, od__law_within, .func (PySem.W.fnOf "_law_within" "_law_within" (defArgs s__law_within) (defBody s__law_within) (defScope s__law_within) .none kV__law_within dc__law_within pm__law_within an__law_within cd__law_within ct__law_within), sl__law_within⟩)
    (c__law_within : PySem.W.codeIn K cd__law_within "_law_within" = true)
    (k__law_within : PySem.W.keepIn K (.ref f__law_within) = true)
    (a_law : PySem.W.nsIn K mainGlobals "law" = some (some (.ref f_law)))
    (l_law : K.lookup f_law = some ⟨oc_law, od_law, .func (PySem.W.fnOf "law" "law" (defArgs s_law) (defBody s_law) (defScope s_law) .none kV_law dc_law pm_law an_law cd_law ct_law), sl_law⟩)
    (c_law : PySem.W.codeIn K cd_law "law" = true)
    (k_law : PySem.W.keepIn K (.ref f_law) = true)
    (xa_NotAllowed : PySem.W.nsIn K mainGlobals "NotAllowed" = some (some (.ref a_NotAllowed)))
    (xk_NotAllowed : PySem.W.keepIn K (.ref a_NotAllowed) = true)
    (xb_NotAllowed : PySem.W.subIn K (.ref a_NotAllowed) (.type "BaseException") = some true)
    (xt_NotAllowed : PySem.W.typeIn K (.ref a_NotAllowed) = some (.type "type"))
    (xd_NotAllowed : PySem.W.hasDictIn K a_NotAllowed = true)
    (xe_NotAllowed : PySem.W.excIn K a_NotAllowed [.type "ValueError", .type "Exception", .type "BaseException", .type "object"] "ValueError.__new__" = true)
    (y1_NotAllowed : PySem.W.findIn K (.ref a_NotAllowed) "__getattribute__" = some (some (.builtin "BaseException.__getattribute__")))
    (y2_NotAllowed : PySem.W.findIn K (.ref a_NotAllowed) "__getattr__" = some none)
    (y3_NotAllowed : PySem.W.findIn K (.ref a_NotAllowed) "__class__" = some (some (.builtin "object.__class__")))
    (y4_NotAllowed : PySem.W.mroIn K a_NotAllowed (.type "object") = some true)
    (z1 : PySem.W.specialIn K (.builtin "object.__class__") "__get__" = some (some (.builtin "getset_descriptor.__get__")))
    (z2 : PySem.W.takesIn K (.builtin "object.__class__") = some true)
    (u_NotAllowed_NotAllowed : PySem.W.subIn K (.ref a_NotAllowed) (.ref a_NotAllowed) = some true)
    (g_MAX_POINTS : PySem.W.nsIn K mainGlobals "MAX_POINTS" = some (some (.int 80 t_MAX_POINTS)))
    (g_abs : PySem.W.nsIn K mainGlobals "abs" = some none)
    (g_all : PySem.W.nsIn K mainGlobals "all" = some none)
    (g_enumerate : PySem.W.nsIn K mainGlobals "enumerate" = some none)
    (g_int : PySem.W.nsIn K mainGlobals "int" = some none)
    (g_len : PySem.W.nsIn K mainGlobals "len" = some none)
    (g_list : PySem.W.nsIn K mainGlobals "list" = some none)
    (g_max : PySem.W.nsIn K mainGlobals "max" = some none)
    (g_min : PySem.W.nsIn K mainGlobals "min" = some none)
    (g_range : PySem.W.nsIn K mainGlobals "range" = some none)
    (g_sum : PySem.W.nsIn K mainGlobals "sum" = some none)
    (g_tuple : PySem.W.nsIn K mainGlobals "tuple" = some none)
    : ∃ fd : FuncData, (∀ (s : Shared) (u : Value), BindsTo s fd ⟨[u], []⟩ [("_law_script", u)]) ∧ ∀ base : Heap, K.In base → base.Ns mainGlobals mg → FnOk l.prog w K mg base (L2.CX l.prog w) 6 fa fd ["_law_script"] (spD K mg 1 F_law) := by
  have e := hfa.symm.trans (PySem.W.mg_of X G a_law)
  cases e
  let T : Txt K mg := { o_Bounds := oa_Bounds, g_Bounds := PySem.W.mg_of X G oA_Bounds, cl_Bounds := ⟨pg_Bounds, hd_Bounds, po_Bounds, sa_Bounds⟩, na_Bounds__least := na_Bounds__least, na_Bounds__literals := na_Bounds__literals, a_NotAllowed := a_NotAllowed, c_NotAllowed := PySem.W.mg_of X G xa_NotAllowed, k_NotAllowed := xk_NotAllowed, b_NotAllowed := xb_NotAllowed, t_NotAllowed := xt_NotAllowed, d_NotAllowed := xd_NotAllowed, e_NotAllowed := xe_NotAllowed, x_NotAllowed := ⟨y1_NotAllowed, y2_NotAllowed, xb_NotAllowed, xd_NotAllowed, y3_NotAllowed, z1, z2, y4_NotAllowed⟩, s_NotAllowed_NotAllowed := kit_ref xt_NotAllowed xd_NotAllowed u_NotAllowed_NotAllowed u_NotAllowed_NotAllowed, u_NotAllowed_NotAllowed := u_NotAllowed_NotAllowed, m_MAX_POINTS := ⟨_, PySem.W.mg_of X G g_MAX_POINTS⟩, m_abs := PySem.W.mg_none_of X G g_abs, m_all := PySem.W.mg_none_of X G g_all, m_enumerate := PySem.W.mg_none_of X G g_enumerate, m_int := PySem.W.mg_none_of X G g_int, m_len := PySem.W.mg_none_of X G g_len, m_list := PySem.W.mg_none_of X G g_list, m_max := PySem.W.mg_none_of X G g_max, m_min := PySem.W.mg_none_of X G g_min, m_range := PySem.W.mg_none_of X G g_range, m_sum := PySem.W.mg_none_of X G g_sum, m_tuple := PySem.W.mg_none_of X G g_tuple }
  have F_is_less := fun_mk (st := s_is_less) l_is_less c_is_less k_is_less
  have b_is_less := F_is_less.binds (ps := ["first", "second"]) fun _ _ _ _ _ _ us hl => match us, hl with | [_, _], _ => rfl
  have F_joined := fun_mk (st := s_joined) l_joined c_joined k_joined
  have b_joined := F_joined.binds (ps := ["first", "second"]) fun _ _ _ _ _ _ us hl => match us, hl with | [_, _], _ => rfl
  have F_Bounds__shorten := fun_mk (st := s_Bounds__shorten) l_Bounds__shorten c_Bounds__shorten k_Bounds__shorten
  have b_Bounds__shorten := F_Bounds__shorten.binds (ps := ["self", "a", "b", "c"]) fun _ _ _ _ _ _ us hl => match us, hl with | [_, _, _, _], _ => rfl
  have F_Bounds_bound := fun_mk (st := s_Bounds_bound) l_Bounds_bound c_Bounds_bound k_Bounds_bound
  have b_Bounds_bound := F_Bounds_bound.binds (ps := ["self", "a", "b"]) fun _ _ _ _ _ _ us hl => match us, hl with | [_, _, _], _ => rfl
  have F_Bounds_add := fun_mk (st := s_Bounds_add) l_Bounds_add c_Bounds_add k_Bounds_add
  have b_Bounds_add := F_Bounds_add.binds (ps := ["self", "a", "b", "c"]) fun _ _ _ _ _ _ us hl => match us, hl with | [_, _, _, _], _ => rfl
  have F_Bounds__low := fun_mk (st := s_Bounds__low) l_Bounds__low c_Bounds__low k_Bounds__low
  have b_Bounds__low := F_Bounds__low.binds (ps := ["self", "points"]) fun _ _ _ _ _ _ us hl => match us, hl with | [_, _], _ => rfl
  have F_Bounds_size := fun_mk (st := s_Bounds_size) l_Bounds_size c_Bounds_size k_Bounds_size
  have b_Bounds_size := F_Bounds_size.binds (ps := ["self"]) fun _ _ _ _ _ _ us hl => match us, hl with | [_], _ => rfl
  have F_moved := fun_mk (st := s_moved) l_moved c_moved k_moved
  have b_moved := F_moved.binds (ps := ["values"]) fun _ _ _ _ _ _ us hl => match us, hl with | [_], _ => rfl
  have F_Bounds_any_values := fun_mk (st := s_Bounds_any_values) l_Bounds_any_values c_Bounds_any_values k_Bounds_any_values
  have b_Bounds_any_values := F_Bounds_any_values.binds (ps := ["self"]) fun _ _ _ _ _ _ us hl => match us, hl with | [_], _ => rfl
  have F_check_points := fun_mk (st := s_check_points) l_check_points c_check_points k_check_points
  have b_check_points := F_check_points.binds (ps := ["n"]) fun _ _ _ _ _ _ us hl => match us, hl with | [_], _ => rfl
  have F_Bounds___init__ := fun_mk (st := s_Bounds___init__) l_Bounds___init__ c_Bounds___init__ k_Bounds___init__
  have b_Bounds___init__ := F_Bounds___init__.binds (ps := ["self", "n"]) fun _ _ _ _ _ _ us hl => match us, hl with | [_, _], _ => rfl
  have F_Bounds__take := fun_mk (st := s_Bounds__take) l_Bounds__take c_Bounds__take k_Bounds__take
  have b_Bounds__take := F_Bounds__take.binds (ps := ["self", "literals", "least"]) fun _ _ _ _ _ _ us hl => match us, hl with | [_, _, _], _ => rfl
  have F_Bounds_copy := fun_mk (st := s_Bounds_copy) l_Bounds_copy c_Bounds_copy k_Bounds_copy
  have b_Bounds_copy := F_Bounds_copy.binds (ps := ["self"]) fun _ _ _ _ _ _ us hl => match us, hl with | [_], _ => rfl
  have F__law_taken := fun_mk (st := s__law_taken) l__law_taken c__law_taken k__law_taken
  have b__law_taken := F__law_taken.binds (ps := ["_law_n", "_law_literals_here"]) fun _ _ _ _ _ _ us hl => match us, hl with | [_, _], _ => rfl
  have F_check_point := fun_mk (st := s_check_point) l_check_point c_check_point k_check_point
  have b_check_point := F_check_point.binds (ps := ["n", "a"]) fun _ _ _ _ _ _ us hl => match us, hl with | [_, _], _ => rfl
  have F_check_literals := fun_mk (st := s_check_literals) l_check_literals c_check_literals k_check_literals
  have b_check_literals := F_check_literals.binds (ps := ["n", "literals"]) fun _ _ _ _ _ _ us hl => match us, hl with | [_, _], _ => rfl
  have F_ring_at := fun_mk (st := s_ring_at) l_ring_at c_ring_at k_ring_at
  have b_ring_at := F_ring_at.binds (ps := ["n", "last", "start"]) fun _ _ _ _ _ _ us hl => match us, hl with | [_, _, _], _ => rfl
  have F_ring_from := fun_mk (st := s_ring_from) l_ring_from c_ring_from k_ring_from
  have b_ring_from := F_ring_from.binds (ps := ["n", "last", "start"]) fun _ _ _ _ _ _ us hl => match us, hl with | [_, _, _], _ => rfl
  have F_find_ring := fun_mk (st := s_find_ring) l_find_ring c_find_ring k_find_ring
  have b_find_ring := F_find_ring.binds (ps := ["n", "literals"]) fun _ _ _ _ _ _ us hl => match us, hl with | [_, _], _ => rfl
  have F_is_ring := fun_mk (st := s_is_ring) l_is_ring c_is_ring k_is_ring
  have b_is_ring := F_is_ring.binds (ps := ["ring"]) fun _ _ _ _ _ _ us hl => match us, hl with | [_], _ => rfl
  have F_satisfies := fun_mk (st := s_satisfies) l_satisfies c_satisfies k_satisfies
  have b_satisfies := F_satisfies.binds (ps := ["values", "literals"]) fun _ _ _ _ _ _ us hl => match us, hl with | [_, _], _ => rfl
  have F__law_either := fun_mk (st := s__law_either) l__law_either c__law_either k__law_either
  have b__law_either := F__law_either.binds (ps := ["_law_n", "_law_literals_here"]) fun _ _ _ _ _ _ us hl => match us, hl with | [_, _], _ => rfl
  have F__law_literals := fun_mk (st := s__law_literals) l__law_literals c__law_literals k__law_literals
  have b__law_literals := F__law_literals.binds (ps := ["_law_numbers_here", "_law_at", "_law_n", "_law_count", "_law_size"]) fun _ _ _ _ _ _ us hl => match us, hl with | [_, _, _, _, _], _ => rfl
  have F__law_long := fun_mk (st := s__law_long) l__law_long c__law_long k__law_long
  have b__law_long := F__law_long.binds (ps := ["_law_numbers_here"]) fun _ _ _ _ _ _ us hl => match us, hl with | [_], _ => rfl
  have F__law_numbers := fun_mk (st := s__law_numbers) l__law_numbers c__law_numbers k__law_numbers
  have b__law_numbers := F__law_numbers.binds (ps := ["_law_script", "_law_many"]) fun _ _ _ _ _ _ us hl => match us, hl with | [_, _], _ => rfl
  have F__law_table := fun_mk (st := s__law_table) l__law_table c__law_table k__law_table
  have b__law_table := F__law_table.binds (ps := ["_law_bounds"]) fun _ _ _ _ _ _ us hl => match us, hl with | [_], _ => rfl
  have F__law_within := fun_mk (st := s__law_within) l__law_within c__law_within k__law_within
  have b__law_within := F__law_within.binds (ps := ["_law_values", "_law_table_here"]) fun _ _ _ _ _ _ us hl => match us, hl with | [_, _], _ => rfl
  have F_law := fun_mk (st := s_law) l_law c_law k_law
  have b_law := F_law.binds (ps := ["_law_script"]) fun _ _ _ _ _ _ us hl => match us, hl with | [_], _ => rfl
  refine ⟨PySem.W.fnOf "law" "law" (defArgs s_law) (defBody s_law) (defScope s_law) .none kV_law dc_law pm_law an_law cd_law ct_law, fun s u => .of_eq rfl, fun base _ _ => ?_⟩
  have G_is_less := ok_is_less (P := l.prog) (w := w) (base := base) F_is_less T
  have G_joined := ok_joined (P := l.prog) (w := w) (base := base) F_joined T
  have G_Bounds__shorten := ok_Bounds__shorten (P := l.prog) (w := w) (base := base) F_Bounds__shorten T G_is_less (PySem.W.mg_of X G a_is_less) k_is_less b_is_less G_joined (PySem.W.mg_of X G a_joined) k_joined b_joined
  have G_Bounds_bound := ok_Bounds_bound (P := l.prog) (w := w) (base := base) F_Bounds_bound T
  have G_Bounds_add := ok_Bounds_add (P := l.prog) (w := w) (base := base) F_Bounds_add T G_Bounds__shorten ⟨a_Bounds__shorten, i_Bounds__shorten, k_Bounds__shorten⟩ b_Bounds__shorten G_Bounds_bound ⟨a_Bounds_bound, i_Bounds_bound, k_Bounds_bound⟩ b_Bounds_bound G_is_less (PySem.W.mg_of X G a_is_less) k_is_less b_is_less
  have G_Bounds__low := ok_Bounds__low (P := l.prog) (w := w) (base := base) F_Bounds__low T
  have G_Bounds_size := ok_Bounds_size (P := l.prog) (w := w) (base := base) F_Bounds_size T
  have G_moved := ok_moved (P := l.prog) (w := w) (base := base) F_moved T
  have G_Bounds_any_values := ok_Bounds_any_values (P := l.prog) (w := w) (base := base) F_Bounds_any_values T G_Bounds__low ⟨a_Bounds__low, i_Bounds__low, k_Bounds__low⟩ b_Bounds__low G_Bounds_size ⟨a_Bounds_size, i_Bounds_size, k_Bounds_size⟩ b_Bounds_size G_moved (PySem.W.mg_of X G a_moved) k_moved b_moved
  have G_check_points := ok_check_points (P := l.prog) (w := w) (base := base) F_check_points T
  have G_Bounds___init__ := ok_Bounds___init__ (P := l.prog) (w := w) (base := base) F_Bounds___init__ T G_check_points (PySem.W.mg_of X G a_check_points) k_check_points b_check_points
  have G_Bounds__take := ok_Bounds__take (P := l.prog) (w := w) (base := base) F_Bounds__take T
  have G_Bounds_copy := ok_Bounds_copy (P := l.prog) (w := w) (base := base) F_Bounds_copy T G_Bounds___init__ ⟨mk_Bounds, a_Bounds___init__, i_Bounds___init__, kc_Bounds⟩ b_Bounds___init__ G_Bounds__take ⟨a_Bounds__take, i_Bounds__take, k_Bounds__take⟩ b_Bounds__take G_Bounds_size ⟨a_Bounds_size, i_Bounds_size, k_Bounds_size⟩ b_Bounds_size
  have G__law_taken := ok__law_taken (P := l.prog) (w := w) (base := base) F__law_taken T G_Bounds___init__ ⟨mk_Bounds, a_Bounds___init__, i_Bounds___init__, kc_Bounds⟩ b_Bounds___init__ G_Bounds_add ⟨a_Bounds_add, i_Bounds_add, k_Bounds_add⟩ b_Bounds_add
  have G_check_point := ok_check_point (P := l.prog) (w := w) (base := base) F_check_point T
  have G_check_literals := ok_check_literals (P := l.prog) (w := w) (base := base) F_check_literals T G_check_point (PySem.W.mg_of X G a_check_point) k_check_point b_check_point G_check_points (PySem.W.mg_of X G a_check_points) k_check_points b_check_points
  have G_ring_at := ok_ring_at (P := l.prog) (w := w) (base := base) F_ring_at T
  have G_ring_from := ok_ring_from (P := l.prog) (w := w) (base := base) F_ring_from T
  have G_find_ring := ok_find_ring (P := l.prog) (w := w) (base := base) F_find_ring T G_check_literals (PySem.W.mg_of X G a_check_literals) k_check_literals b_check_literals G_ring_at (PySem.W.mg_of X G a_ring_at) k_ring_at b_ring_at G_ring_from (PySem.W.mg_of X G a_ring_from) k_ring_from b_ring_from
  have G_is_ring := ok_is_ring (P := l.prog) (w := w) (base := base) F_is_ring T
  have G_satisfies := ok_satisfies (P := l.prog) (w := w) (base := base) F_satisfies T
  have G__law_either := ok__law_either (P := l.prog) (w := w) (base := base) F__law_either T G_Bounds_any_values ⟨a_Bounds_any_values, i_Bounds_any_values, k_Bounds_any_values⟩ b_Bounds_any_values G__law_taken (PySem.W.mg_of X G a__law_taken) k__law_taken b__law_taken G_find_ring (PySem.W.mg_of X G a_find_ring) k_find_ring b_find_ring G_is_ring (PySem.W.mg_of X G a_is_ring) k_is_ring b_is_ring G_satisfies (PySem.W.mg_of X G a_satisfies) k_satisfies b_satisfies
  have G__law_literals := ok__law_literals (P := l.prog) (w := w) (base := base) F__law_literals T
  have G__law_long := ok__law_long (P := l.prog) (w := w) (base := base) F__law_long T G_find_ring (PySem.W.mg_of X G a_find_ring) k_find_ring b_find_ring G_is_ring (PySem.W.mg_of X G a_is_ring) k_is_ring b_is_ring
  have G__law_numbers := ok__law_numbers (P := l.prog) (w := w) (base := base) F__law_numbers T
  have G__law_table := ok__law_table (P := l.prog) (w := w) (base := base) F__law_table T G_Bounds_bound ⟨a_Bounds_bound, i_Bounds_bound, k_Bounds_bound⟩ b_Bounds_bound G_Bounds_size ⟨a_Bounds_size, i_Bounds_size, k_Bounds_size⟩ b_Bounds_size
  have G__law_within := ok__law_within (P := l.prog) (w := w) (base := base) F__law_within T
  have G_law := ok_law (P := l.prog) (w := w) (base := base) F_law T G_Bounds_add ⟨a_Bounds_add, i_Bounds_add, k_Bounds_add⟩ b_Bounds_add G_Bounds_any_values ⟨a_Bounds_any_values, i_Bounds_any_values, k_Bounds_any_values⟩ b_Bounds_any_values G_Bounds_bound ⟨a_Bounds_bound, i_Bounds_bound, k_Bounds_bound⟩ b_Bounds_bound G_Bounds_copy ⟨a_Bounds_copy, i_Bounds_copy, k_Bounds_copy⟩ b_Bounds_copy G__law_either (PySem.W.mg_of X G a__law_either) k__law_either b__law_either G__law_literals (PySem.W.mg_of X G a__law_literals) k__law_literals b__law_literals G__law_long (PySem.W.mg_of X G a__law_long) k__law_long b__law_long G__law_numbers (PySem.W.mg_of X G a__law_numbers) k__law_numbers b__law_numbers G__law_table (PySem.W.mg_of X G a__law_table) k__law_table b__law_table G__law_taken (PySem.W.mg_of X G a__law_taken) k__law_taken b__law_taken G__law_within (PySem.W.mg_of X G a__law_within) k__law_within b__law_within G_find_ring (PySem.W.mg_of X G a_find_ring) k_find_ring b_find_ring G_satisfies (PySem.W.mg_of X G a_satisfies) k_satisfies b_satisfies
  exact G_law
/-! ## the plain law -/
/-! ### rings -/
theorem chain_wk {L : List T3} : ∀ (l : List T3) (p : T3), (∀ q ∈ p :: l, q ∈ L) → (∀ i, i + 1 < (p :: l).length → ((p :: l).getD (i + 1) (0, 0, 0)).1 = ((p :: l).getD i (0, 0, 0)).2.1) → Wk L p.1 ((p :: l).getD l.length (0, 0, 0)).2.1 ((p :: l).map fun p => p.2.2).sum
  | [], p, hm, _ => by
    have := Wk.one (l := L) (a := p.1) (b := p.2.1) (c := p.2.2) (hm p List.mem_cons_self)
    simpa using this
  | q :: l, p, hm, hc => by
    have h0 : q.1 = p.2.1 := by
      have := hc 0 (by simp)
      simpa using this
    have ih := chain_wk l q (fun x hx => hm x (List.mem_cons_of_mem _ hx)) fun i hi => by
      have := hc (i + 1) (by simpa using hi)
      simpa using this
    have h1 : (p :: q :: l).getD (q :: l).length (0, 0, 0) = (q :: l).getD l.length (0, 0, 0) := by simp
    rw [h1, List.map_cons, List.sum_cons]
    rw [h0] at ih
    exact .cons (hm p List.mem_cons_self) ih
theorem ringB_wk {rs : List T3} (h : ringB rs = true) : ∃ x w, Wk rs x x w ∧ w < 0 := by
  unfold ringB at h
  simp only [Bool.and_eq_true, decide_eq_true_eq] at h
  obtain ⟨⟨h1, h2⟩, h3⟩ := h
  cases rs with
  | nil => cases h1
  | cons p l =>
    unfold linkB at h3
    rw [List.all_eq_true] at h3
    have hl : ∀ i, i < (p :: l).length → ((p :: l).getD i (0, 0, 0)).1 = ((p :: l).getD (prevI (p :: l).length i) (0, 0, 0)).2.1 := fun i hi => by
      have := h3 i (List.mem_range.mpr hi)
      exact of_decide_eq_true this
    have c := chain_wk (L := p :: l) l p (fun q hq => hq) fun i hi => by
      have := hl (i + 1) hi
      unfold prevI at this
      rw [if_neg (by omega)] at this
      exact this
    have h0 := hl 0 (by simp)
    unfold prevI at h0
    rw [if_pos rfl, List.length_cons, Nat.add_sub_cancel] at h0
    rw [← h0] at c
    exact ⟨_, _, c, h2⟩
theorem found_ring {l : List T3} {r : PV} (h : FoundR l r) (w : ∃ x w, Wk l x x w ∧ w < 0) : ∃ rs, r = .tup (tripsP rs) ∧ ringB rs = true ∧ (∀ p ∈ rs, p ∈ l) ∧ rs.length ≤ 10000 := by
  obtain ⟨x, w, w1, w2⟩ := w
  rcases h with ⟨_, v, hv⟩ | ⟨rs, e, h1, h2, _, h3⟩
  · have := hv.ring w1
    omega
  · exact ⟨rs, e, h1, h2, h3⟩
theorem found_none {l : List T3} {r : PV} (h : FoundR l r) (w : ∀ x w, Wk l x x w → 0 ≤ w) : r = .non := by
  rcases h with ⟨e, _⟩ | ⟨rs, e, h1, h2, h3, _⟩
  · exact e
  · have := w _ _ h3
    unfold ringB at h1
    simp only [Bool.and_eq_true, decide_eq_true_eq] at h1
    omega
/-! ### taking literals -/
section
variable {S U : Sto} {k kb n lo hi : Nat} {D : Tb}
theorem taken_loop {q : Nat} {all : List T3} (qo : ¬ (lo ≤ q ∧ q < hi)) (hn : n ≤ 80) : ∀ (ps : List T3) (done : List T3) (U : Sto) (D : Tb), Bd U kb n done D lo hi → Lst n done D → U[q]? = some (.lst (tripsP all)) → done.length + ps.length ≤ 20000 → InN n ps →
    (∃ U' D', Bd U' kb n (done ++ ps) D' lo hi ∧ Lst n (done ++ ps) D' ∧ U'.length = U.length ∧ (∀ j, ¬ (lo ≤ j ∧ j < hi) → U'[j]? = U[j]?) ∧
      forL (gT 3 (gsCons (gN 3) (gsCons (gN 4) (gsCons (gN 5) gsNil)))) [3, 4, 5] l__law_taken_1 [(q, .lst (tripsP all))] (tripsP ps) [some (.int n), some (.loc q), some (.loc kb), none, none, none] U = some (.next [some (.int n), some (.loc q), some (.loc kb), none, none, none] U')) ∨
    (∃ U', U'.length = U.length ∧ (∀ j, ¬ (lo ≤ j ∧ j < hi) → U'[j]? = U[j]?) ∧ (∃ x w, Wk (done ++ ps) x x w ∧ w < 0) ∧
      forL (gT 3 (gsCons (gN 3) (gsCons (gN 4) (gsCons (gN 5) gsNil)))) [3, 4, 5] l__law_taken_1 [(q, .lst (tripsP all))] (tripsP ps) [some (.int n), some (.loc q), some (.loc kb), none, none, none] U = some (.ret .non U'))
  | [], done, U, D, h, L, hq, _, _ => .inl ⟨U, D, by rw [List.append_nil]; exact h, by rw [List.append_nil]; exact L, rfl, fun _ _ => rfl, by rw [tripsP_nil, forL_nil (by rw [kept_one]; exact hq)]⟩
  | p :: ps, done, U, D, h, L, hq, hl, hp => by
    rw [List.length_cons] at hl
    obtain ⟨ha, hb⟩ := hp p List.mem_cons_self
    rw [tripsP_cons, forL_cons (by rw [kept_one]; exact hq)]
    by_cases hr : ∃ w, D p.2.1 p.1 = some w ∧ w + p.2.2 < 0
    · obtain ⟨w, e, hw⟩ := hr
      obtain ⟨i1, e1⟩ := add_false h ha hb e hw
      have rg := ring_of L.snd e hw
      refine .inr ⟨U, rfl, fun _ _ => rfl, ⟨_, _, rg.mono fun x hx => ?_, by omega⟩, ?_⟩
      · rw [List.mem_append, List.mem_singleton] at hx
        rw [List.mem_append, List.mem_cons]
        rcases hx with hx | rfl
        · exact .inl hx
        · exact .inr (.inl rfl)
      · simp [tripP, l__law_taken_1, i1, e1]
    · have hr : ∀ w, D p.2.1 p.1 = some w → 0 ≤ w + p.2.2 := fun w e => by
        by_cases h : w + p.2.2 < 0
        · exact absurd ⟨w, e, h⟩ hr
        · omega
      obtain ⟨U1, h1, L1, n1, f1, i1, e1⟩ := add_true (c := p.2.2) h L hn (by omega) ha hb hr
      have body : l__law_taken_1 [some (.int n), some (.loc q), some (.loc kb), some (.int p.1), some (.int p.2.1), some (.int p.2.2)] U = some (.next [some (.int n), some (.loc q), some (.loc kb), some (.int p.1), some (.int p.2.1), some (.int p.2.2)] U1) := by
        simp [l__law_taken_1, i1, e1]
      have app : done ++ [(p.1, p.2.1, p.2.2)] ++ ps = done ++ p :: ps := by simp
      rcases taken_loop qo hn ps _ U1 _ h1 L1 ((f1 q qo).trans hq) (by rw [List.length_append, List.length_singleton]; omega) (fun x hx => hp x (List.mem_cons_of_mem _ hx)) with ⟨U2, D2, h2, L2, n2, f2, e2⟩ | ⟨U2, n2, f2, w2, e2⟩
      · rw [app] at h2 L2
        refine .inl ⟨U2, D2, h2, L2, n2.trans n1, fun j hj => (f2 j hj).trans (f1 j hj), ?_⟩
        simp only [tripP, ev_gT, List.length_cons, List.length_nil, Nat.reduceAdd, if_true, ev_gsCons, ev_gN, ev_gsNil, List.set_cons_succ, List.set_cons_zero, body, ev_killC, ev_killN]
        exact e2
      · rw [app] at w2
        refine .inr ⟨U2, n2.trans n1, fun j hj => (f2 j hj).trans (f1 j hj), w2, ?_⟩
        simp only [tripP, ev_gT, List.length_cons, List.length_nil, Nat.reduceAdd, if_true, ev_gsCons, ev_gN, ev_gsNil, List.set_cons_succ, List.set_cons_zero, body, ev_killC, ev_killN]
        exact e2
theorem taken_spec {q : Nat} {ls : List T3} (h1 : 1 ≤ n) (hn : n ≤ 80) (hq : S[q]? = some (.lst (tripsP ls))) (hi : InN n ls) (hl : ls.length ≤ 20000) :
    (∃ W D, F__law_taken [.int n, .loc q] S = some (.ok (.loc S.length) W) ∧ Gr S W ∧ Bd W S.length n ls D S.length W.length ∧ Lst n ls D) ∨ (F__law_taken [.int n, .loc q] S = some (.ok .non S) ∧ ∃ x w, Wk ls x x w ∧ w < 0) := by
  obtain ⟨W, D, mk, g, B, L⟩ := make_start (S := S) h1 hn
  have hqW := g.at_ hq
  have hql := lt_of_get hq
  rcases taken_loop (q := q) (all := ls) (by omega) hn ls [] W D B L hqW (by rw [List.length_nil]; omega) hi with ⟨U, D', B', L', n', f', e⟩ | ⟨U, n', f', w', e⟩
  · rw [List.nil_append] at B' L'
    rw [← n'] at B'
    refine .inl ⟨U, D', (dDef_ret (v := .loc S.length) (S' := U) rfl ?_).trans ?_, g.of_out n' f', B', L'⟩
    · simp [b__law_taken, b__law_taken_t0, b__law_taken_t1, b__law_taken_t2, mk, hqW, e]
    · obtain ⟨l, t, r, Bx, _⟩ := B'
      have := Bx.ins
      unfold gcE
      simp only [this]
      simp [noLoc]
  · rw [List.nil_append] at w'
    obtain ⟨T, rfl⟩ := (g.of_out n' f').ex
    refine .inr ⟨(dDef_ret (v := .non) (S' := S ++ T) rfl ?_).trans (by rw [gc_ok_val rfl]), w'⟩
    simp [b__law_taken, b__law_taken_t0, b__law_taken_t1, mk, hqW, e]
theorem sat_ok {ls : List T3} {v : Int → Int} (hi : InN n ls) (h : ∀ p ∈ ls, v p.1 - v p.2.1 ≤ p.2.2) : satB ((idx n).map v) ls = true := by
  have at_ : ∀ i : Int, 0 ≤ i → i < (n : Int) → ((idx n).map v).getD i.toNat 0 = v i := fun i h0 h1 => by
    rw [List.getD_eq_getElem?_getD, List.getElem?_map]
    unfold idx
    rw [List.getElem?_map, List.getElem?_range (by omega)]
    simp
    congr 1
    omega
  unfold satB
  rw [List.all_eq_true]
  intro p hp
  obtain ⟨a, b⟩ := hi p hp
  rw [at_ _ a.1 a.2, at_ _ b.1 b.2]
  exact decide_eq_true (h p hp)
theorem sat_spec {q : Nat} {ls : List T3} {v : Int → Int} (hq : S[q]? = some (.lst (tripsP ls))) (hi : InN n ls) (hl : ls.length ≤ 20000) (h : ∀ p ∈ ls, v p.1 - v p.2.1 ≤ p.2.2) : F_satisfies [.tup (rowI n v), .loc q] S = some (.ok (.bl true) S) := by
  have := satisfies_spec (S := S) (v := .tup (rowI n v)) (vs := (idx n).map v) Seq.tup (Seq.lst hq) (by
    have : ((idx n).map v).length = n := by simp [idx]
    rw [this]
    exact in_pts hi) (by omega)
  rw [sat_ok hi h] at this
  exact this
theorem either_spec {q : Nat} {ls : List T3} (h1 : 1 ≤ n) (hn : n ≤ 80) (hq : S[q]? = some (.lst (tripsP ls))) (hi : InN n ls) (hl : ls.length ≤ 1000) : F__law_either [.int n, .loc q] S = some (.ok (.bl true) S) := by
  rcases taken_spec h1 hn hq hi (by omega) with ⟨W, D, e1, g, B, L⟩ | ⟨e1, w⟩
  · have hqW := g.at_ hq
    obtain ⟨r, fr, e2⟩ := find_ring_spec (S := W) h1 hn (in_pts hi) (Seq.lst hqW)
    have hr := found_none fr L.ring
    subst hr
    obtain ⟨i3, v, V, e3⟩ := any_gr B L h1 hn
    have e4 := sat_spec hqW hi (by omega) V.sat
    have x0 := row_ix (S := W) (v := v) (n := n) (a := 0) (by omega)
    rw [V.zero] at x0
    obtain ⟨T, rfl⟩ := g.ex
    refine call_val (T := T) ?_ rfl
    simp [b__law_either, b__law_either_t0, b__law_either_t1, b__law_either_t2, e1, e2, i3, e3, e4, x0]
  · obtain ⟨r, fr, e2⟩ := find_ring_spec (S := S) h1 hn (in_pts hi) (Seq.lst hq)
    obtain ⟨rs, rfl, r1, r2, r3⟩ := found_ring fr w
    have hrs : InN n rs := fun p hp => hi p (r2 p hp)
    have e3 := is_ring_spec (S := S) (v := .tup (tripsP rs)) Seq.tup (by omega : rs.length ≤ 1000000)
    rw [r1] at e3
    have e4 := taken_spec (S := S ++ [.lst (tripsP rs)]) (q := S.length) h1 hn at_0 hrs (by omega)
    have e4 : F__law_taken [.int n, .loc S.length] (S ++ [.lst (tripsP rs)]) = some (.ok .non (S ++ [.lst (tripsP rs)])) := by
      rcases e4 with ⟨W, D, _, _, _, L⟩ | ⟨e4, _⟩
      · obtain ⟨x, w, w1, w2⟩ := ringB_wk r1
        have := L.ring x w w1
        omega
      · exact e4
    obtain ⟨r', fr', e5⟩ := find_ring_spec (S := S ++ [.lst (tripsP rs)] ++ [.lst (tripsP rs)]) (lv := .loc (S ++ [PO.lst (tripsP rs)]).length) h1 hn (in_pts hrs) (Seq.lst at_0)
    obtain ⟨rs', rfl, _⟩ := found_ring fr' (ringB_wk r1)
    have l5 := ev_listT (S := S ++ [.lst (tripsP rs)]) (tripsP rs)
    generalize hZ : S ++ [PO.lst (tripsP rs)] ++ [PO.lst (tripsP rs)] = Z at e5 l5
    have l4 := ev_listT (S := S) (tripsP rs)
    generalize hY : S ++ [PO.lst (tripsP rs)] = Y at e4 e5 l5 l4 hZ
    have hZ' : Z = S ++ [PO.lst (tripsP rs), PO.lst (tripsP rs)] := by rw [← hZ, ← hY]; simp
    refine (dDef_ret (v := .bl true) (S' := Z) rfl ?_).trans (by rw [hZ', gc_ok_val rfl])
    simp [b__law_either, b__law_either_t0, b__law_either_t1, b__law_either_t2, b__law_either_t3, b__law_either_t4, e1, e2, e3, l4, e4, l5, e5, -ev_listT]
end
/-! ### tables -/
structure TdAt (S : Sto) (n : Nat) (D : Tb) (q : Nat) (f : Int → Nat) : Prop where
  tab : S[q]? = some (.lst (rowF n fun i => .loc (f i)))
  row : ∀ i : Int, 0 ≤ i → i < n → S[f i]? = some (.lst (rowF n fun b => lowV (D i b)))
def Td (S : Sto) (n : Nat) (D : Tb) (q lo hi : Nat) : Prop := ∃ f, TdAt S n D q f ∧ (lo ≤ q ∧ q < hi) ∧ ∀ i : Int, 0 ≤ i → i < n → lo ≤ f i ∧ f i < hi
def tabD (n : Nat) (D : Tb) : PyData := .list ((idx n).map fun i => .list ((idx n).map fun b => lowD (D i b)))
section
variable {S S' U : Sto} {k kb n lo hi q : Nat} {lits : List T3} {D : Tb}
theorem Td.fr (h : Td S n D q lo hi) (f : ∀ j, lo ≤ j → j < hi → S'[j]? = S[j]?) : Td S' n D q lo hi := by
  obtain ⟨g, s, h2, h3⟩ := h
  exact ⟨g, ⟨(f _ h2.1 h2.2).trans s.tab, fun i a b => (f _ (h3 i a b).1 (h3 i a b).2).trans (s.row i a b)⟩, h2, h3⟩
theorem Td.gr (h : Td S n D q lo hi) (g : Gr S S') : Td S' n D q lo hi := by
  obtain ⟨f, s, h2, h3⟩ := h
  exact ⟨f, ⟨g.at_ s.tab, fun i a b => g.at_ (s.row i a b)⟩, h2, h3⟩
theorem Td.data (h : Td S n D q lo hi) : toD 60 S (.loc q) = some (tabD n D) := by
  obtain ⟨g, s, _, _⟩ := h
  refine toD_lst (n := 59) s.tab ?_
  rw [rowF_idx]
  refine mapO_map fun i hi => ?_
  have hi := idx_in i hi
  refine toD_lst (n := 58) (s.row i hi.1 hi.2) ?_
  rw [rowF_idx]
  exact mapO_map fun b _ => toD_low _
theorem tabD_self : PyData.eqv (tabD n D) (tabD n D) = true := by
  unfold tabD
  rw [eqv_list]
  refine eqvAll_self fun x hx => ?_
  obtain ⟨i, _, rfl⟩ := List.mem_map.mp hx
  rw [eqv_list]
  refine eqvAll_self fun y hy => ?_
  obtain ⟨b, _, rfl⟩ := List.mem_map.mp hy
  cases D i b with
  | none => simp [lowD]
  | some w => simp [lowD]
theorem tabD_eq {D' : Tb} (h : ∀ a b, 0 ≤ a ∧ a < (n : Int) → 0 ≤ b ∧ b < (n : Int) → D a b = D' a b) : tabD n D = tabD n D' := by
  unfold tabD
  congr 1
  refine List.map_congr_left fun i hi => ?_
  congr 1
  refine List.map_congr_left fun b hb => ?_
  rw [h i b (idx_in i hi) (idx_in b hb)]
theorem Td.ne {D' : Tb} {q' lo' hi' : Nat} (a : Td S n D q lo hi) (b : Td S n D' q' lo' hi') (h : ∀ a b, 0 ≤ a ∧ a < (n : Int) → 0 ≤ b ∧ b < (n : Int) → D a b = D' a b) : gNe (.loc q) (.loc q') S = some (.ok (.bl false) S) := by
  have := ev_eq (neg := true) a.data b.data
  rw [← tabD_eq h, tabD_self] at this
  exact this
theorem Td.ix (h : Td S n D q lo hi) {a : Int} (ha : 0 ≤ a ∧ a < (n : Int)) : ∃ r, gIx (.loc q) (.int a) S = some (.ok (.loc r) S) ∧ ∀ b, 0 ≤ b ∧ b < (n : Int) → gIx (.loc r) (.int b) S = some (.ok (lowV (D a b)) S) := by
  obtain ⟨g, s, _, _⟩ := h
  exact ⟨g a, ev_ixL s.tab (rowF_at (f := fun i => .loc (g i)) ha.1 ha.2), fun b hb => ev_ixL (s.row a ha.1 ha.2) (rowF_at (f := fun b => lowV (D a b)) hb.1 hb.2)⟩
theorem Td.len (h : Td S n D q lo hi) : gLen [.loc q] S = some (.ok (.int n) S) := by
  obtain ⟨g, s, _, _⟩ := h
  have := ev_lenL s.tab
  rw [rowF_len] at this
  exact this
theorem table_loop {l t : Nat} {r : Int → Nat} (B : BAt S k n lits D l t r) (hn : n ≤ 80) : ∀ (is : List Int) (acc : List PV) (cells : Sto), InL n is → acc.length + is.length ≤ 1000 →
    forL (gN 3) [3] l__law_table_1 [] (intsP is) [some (.loc k), some (.int (n : Int)), some (.loc S.length), none, none] (S ++ .lst acc :: cells) =
      some (.next [some (.loc k), some (.int (n : Int)), some (.loc S.length), none, none] (S ++ .lst (acc ++ (List.range is.length).map fun j => .loc (S.length + 1 + cells.length + j)) :: (cells ++ is.map fun i => .lst (rowF n fun b => lowV (D i b)))))
  | [], acc, cells, _, _ => by rw [intsP_nil, forL_nil (by simp)]; simp
  | a :: is, acc, cells, h, hl => by
    have ha := h a List.mem_cons_self
    rw [List.length_cons] at hl
    have ih := table_loop B hn is (acc ++ [.loc (S.length + 1 + cells.length)]) (cells ++ [.lst (rowF n fun b => lowV (D a b))]) h.tl (by rw [List.length_append, List.length_singleton]; omega)
    have B1 := B.app (.lst acc :: cells)
    have hU : (S ++ PO.lst acc :: cells).length = S.length + 1 + cells.length := by rw [List.length_append, List.length_cons]; omega
    have cm : dComp (dRng1 (dCons (dVar 1) dNil)) (nmOne 4) [4] dYes (dIMeth "Bounds" "bound" F_Bounds_bound (dVar 0) (dCons (dVar 3) (dCons (dVar 4) dNil))) [some (.loc k), some (.int (n : Int)), some (.loc S.length), some (.int a), none] (S ++ .lst acc :: cells) = some (.ok (.loc (S.length + 1 + cells.length)) (S ++ .lst acc :: (cells ++ [.lst (rowF n fun b => lowV (D a b))]))) := by
      rw [ev_compF (S1 := S ++ .lst acc :: cells) (keep := []) PV.int (fun _ => true) (fun b => lowV (D a b)) (items := idx n) (by simp [rng_idx, intsP]) (by simp) (fun b hb acc' => by
        have B2 := B1.app [.lst acc']
        have e := bound_spec B2 ha (idx_in b hb)
        have i1 : isInsP "Bounds" "bound" (.loc k) (S ++ .lst acc :: cells ++ [.lst acc']) = true := B2.is
        refine ⟨[4], [.int b], rfl, rfl, fun _ => ?_⟩
        simp only [List.append_assoc, List.cons_append] at e i1
        simp [setsE, i1, e]) (by simp [idx]; omega)]
      rw [hU, List.filter_eq_self.mpr fun _ _ => rfl, ← rowF_idx]
      simp
    have ap : gAppend (.loc S.length) [.loc (S.length + 1 + cells.length)] (S ++ .lst acc :: (cells ++ [.lst (rowF n fun b => lowV (D a b))])) = some (.ok .non (S ++ .lst (acc ++ [.loc (S.length + 1 + cells.length)]) :: (cells ++ [.lst (rowF n fun b => lowV (D a b))]))) := by
      rw [ev_append at_0 (by omega), put_0]
    have ty : tyP "list" (.loc S.length) (S ++ .lst acc :: cells) = true := ev_tyL at_0
    have nc : ¬ Cl (S ++ .lst acc :: cells) (S ++ .lst (acc ++ [.loc (S.length + 1 + cells.length)]) :: (cells ++ [.lst (rowF n fun b => lowV (D a b))])) := fun c => by
      rcases c S.length _ (by rw [hU]; omega) at_0 with h | h
      · rw [at_0] at h
        simp at h
      · have := bds_last h
        have this : S.length + 1 + cells.length < (S ++ PO.lst acc :: cells).length := this
        omega
    have body := body_keep (kill := [3]) (ρ := [some (.loc k), some (.int (n : Int)), some (.loc S.length), some (.int a), none]) (ρ' := [some (.loc k), some (.int (n : Int)), some (.loc S.length), some (.int a), none]) (f := (dExpr (dMeth "list" gAppend (dVar 2) (dCons (dComp (dRng1 (dCons (dVar 1) dNil)) (nmOne 4) [4] dYes (dIMeth "Bounds" "bound" F_Bounds_bound (dVar 0) (dCons (dVar 3) (dCons (dVar 4) dNil)))) dNil)))) (by simp [cm, ap, ty]) nc
    have body : l__law_table_1 [some (.loc k), some (.int (n : Int)), some (.loc S.length), some (.int a), none] (S ++ .lst acc :: cells) = _ := body
    rw [intsP_cons, forL_cons (by simp)]
    simp only [ev_gN, List.set_cons_succ, List.set_cons_zero, body, ev_killC, ev_killN, ih]
    rw [List.length_cons, List.range_succ_eq_map, List.map_cons, List.map_map]
    have : ((fun j => PV.loc (S.length + 1 + cells.length + j)) ∘ Nat.succ) = fun j => PV.loc (S.length + 1 + (cells ++ [PO.lst (rowF n fun b => lowV (D a b))]).length + j) := by
      funext j
      simp only [Function.comp_apply, List.length_append, List.length_singleton]
      congr 1
      omega
    rw [this]
    simp
theorem table_spec (h : Bd S k n lits D lo hi) (h1 : 1 ≤ n) (hn : n ≤ 80) : ∃ W, F__law_table [.loc k] S = some (.ok (.loc S.length) W) ∧ Gr S W ∧ Td W n D S.length S.length W.length := by
  obtain ⟨l, t, r, B, _⟩ := h
  have sz := size_spec B
  have is1 : isInsP "Bounds" "size" (.loc k) S = true := B.is
  have lp := table_loop B hn (idx n) [] [] idx_in (by simp [idx]; omega)
  have rr := rng_row (n := n) (c := S.length + 1) (g := fun i => .loc (S.length + 1 + i.toNat)) fun j => by simp
  simp only [List.length_nil, Nat.add_zero, List.nil_append, rr] at lp
  have t0 : (S ++ .lst (rowF n fun i => .loc (S.length + 1 + i.toNat)) :: (idx n).map fun i => PO.lst (rowF n fun b => lowV (D i b)))[S.length]? = some (.lst (rowF n fun i => .loc (S.length + 1 + i.toNat))) := at_0
  refine ⟨S ++ .lst (rowF n fun i => .loc (S.length + 1 + i.toNat)) :: (idx n).map fun i => PO.lst (rowF n fun b => lowV (D i b)), (dDef_ret (v := .loc S.length) (S' := S ++ .lst (rowF n fun i => .loc (S.length + 1 + i.toNat)) :: (idx n).map fun i => PO.lst (rowF n fun b => lowV (D i b))) rfl ?_).trans ?_, Gr.app _ _, fun i => S.length + 1 + i.toNat, ⟨t0, fun i h0 h1 => ?_⟩, ⟨Nat.le_refl _, by simp⟩, fun i h0 h1 => ⟨?_, ?_⟩⟩
  · simp [b__law_table, b__law_table_t0, b__law_table_t1, b__law_table_t2, b__law_table_t3, is1, sz, rng_idx, lp]
  · have hf : noLocs (rowF n fun i => .loc (S.length + 1 + i.toNat)) = false := by
      obtain ⟨m, rfl⟩ : ∃ m, n = m + 1 := ⟨n - 1, by omega⟩
      unfold rowF
      rw [List.range_succ_eq_map, List.map_cons]
      rfl
    unfold gcE
    simp [noLoc, hf]
  · have : (idx n)[i.toNat]? = some i := by
      unfold idx
      rw [List.getElem?_map, List.getElem?_range (by omega)]
      simp
      omega
    rw [Nat.add_assoc, get_off, Nat.add_comm 1, List.getElem?_cons_succ, List.getElem?_map, this]
    rfl
  · show S.length ≤ S.length + 1 + i.toNat
    omega
  · show S.length + 1 + i.toNat < _
    simp [idx]; omega
theorem within_in (T : Td S n D q lo hi) {v : Int → Int} (hv : ∀ a b w, 0 ≤ a ∧ a < (n : Int) → D a b = some w → v a - v b ≤ w) {a : Int} (ha : 0 ≤ a ∧ a < (n : Int)) : ∀ is : List Int, InL n is →
    forL (gN 3) [3] l__law_within_2 [] (intsP is) [some (.tup (rowI n v)), some (.loc q), some (.int a), none] S = some (.next [some (.tup (rowI n v)), some (.loc q), some (.int a), none] S)
  | [], _ => by rw [intsP_nil, forL_nil (by simp)]
  | b :: is, h => by
    have hb := h b List.mem_cons_self
    have ih := within_in T hv ha is h.tl
    obtain ⟨r, x1, x2⟩ := T.ix ha
    have x2 := x2 b hb
    have y1 := row_ix (S := S) (v := v) ha
    have y2 := row_ix (S := S) (v := v) hb
    rw [intsP_cons, forL_cons (by simp)]
    cases e : D a b with
    | none =>
      rw [e] at x2
      have x2 : gIx (.loc r) (.int b) S = some (.ok .non S) := x2
      simp [l__law_within_2, x1, x2] at ih ⊢
      exact ih
    | some w =>
      rw [e] at x2
      have x2 : gIx (.loc r) (.int b) S = some (.ok (.int w) S) := x2
      have := hv a b w ha e
      have hw : ¬ w < v a - v b := by omega
      simp [l__law_within_2, x1, x2, y1, y2, hw] at ih ⊢
      exact ih
theorem within_out (T : Td S n D q lo hi) {v : Int → Int} (hv : ∀ a b w, 0 ≤ a ∧ a < (n : Int) → D a b = some w → v a - v b ≤ w) : ∀ is : List Int, InL n is →
    forL (gN 2) [2, 3] l__law_within_1 [] (intsP is) [some (.tup (rowI n v)), some (.loc q), none, none] S = some (.next [some (.tup (rowI n v)), some (.loc q), none, none] S)
  | [], _ => by rw [intsP_nil, forL_nil (by simp)]
  | a :: is, h => by
    have ih := within_out T hv is h.tl
    have e := within_in T hv (h a List.mem_cons_self) (idx n) idx_in
    have body : l__law_within_1 [some (.tup (rowI n v)), some (.loc q), some (.int a), none] S = some (.next [some (.tup (rowI n v)), some (.loc q), some (.int a), none] S) := by
      simp [l__law_within_1, T.len, rng_idx, e]
    rw [intsP_cons, forL_cons (by simp)]
    simp only [ev_gN, List.set_cons_succ, List.set_cons_zero, body, ev_killC, ev_killN]
    exact ih
theorem within_spec (T : Td S n D q lo hi) {v : Int → Int} (hv : ∀ a b w, 0 ≤ a ∧ a < (n : Int) → D a b = some w → v a - v b ≤ w) : F__law_within [.tup (rowI n v), .loc q] S = some (.ok (.bl true) S) := by
  have e := within_out T hv (idx n) idx_in
  refine call_val0 ?_ rfl
  simp [b__law_within, T.len, rng_idx, e]
end
/-! ### long rings -/
theorem in_trips {S : Sto} {q : Nat} {l : List T3} {p : T3} (hq : S[q]? = some (.lst (tripsP l))) (hp : p ∈ l) : gIn (tripP p) (.loc q) S = some (.ok (.bl true) S) := by
  have h1 : toD 60 S (tripP p) = some (Dat.dat p) := Dat.td' 60 (by decide) S p
  have h2 : toD 60 S (.loc q) = some (.list (l.map Dat.dat)) := toD_lst (n := 59) hq (mapO_map fun x _ => Dat.td' 59 (by decide) S x)
  unfold gIn gInN inP
  rw [h1, h2]
  have : ((l.map Dat.dat).any fun z => PyData.eqv z (Dat.dat p)) = true := by
    rw [List.any_map, List.any_eq_true]
    exact ⟨p, hp, (Dat.eqv p p).mpr rfl⟩
  simp only [this]
  rfl
theorem ev_sumI {S : Sto} {q : Nat} {l : List Int} (hq : S[q]? = some (.lst (intsP l))) : gSumL [.loc q] S = some (.ok (.int l.sum) S) := by
  unfold gSumL
  dsimp only
  rw [intsAt_of2 hq]
def preS (x : Int → Int) (m : Nat) : Int := ((List.range m).map fun j : Nat => x j).sum
theorem preS_succ {x : Int → Int} {m : Nat} : preS x (m + 1) = preS x m + x m := by
  unfold preS
  rw [List.range_succ, List.map_append, List.sum_append]
  simp
theorem preS_bd {x : Int → Int} {n : Nat} (h : ∀ i : Nat, i + 1 < n → -4 ≤ x i ∧ x i ≤ 4) : ∀ m : Nat, m + 1 ≤ n → -(4 * (m : Int)) ≤ preS x m ∧ preS x m ≤ 4 * m
  | 0, _ => by simp [preS]
  | m + 1, hm => by
    have ih := preS_bd h m (by omega)
    have hx := h m (by omega)
    rw [preS_succ]
    omega
def nxt (n : Nat) (i : Int) : Int := (i + 1) % (n : Int)
theorem nxt_in {n : Nat} {i : Int} (h1 : 1 ≤ n) : 0 ≤ nxt n i ∧ nxt n i < (n : Int) := ⟨Int.emod_nonneg _ (by omega), Int.emod_lt_of_pos _ (by omega)⟩
theorem nxt_of {n : Nat} {i : Int} (h0 : 0 ≤ i) (h : i + 1 < (n : Int)) : nxt n i = i + 1 := Int.emod_eq_of_lt (by omega) h
theorem nxt_last {n : Nat} {i : Int} (h : i + 1 = (n : Int)) : nxt n i = 0 := by unfold nxt; rw [h]; exact Int.emod_self
section
variable {S U : Sto} {k n q : Nat} {base : List T3} {x : Int → Int} {ns : List Int}
theorem go_round {L : List T3} (h : ∀ i : Int, 0 ≤ i → i < (n : Int) → (i, nxt n i, x i) ∈ L) : ∀ m : Nat, m + 1 ≤ n → Wk L 0 m (preS x m)
  | 0, _ => by simpa [preS] using Wk.nil (l := L) 0
  | m + 1, hm => by
    have ih := go_round h m (by omega)
    have e := h m (by omega) (by omega)
    rw [nxt_of (by omega) (by omega)] at e
    rw [preS_succ]
    have := ih.append (Wk.one e)
    push_cast
    exact this
def bigs (n : Nat) (ns : List Int) (is : List Int) : List T3 := is.map fun i => (ns.getD i.toNat 0 % n, (ns.getD i.toNat 0 + 2) % n, 4 * (n : Int) + 400)
theorem bigs_loop {v1 : Int} {v2 v3 : Option PV} (h1 : 10 ≤ n) (hn : n ≤ 80) (hns : ns.length = 70) (hkq : k ≠ q) : ∀ (is : List Int) (acc : List T3) (U : Sto), U[k]? = some (.lst (intsP ns)) → U[q]? = some (.lst (tripsP acc)) → acc.length + is.length ≤ 1000 → (∀ i ∈ is, 0 ≤ i ∧ i < 3) →
    forL (gN 5) [5] l__law_long_1 [] (intsP is) [some (.loc k), some (.int (n : Int)), v2, v3, some (.loc q), none, none, none] U = some (.next [some (.loc k), some (.int (n : Int)), v2, v3, some (.loc q), none, none, none] (U.set q (.lst (tripsP (acc ++ bigs n ns is)))))
  | [], acc, U, _, hq, _, _ => by
    rw [intsP_nil, forL_nil (by simp)]
    have : U.set q (.lst (tripsP (acc ++ bigs n ns []))) = U := by
      rw [show acc ++ bigs n ns [] = acc by simp [bigs]]
      refine List.ext_getElem? fun j => ?_
      by_cases hj : q = j
      · subst hj
        rw [List.getElem?_set_self (lt_of_get hq), hq]
      · rw [List.getElem?_set_ne hj]
    rw [this]
  | i :: is, acc, U, hk, hq, hl, hi => by
    rw [List.length_cons] at hl
    have hi0 := hi i List.mem_cons_self
    have x1 := nb_at hk (i := i) (by omega) (by omega)
    have hn0 : (0 : Int) < (n : Int) := by omega
    have m1 := fun j S => ev_mod (S := S) (i := j) hn0
    have m2 : gMul (.int 4) (.int (n : Int)) U = some (.ok (.int (4 * n)) U) := ev_mulL (by omega)
    have ap : gAppend (.loc q) [.tup [.int (ns.getD i.toNat 0 % n), .int ((ns.getD i.toNat 0 + 2) % n), .int (4 * (n : Int) + 400)]] U = some (.ok .non (U.set q (.lst (tripsP (acc ++ [(ns.getD i.toNat 0 % n, (ns.getD i.toNat 0 + 2) % n, 4 * (n : Int) + 400)]))))) := by
      rw [ev_append hq (by rw [tripsP_len]; omega), ← tripsP_snoc]
      rfl
    have ty : tyP "list" (.loc q) U = true := ev_tyL hq
    have ih := bigs_loop (v1 := v1) (v2 := v2) (v3 := v3) h1 hn hns hkq is (acc ++ [(ns.getD i.toNat 0 % n, (ns.getD i.toNat 0 + 2) % n, 4 * (n : Int) + 400)]) (U.set q (.lst (tripsP (acc ++ [(ns.getD i.toNat 0 % n, (ns.getD i.toNat 0 + 2) % n, 4 * (n : Int) + 400)])))) (by rw [List.getElem?_set_ne hkq.symm]; exact hk) (List.getElem?_set_self (lt_of_get hq)) (by rw [List.length_append, List.length_singleton]; omega) (fun j hj => hi j (List.mem_cons_of_mem _ hj))
    rw [List.set_set] at ih
    have e : acc ++ [(ns.getD i.toNat 0 % n, (ns.getD i.toNat 0 + 2) % n, 4 * (n : Int) + 400)] ++ bigs n ns is = acc ++ bigs n ns (i :: is) := by simp [bigs]
    rw [e] at ih
    clear e
    generalize ns.getD i.toNat 0 = w at x1 ap ih
    have body : l__law_long_1 [some (.loc k), some (.int (n : Int)), v2, v3, some (.loc q), some (.int i), none, none] U = some (.next [some (.loc k), some (.int (n : Int)), v2, v3, some (.loc q), some (.int i), none, none] (U.set q (.lst (tripsP (acc ++ [(w % n, (w + 2) % n, 4 * (n : Int) + 400)]))))) := by
      simp only [l__law_long_1, ev_expr, ev_meth, ev_var, List.getElem?_cons_zero, List.getElem?_cons_succ, ev_bR_ok, ty, if_true, ev_cons, ev_tup, ev_op2, ev_opA, x1, m1, ev_c, ev_addI, ev_nil, ev_int, m2, ev_tup3, ap, ev_bS_ok]
    rw [intsP_cons, forL_cons (by simp)]
    simp only [ev_gN, List.set_cons_succ, List.set_cons_zero, body, ev_killC, ev_killN]
    exact ih
theorem long_tail {tg : Int} {v3 : Option PV} (g : Gr S U) (h1 : 10 ≤ n) (hn : n ≤ 80) (hk : S[k]? = some (.lst (intsP ns))) (hns : ns.length = 70) (hq0 : S.length ≤ q) (hq : U[q]? = some (.lst (tripsP base))) (hlen : base.length ≤ 100)
    (b1 : ∀ p ∈ base, ∃ i : Int, (0 ≤ i ∧ i < (n : Int)) ∧ p = (i, nxt n i, x i)) (b2 : ∀ i : Int, 0 ≤ i → i < (n : Int) → (i, nxt n i, x i) ∈ base) (hx : ∀ i : Nat, i + 1 < n → -4 ≤ x i ∧ x i ≤ 4) (hsum : preS x n = tg) (htg : tg = 0 ∨ tg = -1) :
    ∃ Z, Gr S Z ∧ b__law_long_t6 [some (.loc k), some (.int (n : Int)), some (.int tg), v3, some (.loc q), none, none, none] U = some (.ret (.bl true) Z) := by
  have hkl := lt_of_get hk
  have lp := bigs_loop (v1 := 0) (v2 := some (.int tg)) (v3 := v3) h1 hn hns (by omega) [0, 1, 2] base U (g.at_ hk) hq (by simp; omega) (by
    intro i hi
    simp only [List.mem_cons, List.not_mem_nil, or_false] at hi
    rcases hi with rfl | rfl | rfl <;> omega)
  have lp : forL (gN 5) [5] l__law_long_1 [] (rangeP 0 3) [some (.loc k), some (.int (n : Int)), some (.int tg), v3, some (.loc q), none, none, none] U = some (.next [some (.loc k), some (.int (n : Int)), some (.int tg), v3, some (.loc q), none, none, none] (U.set q (.lst (tripsP (base ++ bigs n ns [0, 1, 2]))))) := lp
  have hb : ∀ p ∈ bigs n ns [0, 1, 2], (0 ≤ p.1 ∧ p.1 < (n : Int)) ∧ (0 ≤ p.2.1 ∧ p.2.1 < (n : Int)) ∧ p.2.2 = 4 * (n : Int) + 400 := fun p hp => by
    obtain ⟨i, _, rfl⟩ := List.mem_map.mp hp
    exact ⟨⟨Int.emod_nonneg _ (by omega), Int.emod_lt_of_pos _ (by omega)⟩, ⟨Int.emod_nonneg _ (by omega), Int.emod_lt_of_pos _ (by omega)⟩, rfl⟩
  have hin : InN n (base ++ bigs n ns [0, 1, 2]) := fun p hp => by
    rcases List.mem_append.mp hp with hp | hp
    · obtain ⟨i, hi, rfl⟩ := b1 p hp
      exact ⟨hi, nxt_in (by omega)⟩
    · exact ⟨(hb p hp).1, (hb p hp).2.1⟩
  have hZ : Gr S (U.set q (.lst (tripsP (base ++ bigs n ns [0, 1, 2])))) := ⟨by rw [List.length_set]; exact g.1, fun j hj => by rw [List.getElem?_set_ne (by omega)]; exact g.2 j hj⟩
  have hZq : (U.set q (PO.lst (tripsP (base ++ bigs n ns [0, 1, 2]))))[q]? = some (.lst (tripsP (base ++ bigs n ns [0, 1, 2]))) := List.getElem?_set_self (lt_of_get hq)
  generalize hL : base ++ bigs n ns [0, 1, 2] = L at lp hin hZ hZq
  generalize U.set q (PO.lst (tripsP L)) = Z at lp hZ hZq
  obtain ⟨r, fr, e1⟩ := find_ring_spec (S := Z) (n := n) (by omega) hn (in_pts hin) (Seq.lst hZq)
  rcases htg with htg | htg
  · have hp : Pot L fun i => -preS x i.toNat := fun p hp => by
      rw [← hL] at hp
      show -preS x p.1.toNat ≤ -preS x p.2.1.toNat + p.2.2
      rcases List.mem_append.mp hp with hp | hp
      · obtain ⟨i, ⟨h0, hi⟩, rfl⟩ := b1 p hp
        show -preS x i.toNat ≤ -preS x (nxt n i).toNat + x i
        have hi' : ((i.toNat : Nat) : Int) = i := Int.toNat_of_nonneg h0
        have ps := preS_succ (x := x) (m := i.toNat)
        rw [hi'] at ps
        by_cases hl : i + 1 < (n : Int)
        · rw [nxt_of h0 hl, show (i + 1).toNat = i.toNat + 1 by omega]
          omega
        · have hl : i + 1 = (n : Int) := by omega
          rw [nxt_last hl]
          have : i.toNat + 1 = n := by omega
          rw [this, hsum, htg] at ps
          have : preS x (0 : Int).toNat = 0 := rfl
          omega
      · obtain ⟨c1, c2, c3⟩ := hb p hp
        have d1 := preS_bd hx p.1.toNat (by omega)
        have d2 := preS_bd hx p.2.1.toNat (by omega)
        omega
    have hr := found_none fr fun x w h => hp.ring h
    subst hr
    subst htg
    exact ⟨Z, hZ, by simp [b__law_long_t6, b__law_long_t7, b__law_long_t8, lp, e1]⟩
  · have w := go_round (L := L) (fun i h0 hi => by rw [← hL]; exact List.mem_append_left _ (b2 i h0 hi)) (n - 1) (by omega)
    have e := b2 ((n - 1 : Nat) : Int) (by omega) (by omega)
    rw [nxt_last (by omega)] at e
    have e : (((n - 1 : Nat) : Int), (0 : Int), x ((n - 1 : Nat) : Int)) ∈ L := by rw [← hL]; exact List.mem_append_left _ e
    have w2 := w.append (Wk.one e)
    have ps := preS_succ (x := x) (m := n - 1)
    rw [show n - 1 + 1 = n by omega, hsum] at ps
    obtain ⟨rs, rfl, r1, r2, r3⟩ := found_ring fr ⟨_, _, w2, by omega⟩
    have e3 := is_ring_spec (S := Z) (v := .tup (tripsP rs)) Seq.tup (by omega : rs.length ≤ 1000000)
    rw [r1] at e3
    have ac := all_comp (f := nmOne 7) (own := [7]) (elt := dOp2 gIn (dVar 7) (dVar 4)) (ρ := [some (.loc k), some (.int (n : Int)), some (.int tg), v3, some (.loc q), none, some (.tup (tripsP rs)), none]) (S := Z) (it := dSeqI (dVar 6)) (keep := []) (items := rs) tripP (fun _ => true) (by simp [tripsP]) (by simp) (fun p hp acc => ⟨[7], [tripP p], rfl, by
      have := in_trips (S := Z ++ [.lst acc]) (at_old hZq) (r2 p hp)
      simp [setsE, this]⟩) (by omega)
    have ha : rs.all (fun _ => true) = true := by simp
    rw [ha] at ac
    subst htg
    refine ⟨Z ++ [.lst ((rs.map fun _ => true).map PV.bl)], hZ.trans (Gr.app _ _), ?_⟩
    simp only [b__law_long_t6, b__law_long_t7, b__law_long_t8, b__law_long_t9, ev_seq, ev_for, ev_rng1, ev_cons, ev_c, ev_nil, ev_bR_ok, show (3 : Int).toNat = 3 from rfl, ev_bS_ok, ev_killC, ev_killN, List.set_cons_succ, List.set_cons_zero, lp]
    have f1 : dOpA F_find_ring (dCons (dVar 1) (dCons (dVar 4) dNil)) [some (.loc k), some (.int (n : Int)), some (.int (-1)), v3, some (.loc q), none, none, none] Z = some (.ok (.tup (tripsP rs)) Z) := by simp [e1]
    have f2 : dOpA F_is_ring (dCons (dVar 6) dNil) [some (.loc k), some (.int (n : Int)), some (.int (-1)), v3, some (.loc q), none, some (.tup (tripsP rs)), none] Z = some (.ok (.bl true) Z) := by simp [e3]
    simp [f1, f2, ac, -ev_opA, -List.map_map]
theorem long_spec (hk : S[k]? = some (.lst (intsP ns))) (hns : ns.length = 70) : F__law_long [.loc k] S = some (.ok (.bl true) S) := by
  have x63 := nb_at hk (i := 63) (by omega) (by omega)
  have x64 := nb_at hk (i := 64) (by omega) (by omega)
  have x65 := fun T : Sto => nb_at (S := S ++ T) (at_old hk) (i := 65) (by omega) (by omega)
  generalize ns.getD (63 : Int).toNat 0 = w63 at x63
  generalize ns.getD (64 : Int).toNat 0 = w64 at x64
  generalize ns.getD (65 : Int).toNat 0 = w65 at x65
  have m63 := ev_mod (S := S) (i := w63) (show (0 : Int) < 71 by omega)
  have m64 := ev_mod (S := S) (i := w64) (show (0 : Int) < 2 by omega)
  obtain ⟨n, hn⟩ : ∃ n : Nat, 10 + w63 % 71 = n := ⟨(10 + w63 % 71).toNat, by omega⟩
  have h1 : 10 ≤ n := by omega
  have h80 : n ≤ 80 := by omega
  obtain ⟨tg, htg⟩ : ∃ tg : Int, 0 - w64 % 2 = tg := ⟨_, rfl⟩
  have htg2 : tg = 0 ∨ tg = -1 := by omega
  have cm1 : dComp (dRng1 (dCons (dOp2 gSub (dVar 1) (dC (.int 1))) dNil)) (nmOne 5) [5] dYes (dOp2 gSub (dOp2 gMod (dOp2 gIx (dVar 0) (dOp2 gMod (dOpA gInt (dCons (dVar 5) dNil)) (dC (.int 60)))) (dC (.int 9))) (dC (.int 4))) [some (.loc k), some (.int (n : Int)), some (.int tg), none, none, none, none, none] S =
      some (.ok (.loc S.length) (S ++ [.lst (intsP ((idx (n - 1)).map fun i => ns.getD (i % 60).toNat 0 % 9 - 4))])) := by
    rw [ev_compF (S1 := S) (keep := []) PV.int (fun _ => true) (fun i => .int (ns.getD (i % 60).toNat 0 % 9 - 4)) (items := idx (n - 1)) (by
      have : ((n : Int) - 1).toNat = n - 1 := by omega
      simp [this, rng_idx, intsP]) (by simp) (fun i hi acc => ⟨[5], [.int i], rfl, rfl, fun _ => by
      have c1 := Int.emod_nonneg i (show (60 : Int) ≠ 0 by omega)
      have c2 := Int.emod_lt_of_pos i (show (0 : Int) < 60 by omega)
      have y := nb_at (S := S ++ [.lst acc]) (at_old hk) (i := i % 60) (by omega) (by omega)
      have z1 := ev_mod (S := S ++ [.lst acc]) (i := i) (show (0 : Int) < 60 by omega)
      have z2 := ev_mod (S := S ++ [.lst acc]) (i := ns.getD (i % 60).toNat 0) (show (0 : Int) < 9 by omega)
      simp only [setsE, ev_killC, ev_killN, List.set_cons_succ, List.set_cons_zero, ev_op2, ev_var, List.getElem?_cons_succ, List.getElem?_cons_zero, ev_bR_ok, ev_opA, ev_cons, ev_nil, ev_int, ev_c, z1, y, z2, ev_sub]⟩) (by simp [idx]; omega)]
    rw [List.filter_eq_self.mpr fun _ _ => rfl]
    simp [intsP, Function.comp_def]
  obtain ⟨st, hst⟩ : ∃ st : List Int, st = (idx (n - 1)).map fun i => ns.getD (i % 60).toNat 0 % 9 - 4 := ⟨_, rfl⟩
  have stl : st.length = n - 1 := by rw [hst]; simp [idx]
  have stb : ∀ y ∈ st, -4 ≤ y ∧ y ≤ 4 := fun y hy => by
    rw [hst] at hy
    obtain ⟨i, _, rfl⟩ := List.mem_map.mp hy
    have c1 := Int.emod_nonneg (ns.getD (i % 60).toNat 0) (show (9 : Int) ≠ 0 by omega)
    have c2 := Int.emod_lt_of_pos (ns.getD (i % 60).toNat 0) (show (0 : Int) < 9 by omega)
    omega
  rw [← hst] at cm1
  clear hst
  have sm := ev_sumI (S := S ++ [.lst (intsP st)]) (q := S.length) at_0
  have ap : gAppend (.loc S.length) [.int (tg - st.sum)] (S ++ [.lst (intsP st)]) = some (.ok .non (S ++ [.lst (intsP (st ++ [tg - st.sum]))])) := by
    rw [ev_append at_0 (by simp [intsP]; omega), put_0]
    simp [intsP]
  have ty : tyP "list" (.loc S.length) (S ++ [.lst (intsP st)]) = true := ev_tyL at_0
  obtain ⟨sts, hsts⟩ : ∃ sts : List Int, sts = st ++ [tg - st.sum] := ⟨_, rfl⟩
  have stsl : sts.length = n := by rw [hsts, List.length_append, List.length_singleton]; omega
  have ssum : preS (fun i => sts.getD i.toNat 0) n = tg := by
    have : ((List.range n).map fun j : Nat => sts.getD ((j : Int)).toNat 0) = sts := by
      refine List.ext_getElem? fun j => ?_
      by_cases hj : j < n
      · rw [List.getElem?_map, List.getElem?_range hj]
        simp only [Option.map_some, Int.toNat_natCast]
        rw [List.getD_eq_getElem?_getD, List.getElem?_eq_getElem (by omega)]
        rfl
      · rw [List.getElem?_eq_none (by simp; omega), List.getElem?_eq_none (by omega)]
    unfold preS
    rw [this, hsts, List.sum_append]
    simp
    omega
  have sbd : ∀ i : Nat, i + 1 < n → -4 ≤ sts.getD ((i : Int)).toNat 0 ∧ sts.getD ((i : Int)).toNat 0 ≤ 4 := fun i hi => by
    rw [Int.toNat_natCast, hsts, List.getD_eq_getElem?_getD, List.getElem?_append_left (by omega), List.getElem?_eq_getElem (by omega)]
    exact stb _ (List.getElem_mem _)
  rw [← hsts] at ap
  have s0 : (S ++ [PO.lst (intsP sts)])[S.length]? = some (.lst (intsP sts)) := at_0
  have cm2 : dComp (dRng1 (dCons (dVar 1) dNil)) (nmOne 5) [5] dYes (dTup (dCons (dVar 5) (dCons (dOp2 gMod (dOpA gInt (dCons (dOp2 gAdd (dVar 5) (dC (.int 1))) dNil)) (dVar 1)) (dCons (dOp2 gIx (dVar 3) (dVar 5)) dNil)))) [some (.loc k), some (.int (n : Int)), some (.int tg), some (.loc S.length), none, none, none, none] (S ++ [.lst (intsP sts)]) =
      some (.ok (.loc (S.length + 1)) (S ++ [.lst (intsP sts)] ++ [.lst (tripsP ((idx n).map fun i => (i, nxt n i, sts.getD i.toNat 0)))])) := by
    rw [ev_compF (S1 := S ++ [.lst (intsP sts)]) (keep := []) PV.int (fun _ => true) (fun i => tripP (i, nxt n i, sts.getD i.toNat 0)) (items := idx n) (by simp [rng_idx, intsP]) (by simp) (fun i hi acc => ⟨[5], [.int i], rfl, rfl, fun _ => by
      have hi := idx_in i hi
      have y := ev_ixL (S := S ++ [.lst (intsP sts)] ++ [.lst acc]) (at_old s0) (ints_at (l := sts) (i := i) hi.1 (by omega))
      have z1 := ev_mod (S := S ++ [.lst (intsP sts)] ++ [.lst acc]) (i := i + 1) (show (0 : Int) < (n : Int) by omega)
      simp only [setsE, ev_killC, ev_killN, List.set_cons_succ, List.set_cons_zero, ev_tup, ev_op2, ev_var, List.getElem?_cons_succ, List.getElem?_cons_zero, ev_bR_ok, ev_opA, ev_cons, ev_nil, ev_int, ev_c, ev_addI, z1, y, ev_tup3]
      rfl⟩) (by simp [idx]; omega)]
    rw [List.filter_eq_self.mpr fun _ _ => rfl]
    simp [tripsP, Function.comp_def]
  obtain ⟨base, hbase⟩ : ∃ base : List T3, base = (idx n).map fun i => (i, nxt n i, sts.getD i.toNat 0) := ⟨_, rfl⟩
  have bl : base.length = n := by rw [hbase]; simp [idx]
  have b1 : ∀ p ∈ base, ∃ i : Int, (0 ≤ i ∧ i < (n : Int)) ∧ p = (i, nxt n i, (fun i : Int => sts.getD i.toNat 0) i) := fun p hp => by
    rw [hbase] at hp
    obtain ⟨i, hi, rfl⟩ := List.mem_map.mp hp
    exact ⟨i, idx_in i hi, rfl⟩
  have b2 : ∀ i : Int, 0 ≤ i → i < (n : Int) → (i, nxt n i, (fun i : Int => sts.getD i.toNat 0) i) ∈ base := fun i h0 hi => by
    rw [hbase]
    exact List.mem_map.mpr ⟨i, in_idx ⟨h0, hi⟩, rfl⟩
  rw [← hbase] at cm2
  clear hbase
  have m65 := ev_mod (S := S ++ [PO.lst (intsP sts)] ++ [PO.lst (tripsP base)]) (i := w65) (show (0 : Int) < 2 by omega)
  have x65 := x65 [PO.lst (intsP sts), PO.lst (tripsP base)]
  have hA : S ++ [PO.lst (intsP sts)] ++ [PO.lst (tripsP base)] = S ++ [PO.lst (intsP sts), PO.lst (tripsP base)] := by simp
  rw [← hA] at x65
  have hb0 : (S ++ [PO.lst (intsP sts)] ++ [PO.lst (tripsP base)])[S.length + 1]? = some (.lst (tripsP base)) := by simp
  have gA : Gr S (S ++ [PO.lst (intsP sts)] ++ [PO.lst (tripsP base)]) := by rw [hA]; exact Gr.app _ _
  have hAl : (S ++ [PO.lst (intsP sts)] ++ [PO.lst (tripsP base)]).length = S.length + 2 := by simp
  generalize S ++ [PO.lst (intsP sts)] ++ [PO.lst (tripsP base)] = A at cm2 m65 x65 hb0 gA hAl
  clear hA
  generalize S ++ [PO.lst (intsP sts)] = B at ap cm2
  generalize S ++ [PO.lst (intsP st)] = C at cm1 sm ap ty
  have fin : ∃ Z, Gr S Z ∧ b__law_long [some (.loc k), none, none, none, none, none, none, none] S = some (.ret (.bl true) Z) := by
    by_cases h : w65 % 2 = 0
    · have rv := ev_revL hb0
      rw [hAl, show (tripsP base).reverse = tripsP base.reverse by simp [tripsP]] at rv
      have hq : (A ++ [PO.lst (tripsP base.reverse)])[S.length + 2]? = some (.lst (tripsP base.reverse)) := by rw [← hAl]; exact at_0
      obtain ⟨Z, gZ, e⟩ := long_tail (v3 := some (.loc S.length)) (gA.trans (Gr.app A _)) h1 h80 hk hns (by omega) hq (by rw [List.length_reverse]; omega) (fun p hp => b1 p (List.mem_reverse.mp hp)) (fun i h0 hi => List.mem_reverse.mpr (b2 i h0 hi)) sbd ssum htg2
      refine ⟨Z, gZ, ?_⟩
      generalize A ++ [PO.lst (tripsP base.reverse)] = R at rv e
      have hn' : (10 : Int) + w63 % 71 = n := hn
      rw [h] at m65
      simp [b__law_long, b__law_long_t0, b__law_long_t1, b__law_long_t2, b__law_long_t3, b__law_long_t4, b__law_long_t5, x63, m63, hn, x64, m64, htg, cm1, sm, ap, ty, cm2, x65, m65, rv]
      exact e
    · obtain ⟨Z, gZ, e⟩ := long_tail (v3 := some (.loc S.length)) gA h1 h80 hk hns (by omega) hb0 (by omega) b1 b2 sbd ssum htg2
      refine ⟨Z, gZ, ?_⟩
      simp [b__law_long, b__law_long_t0, b__law_long_t1, b__law_long_t2, b__law_long_t3, b__law_long_t4, b__law_long_t5, x63, m63, hn, x64, m64, htg, cm1, sm, ap, ty, cm2, x65, m65, h]
      exact e
  obtain ⟨Z, gZ, e⟩ := fin
  obtain ⟨T, rfl⟩ := gZ.ex
  exact call_val (T := T) e rfl
end
/-! ### the law -/
abbrev env (n : Nat) (great : Int) (v : PV) (q5 : Nat) (v6 v7 v8 : Option PV) : En := [some (.loc 0), some (.loc 1), some (.int (n : Int)), some (.int great), some v, some (.loc q5), v6, v7, v8, none, none, none, none, none, none, none]
def litV (v : Int → Int) (p : T3) : T3 := (p.1, p.2.1, v p.1 - v p.2.1 + if p.2.2 < 0 then -p.2.2 else p.2.2)
theorem lits_loop20 {n : Nat} {great : Int} {v : Int → Int} {q5 q6 : Nat} {all : List T3} (hne : q6 ≠ q5) : ∀ (ps acc : List T3) (U : Sto), U[q6]? = some (.lst (tripsP all)) → U[q5]? = some (.lst (tripsP acc)) → acc.length + ps.length ≤ 1000 → InN n ps →
    forL (gT 3 (gsCons (gN 6) (gsCons (gN 7) (gsCons (gN 8) gsNil)))) [6, 7, 8] l_law_1 [(q6, .lst (tripsP all))] (tripsP ps) (env n great (.tup (rowI n v)) q5 none none none) U = some (.next (env n great (.tup (rowI n v)) q5 none none none) (U.set q5 (.lst (tripsP (acc ++ ps.map (litV v))))))
  | [], acc, U, hk, hq, _, _ => by
    rw [tripsP_nil, forL_nil (by rw [kept_one]; exact hk)]
    have : U.set q5 (.lst (tripsP (acc ++ ([] : List T3).map (litV v)))) = U := by
      rw [show acc ++ ([] : List T3).map (litV v) = acc by simp]
      refine List.ext_getElem? fun j => ?_
      by_cases hj : q5 = j
      · subst hj
        rw [List.getElem?_set_self (lt_of_get hq), hq]
      · rw [List.getElem?_set_ne hj]
    rw [this]
  | p :: ps, acc, U, hk, hq, hl, hp => by
    rw [List.length_cons] at hl
    obtain ⟨ha, hb⟩ := hp p List.mem_cons_self
    have y1 := row_ix (S := U) (v := v) ha
    have y2 := row_ix (S := U) (v := v) hb
    have ap : gAppend (.loc q5) [tripP (litV v p)] U = some (.ok .non (U.set q5 (.lst (tripsP (acc ++ [litV v p]))))) := by
      rw [ev_append hq (by rw [tripsP_len]; omega), ← tripsP_snoc]
    have ap : gAppend (.loc q5) [.tup [.int p.1, .int p.2.1, .int (v p.1 - v p.2.1 + if p.2.2 < 0 then -p.2.2 else p.2.2)]] U = some (.ok .non (U.set q5 (.lst (tripsP (acc ++ [litV v p]))))) := ap
    have ty : tyP "list" (.loc q5) U = true := ev_tyL hq
    have ih := lits_loop20 (n := n) (great := great) (v := v) hne ps (acc ++ [litV v p]) (U.set q5 (.lst (tripsP (acc ++ [litV v p])))) (by rw [List.getElem?_set_ne hne.symm]; exact hk) (List.getElem?_set_self (lt_of_get hq)) (by rw [List.length_append, List.length_singleton]; omega) (fun x hx => hp x (List.mem_cons_of_mem _ hx))
    rw [List.set_set, show acc ++ [litV v p] ++ ps.map (litV v) = acc ++ (p :: ps).map (litV v) by simp] at ih
    have body : l_law_1 (env n great (.tup (rowI n v)) q5 (some (.int p.1)) (some (.int p.2.1)) (some (.int p.2.2))) U = some (.next (env n great (.tup (rowI n v)) q5 (some (.int p.1)) (some (.int p.2.1)) (some (.int p.2.2))) (U.set q5 (.lst (tripsP (acc ++ [litV v p]))))) := by
      simp only [l_law_1, env, ev_expr, ev_meth, ev_var, List.getElem?_cons_zero, List.getElem?_cons_succ, ev_bR_ok, ty, if_true, ev_cons, ev_tup, ev_op2, ev_opA, y1, y2, ev_sub, ev_nil, ev_abs, ev_addI, ev_tup3, ap, ev_bS_ok]
    rw [tripsP_cons, forL_cons (by rw [kept_one]; exact hk)]
    simp only [tripP, ev_gT, List.length_cons, List.length_nil, Nat.reduceAdd, if_true, ev_gsCons, ev_gN, ev_gsNil, List.set_cons_succ, List.set_cons_zero, body, ev_killC, ev_killN]
    exact ih
theorem litV_sat {v : Int → Int} (p : T3) : v (litV v p).1 - v (litV v p).2.1 ≤ (litV v p).2.2 := by
  show v p.1 - v p.2.1 ≤ v p.1 - v p.2.1 + if p.2.2 < 0 then -p.2.2 else p.2.2
  split <;> omega
theorem Sat_wk {l : List T3} {v : Int → Int} (h : ∀ p ∈ l, v p.1 - v p.2.1 ≤ p.2.2) {a b w : Int} (k : Wk l a b w) : v a - v b ≤ w := by
  have hp : Pot l v := fun p hp => by have := h p hp; omega
  have := hp.wk k
  omega
theorem addT_just {n : Nat} {lits : List T3} {D : Tb} (L : Lst n lits D) {a b w c : Int} (hc : c + w = 0) (ha : 0 ≤ a ∧ a < (n : Int)) (e : D b a = some w) (L2 : Lst n (lits ++ [(a, b, c)]) (addT n a b c D)) : addT n a b c D a b = some c := by
  have m1 : (a, b, c) ∈ lits ++ [(a, b, c)] := List.mem_append_right _ (List.mem_singleton.mpr rfl)
  obtain ⟨d, e1, h1⟩ := L2.wk a b _ ha (Wk.one m1)
  have k1 := (L.snd _ _ _ e).mono (l2 := lits ++ [(a, b, c)]) fun p hp => List.mem_append_left _ hp
  have := L2.ring a _ ((L2.snd _ _ _ e1).append k1)
  rw [e1]
  congr 1
  omega
theorem law_d : LawD F_law := by
  intro sc hsc
  obtain ⟨ns, hnn, hnl, e0⟩ := numbers_spec (S := [.fz (intsP sc)]) (k := 0) (sc := sc) rfl (many := 70) (by omega) (by omega)
  have hnl : ns.length = 70 := by omega
  have e0 : F__law_numbers [.loc 0, .int 70] [.fz (sc.map PV.int)] = some (.ok (.loc 1) [.fz (intsP sc), .lst (intsP ns)]) := e0
  obtain ⟨A, hA⟩ : ∃ A : Sto, A = [.fz (intsP sc), .lst (intsP ns)] := ⟨_, rfl⟩
  have n0 : A[1]? = some (.lst (intsP ns)) := by rw [hA]; rfl
  have hAl : A.length = 2 := by rw [hA]; rfl
  rw [← hA] at e0
  clear hA
  obtain ⟨n, hn⟩ : ∃ n : Nat, 1 + ns.getD (0 : Int).toNat 0 % 9 = n := ⟨(1 + ns.getD (0 : Int).toNat 0 % 9).toNat, by omega⟩
  have h1 : 1 ≤ n := by omega
  have h9 : n ≤ 9 := by omega
  have h8 : n ≤ 80 := by omega
  have a0 := nb_at n0 (i := 0) (by omega) (by omega)
  have m0 := ev_mod (S := A) (i := ns.getD (0 : Int).toNat 0) (show (0 : Int) < 9 by omega)
  have a1 := nb_at n0 (i := 1) (by omega) (by omega)
  have m1 := ev_mod (S := A) (i := ns.getD (1 : Int).toNat 0) (show (0 : Int) < 17 by omega)
  -- either
  obtain ⟨g1, q1, k1⟩ := new_gr A (.lst [.int 4, .int 9, .int 30])
  generalize hS1 : A ++ [PO.lst [.int 4, .int 9, .int 30]] = S1 at g1 q1 k1
  have n1 := g1.at_ n0
  have a2 := nb_at n1 (i := 2) (by omega) (by omega)
  have m2 := ev_mod (S := S1) (i := ns.getD (2 : Int).toNat 0) (show (0 : Int) < 3 by omega)
  obtain ⟨sz, hsz, e1⟩ := of3 (S := S1) (k := A.length) (x := ns.getD (2 : Int).toNat 0) q1
  obtain ⟨ls, S2, l2, c2, g2, q2, k2, e2⟩ := lits_gr n1 (by omega) (at_ := 10) (c := ns.getD (1 : Int).toNat 0 % 17) (sz := sz) h1 (by omega) (by rcases hsz with rfl | rfl | rfl <;> omega)
  have n2 := g2.at_ n1
  have e3 := either_spec h1 h8 q2 l2 (by omega)
  have e4 := long_spec n2 hnl
  -- the values
  have a3 := nb_at (S := S2 ++ [.lst [.int 1, .int 1, .int (10 ^ (22 : Int).toNat)]]) (at_old n2) (i := 3) (by omega) (by omega)
  have m3 := ev_mod (S := S2 ++ [.lst [.int 1, .int 1, .int (10 ^ (22 : Int).toNat)]]) (i := ns.getD (3 : Int).toNat 0) (show (0 : Int) < 3 by omega)
  obtain ⟨great, _, e5⟩ := of3 (S := S2 ++ [.lst [.int 1, .int 1, .int (10 ^ (22 : Int).toNat)]]) (k := S2.length) (x := ns.getD (3 : Int).toNat 0) at_0
  have pw : CPowD 10 22 := by unfold CPowD; decide
  have pw := ev_pow (S := S2) pw
  obtain ⟨g3, _, k3⟩ := new_gr S2 (.lst [.int 1, .int 1, .int (10 ^ (22 : Int).toNat)])
  generalize (10 : Int) ^ (22 : Int).toNat = big at a3 m3 e5 pw g3 k3
  have st3 : ∀ o, S2 ++ [.lst [.int 1, .int 1, .int big]] = o → S2 ++ [.lst [.int 1, .int 1, .int big]] = o := fun _ h => h
  generalize hS3 : S2 ++ [PO.lst [.int 1, .int 1, .int big]] = S3 at a3 m3 e5 g3 k3
  clear st3
  have n3 := g3.at_ n2
  obtain ⟨v, hv⟩ : ∃ v : Int → Int, v = fun i => (if 0 < i then 1 else 0) * (ns.getD (30 + i).toNat 0 % 61 - 30) * great := ⟨_, rfl⟩
  have v0 : v 0 = 0 := by rw [hv]; simp
  have cm : dComp (dRng1 (dCons (dVar 2) dNil)) (nmOne 15) [15] dYes (dOp2 gMul (dOp2 gMul (dOpA gInt (dCons (dOp2 gGt (dVar 15) (dC (.int 0))) dNil)) (dOp2 gSub (dOp2 gMod (dOp2 gIx (dVar 1) (dOpA gInt (dCons (dOp2 gAdd (dC (.int 30)) (dVar 15)) dNil))) (dC (.int 61))) (dC (.int 30)))) (dVar 3)) [some (.loc 0), some (.loc 1), some (.int (n : Int)), some (.int great), none, none, none, none, none, none, none, none, none, none, none, none] S3 =
      some (.ok (.loc S3.length) (S3 ++ [.lst (rowI n v)])) := by
    rw [ev_compF (S1 := S3) (keep := []) PV.int (fun _ => true) (fun i => .int (v i)) (items := idx n) (by simp [rng_idx, intsP]) (by simp) (fun i hi acc => ⟨[15], [.int i], rfl, rfl, fun _ => by
      have hi := idx_in i hi
      have y := nb_at (S := S3 ++ [.lst acc]) (at_old n3) (i := 30 + i) (by omega) (by omega)
      have z := ev_mod (S := S3 ++ [.lst acc]) (i := ns.getD (30 + i).toNat 0) (show (0 : Int) < 61 by omega)
      have c1 := Int.emod_nonneg (ns.getD (30 + i).toNat 0) (show (61 : Int) ≠ 0 by omega)
      have c2 := Int.emod_lt_of_pos (ns.getD (30 + i).toNat 0) (show (0 : Int) < 61 by omega)
      have u1 := ev_mulL (S := S3 ++ [.lst acc]) (i := if decide ((0 : Int) < i) = true then 1 else 0) (j := ns.getD (30 + i).toNat 0 % 61 - 30) (by split <;> omega)
      have u2 := ev_mulL (S := S3 ++ [.lst acc]) (i := (if decide ((0 : Int) < i) = true then 1 else 0) * (ns.getD (30 + i).toNat 0 % 61 - 30)) (j := great) (by split <;> omega)
      simp only [setsE, ev_killC, ev_killN, List.set_cons_succ, List.set_cons_zero, ev_op2, ev_var, List.getElem?_cons_succ, List.getElem?_cons_zero, ev_bR_ok, ev_opA, ev_cons, ev_nil, ev_c, ev_rel, ev_intB, ev_addI, ev_int, y, z, ev_sub, u1, u2, hv]
      by_cases h0 : 0 < i
      · simp [h0]
      · simp [h0]⟩) (by simp [idx]; omega)]
    rw [List.filter_eq_self.mpr fun _ _ => rfl]
    simp [rowI, intsP, Function.comp_def]
  clear hv
  obtain ⟨g4, q4, k4⟩ := new_gr S3 (.lst (rowI n v))
  generalize S3 ++ [PO.lst (rowI n v)] = S4 at cm g4 q4 k4
  have tp := ev_tupleL q4
  obtain ⟨g5, q5, k5⟩ := new_gr S4 (.lst [])
  generalize st5 : S4 ++ [PO.lst []] = S5 at g5 q5 k5
  have n5 := g5.at_ (g4.at_ n3)
  have a4 := nb_at n5 (i := 4) (by omega) (by omega)
  have m4 := ev_mod (S := S5) (i := ns.getD (4 : Int).toNat 0) (show (0 : Int) < 17 by omega)
  obtain ⟨ps, S6, l6, c6, g6, q6, k6, e6⟩ := lits_gr n5 (by omega) (at_ := 40) (c := ns.getD (4 : Int).toNat 0 % 17) (sz := 7) h1 (by omega) (by omega)
  have e7 := lits_loop20 (n := n) (great := great) (v := v) (q5 := S4.length) (q6 := S5.length) (all := ps) (by omega) ps [] S6 q6 (g6.at_ q5) (by simp; omega) l6
  rw [List.nil_append] at e7
  obtain ⟨all, hall⟩ : ∃ all, all = ps.map (litV v) := ⟨_, rfl⟩
  have al : all.length ≤ 17 := by rw [hall, List.length_map]; omega
  have ain : InN n all := fun p hp => by
    rw [hall] at hp
    obtain ⟨x, hx, rfl⟩ := List.mem_map.mp hp
    exact l6 x hx
  have asat : ∀ p ∈ all, v p.1 - v p.2.1 ≤ p.2.2 := fun p hp => by
    rw [hall] at hp
    obtain ⟨x, hx, rfl⟩ := List.mem_map.mp hp
    exact litV_sat x
  rw [← hall] at e7
  clear hall
  have ring0 : ∀ x w, Wk all x x w → 0 ≤ w := fun x w h => by have := Sat_wk asat h; omega
  have lt5 : S4.length < S6.length := by omega
  have n7 : (S6.set S4.length (.lst (tripsP all)))[1]? = some (.lst (intsP ns)) := by
    have := lt_of_get n3
    rw [List.getElem?_set_ne (by omega)]; exact g6.at_ n5
  have q7 : (S6.set S4.length (.lst (tripsP all)))[S4.length]? = some (.lst (tripsP all)) := List.getElem?_set_self lt5
  have k7 : (S6.set S4.length (.lst (tripsP all))).length = S6.length := List.length_set
  generalize S6.set S4.length (.lst (tripsP all)) = S7 at e7 n7 q7 k7
  -- taking
  obtain ⟨S8, D8, e8, g8, B8, L8⟩ : ∃ W D, F__law_taken [.int n, .loc S4.length] S7 = some (.ok (.loc S7.length) W) ∧ Gr S7 W ∧ Bd W S7.length n all D S7.length W.length ∧ Lst n all D := by
    rcases taken_spec h1 h8 q7 ain (by omega) with h | ⟨_, x, w, w1, w2⟩
    · exact h
    · have := ring0 x w w1
      omega
  have q8 := g8.at_ q7
  have rv := ev_revL q8
  rw [show (tripsP all).reverse = tripsP all.reverse by simp [tripsP]] at rv
  obtain ⟨g9, q9, k9⟩ := new_gr S8 (.lst (tripsP all.reverse))
  generalize S8 ++ [PO.lst (tripsP all.reverse)] = S9 at rv g9 q9 k9
  have arev : ∀ p, p ∈ all.reverse ↔ p ∈ all := fun p => List.mem_reverse
  obtain ⟨S10, D10, e10, g10, B10, L10⟩ : ∃ W D, F__law_taken [.int n, .loc S8.length] S9 = some (.ok (.loc S9.length) W) ∧ Gr S9 W ∧ Bd W S9.length n all.reverse D S9.length W.length ∧ Lst n all.reverse D := by
    rcases taken_spec h1 h8 q9 (fun p hp => ain p ((arev p).mp hp)) (by rw [List.length_reverse]; omega) with h | ⟨_, x, w, w1, w2⟩
    · exact h
    · have := ring0 x w (w1.mono fun p hp => (arev p).mp hp)
      omega
  have same : ∀ a b, 0 ≤ a ∧ a < (n : Int) → 0 ≤ b ∧ b < (n : Int) → D8 a b = D10 a b := fun a b ha _ => L8.same L10 (fun p hp => (arev p).mpr hp) (fun p hp => (arev p).mp hp) ha
  have G10 : Gr S8 S10 := g9.trans g10
  have q10 := G10.at_ q8
  have n10 := G10.at_ (g8.at_ n7)
  have B8 := B8.hi_le G10 (Nat.le_refl _)
  obtain ⟨r10, fr10, e11⟩ := find_ring_spec (S := S10) h1 h8 (in_pts ain) (Seq.lst q10)
  have hr10 := found_none fr10 ring0
  subst hr10
  -- tables
  obtain ⟨S11, e12, g11, T11⟩ := table_spec B8 h1 h8
  have B11 := B8.hi_le g11 G10.1
  obtain ⟨S12, e13, g12, T12⟩ := table_spec (B10.hi_le g11 (Nat.le_refl _)) h1 h8
  have T11 := T11.gr g12
  have B12 := B11.hi_le g12 (Nat.le_trans G10.1 g11.1)
  have n12 := g12.at_ (g11.at_ n10)
  have q12 := g12.at_ (g11.at_ q10)
  have ne12 := T11.ne T12 same
  have w12 := within_spec T11 (v := v) fun a b w ha e => Sat_wk asat (L8.snd a b w e)
  obtain ⟨i13, v13, V13, e14⟩ := any_gr B12 L8 h1 h8
  have w13 := within_spec T11 (v := v13) fun a b w ha e => Sat_wk V13.sat (L8.snd a b w e)
  have a60 := nb_at n12 (i := 60) (by omega) (by omega)
  have a61 := nb_at n12 (i := 61) (by omega) (by omega)
  generalize ns.getD (60 : Int).toNat 0 = w60 at a60
  generalize ns.getD (61 : Int).toNat 0 = w61 at a61
  have hn0 : (0 : Int) < (n : Int) := by omega
  have m60 := ev_mod (S := S12) (i := w60) hn0
  have m61 := ev_mod (S := S12) (i := w61) hn0
  have ha : 0 ≤ w60 % n ∧ w60 % n < (n : Int) := ⟨Int.emod_nonneg _ (by omega), Int.emod_lt_of_pos _ hn0⟩
  have hb : 0 ≤ w61 % n ∧ w61 % n < (n : Int) := ⟨Int.emod_nonneg _ (by omega), Int.emod_lt_of_pos _ hn0⟩
  generalize w60 % (n : Int) = a at m60 ha
  generalize w61 % (n : Int) = b at m61 hb
  obtain ⟨row, x1, x2⟩ := T11.ix hb
  have x2 := x2 a ha
  have hk8 : S7.length ≤ S8.length := g8.1
  have lt57 : S4.length < S7.length := by omega
  generalize ns.getD (0 : Int).toNat 0 = w0 at hn a0 m0
  generalize ns.getD (1 : Int).toNat 0 = w1 at a1 m1 e2 c2
  generalize ns.getD (2 : Int).toNat 0 = w2 at a2 m2 e1
  generalize ns.getD (3 : Int).toNat 0 = w3 at a3 m3 e5
  generalize ns.getD (4 : Int).toNat 0 = w4 at a4 m4 e6 c6
  have front : b_law ([PV.loc 0].map some ++ List.replicate (16 - 1) none) [.fz (sc.map PV.int)] = t_15 [some (.loc 0), some (.loc 1), some (.int (n : Int)), some (.int great), some (.tup (rowI n v)), some (.loc S4.length), some (.int a), some (.int b), none, some (.loc S7.length), some (.loc S9.length), some (.loc S10.length), none, none, none, none] S12 := by
    simp [b_law, t_0, t_1, e0, a0, m0, hn]
    simp [t_2, a1, m1, hS1, a2, m2, e1, e2, e3]
    simp [t_3, e4, t_4, pw, hS3, a3, m3, e5]
    simp only [t_5, ev_seq, ev_set, ev_opA, ev_cons, cm, ev_bR_ok, ev_nil, tp, ev_bS_ok, ev_bN_next, List.set_cons_succ, List.set_cons_zero]
    simp only [t_6, ev_seq, ev_set, ev_lst, ev_nil, ev_bR_ok, ev_lst0, st5, ev_bS_ok, ev_bN_next, List.set_cons_succ, List.set_cons_zero]
    simp only [env] at e7
    simp only [t_7, ev_seq, ev_for, ev_seqI, ev_opA, ev_cons, ev_var, List.getElem?_cons_zero, List.getElem?_cons_succ, ev_bR_ok, ev_c, ev_op2, a4, m4, ev_nil, e6, q6, ev_bS_ok, ev_killC, ev_killN, List.set_cons_succ, List.set_cons_zero, e7, ev_bN_next]
    simp [t_8, e8, t_9, rv, e10, t_10, e11, t_11, e12, t_12, e13, ne12, w12, i13, e14, w13, t_13, a60, m60, t_14, a61, m61]
  cases hd : D8 b a with
  | none =>
    rw [hd] at x2
    have x2 : gIx (.loc row) (.int a) S12 = some (.ok .non S12) := x2
    obtain ⟨S13, B13, L13, k13, f13, i14, e15⟩ := add_true (c := 0 - 10 ^ (40 : Int).toNat) B12 L8 h8 (by omega) ha hb (fun w e => by rw [hd] at e; cases e)
    have q13 := (f13 S4.length (by omega)).trans q12
    obtain ⟨i15, u, V, e16⟩ := any_gr B13 L13 h1 h8
    have y1 := row_ix (S := S13) (v := u) ha
    have y2 := row_ix (S := S13) (v := u) hb
    have st := sat_spec q13 ain (by omega) (v := u) fun p hp => V.sat p (List.mem_append_left _ hp)
    have hlast := V.sat (a, b, 0 - 10 ^ (40 : Int).toNat) (List.mem_append_right _ (List.mem_singleton.mpr rfl))
    simp only at hlast
    have pw : CPowD 10 40 := by unfold CPowD; decide
    have pw1 := ev_pow (S := S12) pw
    have pw2 := ev_pow (S := S13) pw
    generalize (10 : Int) ^ (40 : Int).toNat = big at hlast pw1 pw2 e15 B13 L13
    have hge : big ≤ u b - u a := by omega
    rw [show (0 : Int) - big = -big by omega] at e15
    refine law_ret (S' := S13) (front.trans ?_)
    simp [t_15, x1, x2, pw1, i14, e15, i15, e16, y1, y2, pw2, hge, st]
  | some w =>
    rw [hd] at x2
    have x2 : gIx (.loc row) (.int a) S12 = some (.ok (.int w) S12) := x2
    have i13 := copy_is B12
    obtain ⟨S13, e15, g13, C13⟩ := copy_gr B12 h1 h8
    have n13 := g13.at_ n12
    have a62 := nb_at n13 (i := 62) (by omega) (by omega)
    generalize ns.getD (62 : Int).toNat 0 = w62 at a62
    have m62 := ev_mod (S := S13) (i := w62) (show (0 : Int) < 5 by omega)
    have c1 := Int.emod_nonneg w62 (show (5 : Int) ≠ 0 by omega)
    obtain ⟨j, hj⟩ : ∃ j, j = 0 - w := ⟨_, rfl⟩
    obtain ⟨i14, e16⟩ := add_false (c := j - 1 - w62 % 5) C13 ha hb hd (by omega)
    obtain ⟨S14, e17, g14, T14⟩ := table_spec C13 h1 h8
    have T13 := (T11.gr g13).gr g14
    have ne14 := T14.ne T13 fun _ _ _ _ => rfl
    have C14 := C13.hi_le g14 (Nat.le_refl _)
    obtain ⟨S15, C15, L15, k15, f15, i15, e18⟩ := add_true (c := j) C14 L8 h8 (by omega) ha hb (fun w' e => by rw [hd] at e; cases e; omega)
    obtain ⟨i16, e19⟩ := bound_gr C15 ha hb
    rw [addT_just L8 (by omega) ha hd L15] at e19
    have e19 : F_Bounds_bound [.loc S12.length, .int a, .int b] S15 = some (.ok (.int j) S15) := e19
    have q12l := lt_of_get q12
    have q15 := (f15 S4.length (by omega)).trans (g14.at_ (g13.at_ q12))
    have ad : gAdd (.loc S4.length) (.loc S15.length) (S15 ++ [.lst [tripP (a, b, j - 1)]]) = some (.ok (.loc (S15.length + 1)) (S15 ++ [.lst [tripP (a, b, j - 1)]] ++ [.lst (tripsP (all ++ [(a, b, j - 1)]))])) := by
      rw [ev_addL (at_old q15) at_0 (by rw [tripsP_len]; simp; omega), ← tripsP_snoc]
      simp
    obtain ⟨r, fr, e20⟩ := find_ring_spec (S := S15 ++ [.lst [tripP (a, b, j - 1)]] ++ [.lst (tripsP (all ++ [(a, b, j - 1)]))]) (n := n) (l := all ++ [(a, b, j - 1)]) (lv := .loc (S15.length + 1)) (keep := [(S15.length + 1, .lst (tripsP (all ++ [(a, b, j - 1)])))]) h1 h8 (in_pts fun p hp => by
      rcases List.mem_append.mp hp with hp | hp
      · exact ain p hp
      · rw [List.mem_singleton] at hp
        subst hp
        exact ⟨ha, hb⟩) (Seq.lst (by simp))
    obtain ⟨rs, rfl, _⟩ := found_ring fr ⟨_, _, ring_of (c := j - 1) L8.snd hd (by omega), by omega⟩
    have al1 : S15 ++ [.lst [.tup [.int a, .int b, .int (j - 1)]]] = S15 ++ [.lst [tripP (a, b, j - 1)]] := rfl
    generalize S15 ++ [PO.lst [tripP (a, b, j - 1)]] ++ [PO.lst (tripsP (all ++ [(a, b, j - 1)]))] = S17 at ad e20
    generalize S15 ++ [PO.lst [tripP (a, b, j - 1)]] = S16 at ad al1
    refine law_ret (S' := S17) (front.trans ?_)
    have hj' : -w = j := by omega
    simp [t_15, x1, x2, t_16, hj', t_17, i13, e15, t_18, a62, m62, i14, e16, e17, ne14, t_19, i15, e18, i16, e19, al1, ad, e20]
end Lk20
open PySem PySem.W PyProof.Rows in
set_option maxHeartbeats 0 in
theorem PySem.Challenge.cw_diesnon_k20_whole_ring_or_values_holds : PySem.Challenge.rw_diesnon_k20_whole_ring_or_values.Holds := by
  w_on; o_law; k_head; (case hw => w_witness2)
  k_fill
  refine D.law_walk (l := PySem.Challenge.rw_diesnon_k20_whole_ring_or_values) (k := 6) (x := "_law_script") (F := Lk20.F_law) Lk20.law_d rfl rfl ⟨rfl, by decide, by decide⟩ (fun w h Y => PySem.W.kIn_of Y) ?F
  case F =>
    intro w mg fa h KX G hmg
    refine' Lk20.all_mk KX G hmg ?oA_Bounds ?pg_Bounds ?hd_Bounds ?po_Bounds ?sa_Bounds ?mk_Bounds ?kc_Bounds ?na_Bounds__least ?na_Bounds__literals ?a_is_less ?l_is_less ?c_is_less ?k_is_less ?a_joined ?l_joined ?c_joined ?k_joined ?a_Bounds__shorten ?i_Bounds__shorten ?l_Bounds__shorten ?c_Bounds__shorten ?k_Bounds__shorten ?a_Bounds_bound ?i_Bounds_bound ?l_Bounds_bound ?c_Bounds_bound ?k_Bounds_bound ?a_Bounds_add ?i_Bounds_add ?l_Bounds_add ?c_Bounds_add ?k_Bounds_add ?a_Bounds__low ?i_Bounds__low ?l_Bounds__low ?c_Bounds__low ?k_Bounds__low ?a_Bounds_size ?i_Bounds_size ?l_Bounds_size ?c_Bounds_size ?k_Bounds_size ?a_moved ?l_moved ?c_moved ?k_moved ?a_Bounds_any_values ?i_Bounds_any_values ?l_Bounds_any_values ?c_Bounds_any_values ?k_Bounds_any_values ?a_check_points ?l_check_points ?c_check_points ?k_check_points ?a_Bounds___init__ ?i_Bounds___init__ ?l_Bounds___init__ ?c_Bounds___init__ ?k_Bounds___init__ ?a_Bounds__take ?i_Bounds__take ?l_Bounds__take ?c_Bounds__take ?k_Bounds__take ?a_Bounds_copy ?i_Bounds_copy ?l_Bounds_copy ?c_Bounds_copy ?k_Bounds_copy ?a__law_taken ?l__law_taken ?c__law_taken ?k__law_taken ?a_check_point ?l_check_point ?c_check_point ?k_check_point ?a_check_literals ?l_check_literals ?c_check_literals ?k_check_literals ?a_ring_at ?l_ring_at ?c_ring_at ?k_ring_at ?a_ring_from ?l_ring_from ?c_ring_from ?k_ring_from ?a_find_ring ?l_find_ring ?c_find_ring ?k_find_ring ?a_is_ring ?l_is_ring ?c_is_ring ?k_is_ring ?a_satisfies ?l_satisfies ?c_satisfies ?k_satisfies ?a__law_either ?l__law_either ?c__law_either ?k__law_either ?a__law_literals ?l__law_literals ?c__law_literals ?k__law_literals ?a__law_long ?l__law_long ?c__law_long ?k__law_long ?a__law_numbers ?l__law_numbers ?c__law_numbers ?k__law_numbers ?a__law_table ?l__law_table ?c__law_table ?k__law_table ?a__law_within ?l__law_within ?c__law_within ?k__law_within ?a_law ?l_law ?c_law ?k_law ?xa_NotAllowed ?xk_NotAllowed ?xb_NotAllowed ?xt_NotAllowed ?xd_NotAllowed ?xe_NotAllowed ?y1_NotAllowed ?y2_NotAllowed ?y3_NotAllowed ?y4_NotAllowed ?z1 ?z2 ?u_NotAllowed_NotAllowed ?g_MAX_POINTS ?g_abs ?g_all ?g_enumerate ?g_int ?g_len ?g_list ?g_max ?g_min ?g_range ?g_sum ?g_tuple
    (case oA_Bounds => k_is)
    (case pg_Bounds => k_is)
    (case hd_Bounds => k_is)
    (case po_Bounds => k_is)
    (case sa_Bounds => k_is)
    (case mk_Bounds => k_is)
    (case kc_Bounds => k_is)
    (case na_Bounds__least => k_is)
    (case na_Bounds__literals => k_is)
    (case a_is_less => k_is)
    (case l_is_less => k_is)
    (case c_is_less => k_is)
    (case k_is_less => k_is)
    (case a_joined => k_is)
    (case l_joined => k_is)
    (case c_joined => k_is)
    (case k_joined => k_is)
    (case a_Bounds__shorten => k_is)
    (case i_Bounds__shorten => k_is)
    (case l_Bounds__shorten => k_is)
    (case c_Bounds__shorten => k_is)
    (case k_Bounds__shorten => k_is)
    (case a_Bounds_bound => k_is)
    (case i_Bounds_bound => k_is)
    (case l_Bounds_bound => k_is)
    (case c_Bounds_bound => k_is)
    (case k_Bounds_bound => k_is)
    (case a_Bounds_add => k_is)
    (case i_Bounds_add => k_is)
    (case l_Bounds_add => k_is)
    (case c_Bounds_add => k_is)
    (case k_Bounds_add => k_is)
    (case a_Bounds__low => k_is)
    (case i_Bounds__low => k_is)
    (case l_Bounds__low => k_is)
    (case c_Bounds__low => k_is)
    (case k_Bounds__low => k_is)
    (case a_Bounds_size => k_is)
    (case i_Bounds_size => k_is)
    (case l_Bounds_size => k_is)
    (case c_Bounds_size => k_is)
    (case k_Bounds_size => k_is)
    (case a_moved => k_is)
    (case l_moved => k_is)
    (case c_moved => k_is)
    (case k_moved => k_is)
    (case a_Bounds_any_values => k_is)
    (case i_Bounds_any_values => k_is)
    (case l_Bounds_any_values => k_is)
    (case c_Bounds_any_values => k_is)
    (case k_Bounds_any_values => k_is)
    (case a_check_points => k_is)
    (case l_check_points => k_is)
    (case c_check_points => k_is)
    (case k_check_points => k_is)
    (case a_Bounds___init__ => k_is)
    (case i_Bounds___init__ => k_is)
    (case l_Bounds___init__ => k_is)
    (case c_Bounds___init__ => k_is)
    (case k_Bounds___init__ => k_is)
    (case a_Bounds__take => k_is)
    (case i_Bounds__take => k_is)
    (case l_Bounds__take => k_is)
    (case c_Bounds__take => k_is)
    (case k_Bounds__take => k_is)
    (case a_Bounds_copy => k_is)
    (case i_Bounds_copy => k_is)
    (case l_Bounds_copy => k_is)
    (case c_Bounds_copy => k_is)
    (case k_Bounds_copy => k_is)
    (case a__law_taken => k_is)
    (case l__law_taken => k_is)
    (case c__law_taken => k_is)
    (case k__law_taken => k_is)
    (case a_check_point => k_is)
    (case l_check_point => k_is)
    (case c_check_point => k_is)
    (case k_check_point => k_is)
    (case a_check_literals => k_is)
    (case l_check_literals => k_is)
    (case c_check_literals => k_is)
    (case k_check_literals => k_is)
    (case a_ring_at => k_is)
    (case l_ring_at => k_is)
    (case c_ring_at => k_is)
    (case k_ring_at => k_is)
    (case a_ring_from => k_is)
    (case l_ring_from => k_is)
    (case c_ring_from => k_is)
    (case k_ring_from => k_is)
    (case a_find_ring => k_is)
    (case l_find_ring => k_is)
    (case c_find_ring => k_is)
    (case k_find_ring => k_is)
    (case a_is_ring => k_is)
    (case l_is_ring => k_is)
    (case c_is_ring => k_is)
    (case k_is_ring => k_is)
    (case a_satisfies => k_is)
    (case l_satisfies => k_is)
    (case c_satisfies => k_is)
    (case k_satisfies => k_is)
    (case a__law_either => k_is)
    (case l__law_either => k_is)
    (case c__law_either => k_is)
    (case k__law_either => k_is)
    (case a__law_literals => k_is)
    (case l__law_literals => k_is)
    (case c__law_literals => k_is)
    (case k__law_literals => k_is)
    (case a__law_long => k_is)
    (case l__law_long => k_is)
    (case c__law_long => k_is)
    (case k__law_long => k_is)
    (case a__law_numbers => k_is)
    (case l__law_numbers => k_is)
    (case c__law_numbers => k_is)
    (case k__law_numbers => k_is)
    (case a__law_table => k_is)
    (case l__law_table => k_is)
    (case c__law_table => k_is)
    (case k__law_table => k_is)
    (case a__law_within => k_is)
    (case l__law_within => k_is)
    (case c__law_within => k_is)
    (case k__law_within => k_is)
    (case a_law => k_is)
    (case l_law => k_is)
    (case c_law => k_is)
    (case k_law => k_is)
    (case xa_NotAllowed => k_is)
    (case xk_NotAllowed => k_is)
    (case xb_NotAllowed => k_is)
    (case xt_NotAllowed => k_is)
    (case xd_NotAllowed => k_is)
    (case xe_NotAllowed => k_exc)
    (case y1_NotAllowed => k_is)
    (case y2_NotAllowed => k_is)
    (case y3_NotAllowed => k_is)
    (case y4_NotAllowed => k_is)
    (case z1 => k_is)
    (case z2 => k_is)
    (case u_NotAllowed_NotAllowed => k_is)
    (case g_MAX_POINTS => k_is)
    (case g_abs => k_is)
    (case g_all => k_is)
    (case g_enumerate => k_is)
    (case g_int => k_is)
    (case g_len => k_is)
    (case g_list => k_is)
    (case g_max => k_is)
    (case g_min => k_is)
    (case g_range => k_is)
    (case g_sum => k_is)
    (case g_tuple => k_is)
#print axioms PySem.Challenge.cw_diesnon_k20_whole_ring_or_values_holds
