import PyProof.Rows.All
import HandS.ForMost
import HandS.NoneIn
import HandS.ForExc
import HandS.DeepEq
import HandS.Deep
import HandS.IsInst
import HandS.Star
import HandS.TupAny
import HandS.TupMul
import HandS.TupLe
import HandS.Style
import HandS.Flow
import HandS.Wide
import HandS.WideBits
import HandS.Conv
import HandS.Property
import HandS.Flt
import HandS.Zip
import PySem.Challenge.RW_inkbands_k25_whole_covering
import Wide.All
import OpenK.AllK
import Wide.FinOn
set_option Elab.async false
set_option linter.all false
set_option maxRecDepth 100000
namespace Dp
open PySem PySem.Spec L2
open PyProof.Rows hiding St

/-! ### values as trees -/
inductive PV where
  | non | bl (b : Bool) | int (i : Int) | str (x : Str) | tup (xs : List PV) | lst (xs : List PV) | loc (xs : List PV) | ref (a : Addr) | fn (f : Str) | ty (n : String)
  deriving Inhabited

inductive Cell where
  | lst (xs : List PV)
  | ins (C : Addr) (fs : List (Str × PV))

abbrev Stt := Addr → Option Cell
def put (S : Stt) (a : Addr) (c : Cell) : Stt := fun b => if b = a then some c else S b
def del (S : Stt) (a : Addr) : Stt := fun b => if b = a then none else S b
theorem put_same {S : Stt} {a : Addr} {c : Cell} : put S a c a = some c := if_pos rfl
theorem put_ne {S : Stt} {a b : Addr} {c : Cell} (h : b ≠ a) : put S a c b = S b := if_neg h
theorem del_same {S : Stt} {a : Addr} : del S a a = none := if_pos rfl
theorem del_ne {S : Stt} {a b : Addr} (h : b ≠ a) : del S a b = S b := if_neg h
theorem del_put {S : Stt} {a : Addr} {c : Cell} (h : S a = none) : del (put S a c) a = S := by
  funext b; unfold del put; by_cases e : b = a
  · subst e; simp [h]
  · simp [e]
theorem put_put {S : Stt} {a : Addr} {c d : Cell} : put (put S a c) a d = put S a d := by
  funext b; unfold put; by_cases e : b = a <;> simp [e]

structure Exc where
  cls : Str
  fs : List (Str × PV)

/-- a wp-monad with owned cells and exceptions -/
structure M (α : Type) where
  run : Stt → (α → Stt → Prop) → (Exc → Stt → Prop) → Prop
  mono : ∀ {S : Stt} {Q Q' : α → Stt → Prop} {E E' : Exc → Stt → Prop}, (∀ a S, Q a S → Q' a S) → (∀ e S, E e S → E' e S) → run S Q E → run S Q' E'

theorem M.ext {α : Type} {m n : M α} (h : ∀ S Q E, m.run S Q E = n.run S Q E) : m = n := by
  cases m; cases n; congr; funext S Q E; exact h S Q E

def ret {α : Type} (a : α) : M α := ⟨fun S Q _ => Q a S, fun h _ q => h _ _ q⟩
def bnd {α β : Type} (m : M α) (f : α → M β) : M β :=
  ⟨fun S Q E => m.run S (fun a S1 => (f a).run S1 Q E) E, fun h g q => m.mono (fun a S1 q => (f a).mono h g q) g q⟩
/-- no answer: nothing can be shown of it -/
def stuck {α : Type} : M α := ⟨fun _ _ _ => False, fun _ _ q => q⟩
def throw {α : Type} (e : Exc) : M α := ⟨fun S _ E => E e S, fun _ g q => g _ _ q⟩
def M.map {α β : Type} (f : α → β) (m : M α) : M β := bnd m fun a => ret (f a)
theorem run_ret {α : Type} {a : α} {S Q E} : (ret a).run S Q E = Q a S := rfl
theorem run_bnd {α β : Type} {m : M α} {f : α → M β} {S Q E} : (bnd m f).run S Q E = m.run S (fun a S1 => (f a).run S1 Q E) E := rfl
@[simp] theorem ret_bnd {α β : Type} {a : α} {f : α → M β} : bnd (ret a) f = f a := rfl
@[simp] theorem bnd_ret {α : Type} {m : M α} : bnd m ret = m := rfl
@[simp] theorem bnd_bnd {α β γ : Type} {m : M α} {f : α → M β} {g : β → M γ} : bnd (bnd m f) g = bnd m fun a => bnd (f a) g := rfl
@[simp] theorem stuck_bnd {α β : Type} {f : α → M β} : bnd stuck f = stuck := rfl
@[simp] theorem throw_bnd {α β : Type} {e : Exc} {f : α → M β} : bnd (throw e) f = throw e := rfl

/-! ### how values lie in the heap -/
structure Zs where
  K : PySem.W.Frag
  mg : Str → Option Value

/-- a tuple that is kept: frozen, or written -/
def TupAt (Z : Zs) (F : Addr → Prop) (H : Hp) (a : Addr) (vs : List V) : Prop :=
  (F a ∧ Rd H a (.tup vs)) ∨ ∃ (o : Obj) (its : Array Value) (n : Nat), Z.K.lookup a = some o ∧ o.cls = .type "tuple" ∧ o.data = .seq its n ∧ its.size ≤ sizeLine ∧ Vals vs its.toList
def LstAt (F : Addr → Prop) (H : Hp) (a : Addr) (vs : List V) : Prop := F a ∧ H a = some (.lst vs)
/-- a list that is locked, or written -/
def LocAt (Z : Zs) (F : Addr → Prop) (H : Hp) (a : Addr) (vs : List V) : Prop :=
  (F a ∧ Rd H a (.lst vs)) ∨ ∃ (o : Obj) (its : Array Value) (n : Nat), Z.K.lookup a = some o ∧ o.cls = .type "list" ∧ o.dict = none ∧ o.data = .seq its n ∧ its.size ≤ sizeLine ∧ Vals vs its.toList
theorem TupAt.sq {Z : Zs} {F H a vs} (h : TupAt Z F H a vs) : SqT Z.K H a vs := by
  rcases h with ⟨_, h⟩ | h
  · exact .inl h
  · exact .inr h
theorem LstAt.sq {K : PySem.W.Frag} {F H a vs} (h : LstAt F H a vs) : SqL K H a vs := .of h.2
theorem LocAt.sq {Z : Zs} {F H a vs} (h : LocAt Z F H a vs) : SqL Z.K H a vs := by
  rcases h with ⟨_, h⟩ | h
  · exact .inl h
  · exact .inr h

mutual
inductive Rep (Z : Zs) (F : Addr → Prop) (H : Hp) : PV → V → Prop
  | non : Rep Z F H .non .non
  | bl (b : Bool) : Rep Z F H (.bl b) (.bl b)
  | int (i : Int) : Rep Z F H (.int i) (.int i)
  | str (x : Str) : Rep Z F H (.str x) (.str x)
  | tup {a : Addr} {xs : List PV} {vs : List V} : TupAt Z F H a vs → RepL Z F H xs vs → Rep Z F H (.tup xs) (.ref a)
  | lst {a : Addr} {xs : List PV} {vs : List V} : LstAt F H a vs → RepL Z F H xs vs → Rep Z F H (.lst xs) (.ref a)
  | loc {a : Addr} {xs : List PV} {vs : List V} : LocAt Z F H a vs → RepL Z F H xs vs → Rep Z F H (.loc xs) (.ref a)
  | ref (a : Addr) : Rep Z F H (.ref a) (.ref a)
  | fn {f : Str} {a : Addr} : Z.mg f = some (.ref a) → Rep Z F H (.fn f) (.ref a)
  | ty (n : String) : Rep Z F H (.ty n) (.ty n)
inductive RepL (Z : Zs) (F : Addr → Prop) (H : Hp) : List PV → List V → Prop
  | nil : RepL Z F H [] []
  | cons {x : PV} {xs : List PV} {v : V} {vs : List V} : Rep Z F H x v → RepL Z F H xs vs → RepL Z F H (x :: xs) (v :: vs)
end

def nontbl (o : HO) : Prop := ∀ ps, o ≠ .tbl ps
/-- what is frozen stays -/
structure Sub (F : Addr → Prop) (H : Hp) (F' : Addr → Prop) (H' : Hp) : Prop where
  sub : ∀ a, F a → F' a
  keep : ∀ a o, F a → H a = some o → nontbl o → H' a = some o
theorem Sub.refl {F H} : Sub F H F H := ⟨fun _ h => h, fun _ _ _ h _ => h⟩
theorem Sub.trans {F H F1 H1 F2 H2} (a : Sub F H F1 H1) (b : Sub F1 H1 F2 H2) : Sub F H F2 H2 :=
  ⟨fun x h => b.sub x (a.sub x h), fun x o f h n => b.keep x o (a.sub x f) (a.keep x o f h n) n⟩
theorem Sub.rd {F H F' H'} (s : Sub F H F' H') {a u} (f : F a) (hu : nontbl u) (h : Rd H a u) : Rd H' a u := by
  rcases h with h | ⟨o, h⟩
  · exact .inl (s.keep a _ f h hu)
  · exact .inr ⟨o, s.keep a _ f h (fun ps e => nomatch e)⟩
theorem TupAt.mono {Z F H F' H' a vs} (s : Sub F H F' H') (h : TupAt Z F H a vs) : TupAt Z F' H' a vs := by
  rcases h with ⟨f, h⟩ | h
  · exact .inl ⟨s.sub a f, s.rd f (fun ps e => nomatch e) h⟩
  · exact .inr h
theorem LstAt.mono {F H F' H' a vs} (s : Sub F H F' H') (h : LstAt F H a vs) : LstAt F' H' a vs := ⟨s.sub a h.1, s.keep a _ h.1 h.2 fun ps e => nomatch e⟩
theorem LocAt.mono {Z F H F' H' a vs} (s : Sub F H F' H') (h : LocAt Z F H a vs) : LocAt Z F' H' a vs := by
  rcases h with ⟨f, h⟩ | h
  · exact .inl ⟨s.sub a f, s.rd f (fun ps e => nomatch e) h⟩
  · exact .inr h
mutual
theorem Rep.mono {Z F H F' H'} (s : Sub F H F' H') : ∀ {x : PV} {v : V}, Rep Z F H x v → Rep Z F' H' x v
  | _, _, .non => .non
  | _, _, .bl b => .bl b
  | _, _, .int i => .int i
  | _, _, .str x => .str x
  | _, _, .tup t r => .tup (t.mono s) (RepL.mono s r)
  | _, _, .lst t r => .lst (t.mono s) (RepL.mono s r)
  | _, _, .loc t r => .loc (t.mono s) (RepL.mono s r)
  | _, _, .ref a => .ref a
  | _, _, .fn h => .fn h
  | _, _, .ty n => .ty n
theorem RepL.mono {Z F H F' H'} (s : Sub F H F' H') : ∀ {xs : List PV} {vs : List V}, RepL Z F H xs vs → RepL Z F' H' xs vs
  | _, _, .nil => .nil
  | _, _, .cons r t => .cons (Rep.mono s r) (RepL.mono s t)
end
section
variable {Z : Zs} {F : Addr → Prop} {H : Hp}
theorem RepL.length : ∀ {xs : List PV} {vs : List V}, RepL Z F H xs vs → xs.length = vs.length
  | _, _, .nil => rfl
  | _, _, .cons _ t => congrArg Nat.succ (RepL.length t)
theorem RepL.get : ∀ {xs : List PV} {vs : List V} {i : Nat} {x : PV}, RepL Z F H xs vs → xs[i]? = some x → ∃ v, vs[i]? = some v ∧ Rep Z F H x v
  | _, _, _, _, .nil, e => by simp at e
  | _, _, 0, _, .cons r _, e => by simp at e; subst e; exact ⟨_, rfl, r⟩
  | _, _, i + 1, x, .cons _ t, e => by
    obtain ⟨u, h1, h2⟩ := RepL.get (i := i) (x := x) t (by simpa using e)
    exact ⟨u, by simpa using h1, h2⟩
theorem RepL.get' : ∀ {xs : List PV} {vs : List V} {i : Nat} {v : V}, RepL Z F H xs vs → vs[i]? = some v → ∃ x, xs[i]? = some x ∧ Rep Z F H x v
  | _, _, _, _, .nil, e => by simp at e
  | _, _, 0, _, .cons r _, e => by simp at e; subst e; exact ⟨_, rfl, r⟩
  | _, _, i + 1, x, .cons _ t, e => by
    obtain ⟨u, h1, h2⟩ := RepL.get' (i := i) (v := x) t (by simpa using e)
    exact ⟨u, by simpa using h1, h2⟩
theorem RepL.append : ∀ {xs ys : List PV} {vs us : List V}, RepL Z F H xs vs → RepL Z F H ys us → RepL Z F H (xs ++ ys) (vs ++ us)
  | _, _, _, _, .nil, s => s
  | _, _, _, _, .cons r t, s => .cons r (RepL.append t s)
theorem RepL.take : ∀ {xs : List PV} {vs : List V} (n : Nat), RepL Z F H xs vs → RepL Z F H (xs.take n) (vs.take n)
  | _, _, 0, _ => .nil
  | _, _, _ + 1, .nil => .nil
  | _, _, n + 1, .cons r t => .cons r (RepL.take n t)
theorem RepL.drop : ∀ {xs : List PV} {vs : List V} (n : Nat), RepL Z F H xs vs → RepL Z F H (xs.drop n) (vs.drop n)
  | _, _, 0, r => r
  | _, _, _ + 1, .nil => .nil
  | _, _, n + 1, .cons _ t => RepL.drop n t
theorem RepL.set : ∀ {xs : List PV} {vs : List V} (n : Nat) {x : PV} {v : V}, RepL Z F H xs vs → Rep Z F H x v → RepL Z F H (xs.set n x) (vs.set n v)
  | _, _, _, _, _, .nil, _ => .nil
  | _, _, 0, _, _, .cons _ t, r => .cons r t
  | _, _, n + 1, _, _, .cons r t, q => .cons r (RepL.set n t q)
end

/-! ### the world -/
def CellAt (Z : Zs) (F : Addr → Prop) (H : Hp) (a : Addr) : Cell → Prop
  | .lst xs => ∃ vs, H a = some (.lst vs) ∧ RepL Z F H xs vs
  | .ins C fs => ∃ dx vs, H a = some (.ins C dx ((fs.map (·.1)).zip vs)) ∧ H dx = some (.own a) ∧ RepL Z F H (fs.map (·.2)) vs
/-- what may be frozen -/
def tl : HO → Bool
  | .lst _ => true | .tup _ => true | .dK _ => true | .frz _ _ => true | _ => false
structure W (Z : Zs) (F : Addr → Prop) (S : Stt) (H : Hp) : Prop where
  dis : ∀ a, F a → S a = none
  ff : ∀ a, F a → ∃ o, H a = some o ∧ tl o = true
  cell : ∀ a c, S a = some c → CellAt Z F H a c
/-- from one world to the next -/
structure Nxt (Z : Zs) (F : Addr → Prop) (S : Stt) (H : Hp) (F' : Addr → Prop) (S' : Stt) (H' : Hp) : Prop where
  sub : ∀ a, F a → F' a
  keep : ∀ b o, H b = some o → S b = none → nontbl o → H' b = some o
  own : ∀ b o, H b = some o → S b = none → nontbl o → S' b = none
  fre : ∀ b o, H b = some o → S b = none → nontbl o → ¬ F b → ¬ F' b
  w : W Z F' S' H'
end Dp

namespace Dp
open PySem PySem.Spec L2
open PyProof.Rows hiding St

section
variable {Z : Zs} {F F1 F2 : Addr → Prop} {S S1 S2 : Stt} {H H1 H2 : Hp}
theorem Nxt.refl (w : W Z F S H) : Nxt Z F S H F S H := ⟨fun _ h => h, fun _ _ h _ _ => h, fun _ _ _ h _ => h, fun _ _ _ _ _ h => h, w⟩
theorem Nxt.trans (a : Nxt Z F S H F1 S1 H1) (b : Nxt Z F1 S1 H1 F2 S2 H2) : Nxt Z F S H F2 S2 H2 :=
  ⟨fun x h => b.sub x (a.sub x h), fun x o h s n => b.keep x o (a.keep x o h s n) (a.own x o h s n) n,
    fun x o h s n => b.own x o (a.keep x o h s n) (a.own x o h s n) n, fun x o h s n f => b.fre x o (a.keep x o h s n) (a.own x o h s n) n (a.fre x o h s n f), b.w⟩
theorem Nxt.toSub (w : W Z F S H) (n : Nxt Z F S H F1 S1 H1) : Sub F H F1 H1 := ⟨n.sub, fun a o f h nt => n.keep a o h (w.dis a f) nt⟩
theorem Rep.nxt (w : W Z F S H) (n : Nxt Z F S H F1 S1 H1) {x v} (r : Rep Z F H x v) : Rep Z F1 H1 x v := r.mono (n.toSub w)
theorem RepL.nxt (w : W Z F S H) (n : Nxt Z F S H F1 S1 H1) {x v} (r : RepL Z F H x v) : RepL Z F1 H1 x v := r.mono (n.toSub w)

theorem W.fresh_S (w : W Z F S H) {p : Addr} (h : H p = none) : S p = none := by
  cases e : S p with
  | none => rfl
  | some c =>
    have := w.cell p c e
    cases c with
    | lst xs => obtain ⟨vs, q, _⟩ := this; rw [h] at q; cases q
    | ins C fs => obtain ⟨dx, vs, q, _⟩ := this; rw [h] at q; cases q
theorem W.own_S (w : W Z F S H) {p x : Addr} (h : H p = some (.own x)) : S p = none := by
  cases e : S p with
  | none => rfl
  | some c =>
    have := w.cell p c e
    cases c with
    | lst xs => obtain ⟨vs, q, _⟩ := this; rw [h] at q; cases q
    | ins C fs => obtain ⟨dx, vs, q, _⟩ := this; rw [h] at q; cases q
theorem W.fresh_F (w : W Z F S H) {p : Addr} (h : H p = none) : ¬ F p := fun f => by
  obtain ⟨o, q, _⟩ := w.ff p f; rw [h] at q; cases q
theorem CellAt.mono (s : Sub F H F1 H1) {a : Addr} {c : Cell} (h : CellAt Z F H a c) (ha : H1 a = H a) (hd : ∀ dx, H dx = some (.own a) → H1 dx = some (.own a)) : CellAt Z F1 H1 a c := by
  cases c with
  | lst xs => obtain ⟨vs, q, r⟩ := h; exact ⟨vs, ha.trans q, r.mono s⟩
  | ins C fs => obtain ⟨dx, vs, q, q2, r⟩ := h; exact ⟨dx, vs, ha.trans q, hd _ q2, r.mono s⟩
/-- a new object that nobody owns; frozen from now on, if f -/
theorem W.lay (w : W Z F S H) {p : Addr} {o : HO} (h : H p = none) (f : Prop) (nt : f → tl o = true) :
    Nxt Z F S H (fun a => F a ∨ (f ∧ a = p)) S (upd H p o) := by
  have hs := w.fresh_S h
  have sb : Sub F H (fun a => F a ∨ (f ∧ a = p)) (upd H p o) := ⟨fun a q => .inl q, fun a u q e _ => by rw [upd_ne (ne_of_none e h)]; exact e⟩
  refine ⟨fun a q => .inl q, fun b u e _ _ => ?_, fun b u e s _ => s, fun b u e _ _ nf q => ?_, ⟨fun a q => ?_, fun a q => ?_, fun a c e => ?_⟩⟩
  · rw [upd_ne (ne_of_none e h)]; exact e
  · rcases q with q | ⟨_, q⟩
    · exact nf q
    · exact ne_of_none e h q
  · rcases q with q | ⟨_, q⟩
    · exact w.dis a q
    · rw [q]; exact hs
  · rcases q with q | ⟨ff, q⟩
    · obtain ⟨u, e, t⟩ := w.ff a q
      exact ⟨u, by rw [upd_ne (ne_of_none e h)]; exact e, t⟩
    · exact ⟨o, by rw [q, upd_same], nt ff⟩
  · have ha : a ≠ p := fun z => by subst z; rw [hs] at e; cases e
    refine (w.cell a c e).mono sb (upd_ne ha) fun dx q => ?_
    rw [upd_ne (ne_of_none q h)]; exact q
/-- a new list that is owned -/
theorem W.layOwn (w : W Z F S H) {p : Addr} {xs : List PV} {vs : List V} (h : H p = none) (r : RepL Z F H xs vs) :
    Nxt Z F S H F (put S p (.lst xs)) (upd H p (.lst vs)) := by
  have hs := w.fresh_S h
  have sb : Sub F H F (upd H p (.lst vs)) := ⟨fun a q => q, fun a u q e _ => by rw [upd_ne (ne_of_none e h)]; exact e⟩
  refine ⟨fun a q => q, fun b u e _ _ => ?_, fun b u e s _ => ?_, fun b u e _ _ nf q => nf q, ⟨fun a q => ?_, fun a q => ?_, fun a c e => ?_⟩⟩
  · rw [upd_ne (ne_of_none e h)]; exact e
  · rw [put_ne (ne_of_none e h)]; exact s
  · obtain ⟨u, e, _⟩ := w.ff a q
    rw [put_ne (ne_of_none e h)]; exact w.dis a q
  · obtain ⟨u, e, t⟩ := w.ff a q
    exact ⟨u, by rw [upd_ne (ne_of_none e h)]; exact e, t⟩
  · by_cases ha : a = p
    · subst ha; rw [put_same] at e; cases e
      exact ⟨vs, upd_same, r.mono sb⟩
    · rw [put_ne ha] at e
      refine (w.cell a c e).mono sb (upd_ne ha) fun dx q => ?_
      rw [upd_ne (ne_of_none q h)]; exact q
/-- an owned list is changed -/
theorem W.setLst (w : W Z F S H) {p : Addr} {ys xs : List PV} {vs : List V} (h : S p = some (.lst ys)) (r : RepL Z F H xs vs) :
    Nxt Z F S H F (put S p (.lst xs)) (upd H p (.lst vs)) := by
  obtain ⟨vs0, h0, _⟩ := w.cell p _ h
  have ne : ∀ b, S b = none → b ≠ p := fun b e z => by subst z; rw [h] at e; cases e
  have sb : Sub F H F (upd H p (.lst vs)) := ⟨fun a q => q, fun a u q e _ => by rw [upd_ne (ne a (w.dis a q))]; exact e⟩
  refine ⟨fun a q => q, fun b u e s _ => ?_, fun b u e s _ => ?_, fun b u e _ _ nf q => nf q, ⟨fun a q => ?_, fun a q => ?_, fun a c e => ?_⟩⟩
  · rw [upd_ne (ne b s)]; exact e
  · rw [put_ne (ne b s)]; exact s
  · rw [put_ne (ne a (w.dis a q))]; exact w.dis a q
  · obtain ⟨u, e, t⟩ := w.ff a q
    exact ⟨u, by rw [upd_ne (ne a (w.dis a q))]; exact e, t⟩
  · by_cases ha : a = p
    · subst ha; rw [put_same] at e; cases e
      exact ⟨vs, upd_same, r.mono sb⟩
    · rw [put_ne ha] at e
      refine (w.cell a c e).mono sb (upd_ne ha) fun dx q => ?_
      rw [upd_ne (ne dx (w.own_S q))]; exact q
/-- an owned list is frozen -/
theorem W.freeze (w : W Z F S H) {p : Addr} {xs : List PV} (h : S p = some (.lst xs)) :
    Nxt Z F S H (fun a => F a ∨ a = p) (del S p) H ∧ Rep Z (fun a => F a ∨ a = p) H (.lst xs) (.ref p) := by
  obtain ⟨vs, h0, r⟩ := w.cell p _ h
  have sb : Sub F H (fun a => F a ∨ a = p) H := ⟨fun a q => .inl q, fun a u q e _ => e⟩
  refine ⟨⟨fun a q => .inl q, fun b u e _ _ => e, fun b u e s _ => ?_, fun b u e s _ nf q => ?_, ⟨fun a q => ?_, fun a q => ?_, fun a c e => ?_⟩⟩, ?_⟩
  · by_cases z : b = p
    · rw [z]; exact del_same
    · rw [del_ne z]; exact s
  · rcases q with q | q
    · exact nf q
    · rw [q, h] at s; cases s
  · rcases q with q | q
    · by_cases z : a = p
      · rw [z]; exact del_same
      · rw [del_ne z]; exact w.dis a q
    · rw [q]; exact del_same
  · rcases q with q | q
    · exact w.ff a q
    · rw [q]; exact ⟨_, h0, rfl⟩
  · by_cases z : a = p
    · subst z; rw [del_same] at e; cases e
    · rw [del_ne z] at e
      exact (w.cell a c e).mono sb rfl fun dx q => q
  · exact .lst ⟨.inr rfl, h0⟩ (r.mono sb)
end

/-! ### the slots -/
abbrev En := List (Option PV)
def EnvR (Z : Zs) (F : Addr → Prop) (H : Hp) (env : En) (σ : St) : Prop :=
  env.length = σ.length ∧ ∀ (i : Nat) (x : PV), env[i]? = some (some x) → ∃ v, σ[i]? = some (some v) ∧ Rep Z F H x v
def Out (L : List Nat) (σ σ' : St) : Prop := σ'.length = σ.length ∧ ∀ i, i ∉ L → σ'[i]? = σ[i]?
theorem Out.refl {L σ} : Out L σ σ := ⟨rfl, fun _ _ => rfl⟩
theorem Out.trans {L σ σ1 σ2} (a : Out L σ σ1) (b : Out L σ1 σ2) : Out L σ σ2 := ⟨b.1.trans a.1, fun i h => (b.2 i h).trans (a.2 i h)⟩
theorem Out.mono {L L' σ σ'} (a : Out L σ σ') (h : ∀ i ∈ L, i ∈ L') : Out L' σ σ' := ⟨a.1, fun i hi => a.2 i fun z => hi (h i z)⟩
theorem EnvR.mono {Z F H F' H' env σ} (s : Sub F H F' H') (e : EnvR Z F H env σ) : EnvR Z F' H' env σ :=
  ⟨e.1, fun i x h => let ⟨v, h1, h2⟩ := e.2 i x h; ⟨v, h1, h2.mono s⟩⟩
theorem EnvR.set {Z F H env σ} (e : EnvR Z F H env σ) (i : Nat) {x v} (r : Rep Z F H x v) : EnvR Z F H (env.set i (some x)) (σ.set i (some v)) := by
  refine ⟨by simp [e.1], fun j y h => ?_⟩
  by_cases hj : i = j
  · subst hj
    by_cases hi : i < env.length
    · rw [List.getElem?_set_self hi] at h
      cases h
      exact ⟨v, List.getElem?_set_self (by rw [← e.1]; exact hi), r⟩
    · rw [List.getElem?_eq_none (by simpa using hi)] at h; cases h
  · rw [List.getElem?_set_ne hj] at h
    rw [List.getElem?_set_ne hj]
    exact e.2 j y h
theorem Out.set {L : List Nat} {σ : St} {i : Nat} {v : Option V} (h : i ∈ L) : Out L σ (σ.set i v) := ⟨by simp, fun j hj => List.getElem?_set_ne fun (z : i = j) => hj (by rw [← z]; exact h)⟩
def wipeE (env : En) : List Nat → En
  | [] => env
  | v :: vs => (wipeE env vs).set v none
theorem wipeE_length (env : En) : ∀ vs, (wipeE env vs).length = env.length
  | [] => rfl
  | v :: vs => by unfold wipeE; rw [List.length_set, wipeE_length env vs]
theorem wipeE_some {env : En} {i : Nat} {x : PV} : ∀ {vs : List Nat}, (wipeE env vs)[i]? = some (some x) → env[i]? = some (some x) ∧ i ∉ vs
  | [], h => ⟨h, by simp⟩
  | v :: vs, h => by
    unfold wipeE at h
    by_cases hi : v = i
    · subst hi
      by_cases hv : v < (wipeE env vs).length
      · rw [List.getElem?_set_self hv] at h; cases h
      · rw [List.getElem?_eq_none (by simpa using hv)] at h; cases h
    · rw [List.getElem?_set_ne hi] at h
      obtain ⟨h1, h2⟩ := wipeE_some h
      exact ⟨h1, by simp only [List.mem_cons, not_or]; exact ⟨fun e => hi e.symm, h2⟩⟩
theorem wipe_get {σ : St} {i : Nat} : ∀ {vs : List Nat}, i ∉ vs → (wipe σ vs)[i]? = σ[i]?
  | [], _ => rfl
  | v :: vs, h => by
    unfold wipe
    rw [List.mem_cons, not_or] at h
    rw [List.getElem?_set_ne fun z => h.1 z.symm]
    exact wipe_get h.2
theorem EnvR.wipe {Z F H env σ} (e : EnvR Z F H env σ) (L : List Nat) : EnvR Z F H (wipeE env L) (L2.wipe σ L) :=
  ⟨by rw [wipeE_length, wipe_length, e.1], fun i x h => by
    obtain ⟨h1, h2⟩ := wipeE_some h
    rw [wipe_get h2]
    exact e.2 i x h1⟩
theorem EnvR.out {Z F H env σ σ'} (e : EnvR Z F H env σ) {L : List Nat} (o : Out L σ σ') : EnvR Z F H (wipeE env L) σ' :=
  ⟨by rw [wipeE_length, e.1, o.1], fun i x h => by
    obtain ⟨h1, h2⟩ := wipeE_some h
    rw [o.2 i h2]
    exact e.2 i x h1⟩
theorem wipe_mem : ∀ {vs : List Nat} {σ : St} {i : Nat}, i ∈ vs → (wipe σ vs)[i]? = if i < σ.length then some none else none
  | [], _, _, h => by simp at h
  | v :: vs, σ, i, h => by
    unfold wipe
    by_cases hv : v = i
    · subst hv
      by_cases hl : v < σ.length
      · rw [List.getElem?_set_self (by rw [wipe_length]; exact hl), if_pos hl]
      · rw [List.getElem?_eq_none (by simp [wipe_length]; omega), if_neg hl]
    · rw [List.getElem?_set_ne hv]
      exact wipe_mem ((List.mem_cons.mp h).elim (fun z => absurd z.symm hv) id)
theorem Out.wipe_eq {L σ σ'} (o : Out L σ σ') : L2.wipe σ' L = L2.wipe σ L := by
  apply List.ext_getElem?
  intro i
  by_cases h : i ∈ L
  · rw [wipe_mem h, wipe_mem h, o.1]
  · rw [wipe_get h, wipe_get h, o.2 i h]

/-! ### what is wanted behind -/
def ExcR (Z : Zs) (F : Addr → Prop) (H : Hp) (e : Exc) (c : Value) (d : Option Addr) : Prop :=
  Z.mg e.cls = some c ∧ match e.fs with
    | [] => True
    | fs => ∃ dx vs, d = some dx ∧ H dx = some (.xd ((fs.map (·.1)).zip vs)) ∧ RepL Z F H (fs.map (·.2)) vs
section
variable (Z : Zs) (F : Addr → Prop) (S : Stt) (H : Hp)
def Pv (Q : VK) : PV → Stt → Prop := fun x S' => ∀ F' H' v, Nxt Z F S H F' S' H' → Rep Z F' H' x v → Q v H'
def Pl (Q : List V → Hp → Prop) : List PV → Stt → Prop := fun x S' => ∀ F' H' v, Nxt Z F S H F' S' H' → RepL Z F' H' x v → Q v H'
def Pb (Q : Bool → Hp → Prop) : Bool → Stt → Prop := fun b S' => ∀ F' H', Nxt Z F S H F' S' H' → Q b H'
def Px (Q : XK) : Exc → Stt → Prop := fun e S' => ∀ F' H' c d, Nxt Z F S H F' S' H' → ExcR Z F' H' e c d → Q c d H'
def Pe (L : List Nat) (σ : St) (Q : St → Hp → Prop) : En → Stt → Prop := fun env S' => ∀ F' H' σ', Nxt Z F S H F' S' H' → EnvR Z F' H' env σ' → Out L σ σ' → Q σ' H'
def Pw (L : List Nat) (σ : St) (W : WX) : Exc → Stt → Prop := fun e S' => ∀ F' H' c d σ', Nxt Z F S H F' S' H' → ExcR Z F' H' e c d → Out L σ σ' → W c d σ' H'
end
section
variable {Z : Zs} {F F1 : Addr → Prop} {S S1 : Stt} {H H1 : Hp} (n : Nxt Z F S H F1 S1 H1)
include n
theorem Pv.nxt {Q x S2} (h : Pv Z F S H Q x S2) : Pv Z F1 S1 H1 Q x S2 := fun F' H' v n' r => h F' H' v (n.trans n') r
theorem Pl.nxt {Q x S2} (h : Pl Z F S H Q x S2) : Pl Z F1 S1 H1 Q x S2 := fun F' H' v n' r => h F' H' v (n.trans n') r
theorem Pb.nxt {Q x S2} (h : Pb Z F S H Q x S2) : Pb Z F1 S1 H1 Q x S2 := fun F' H' n' => h F' H' (n.trans n')
theorem Px.nxt {Q x S2} (h : Px Z F S H Q x S2) : Px Z F1 S1 H1 Q x S2 := fun F' H' c d n' r => h F' H' c d (n.trans n') r
theorem Pe.nxt {L σ Q x S2} (h : Pe Z F S H L σ Q x S2) : Pe Z F1 S1 H1 L σ Q x S2 := fun F' H' σ' n' r o => h F' H' σ' (n.trans n') r o
theorem Pw.nxt {L σ Q x S2} (h : Pw Z F S H L σ Q x S2) : Pw Z F1 S1 H1 L σ Q x S2 := fun F' H' c d σ' n' r o => h F' H' c d σ' (n.trans n') r o
end
/-- readings -/
def tE (Z : Zs) (Wx : WX) (m : En → M PV) : TE := fun σ H Q => ∃ F S env, EnvR Z F H env σ ∧ W Z F S H ∧ (m env).run S (Pv Z F S H Q) (Pw Z F S H [] σ Wx)
def tT (Z : Zs) (Wx : WX) (m : En → M Bool) : TT := fun σ H Q => ∃ F S env, EnvR Z F H env σ ∧ W Z F S H ∧ (m env).run S (Pb Z F S H Q) (Pw Z F S H [] σ Wx)
def tL (Z : Zs) (Wx : WX) (m : En → M (List PV)) : TA := fun σ H Q => ∃ F S env, EnvR Z F H env σ ∧ W Z F S H ∧ (m env).run S (Pl Z F S H Q) (Pw Z F S H [] σ Wx)
def tG (Z : Zs) (Wx : WX) (L : List Nat) (m : PV → En → M En) : TG := fun v σ H Q => ∃ F S env x, EnvR Z F H env σ ∧ W Z F S H ∧ Rep Z F H x v ∧ (m x env).run S (Pe Z F S H L σ Q) (Pw Z F S H L σ Wx)
def tGs (Z : Zs) (Wx : WX) (L : List Nat) (m : List PV → En → M En) : TGs := fun vs σ H Q => ∃ F S env xs, EnvR Z F H env σ ∧ W Z F S H ∧ RepL Z F H xs vs ∧ (m xs env).run S (Pe Z F S H L σ Q) (Pw Z F S H L σ Wx)
inductive Res where
  | nx (env : En) | rt (v : PV) | bk (env : En) | ct (env : En)
def Pr (Z : Zs) (F : Addr → Prop) (S : Stt) (H : Hp) (L : List Nat) (σ : St) (D : Ends) : Res → Stt → Prop := fun r S' => match r with
  | .nx env => Pe Z F S H L σ D.nx env S'
  | .rt v => Pv Z F S H D.rt v S'
  | .bk env => Pe Z F S H L σ D.bk env S'
  | .ct env => Pe Z F S H L σ D.ct env S'
def tS (Z : Zs) (Wx : WX) (L : List Nat) (m : En → M Res) : TS := fun D σ H => ∃ F S env, EnvR Z F H env σ ∧ W Z F S H ∧ (m env).run S (Pr Z F S H L σ D) (Pw Z F S H L σ Wx)
end Dp

namespace Dp
open PySem PySem.Spec L2
open PyProof.Rows hiding St

abbrev zs (X : Cx) : Zs := ⟨X.K, X.mg⟩
def SE (X : Cx) (Wx : WX) (e : Expr) (m : En → M PV) : Prop := PE X e (tE (zs X) Wx m)
def STe (X : Cx) (Wx : WX) (e : Expr) (m : En → M Bool) : Prop := PT X e (tT (zs X) Wx m)
def SA (X : Cx) (Wx : WX) (es : List Expr) (m : En → M (List PV)) : Prop := PA X es (tL (zs X) Wx m)
def SS (X : Cx) (Wx : WX) (L : List Nat) (st : Stmt) (m : En → M Res) : Prop := PS X st (tS (zs X) Wx L m)
def SSs (X : Cx) (Wx : WX) (L : List Nat) (st : List Stmt) (m : En → M Res) : Prop := PSs X st (tS (zs X) Wx L m)
def SG (X : Cx) (Wx : WX) (L : List Nat) (e : Expr) (m : PV → En → M En) : Prop := PG X e (tG (zs X) Wx L m)
def SGs (X : Cx) (Wx : WX) (L : List Nat) (es : List Expr) (m : List PV → En → M En) : Prop := PGs X es (tGs (zs X) Wx L m)

section
variable {X : Cx} {Wx : WX} {pins : List (Addr × Obj)} {s : Shared} {σ : St} {H : Hp} {F : Addr → Prop} {S : Stt} {env : En}
theorem SE.go {e : Expr} {m : En → M PV} (he : SE X Wx e m) (I : Inv X pins σ H s) (er : EnvR (zs X) F H env σ) (w : W (zs X) F S H) {R : PV → Stt → Prop} (h : (m env).run S R (Pw (zs X) F S H [] σ Wx))
    {Qf : Value → Shared → Prop} (hk : ∀ v s1 x px F1 S1 H1, Inv X pins σ H1 s1 → RelV x v → Nxt (zs X) F S H F1 S1 H1 → Rep (zs X) F1 H1 px x → R px S1 → Qf v s1) :
    wpAny (model X.prog X.w) X.A (eval e X.env) Qf X.xe s := by
  refine thn (he.run pins s σ H (fun x H1 => ∃ F1 S1 px, Nxt (zs X) F S H F1 S1 H1 ∧ Rep (zs X) F1 H1 px x ∧ R px S1) I ⟨F, S, env, er, w, (m env).mono (fun px S1 r F1 H1 x n rp => ⟨F1, S1, px, n, rp, r⟩) (fun _ _ q => q) h⟩) ?_
  rintro v s1 ⟨x, H1, I1, r1, F1, S1, px, n, rp, r⟩
  exact hk v s1 x px F1 S1 H1 I1 r1 n rp r
theorem STe.go {e : Expr} {m : En → M Bool} (he : STe X Wx e m) (I : Inv X pins σ H s) (er : EnvR (zs X) F H env σ) (w : W (zs X) F S H) {R : Bool → Stt → Prop} (h : (m env).run S R (Pw (zs X) F S H [] σ Wx))
    {Qf : Bool → Shared → Prop} (hk : ∀ b s1 F1 S1 H1, Inv X pins σ H1 s1 → Nxt (zs X) F S H F1 S1 H1 → R b S1 → Qf b s1) :
    wpAny (model X.prog X.w) X.A (isTrue e X.env (eval e X.env)) Qf X.xe s := by
  refine thn (he.run pins s σ H (fun b H1 => ∃ F1 S1, Nxt (zs X) F S H F1 S1 H1 ∧ R b S1) I ⟨F, S, env, er, w, (m env).mono (fun b S1 r F1 H1 n => ⟨F1, S1, n, r⟩) (fun _ _ q => q) h⟩) ?_
  rintro b s1 ⟨H1, I1, F1, S1, n, r⟩
  exact hk b s1 F1 S1 H1 I1 n r
theorem SA.go {es : List Expr} {m : En → M (List PV)} (he : SA X Wx es m) (pos : Pos) (I : Inv X pins σ H s) (er : EnvR (zs X) F H env σ) (w : W (zs X) F S H) {R : List PV → Stt → Prop} (h : (m env).run S R (Pw (zs X) F S H [] σ Wx))
    {Qf : List Value → Shared → Prop} (hk : ∀ us s1 vs ps F1 S1 H1, Inv X pins σ H1 s1 → Vals vs us → Nxt (zs X) F S H F1 S1 H1 → RepL (zs X) F1 H1 ps vs → R ps S1 → Qf us s1) :
    wpAny (model X.prog X.w) X.A (spliced (backTo pos (starEach es X.env))) Qf X.xe s := by
  refine thn (he.run pos pins s σ H (fun x H1 => ∃ F1 S1 px, Nxt (zs X) F S H F1 S1 H1 ∧ RepL (zs X) F1 H1 px x ∧ R px S1) I ⟨F, S, env, er, w, (m env).mono (fun px S1 r F1 H1 x n rp => ⟨F1, S1, px, n, rp, r⟩) (fun _ _ q => q) h⟩) ?_
  rintro v s1 ⟨x, H1, I1, r1, F1, S1, px, n, rp, r⟩
  exact hk v s1 x px F1 S1 H1 I1 r1 n rp r
theorem SE.mk {e : Expr} {m : En → M PV} (h : ∀ pins s σ H F S env Q, Inv X pins σ H s → EnvR (zs X) F H env σ → W (zs X) F S H → (m env).run S (Pv (zs X) F S H Q) (Pw (zs X) F S H [] σ Wx) →
    wpAny (model X.prog X.w) X.A (eval e X.env) (EP X pins σ Q) X.xe s) : SE X Wx e m :=
  ⟨fun pins s σ H Q I ⟨F, S, env, er, w, q⟩ => h pins s σ H F S env Q I er w q⟩
theorem STe.mk {e : Expr} {m : En → M Bool} (h : ∀ pins s σ H F S env Q, Inv X pins σ H s → EnvR (zs X) F H env σ → W (zs X) F S H → (m env).run S (Pb (zs X) F S H Q) (Pw (zs X) F S H [] σ Wx) →
    wpAny (model X.prog X.w) X.A (isTrue e X.env (eval e X.env)) (TP X pins σ Q) X.xe s) : STe X Wx e m :=
  ⟨fun pins s σ H Q I ⟨F, S, env, er, w, q⟩ => h pins s σ H F S env Q I er w q⟩
theorem fin {Q : VK} {px : PV} {x : V} {u : Value} {F1 S1 H1} (I : Inv X pins σ H1 s) (r : RelV x u) (n : Nxt (zs X) F S H F1 S1 H1) (rp : Rep (zs X) F1 H1 px x) (q : Pv (zs X) F S H Q px S1) : EP X pins σ Q u s :=
  ⟨x, H1, I, r, q F1 H1 x n rp⟩

/-! ### names, constants -/
def getv (env : En) (i : Nat) : M PV := match env[i]? with
  | some (some v) => ret v
  | _ => stuck
theorem s_var {i : Nat} {x : Str} {pos : Pos} (hN : X.N[i]? = some x) (hv : Vis X.env.scope x) (hd : (x == ("__debug__" : Str)) = false) (hcd : (x == ("__classdict__" : Str)) = false) :
    SE X Wx (.Name x pos) (fun env => getv env i) := .mk fun pins s σ H F S env Q I er w q => by
  unfold getv at q
  split at q
  · rename_i v hv'
    obtain ⟨x', e, r⟩ := er.2 i v hv'
    exact (pe_var hN hv hd hcd).run pins s σ H Q I ⟨x', e, q F H x' (Nxt.refl w) r⟩
  · exact q.elim
theorem s_int {i : Int} {j pos} : SE X Wx (.Constant (.int i) j pos) (fun _ => ret (.int i)) := .mk fun pins s σ H F S env Q I er w q =>
  pe_int.run pins s σ H Q I (q F H _ (Nxt.refl w) (.int i))
theorem s_bl {i : Bool} {j pos} : SE X Wx (.Constant (.bool i) j pos) (fun _ => ret (.bl i)) := .mk fun pins s σ H F S env Q I er w q =>
  pe_bl.run pins s σ H Q I (q F H _ (Nxt.refl w) (.bl i))
theorem s_non {j pos} : SE X Wx (.Constant .none j pos) (fun _ => ret .non) := .mk fun pins s σ H F S env Q I er w q =>
  pe_non.run pins s σ H Q I (q F H _ (Nxt.refl w) .non)
theorem s_str {x : Str} {j pos} : SE X Wx (.Constant (.str x) j pos) (fun _ => ret (.str x)) := .mk fun pins s σ H F S env Q I er w q =>
  pe_str.run pins s σ H Q I (q F H _ (Nxt.refl w) (.str x))
/-- a constant of the module: written, the same in every heap -/
def Wr (Z : Zs) (x : PV) (v : V) : Prop := ∀ F H, Rep Z F H x v
theorem s_glob {x : Str} {v : V} {u : Value} {px : PV} {pos : Pos} (hg : Gl X x) (hm : X.mg x = some u) (r : RelV v u) (hw : Wr (zs X) px v) (hd : (x == ("__debug__" : Str)) = false) :
    SE X Wx (.Name x pos) (fun _ => ret px) := .mk fun pins s σ H F S env Q I er w q =>
  (pe_glob hg hm r hd).run pins s σ H Q I (q F H _ (Nxt.refl w) (hw F H))

/-! ### operators by values -/
def Op2 (X : Cx) (Wx : WX) (f : Value → Value → Sem Value) (m : PV → PV → M PV) : Prop :=
  ∀ (pins : List (Addr × Obj)) (s : Shared) (σ : St) (H : Hp) (x y : V) (v u : Value) (Q : VK) (F : Addr → Prop) (S : Stt) (px py : PV), Inv X pins σ H s → RelV x v → RelV y u → W (zs X) F S H → Rep (zs X) F H px x → Rep (zs X) F H py y →
    (m px py).run S (Pv (zs X) F S H Q) (Pw (zs X) F S H [] σ Wx) → wpAny (model X.prog X.w) X.A (f v u) (EP X pins σ Q) X.xe s
def Op1 (X : Cx) (Wx : WX) (f : Value → Sem Value) (m : PV → M PV) : Prop :=
  ∀ (pins : List (Addr × Obj)) (s : Shared) (σ : St) (H : Hp) (x : V) (v : Value) (Q : VK) (F : Addr → Prop) (S : Stt) (px : PV), Inv X pins σ H s → RelV x v → W (zs X) F S H → Rep (zs X) F H px x →
    (m px).run S (Pv (zs X) F S H Q) (Pw (zs X) F S H [] σ Wx) → wpAny (model X.prog X.w) X.A (f v) (EP X pins σ Q) X.xe s
def OpN (X : Cx) (Wx : WX) (f : List Value → Sem Value) (m : List PV → M PV) : Prop :=
  ∀ (pins : List (Addr × Obj)) (s : Shared) (σ : St) (H : Hp) (xs : List V) (us : List Value) (Q : VK) (F : Addr → Prop) (S : Stt) (ps : List PV), Inv X pins σ H s → Vals xs us → W (zs X) F S H → RepL (zs X) F H ps xs →
    (m ps).run S (Pv (zs X) F S H Q) (Pw (zs X) F S H [] σ Wx) → wpAny (model X.prog X.w) X.A (f us) (EP X pins σ Q) X.xe s
def OpB (X : Cx) (Wx : WX) (f : Value → Sem Bool) (m : PV → M Bool) : Prop :=
  ∀ (pins : List (Addr × Obj)) (s : Shared) (σ : St) (H : Hp) (x : V) (v : Value) (Q : Bool → Hp → Prop) (F : Addr → Prop) (S : Stt) (px : PV), Inv X pins σ H s → RelV x v → W (zs X) F S H → Rep (zs X) F H px x →
    (m px).run S (Pb (zs X) F S H Q) (Pw (zs X) F S H [] σ Wx) → wpAny (model X.prog X.w) X.A (f v) (TP X pins σ Q) X.xe s
variable {a b c : Expr} {ma mb mc : En → M PV} {pos : Pos}
/-- two expressions in a row, then what is done with both -/
theorem two (ha : SE X Wx a ma) (hb : SE X Wx b mb) (I : Inv X pins σ H s) (er : EnvR (zs X) F H env σ) (w : W (zs X) F S H) {R : PV → PV → Stt → Prop}
    (h : (ma env).run S (fun x S1 => (mb env).run S1 (fun y S2 => R x y S2) (Pw (zs X) F S H [] σ Wx)) (Pw (zs X) F S H [] σ Wx)) {α : Type} {Qf : α → Shared → Prop} {f : Value → Value → Sem α}
    (hk : ∀ v u s2 x y px py F2 S2 H2, Inv X pins σ H2 s2 → RelV x v → RelV y u → Nxt (zs X) F S H F2 S2 H2 → Rep (zs X) F2 H2 px x → Rep (zs X) F2 H2 py y → R px py S2 → wpAny (model X.prog X.w) X.A (f v u) Qf X.xe s2) :
    wpAny (model X.prog X.w) X.A (eval a X.env) (fun v s₁ => wpAny (model X.prog X.w) X.A (eval b X.env) (fun u s₂ => wpAny (model X.prog X.w) X.A (f v u) Qf X.xe s₂) X.xe s₁) X.xe s := by
  refine ha.go I er w h fun v s1 x px F1 S1 H1 I1 r1 n1 rp1 q1 => ?_
  refine hb.go I1 (er.mono (n1.toSub w)) n1.w (R := fun y S2 => R px y S2) ((mb env).mono (fun _ _ q => q) (fun _ _ q => Pw.nxt n1 q) q1) fun u s2 y py F2 S2 H2 I2 r2 n2 rp2 q2 => ?_
  exact hk v u s2 x y px py F2 S2 H2 I2 r1 r2 (n1.trans n2) (rp1.nxt n1.w n2) rp2 q2
theorem s_bin {op : Operator} {m : PV → PV → M PV} (ho : Op2 X Wx (binaryOp op) m) (ha : SE X Wx a ma) (hb : SE X Wx b mb) : SE X Wx (.BinOp a op b pos) (fun env => bnd (ma env) fun x => bnd (mb env) fun y => m x y) :=
  .mk fun pins s σ H F S env Q I er w q => wpAny_BinOp (two ha hb I er w q fun v u s2 x y px py F2 S2 H2 I2 r1 r2 n rp1 rp2 q2 =>
    ho pins s2 σ H2 x y v u Q F2 S2 px py I2 r1 r2 n.w rp1 rp2 ((m px py).mono (fun _ _ q => Pv.nxt n q) (fun _ _ q => Pw.nxt n q) q2))
theorem s_un {op : UnaryOp} {m : PV → M PV} (ho : Op1 X Wx (unaryOp op) m) (ha : SE X Wx a ma) : SE X Wx (.UnaryOp op a pos) (fun env => bnd (ma env) m) :=
  .mk fun pins s σ H F S env Q I er w q => UnaryOp_ (ha.go I er w q fun v s1 x px F1 S1 H1 I1 r1 n rp q1 =>
    ho pins s1 σ H1 x v Q F1 S1 px I1 r1 n.w rp ((m px).mono (fun _ _ q => Pv.nxt n q) (fun _ _ q => Pw.nxt n q) q1))
theorem s_cmp {op : CmpOp} {m : PV → PV → M PV} (ho : Op2 X Wx (compareOp op) m) (ha : SE X Wx a ma) (hb : SE X Wx b mb) (hm : behindInMarks op b = false) : SE X Wx (.Compare a [op] [b] pos) (fun env => bnd (ma env) fun x => bnd (mb env) fun y => m x y) :=
  .mk fun pins s σ H F S env Q I er w q => wpAny_Compare1 (two ha hb I er w q fun v u s2 x y px py F2 S2 H2 I2 r1 r2 n rp1 rp2 q2 =>
    ho pins s2 σ H2 x y v u Q F2 S2 px py I2 r1 r2 n.w rp1 rp2 ((m px py).mono (fun _ _ q => Pv.nxt n q) (fun _ _ q => Pw.nxt n q) q2)) hm
/-- truth of a value -/
theorem s_truth {mt : PV → M Bool} (ht : OpB X Wx truthy mt) (ha : SE X Wx a ma) (he : ∀ whole, isTrue a X.env whole = (do let v ← whole; standAt a.pos; holding [v] (truthy v))) : STe X Wx a (fun env => bnd (ma env) mt) :=
  .mk fun pins s σ H F S env Q I er w q => isTrue_plain (ha.go I er w q fun v s1 x px F1 S1 H1 I1 r1 n rp q1 =>
    ht pins s1 σ H1 x v Q F1 S1 px I1 r1 n.w rp ((mt px).mono (fun _ _ q => Pb.nxt n q) (fun _ _ q => Pw.nxt n q) q1)) (he _)
theorem s_ifExp {mt : En → M Bool} (hc : STe X Wx c mt) (ha : SE X Wx a ma) (hb : SE X Wx b mb) : SE X Wx (.IfExp c a b pos) (fun env => bnd (mt env) fun t => if t = true then ma env else mb env) :=
  .mk fun pins s σ H F S env Q I er w q => wpAny_IfExp (hc.go I er w q fun d s1 F1 S1 H1 I1 n q1 => by
    cases d with
    | true => exact ha.go I1 (er.mono (n.toSub w)) n.w ((ma env).mono (fun _ _ q => q) (fun _ _ q => Pw.nxt n q) q1) fun v s2 x px F2 S2 H2 I2 r2 n2 rp q2 => fin I2 r2 (n.trans n2) rp q2
    | false => exact hb.go I1 (er.mono (n.toSub w)) n.w ((mb env).mono (fun _ _ q => q) (fun _ _ q => Pw.nxt n q) q1) fun v s2 x px F2 S2 H2 I2 r2 n2 rp q2 => fin I2 r2 (n.trans n2) rp q2)
end
end Dp

namespace Dp
open PySem PySem.Spec L2
open PyProof.Rows hiding St

def guard (p : Prop) : M Unit := ⟨fun S Q _ => p ∧ Q () S, fun h _ q => ⟨q.1, h _ _ q.2⟩⟩
theorem guard_true {α : Type} {p : Prop} {f : Unit → M α} (h : p) : bnd (guard p) f = f () := M.ext fun S Q E => by
  show (p ∧ _) = _
  exact propext ⟨fun q => q.2, fun q => ⟨h, q⟩⟩
/-- an owned list's items, as a list -/
def deref : PV → M PV
  | .ref a => ⟨fun S Q _ => (∃ xs, S a = some (.lst xs) ∧ Q (.lst xs) S) ∨ ((∀ xs, S a ≠ some (.lst xs)) ∧ Q (.ref a) S), fun h _ q => q.imp (fun ⟨xs, e, q⟩ => ⟨xs, e, h _ _ q⟩) fun q => ⟨q.1, h _ _ q.2⟩⟩
  | v => ret v

/-! ### data -/
mutual
def PV.eqv : PV → PV → Bool
  | .non, .non => true
  | .bl a, .bl b => a == b
  | .bl a, .int j => (if a then 1 else 0) == j
  | .int i, .bl b => i == (if b then 1 else 0)
  | .int i, .int j => i == j
  | .str x, .str y => x == y
  | .lst xs, .lst ys => PV.eqvL xs ys
  | .tup xs, .tup ys => PV.eqvL xs ys
  | _, _ => false
def PV.eqvL : List PV → List PV → Bool
  | [], [] => true
  | x :: xs, y :: ys => PV.eqv x y && PV.eqvL xs ys
  | _, _ => false
end
mutual
def PV.dat : PV → PyData
  | .non => .none
  | .bl b => .bool b
  | .int i => .int i
  | .str x => .str x
  | .lst xs => .list (PV.datL xs)
  | .tup xs => .tuple (PV.datL xs)
  | _ => .none
def PV.datL : List PV → List PyData
  | [] => []
  | x :: xs => PV.dat x :: PV.datL xs
end
mutual
/-- plain data of nesting below n -/
def PV.fine : Nat → PV → Bool
  | _, .non => true
  | _, .bl _ => true
  | _, .int _ => true
  | _, .str x => PyData.strOk x
  | 0, .lst _ => false
  | 0, .tup _ => false
  | n + 1, .lst xs => PV.fineL n xs
  | n + 1, .tup xs => PV.fineL n xs
  | _, .loc _ => false
  | _, .ref _ => false
  | _, .fn _ => false
  | _, .ty _ => false
def PV.fineL : Nat → List PV → Bool
  | _, [] => true
  | n, x :: xs => PV.fine n x && PV.fineL n xs
end
theorem fineL_all {n : Nat} : ∀ {xs : List PV}, PV.fineL n xs = true ↔ ∀ x ∈ xs, PV.fine n x = true
  | [] => by simp [PV.fineL]
  | x :: xs => by simp [PV.fineL, fineL_all (xs := xs)]
mutual
theorem fine_lay : ∀ {n : Nat} {x : PV}, PV.fine n x = true → x.dat.canLay0 = true
  | _, .non, _ => by simp [PV.dat, PyData.canLay0]
  | _, .bl _, _ => by simp [PV.dat, PyData.canLay0]
  | _, .int _, _ => by simp [PV.dat, PyData.canLay0]
  | n, .str x, h => by simpa [PV.dat, PyData.canLay0, PV.fine] using h
  | 0, .lst _, h => by simp [PV.fine] at h
  | 0, .tup _, h => by simp [PV.fine] at h
  | n + 1, .lst xs, h => by simp only [PV.dat, PyData.canLay0]; exact fineL_lay (by simpa [PV.fine] using h)
  | n + 1, .tup xs, h => by simp only [PV.dat, PyData.canLay0]; exact fineL_lay (by simpa [PV.fine] using h)
  | _, .loc _, h => by simp [PV.fine] at h
  | _, .ref _, h => by simp [PV.fine] at h
  | _, .fn _, h => by simp [PV.fine] at h
  | _, .ty _, h => by simp [PV.fine] at h
theorem fineL_lay : ∀ {n : Nat} {xs : List PV}, PV.fineL n xs = true → PyData.canLayAll0 (PV.datL xs) = true
  | _, [], _ => by simp [PV.datL, PyData.canLayAll0]
  | n, x :: xs, h => by
    have h' : PV.fine n x = true ∧ PV.fineL n xs = true := by simpa [PV.fineL] using h
    simp only [PV.datL, PyData.canLayAll0, Bool.and_eq_true]
    exact ⟨fine_lay h'.1, fineL_lay h'.2⟩
end
mutual
theorem fine_depth : ∀ {n : Nat} {x : PV}, PV.fine n x = true → x.dat.depth ≤ n + 1
  | _, .non, _ => by simp [PV.dat, PyData.depth]
  | _, .bl _, _ => by simp [PV.dat, PyData.depth]
  | _, .int _, _ => by simp [PV.dat, PyData.depth]
  | n, .str x, h => by simp [PV.dat, PyData.depth]
  | 0, .lst _, h => by simp [PV.fine] at h
  | 0, .tup _, h => by simp [PV.fine] at h
  | n + 1, .lst xs, h => by
    have := fineL_depth (n := n) (xs := xs) (by simpa [PV.fine] using h)
    simp only [PV.dat, PyData.depth]; omega
  | n + 1, .tup xs, h => by
    have := fineL_depth (n := n) (xs := xs) (by simpa [PV.fine] using h)
    simp only [PV.dat, PyData.depth]; omega
  | _, .loc _, h => by simp [PV.fine] at h
  | _, .ref _, h => by simp [PV.fine] at h
  | _, .fn _, h => by simp [PV.fine] at h
  | _, .ty _, h => by simp [PV.fine] at h
theorem fineL_depth : ∀ {n : Nat} {xs : List PV}, PV.fineL n xs = true → PyData.depthAll (PV.datL xs) ≤ n + 1
  | _, [], _ => by simp [PV.datL, PyData.depthAll]
  | n, x :: xs, h => by
    have h' : PV.fine n x = true ∧ PV.fineL n xs = true := by simpa [PV.fineL] using h
    have h1 := fine_depth h'.1
    have h2 := fineL_depth h'.2
    simp only [PV.datL, PyData.depthAll]; omega
end
mutual
theorem eqv_dat : ∀ (x y : PV) {n m : Nat}, PV.fine n x = true → PV.fine m y = true → x.dat.eqv y.dat = PV.eqv x y
  | .non, y, _, _, _, hy => by cases y <;> simp [PV.dat, PyData.eqv, PV.eqv, PV.fine] at hy ⊢
  | .bl a, y, _, _, _, hy => by cases y <;> simp [PV.dat, PyData.eqv, PV.eqv, PV.fine] at hy ⊢
  | .int i, y, _, _, _, hy => by cases y <;> simp [PV.dat, PyData.eqv, PV.eqv, PV.fine] at hy ⊢
  | .str x, y, _, _, _, hy => by cases y <;> simp [PV.dat, PyData.eqv, PV.eqv, PV.fine] at hy ⊢
  | .lst xs, y, 0, _, hx, _ => by simp [PV.fine] at hx
  | .tup xs, y, 0, _, hx, _ => by simp [PV.fine] at hx
  | .lst xs, y, n + 1, 0, hx, hy => by cases y <;> simp [PV.dat, PyData.eqv, PV.eqv, PV.fine] at hy ⊢
  | .tup xs, y, n + 1, 0, hx, hy => by cases y <;> simp [PV.dat, PyData.eqv, PV.eqv, PV.fine] at hy ⊢
  | .lst xs, y, n + 1, m + 1, hx, hy => by
    cases y <;> simp [PV.dat, PyData.eqv, PV.eqv, PV.fine] at hx hy ⊢
    exact eqvL_dat _ _ hx hy
  | .tup xs, y, n + 1, m + 1, hx, hy => by
    cases y <;> simp [PV.dat, PyData.eqv, PV.eqv, PV.fine] at hx hy ⊢
    exact eqvL_dat _ _ hx hy
  | .loc _, y, _, _, hx, _ => by simp [PV.fine] at hx
  | .ref _, y, _, _, hx, _ => by simp [PV.fine] at hx
  | .fn _, y, _, _, hx, _ => by simp [PV.fine] at hx
  | .ty _, y, _, _, hx, _ => by simp [PV.fine] at hx
theorem eqvL_dat : ∀ (xs ys : List PV) {n m : Nat}, PV.fineL n xs = true → PV.fineL m ys = true → PyData.eqvAll (PV.datL xs) (PV.datL ys) = PV.eqvL xs ys
  | [], [], _, _, _, _ => by simp [PV.datL, PyData.eqvAll, PV.eqvL]
  | [], _ :: _, _, _, _, _ => by simp [PV.datL, PyData.eqvAll, PV.eqvL]
  | _ :: _, [], _, _, _, _ => by simp [PV.datL, PyData.eqvAll, PV.eqvL]
  | x :: xs, y :: ys, n, m, hx, hy => by
    have h1 : PV.fine n x = true ∧ PV.fineL n xs = true := by simpa [PV.fineL] using hx
    have h2 : PV.fine m y = true ∧ PV.fineL m ys = true := by simpa [PV.fineL] using hy
    simp only [PV.datL, PyData.eqvAll, PV.eqvL]
    rw [eqv_dat x y h1.1 h2.1, eqvL_dat xs ys h1.2 h2.2]
end
theorem shaped_fine {n : Nat} {x : PV} (hn : n ≤ 60) (h : PV.fine n x = true) : SeqAt.shaped x.dat = true := by
  unfold SeqAt.shaped
  rw [fine_lay h, Bool.true_and]
  have := fine_depth h
  exact decide_eq_true (by omega)

/-! ### owned lists read at once -/
/-- a value as it lies now -/
inductive RepD (Z : Zs) (F : Addr → Prop) (H : Hp) : PV → V → Prop
  | of {x v} : Rep Z F H x v → RepD Z F H x v
  | now {a xs vs} : H a = some (.lst vs) → RepL Z F H xs vs → RepD Z F H (.lst xs) (.ref a)
section
variable {Z : Zs} {F : Addr → Prop} {S : Stt} {H : Hp}
theorem deref_ok {px : PV} {x : V} (w : W Z F S H) (r : Rep Z F H px x) {Q E} (q : (deref px).run S Q E) : ∃ py, RepD Z F H py x ∧ Q py S := by
  cases px with
  | ref a =>
    cases r
    rcases q with ⟨xs, e, q⟩ | ⟨_, q⟩
    · obtain ⟨vs, h, r⟩ := w.cell a _ e
      exact ⟨_, .now h r, q⟩
    · exact ⟨_, .of (.ref a), q⟩
  | _ => exact ⟨_, .of r, q⟩
theorem RepD.lst {xs v} (r : RepD Z F H (.lst xs) v) : ∃ a vs, v = .ref a ∧ H a = some (.lst vs) ∧ RepL Z F H xs vs := by
  cases r with
  | of r => cases r with | lst t r => exact ⟨_, _, rfl, t.2, r⟩
  | now h r => exact ⟨_, _, rfl, h, r⟩
theorem RepD.rep {x v} (r : RepD Z F H x v) (h : ∀ xs, x ≠ .lst xs) : Rep Z F H x v := by
  cases r with
  | of r => exact r
  | now => exact absurd rfl (h _)
mutual
theorem Rep.dp : ∀ {x : PV} {v : V} {n : Nat}, PV.fine n x = true → Rep Z F H x v → Dp Z.K H v x.dat
  | .non, _, _, _, .non => .non
  | .bl b, _, _, _, .bl _ => .bl b
  | .int i, _, _, _, .int _ => .int i
  | .str x, _, _, _, .str _ => .str x
  | .lst xs, _, 0, h, .lst t r => by simp [PV.fine] at h
  | .tup xs, _, 0, h, .tup t r => by simp [PV.fine] at h
  | .lst xs, _, n + 1, h, .lst t r => .lst t.sq (RepL.dp (n := n) (by simpa [PV.fine] using h) r)
  | .tup xs, _, n + 1, h, .tup t r => .tup t.sq (RepL.dp (n := n) (by simpa [PV.fine] using h) r)
  | .loc _, _, _, h, _ => by simp [PV.fine] at h
  | .ref _, _, _, h, _ => by simp [PV.fine] at h
  | .fn _, _, _, h, _ => by simp [PV.fine] at h
  | .ty _, _, _, h, _ => by simp [PV.fine] at h
theorem RepL.dp : ∀ {xs : List PV} {vs : List V} {n : Nat}, PV.fineL n xs = true → RepL Z F H xs vs → DpAll Z.K H vs (PV.datL xs)
  | [], _, _, _, .nil => .nil
  | x :: xs, _, n, h, .cons r t => by
    have h' : PV.fine n x = true ∧ PV.fineL n xs = true := by simpa [PV.fineL] using h
    exact .cons (Rep.dp h'.1 r) (RepL.dp h'.2 t)
end
theorem RepD.dp {x : PV} {v : V} {n : Nat} (h : PV.fine n x = true) (r : RepD Z F H x v) : Dp Z.K H v x.dat := by
  cases r with
  | of r => exact r.dp h
  | now e r =>
    cases n with
    | zero => simp [PV.fine] at h
    | succ n => exact .lst (.of e) (r.dp (n := n) (by simpa [PV.fine] using h))
end

/-! ### operators -/
def vAdd : PV → PV → M PV := fun x y => bnd (deref x) fun x => bnd (deref y) fun y => match x, y with
  | .int a, .int b => ret (.int (a + b))
  | .str a, .str b => bnd (guard (a.length + b.length ≤ sizeLine)) fun _ => ret (.str (a ++ b))
  | .tup a, .tup b => bnd (guard (a.length + b.length ≤ sizeLine)) fun _ => ret (.tup (a ++ b))
  | .lst a, .lst b => bnd (guard (a.length + b.length ≤ sizeLine)) fun _ => ret (.lst (a ++ b))
  | _, _ => stuck
def vInt2 (p : Int → Int → Prop) (f : Int → Int → PV) : PV → PV → M PV
  | .int a, .int b => bnd (guard (p a b)) fun _ => ret (f a b)
  | _, _ => stuck
def vSub : PV → PV → M PV := vInt2 (fun _ _ => True) fun a b => .int (a - b)
def vMod : PV → PV → M PV := vInt2 (fun _ b => 0 < b) fun a b => .int (a % b)
def vFDiv : PV → PV → M PV := vInt2 CDivW fun a b => .int (a / b)
def vPow : PV → PV → M PV := vInt2 CPow fun a b => .int (a ^ b.toNat)
def CMulA (a b : Int) : Prop := CMul a b ∨ CMulW a b
def vMul : PV → PV → M PV := vInt2 CMulA fun a b => .int (a * b)
def vLt : PV → PV → M PV := vInt2 (fun _ _ => True) fun a b => .bl (decide (a < b))
def vLe : PV → PV → M PV := vInt2 (fun _ _ => True) fun a b => .bl (decide (a ≤ b))
def vGt : PV → PV → M PV := vInt2 (fun _ _ => True) fun a b => .bl (decide (b < a))
def vGe : PV → PV → M PV := vInt2 (fun _ _ => True) fun a b => .bl (decide (b ≤ a))
def vNeg : PV → M PV
  | .int a => ret (.int (-a))
  | _ => stuck
def fine2 (x y : PV) : Prop := PV.fine 30 x = true ∧ PV.fine 30 y = true
def vEq : PV → PV → M PV := fun x y => bnd (deref x) fun x => bnd (deref y) fun y => bnd (guard (fine2 x y)) fun _ => ret (.bl (PV.eqv x y))
def vNe : PV → PV → M PV := fun x y => bnd (deref x) fun x => bnd (deref y) fun y => bnd (guard (fine2 x y)) fun _ => ret (.bl (!PV.eqv x y))
def isNon : PV → Bool
  | .non => true
  | _ => false
def vIn (neg : Bool) : PV → PV → M PV := fun x y => bnd (deref y) fun y => match y, x with
  | .lst ys, x => bnd (guard (fine2 x (.lst ys))) fun _ => ret (.bl (neg ^^ ys.any fun y => PV.eqv y x))
  | .tup ys, x => bnd (guard (fine2 x (.tup ys))) fun _ => ret (.bl (neg ^^ ys.any fun y => PV.eqv y x))
  | .str z, .str c => bnd (guard (c.cps.size = 1)) fun _ => ret (.bl (neg ^^ decide (c.cps.getD 0 0 ∈ z.cps.toList)))
  | _, _ => stuck

section
variable {X : Cx} {Wx : WX}
/-- an op by a rule of the hand layer that asks at the values as they are -/
theorem Op2.of {f : Value → Value → Sem Value} {m : PV → PV → M PV} {r : R2} (ho : OpR X f r)
    (h : ∀ (x y : V) (H : Hp) (Q : VK) (F : Addr → Prop) (S : Stt) (px py : PV) (E : Exc → Stt → Prop), W (zs X) F S H → Rep (zs X) F H px x → Rep (zs X) F H py y → (m px py).run S (Pv (zs X) F S H Q) E → r x y H Q) : Op2 X Wx f m :=
  fun pins s σ H x y v u Q F S px py I rx ry w rpx rpy q => ho pins s σ H x y v u Q I rx ry (h x y H Q F S px py _ w rpx rpy q)
theorem Op1.of {f : Value → Sem Value} {m : PV → M PV} {r : V → Hp → VK → Prop} (ho : UnR X f r)
    (h : ∀ (x : V) (H : Hp) (Q : VK) (F : Addr → Prop) (S : Stt) (px : PV) (E : Exc → Stt → Prop), W (zs X) F S H → Rep (zs X) F H px x → (m px).run S (Pv (zs X) F S H Q) E → r x H Q) : Op1 X Wx f m :=
  fun pins s σ H x v Q F S px I rx w rpx q => ho pins s σ H x v Q I rx (h x H Q F S px _ w rpx q)
theorem OpN.of {f : Value} {m : List PV → M PV} {r : List V → Hp → VK → Prop} (ho : CallR X f r)
    (h : ∀ (xs : List V) (H : Hp) (Q : VK) (F : Addr → Prop) (S : Stt) (ps : List PV) (E : Exc → Stt → Prop), W (zs X) F S H → RepL (zs X) F H ps xs → (m ps).run S (Pv (zs X) F S H Q) E → r xs H Q) : OpN X Wx (fun us => call f us) m :=
  fun pins s σ H xs us Q F S ps I rx w rp q => ho pins s σ H xs us Q I rx (h xs H Q F S ps _ w rp q)
theorem o_int2 {f : Value → Value → Sem Value} {C p : Int → Int → Prop} {g : Int → Int → V} {k : Int → Int → PV} (ho : OpR X f (rI C g)) (hp : ∀ a b, p a b → C a b) (hk : ∀ Z F H a b, Rep Z F H (k a b) (g a b)) : Op2 X Wx f (vInt2 p k) :=
  .of ho fun x y H Q F S px py E w rx ry q => by
    cases px with
    | int a =>
      cases py with
      | int b =>
        cases rx; cases ry
        exact ⟨a, b, rfl, rfl, hp a b q.1, q.2 F H _ (Nxt.refl w) (hk _ F H a b)⟩
      | _ => exact q.elim
    | _ => exact q.elim
theorem o_int20 {f : Value → Value → Sem Value} {p : Int → Int → Prop} {g : Int → Int → V} {k : Int → Int → PV} (ho : OpR X f (rI0 g)) (hk : ∀ Z F H a b, Rep Z F H (k a b) (g a b)) : Op2 X Wx f (vInt2 p k) :=
  .of ho fun x y H Q F S px py E w rx ry q => by
    cases px with
    | int a =>
      cases py with
      | int b =>
        cases rx; cases ry
        exact ⟨a, b, rfl, rfl, q.2 F H _ (Nxt.refl w) (hk _ F H a b)⟩
      | _ => exact q.elim
    | _ => exact q.elim
theorem o_sub : Op2 X Wx (binaryOp .Sub) vSub := o_int20 op_sub fun _ _ _ _ _ => .int _
theorem o_mul : Op2 X Wx (binaryOp .Mult) vMul := .of (op_mul.or op_mulW) fun x y H Q F S px py E w rx ry q => by
  cases px with
  | int a =>
    cases py with
    | int b =>
      cases rx; cases ry
      obtain ⟨h, q⟩ := q
      rcases h with h | h
      · exact .inl ⟨a, b, rfl, rfl, h, q F H _ (Nxt.refl w) (.int _)⟩
      · exact .inr ⟨a, b, rfl, rfl, h, q F H _ (Nxt.refl w) (.int _)⟩
    | _ => exact q.elim
  | _ => exact q.elim
theorem o_mod : Op2 X Wx (binaryOp .Mod) vMod := o_int2 op_mod (fun _ _ h => h) fun _ _ _ _ _ => .int _
theorem o_fdiv : Op2 X Wx (binaryOp .FloorDiv) vFDiv := o_int2 op_fdivW (fun _ _ h => h) fun _ _ _ _ _ => .int _
theorem o_pow : Op2 X Wx (binaryOp .Pow) vPow := o_int2 op_pow (fun _ _ h => h) fun _ _ _ _ _ => .int _
theorem o_lt : Op2 X Wx (compareOp .Lt) vLt := o_int20 op_lt fun _ _ _ _ _ => .bl _
theorem o_le : Op2 X Wx (compareOp .LtE) vLe := o_int20 op_le fun _ _ _ _ _ => .bl _
theorem o_gt : Op2 X Wx (compareOp .Gt) vGt := o_int20 op_gt fun _ _ _ _ _ => .bl _
theorem o_ge : Op2 X Wx (compareOp .GtE) vGe := o_int20 op_ge fun _ _ _ _ _ => .bl _
theorem o_neg : Op1 X Wx (unaryOp .USub) vNeg := .of un_neg fun x H Q F S px E w rx q => by
  cases px with
  | int a => cases rx; exact ⟨a, rfl, q F H _ (Nxt.refl w) (.int _)⟩
  | _ => exact q.elim
theorem o_add : Op2 X Wx (binaryOp .Add) vAdd := .of (((op_add.or op_add_str).or op_catA).or op_cat) fun x y H Q F S px py E w rx ry q => by
  obtain ⟨px', r1, q⟩ := deref_ok w rx q
  obtain ⟨py', r2, q⟩ := deref_ok w ry q
  cases px' with
  | int a =>
    cases py' with
    | int b =>
      cases r1.rep (fun xs e => nomatch e); cases r2.rep (fun xs e => nomatch e)
      exact .inl (.inl (.inl ⟨a, b, rfl, rfl, q F H _ (Nxt.refl w) (.int _)⟩))
    | _ => exact q.elim
  | str a =>
    cases py' with
    | str b =>
      cases r1.rep (fun xs e => nomatch e); cases r2.rep (fun xs e => nomatch e)
      exact .inl (.inl (.inr ⟨a, b, rfl, rfl, q.1, q.2 F H _ (Nxt.refl w) (.str _)⟩))
    | _ => exact q.elim
  | tup a =>
    cases py' with
    | tup b =>
      obtain ⟨hz, q⟩ := q
      cases r1.rep (fun xs e => nomatch e) with
      | @tup l _ vs t r =>
        cases r2.rep (fun xs e => nomatch e) with
        | @tup l2 _ vs2 t2 r' =>
          rw [r.length, r'.length] at hz
          refine .inl (.inr ⟨l, l2, vs, vs2, rfl, rfl, t.sq, t2.sq, hz, fun e => ?_, fun _ e => ?_, fun _ _ p hp => ?_⟩)
          · subst e
            have : a = [] := List.length_eq_zero_iff.mp r.length
            subst this
            exact q F H _ (Nxt.refl w) (.tup t2 r')
          · subst e
            have : b = [] := List.length_eq_zero_iff.mp r'.length
            subst this
            rw [List.append_nil] at q
            exact q F H _ (Nxt.refl w) (.tup t r)
          · have n := w.lay (o := .tup (vs ++ vs2)) hp True fun _ => rfl
            exact q _ _ _ n (.tup (.inl ⟨.inr ⟨trivial, rfl⟩, .inl upd_same⟩) ((r.append r').nxt w n))
    | _ => exact q.elim
  | lst a =>
    cases py' with
    | lst b =>
      obtain ⟨hz, q⟩ := q
      obtain ⟨l, vs, rfl, h1, r⟩ := r1.lst
      obtain ⟨l2, vs2, rfl, h2, r'⟩ := r2.lst
      rw [r.length, r'.length] at hz
      refine .inr ⟨l, l2, vs, vs2, rfl, rfl, h1, h2, hz, fun p hp => ?_⟩
      have n := w.lay (o := .lst (vs ++ vs2)) hp True fun _ => rfl
      exact q _ _ _ n (.lst ⟨.inr ⟨trivial, rfl⟩, upd_same⟩ ((r.append r').nxt w n))
    | _ => exact q.elim
  | _ => exact q.elim
theorem dpl {Z : Zs} {K : PySem.W.Frag} {H : Hp} {v : V} {ds : List PyData} (h : Dp K H v (.list ds)) : True := trivial
theorem room_in {A : Around} (hu : A.units + 65 < cLine) {x : PV} {ys : List PV} (h1 : PV.fine 30 x = true) : A.units + 1 + min (PyData.depthAll (PV.datL ys)) x.dat.depth < cLine := by
  have := fine_depth h1
  have h2 : min (PyData.depthAll (PV.datL ys)) x.dat.depth ≤ x.dat.depth := Nat.min_le_right _ _
  omega
theorem o_eq (hu : X.A.units + 64 < cLine) : Op2 X Wx (compareOp .Eq) vEq := .of (op_eqD hu) fun x y H Q F S px py E w rx ry q => by
  obtain ⟨px', r1, q⟩ := deref_ok w rx q
  obtain ⟨py', r2, q⟩ := deref_ok w ry q
  obtain ⟨⟨f1, f2⟩, q⟩ := q
  refine ⟨_, _, r1.dp f1, r2.dp f2, shaped_fine (by decide) f1, shaped_fine (by decide) f2, ?_⟩
  rw [eqv_dat _ _ f1 f2]
  exact q F H _ (Nxt.refl w) (.bl _)
theorem o_ne (hu : X.A.units + 64 < cLine) : Op2 X Wx (compareOp .NotEq) vNe := .of (op_neD hu) fun x y H Q F S px py E w rx ry q => by
  obtain ⟨px', r1, q⟩ := deref_ok w rx q
  obtain ⟨py', r2, q⟩ := deref_ok w ry q
  obtain ⟨⟨f1, f2⟩, q⟩ := q
  refine ⟨_, _, r1.dp f1, r2.dp f2, shaped_fine (by decide) f1, shaped_fine (by decide) f2, ?_⟩
  rw [eqv_dat _ _ f1 f2]
  exact q F H _ (Nxt.refl w) (.bl _)
theorem any_dat {x : PV} {n : Nat} (hx : PV.fine n x = true) : ∀ {ys : List PV} {m : Nat}, PV.fineL m ys = true → ((PV.datL ys).any fun d => d.eqv x.dat) = ys.any fun y => PV.eqv y x
  | [], _, _ => rfl
  | y :: ys, m, h => by
    have h' : PV.fine m y = true ∧ PV.fineL m ys = true := by simpa [PV.fineL] using h
    simp only [PV.datL, List.any_cons]
    rw [eqv_dat y x h'.1 hx, any_dat hx h'.2]
theorem op_in_tupD (hu : X.A.units + 65 < cLine) : OpR X (compareOp .In) (fun x y H Q => ∃ px ys, Dp X.K H x (PV.dat px) ∧ Dp X.K H y (.tuple (PV.datL ys)) ∧ PV.fine 30 px = true ∧ PV.fineL 29 ys = true ∧ Q (.bl (ys.any fun y => PV.eqv y px)) H) := by
  intro pins s σ H x y v u Q I rx ry h
  obtain ⟨px, ys, hd, he, f1, f2, q⟩ := h
  obtain ⟨as, r1⟩ := Dp.reads I _ x v hd rx
  obtain ⟨bs, r2⟩ := Dp.reads I _ y u he ry
  refine SeqAt.in_tuple_reads r2 r1 (fineL_lay f2) (fine_lay f1) (room_in hu f1) ⟨.bl _, H, I, rfl, ?_⟩
  rw [any_dat f1 f2]; exact q
theorem op_notIn_tupD (hu : X.A.units + 65 < cLine) : OpR X (compareOp .NotIn) (fun x y H Q => ∃ px ys, Dp X.K H x (PV.dat px) ∧ Dp X.K H y (.tuple (PV.datL ys)) ∧ PV.fine 30 px = true ∧ PV.fineL 29 ys = true ∧ Q (.bl (!ys.any fun y => PV.eqv y px)) H) := by
  intro pins s σ H x y v u Q I rx ry h
  obtain ⟨px, ys, hd, he, f1, f2, q⟩ := h
  obtain ⟨as, r1⟩ := Dp.reads I _ x v hd rx
  obtain ⟨bs, r2⟩ := Dp.reads I _ y u he ry
  refine SeqAt.notIn_tuple_reads r2 r1 (fineL_lay f2) (fine_lay f1) (room_in hu f1) ⟨.bl _, H, I, rfl, ?_⟩
  rw [any_dat f1 f2]; exact q
theorem str_one {c : Str} (h : c.cps.size = 1) : c = ⟨#[c.cps.getD 0 0]⟩ := by
  cases c with
  | mk a =>
    congr
    apply Array.ext
    · simpa using h
    · intro i h1 h2
      have : i = 0 := by simp at h2; exact h2
      subst this
      simp [Array.getD, h1]
theorem o_in (hu : X.A.units + 65 < cLine) : Op2 X Wx (compareOp .In) (vIn false) :=
  .of ((op_in_sign.or (op_inD hu)).or (op_in_tupD hu)) fun x y H Q F S px py E w rx ry q => by
    obtain ⟨py', r2, q⟩ := deref_ok w ry q
    cases py' with
    | lst ys =>
      obtain ⟨⟨f1, f2⟩, q⟩ := q
      have f2' : PV.fineL 29 ys = true := by simpa [PV.fine] using f2
      refine .inl (.inr ⟨_, _, rx.dp f1, r2.dp f2, shaped_fine (by decide) f1, shaped_fine (by decide) f2, ?_⟩)
      rw [any_dat f1 f2']
      have := q F H _ (Nxt.refl w) (.bl _)
      simpa using this
    | tup ys =>
      obtain ⟨⟨f1, f2⟩, q⟩ := q
      have f2' : PV.fineL 29 ys = true := by simpa [PV.fine] using f2
      refine .inr ⟨_, _, rx.dp f1, r2.dp f2, f1, f2', ?_⟩
      have := q F H _ (Nxt.refl w) (.bl _)
      simpa using this
    | str z =>
      cases px with
      | str c =>
        cases rx
        cases r2.rep (fun xs e => nomatch e)
        obtain ⟨h1, q⟩ := q
        have := q F H _ (Nxt.refl w) (.bl _)
        refine .inl (.inl ⟨c.cps.getD 0 0, z, by rw [← str_one h1], rfl, by simpa using this⟩)
      | _ => exact q.elim
    | _ => exact q.elim
theorem o_notIn (hu : X.A.units + 65 < cLine) : Op2 X Wx (compareOp .NotIn) (vIn true) :=
  .of ((op_notIn_sign.or (op_notInD hu)).or (op_notIn_tupD hu)) fun x y H Q F S px py E w rx ry q => by
    obtain ⟨py', r2, q⟩ := deref_ok w ry q
    cases py' with
    | lst ys =>
      obtain ⟨⟨f1, f2⟩, q⟩ := q
      have f2' : PV.fineL 29 ys = true := by simpa [PV.fine] using f2
      refine .inl (.inr ⟨_, _, rx.dp f1, r2.dp f2, shaped_fine (by decide) f1, shaped_fine (by decide) f2, ?_⟩)
      rw [any_dat f1 f2']
      have := q F H _ (Nxt.refl w) (.bl _)
      simpa using this
    | tup ys =>
      obtain ⟨⟨f1, f2⟩, q⟩ := q
      have f2' : PV.fineL 29 ys = true := by simpa [PV.fine] using f2
      refine .inr ⟨_, _, rx.dp f1, r2.dp f2, f1, f2', ?_⟩
      have := q F H _ (Nxt.refl w) (.bl _)
      simpa using this
    | str z =>
      cases px with
      | str c =>
        cases rx
        cases r2.rep (fun xs e => nomatch e)
        obtain ⟨h1, q⟩ := q
        have := q F H _ (Nxt.refl w) (.bl _)
        refine .inl (.inl ⟨c.cps.getD 0 0, z, by rw [← str_one h1], rfl, by simpa using this⟩)
      | _ => exact q.elim
    | _ => exact q.elim
end
end Dp

namespace Dp
open PySem PySem.Spec L2
open PyProof.Rows hiding St

/-! ### truth, len, items, slices -/
def vTruth : PV → M Bool := fun x => bnd (deref x) fun x => match x with
  | .non => ret false
  | .bl b => ret b
  | .int i => ret (i != 0)
  | .str z => bnd (guard (z.length ≤ sizeLine)) fun _ => ret (z.length != 0)
  | .tup xs => ret (!xs.isEmpty)
  | .lst xs => ret (!xs.isEmpty)
  | .loc xs => ret (!xs.isEmpty)
  | _ => stuck
def vLen : PV → M PV := fun x => bnd (deref x) fun x => match x with
  | .str z => bnd (guard (z.length ≤ sizeLine)) fun _ => ret (.int z.length)
  | .tup xs => ret (.int xs.length)
  | .lst xs => ret (.int xs.length)
  | .loc xs => ret (.int xs.length)
  | _ => stuck
def ofO {α : Type} : Option α → M α
  | some a => ret a
  | none => stuck
def vIdx : PV → PV → M PV := fun x i => bnd (deref x) fun x => match x, i with
  | .tup xs, .int i => ofO (atI xs i)
  | .lst xs, .int i => ofO (atI xs i)
  | .loc xs, .int i => ofO (atI xs i)
  | .str z, .int i => bnd (guard (z.length ≤ sizeLine)) fun _ => bnd (ofO (atI z.cps.toList i)) fun c => ret (.str ⟨#[c]⟩)
  | _, _ => stuck
def cutL {α : Type} (xs : List α) (lo hi : Option Int) : List α := (xs.drop (HT.sIx xs.length 0 lo)).take (HT.sIx xs.length xs.length hi - HT.sIx xs.length 0 lo)
def vSlice (lo hi : Option Int) : PV → M PV := fun x => bnd (deref x) fun x => match x with
  | .tup xs => ret (.tup (cutL xs lo hi))
  | .lst xs => ret (.lst (cutL xs lo hi))
  | .loc xs => ret (.lst (cutL xs lo hi))
  | _ => stuck

section
variable {Z : Zs} {F : Addr → Prop} {H : Hp}
theorem RepD.isEmptyL {xs v} (r : RepD Z F H (.lst xs) v) : TruV Z.K v H (!xs.isEmpty) := by
  obtain ⟨a, vs, rfl, h, r⟩ := r.lst
  refine .inl ⟨vs, .of h, ?_⟩
  cases r <;> rfl
theorem RepL.isEmpty {xs : List PV} {vs : List V} (r : RepL Z F H xs vs) : xs.isEmpty = vs.isEmpty := by cases r <;> rfl
theorem RepL.cut {xs : List PV} {vs : List V} (r : RepL Z F H xs vs) (lo hi : Option Int) : RepL Z F H (cutL xs lo hi) (cutV vs lo hi) := by
  unfold cutL cutV
  rw [r.length]
  exact (r.drop _).take _
theorem RepL.atI {xs : List PV} {vs : List V} (r : RepL Z F H xs vs) {i : Int} {x : PV} (h : L2.atI xs i = some x) : ∃ v, L2.atI vs i = some v ∧ Rep Z F H x v := by
  unfold L2.atI at h ⊢
  rw [← r.length]
  cases e : ixN xs.length i with
  | none => rw [e] at h; cases h
  | some j => rw [e] at h; exact r.get h
end

section
variable {X : Cx} {Wx : WX}
theorem o_truth : OpB X Wx truthy vTruth := fun pins s σ H x v Q F S px I rx w rpx q => by
  obtain ⟨py, r, q⟩ := deref_ok w rpx q
  refine tru_ok pins s σ H x v Q I rx ?_
  cases py with
  | non => cases r.rep (fun xs e => nomatch e); exact ⟨false, rfl, q F H (Nxt.refl w)⟩
  | bl b => cases r.rep (fun xs e => nomatch e); exact ⟨b, rfl, q F H (Nxt.refl w)⟩
  | int i => cases r.rep (fun xs e => nomatch e); exact ⟨_, rfl, q F H (Nxt.refl w)⟩
  | str z =>
    cases r.rep (fun xs e => nomatch e)
    have e : (z.length != 0) = (((z.length : Nat) : Int) != 0) := by
      cases h : z.length with
      | zero => rfl
      | succ n => simp; omega
    refine ⟨_, ⟨q.1, rfl⟩, ?_⟩
    rw [← e]; exact q.2 F H (Nxt.refl w)
  | tup xs =>
    cases r.rep (fun xs e => nomatch e) with
    | tup t rl => exact ⟨_, .inr (.inl ⟨_, t.sq, rfl⟩), by rw [← rl.isEmpty]; exact q F H (Nxt.refl w)⟩
  | lst xs => exact ⟨_, r.isEmptyL, q F H (Nxt.refl w)⟩
  | loc xs =>
    cases r.rep (fun xs e => nomatch e) with
    | loc t rl => exact ⟨_, .inl ⟨_, t.sq, rfl⟩, by rw [← rl.isEmpty]; exact q F H (Nxt.refl w)⟩
  | _ => exact q.elim
theorem lenV_of {F S H px x Q E} (w : W (zs X) F S H) (rpx : Rep (zs X) F H px x) (q : (vLen px).run S (Pv (zs X) F S H Q) E) : ∃ n, LenV X.K x H n ∧ Q (.int n) H := by
  obtain ⟨py, r, q⟩ := deref_ok w rpx q
  cases py with
  | str z => cases r.rep (fun xs e => nomatch e); exact ⟨_, ⟨q.1, rfl⟩, q.2 F H _ (Nxt.refl w) (.int _)⟩
  | tup xs =>
    cases r.rep (fun xs e => nomatch e) with
    | tup t rl => exact ⟨_, .inr ⟨_, t.sq, rfl⟩, by rw [← rl.length]; exact q F H _ (Nxt.refl w) (.int _)⟩
  | lst xs =>
    obtain ⟨a, vs, rfl, h, r⟩ := r.lst
    exact ⟨_, .inl ⟨_, .of h, rfl⟩, by rw [← r.length]; exact q F H _ (Nxt.refl w) (.int _)⟩
  | loc xs =>
    cases r.rep (fun xs e => nomatch e) with
    | loc t rl => exact ⟨_, .inl ⟨_, t.sq, rfl⟩, by rw [← rl.length]; exact q F H _ (Nxt.refl w) (.int _)⟩
  | _ => exact q.elim
/-! ### subscripts -/
def notSlice : Expr → Bool
  | .Slice .. => false
  | _ => true
theorem plainIx {b : Expr} (h : notSlice b = true) : PlainIx b := by
  intro o i
  cases b <;> first | rfl | (cases h)
theorem s_ix {a b : Expr} {ma mb : En → M PV} {pos : Pos} (ha : SE X Wx a ma) (hb : SE X Wx b mb) (hs : PlainIx b) : SE X Wx (.Subscript a b pos) (fun env => bnd (ma env) fun x => bnd (mb env) fun y => vIdx x y) :=
  ⟨fun pins s σ H Q I ⟨F, S, env, er, w, q⟩ => by
    refine (pe_ix (pos := pos) ix_seq ha hb hs).run pins s σ H Q I ?_
    refine ⟨F, S, env, er, w, (ma env).mono (fun px S1 q F1 H1 x n1 r1 => ?_) (fun _ _ q => q) q⟩
    refine ⟨F1, S1, env, er.mono (n1.toSub w), n1.w, (mb env).mono (fun py S2 q F2 H2 y n2 r2 => ?_) (fun _ _ q => Pw.nxt n1 q) q⟩
    have n := n1.trans n2
    obtain ⟨pz, r, q⟩ := deref_ok n.w (r1.nxt n1.w n2) q
    cases pz with
    | tup xs =>
      cases py with
      | int i =>
        cases r2
        cases r.rep (fun xs e => nomatch e) with
        | tup t rl =>
          cases e : L2.atI xs i with
          | none => simp only [e] at q; exact q.elim
          | some z =>
            simp only [e] at q
            obtain ⟨v, e', rv⟩ := rl.atI e
            exact .inr (.inl ⟨_, _, i, v, rfl, rfl, t.sq, e', q F2 H2 v n rv⟩)
      | _ => exact q.elim
    | lst xs =>
      cases py with
      | int i =>
        cases r2
        obtain ⟨a', vs, rfl, h, rl⟩ := r.lst
        cases e : L2.atI xs i with
        | none => simp only [e] at q; exact q.elim
        | some z =>
          simp only [e] at q
          obtain ⟨v, e', rv⟩ := rl.atI e
          exact .inl ⟨_, _, i, v, rfl, rfl, .of h, e', q F2 H2 v n rv⟩
      | _ => exact q.elim
    | loc xs =>
      cases py with
      | int i =>
        cases r2
        cases r.rep (fun xs e => nomatch e) with
        | loc t rl =>
          cases e : L2.atI xs i with
          | none => simp only [e] at q; exact q.elim
          | some z =>
            simp only [e] at q
            obtain ⟨v, e', rv⟩ := rl.atI e
            exact .inl ⟨_, _, i, v, rfl, rfl, t.sq, e', q F2 H2 v n rv⟩
      | _ => exact q.elim
    | str z =>
      cases py with
      | int i =>
        cases r2
        cases r.rep (fun xs e => nomatch e)
        obtain ⟨hz, q⟩ := q
        cases e : L2.atI z.cps.toList i with
        | none => simp only [e] at q; exact q.elim
        | some c =>
          simp only [e] at q
          exact .inr (.inr ⟨z, i, c, rfl, rfl, hz, e, q F2 H2 _ n (.str _)⟩)
      | _ => exact q.elim
    | _ => exact q.elim⟩
def SOx (X : Cx) (Wx : WX) (o : Option Expr) (m : En → M (Option Int)) : Prop := PO X o (fun σ H Q => ∃ F S env, EnvR (zs X) F H env σ ∧ W (zs X) F S H ∧ (m env).run S (fun o S' => ∀ F' H', Nxt (zs X) F S H F' S' H' → Q o H') (Pw (zs X) F S H [] σ Wx))
theorem so_none : SOx X Wx none (fun _ => ret none) := ⟨fun pins s σ H Q I ⟨F, S, env, er, w, q⟩ => po_none.run pins s σ H Q I (q F H (Nxt.refl w))⟩
def vPart : PV → M (Option Int)
  | .int i => ret (some i)
  | _ => stuck
theorem so_some {e : Expr} {m : En → M PV} (he : SE X Wx e m) : SOx X Wx (some e) (fun env => bnd (m env) vPart) := ⟨fun pins s σ H Q I ⟨F, S, env, er, w, q⟩ => by
  refine (po_some he).run pins s σ H Q I ⟨F, S, env, er, w, (m env).mono (fun px S1 q F1 H1 x n1 r1 => ?_) (fun _ _ q => q) q⟩
  cases px with
  | int i => cases r1; exact ⟨i, rfl, q F1 H1 n1⟩
  | _ => exact q.elim⟩
theorem SlR.or {r r' : V → Option Int → Option Int → Hp → VK → Prop} (h : SlR X r) (h' : SlR X r') : SlR X (fun x lo hi H Q => r x lo hi H Q ∨ r' x lo hi H Q) :=
  fun pins s σ H x v vl vu lo hi sl Q I rx hsl p1 p2 q => q.elim (h pins s σ H x v vl vu lo hi sl Q I rx hsl p1 p2) (h' pins s σ H x v vl vu lo hi sl Q I rx hsl p1 p2)
theorem s_slice {a : Expr} {lo hi : Option Expr} {ma : En → M PV} {ml mh : En → M (Option Int)} {pos p2 : Pos} (ha : SE X Wx a ma) (hl : SOx X Wx lo ml) (hh : SOx X Wx hi mh) :
    SE X Wx (.Subscript a (.Slice lo hi none p2) pos) (fun env => bnd (ma env) fun x => bnd (ml env) fun l => bnd (mh env) fun h => vSlice l h x) :=
  ⟨fun pins s σ H Q I ⟨F, S, env, er, w, q⟩ => by
    refine (pe_slice (pos := pos) (p2 := p2) (SlR.or sl_tupA sl_list) ha hl hh).run pins s σ H Q I ?_
    refine ⟨F, S, env, er, w, (ma env).mono (fun px S1 q F1 H1 x n1 r1 => ?_) (fun _ _ q => q) q⟩
    refine ⟨F1, S1, env, er.mono (n1.toSub w), n1.w, (ml env).mono (fun l S2 q F2 H2 n2 => ?_) (fun _ _ q => Pw.nxt n1 q) q⟩
    have n12 := n1.trans n2
    refine ⟨F2, S2, env, er.mono (n12.toSub w), n12.w, (mh env).mono (fun h S3 q F3 H3 n3 => ?_) (fun _ _ q => Pw.nxt n12 q) q⟩
    have n := n12.trans n3
    obtain ⟨pz, r, q⟩ := deref_ok n.w (r1.nxt n1.w (n2.trans n3)) q
    cases pz with
    | tup xs =>
      cases r.rep (fun xs e => nomatch e) with
      | @tup a' _ vs t rl =>
        refine .inl ⟨a', vs, rfl, t.sq, fun e => ?_, fun _ p hp => ?_⟩
        · have ec : cutV vs l h = vs := by unfold cutV; rw [e.1, e.2]; simp
          refine q F3 H3 _ n (.tup t ?_)
          have := rl.cut l h
          rw [ec] at this; exact this
        · have n' := n.w.lay (o := .tup (cutV vs l h)) hp True fun _ => rfl
          exact q _ _ _ (n.trans n') (.tup (.inl ⟨.inr ⟨trivial, rfl⟩, .inl upd_same⟩) ((rl.cut l h).nxt n.w n'))
    | lst xs =>
      obtain ⟨a', vs, rfl, e, rl⟩ := r.lst
      refine .inr ⟨a', vs, rfl, .of e, fun p hp => ?_⟩
      have n' := n.w.lay (o := .lst (cutV vs l h)) hp True fun _ => rfl
      exact q _ _ _ (n.trans n') (.lst ⟨.inr ⟨trivial, rfl⟩, upd_same⟩ ((rl.cut l h).nxt n.w n'))
    | loc xs =>
      cases r.rep (fun xs e => nomatch e) with
      | @loc a' _ vs t rl =>
        refine .inr ⟨a', vs, rfl, t.sq, fun p hp => ?_⟩
        have n' := n.w.lay (o := .lst (cutV vs l h)) hp True fun _ => rfl
        exact q _ _ _ (n.trans n') (.lst ⟨.inr ⟨trivial, rfl⟩, upd_same⟩ ((rl.cut l h).nxt n.w n'))
    | _ => exact q.elim⟩

/-! ### argument lists, displays -/
theorem sa_nil : SA X Wx [] (fun _ => ret []) := ⟨fun pos pins s σ H Q I ⟨F, S, env, er, w, q⟩ => pa_nil.run pos pins s σ H Q I (q F H _ (Nxt.refl w) .nil)⟩
def notStar : Expr → Bool
  | .Starred .. => false
  | _ => true
theorem starEach_not {e : Expr} {es : List Expr} {env : Env} (h : notStar e = true) : starEach (e :: es) env = (false, eval e env) :: starEach es env := by
  cases e <;> first | rfl | cases h
theorem sa_cons {e : Expr} {es : List Expr} {m : En → M PV} {ms : En → M (List PV)} (he : SE X Wx e m) (hr : SA X Wx es ms) (hs : notStar e = true) : SA X Wx (e :: es) (fun env => bnd (m env) fun x => bnd (ms env) fun xs => ret (x :: xs)) :=
  ⟨fun pos pins s σ H Q I ⟨F, S, env, er, w, q⟩ => by
    refine (pa_cons he hr (starEach_not hs)).run pos pins s σ H Q I ?_
    refine ⟨F, S, env, er, w, (m env).mono (fun px S1 q F1 H1 x n1 r1 => ?_) (fun _ _ q => q) q⟩
    refine ⟨F1, S1, env, er.mono (n1.toSub w), n1.w, (ms env).mono (fun pxs S2 q F2 H2 xs n2 r2 => ?_) (fun _ _ q => Pw.nxt n1 q) q⟩
    exact q F2 H2 _ (n1.trans n2) (.cons (r1.nxt n1.w n2) r2)⟩
/-- the items of a list or a tuple -/
def vItems : PV → M (List PV) := fun x => bnd (deref x) fun x => match x with
  | .tup xs => ret xs
  | .lst xs => ret xs
  | .loc xs => ret xs
  | _ => stuck
theorem items_ok {F S H px x Q E} (w : W (zs X) F S H) (rpx : Rep (zs X) F H px x) (q : (vItems px).run S Q E) : ∃ a ps vs, x = .ref a ∧ (SqT X.K H a vs ∨ SqL X.K H a vs) ∧ RepL (zs X) F H ps vs ∧ Q ps S := by
  obtain ⟨py, r, q⟩ := deref_ok w rpx q
  cases py with
  | tup xs =>
    cases r.rep (fun xs e => nomatch e) with
    | tup t rl => exact ⟨_, _, _, rfl, .inl t.sq, rl, q⟩
  | lst xs =>
    obtain ⟨a, vs, rfl, h, r⟩ := r.lst
    exact ⟨_, _, _, rfl, .inr (.of h), r, q⟩
  | loc xs =>
    cases r.rep (fun xs e => nomatch e) with
    | loc t rl => exact ⟨_, _, _, rfl, .inr t.sq, rl, q⟩
  | _ => exact q.elim
theorem sa_star {e : Expr} {es : List Expr} {m : En → M PV} {ms : En → M (List PV)} {p : Pos} (he : SE X Wx e m) (hr : SA X Wx es ms) : SA X Wx (.Starred e p :: es) (fun env => bnd (m env) fun x => bnd (vItems x) fun ys => bnd (ms env) fun xs => ret (ys ++ xs)) :=
  ⟨fun pos pins s σ H Q I ⟨F, S, env, er, w, q⟩ => by
    refine (StX.pa_star he hr).run pos pins s σ H Q I ?_
    refine ⟨F, S, env, er, w, (m env).mono (fun px S1 q F1 H1 x n1 r1 => ?_) (fun _ _ q => q) q⟩
    obtain ⟨a, ps, vs, rfl, hs, rl, q⟩ := items_ok n1.w r1 q
    refine ⟨a, vs, rfl, hs, ?_⟩
    refine ⟨F1, S1, env, er.mono (n1.toSub w), n1.w, (ms env).mono (fun pxs S2 q F2 H2 xs n2 r2 => ?_) (fun _ _ q => Pw.nxt n1 q) q⟩
    exact q F2 H2 _ (n1.trans n2) ((rl.nxt n1.w n2).append r2)⟩
def mkTup (xs : List PV) : M PV := bnd (guard (xs.length ≤ sizeLine)) fun _ => ret (.tup xs)
def mkLst (xs : List PV) : M PV := bnd (guard (xs.length ≤ sizeLine)) fun _ => ret (.lst xs)
/-- a new owned list -/
def mkOwn (xs : List PV) : M PV := ⟨fun S Q _ => xs.length ≤ sizeLine ∧ ∀ p, S p = none → Q (.ref p) (put S p (.lst xs)), fun h _ q => ⟨q.1, fun p e => h _ _ (q.2 p e)⟩⟩
section
variable {F : Addr → Prop} {S S1 : Stt} {H H1 : Hp} {Q : VK} {F1 : Addr → Prop} {ps : List PV} {vs : List V}
theorem lay_tup (n : Nxt (zs X) F S H F1 S1 H1) (r : RepL (zs X) F1 H1 ps vs) (q : Pv (zs X) F S H Q (.tup ps) S1) {p : Addr} (hp : H1 p = none) : Q (.ref p) (upd H1 p (.tup vs)) := by
  have n' := n.w.lay (o := .tup vs) hp True fun _ => rfl
  exact q _ _ _ (n.trans n') (.tup (.inl ⟨.inr ⟨trivial, rfl⟩, .inl upd_same⟩) (r.nxt n.w n'))
theorem lay_lst (n : Nxt (zs X) F S H F1 S1 H1) (r : RepL (zs X) F1 H1 ps vs) (q : Pv (zs X) F S H Q (.lst ps) S1) {p : Addr} (hp : H1 p = none) : Q (.ref p) (upd H1 p (.lst vs)) := by
  have n' := n.w.lay (o := .lst vs) hp True fun _ => rfl
  exact q _ _ _ (n.trans n') (.lst ⟨.inr ⟨trivial, rfl⟩, upd_same⟩ (r.nxt n.w n'))
end
theorem s_tup {es : List Expr} {ms : En → M (List PV)} {k : Nat} {pos : Pos} (h : SA X Wx es ms) : SE X Wx (.Tuple es k pos) (fun env => bnd (ms env) mkTup) :=
  ⟨fun pins s σ H Q I ⟨F, S, env, er, w, q⟩ => (pe_tup h).run pins s σ H Q I ⟨F, S, env, er, w, (ms env).mono (fun ps S1 q F1 H1 vs n r => ⟨by rw [← r.length]; exact q.1, fun p hp => lay_tup n r q.2 hp⟩) (fun _ _ q => q) q⟩⟩
theorem s_lst {es : List Expr} {ms : En → M (List PV)} {pos : Pos} (h : SA X Wx es ms) : SE X Wx (.List es pos) (fun env => bnd (ms env) mkLst) :=
  ⟨fun pins s σ H Q I ⟨F, S, env, er, w, q⟩ => (pe_lst h).run pins s σ H Q I ⟨F, S, env, er, w, (ms env).mono (fun ps S1 q F1 H1 vs n r => ⟨by rw [← r.length]; exact q.1, fun p hp => lay_lst n r q.2 hp⟩) (fun _ _ q => q) q⟩⟩
theorem s_own {es : List Expr} {ms : En → M (List PV)} {pos : Pos} (h : SA X Wx es ms) : SE X Wx (.List es pos) (fun env => bnd (ms env) mkOwn) :=
  ⟨fun pins s σ H Q I ⟨F, S, env, er, w, q⟩ => (pe_lst h).run pins s σ H Q I ⟨F, S, env, er, w, (ms env).mono (fun ps S1 q F1 H1 vs n r => ⟨by rw [← r.length]; exact q.1, fun p hp => by
    have n' := n.w.layOwn hp r
    exact q.2 p (n.w.fresh_S hp) _ _ _ (n.trans n') (.ref p)⟩) (fun _ _ q => q) q⟩⟩

/-! ### and, or, not; tests -/
variable {a b c : Expr} {ma mb : En → M PV} {mta mtb : En → M Bool} {rest : List Expr} {pos : Pos}
def vAnd (x : PV) (k : M PV) : M PV := bnd (vTruth x) fun t => if t = true then k else ret x
def vOr (x : PV) (k : M PV) : M PV := bnd (vTruth x) fun t => if t = true then ret x else k
theorem s_one {op} (h : SE X Wx a ma) : SE X Wx (.BoolOp op [a] pos) ma := ⟨fun pins s σ H Q I hw => (pe_one h).run pins s σ H Q I hw⟩
theorem tru_go {pins : List (Addr × Obj)} {s : Shared} {σ : St} {H : Hp} {x : V} {v : Value} {F : Addr → Prop} {S : Stt} {px : PV} (I : Inv X pins σ H s) (rx : RelV x v) (w : W (zs X) F S H) (rp : Rep (zs X) F H px x) {R : Bool → Stt → Prop} (q : (vTruth px).run S R (Pw (zs X) F S H [] σ Wx))
    {Qf : Bool → Shared → Prop} (hk : ∀ b s1 F1 S1 H1, Inv X pins σ H1 s1 → Nxt (zs X) F S H F1 S1 H1 → R b S1 → Qf b s1) : wpAny (model X.prog X.w) X.A (truthy v) Qf X.xe s :=
  thn (o_truth (Wx := Wx) pins s σ H x v (fun b H1 => ∃ F1 S1, Nxt (zs X) F S H F1 S1 H1 ∧ R b S1) F S px I rx w rp ((vTruth px).mono (fun b S1 r F1 H1 n => ⟨F1, S1, n, r⟩) (fun _ _ q => q) q))
    fun b s1 ⟨H1, I1, F1, S1, n, r⟩ => hk b s1 F1 S1 H1 I1 n r
theorem s_and (ha : SE X Wx a ma) (hb : SE X Wx (.BoolOp .And (b :: rest) pos) mb) : SE X Wx (.BoolOp .And (a :: b :: rest) pos) (fun env => bnd (ma env) fun x => vAnd x (mb env)) :=
  .mk fun pins s σ H F S env Q I er w q => BoolOp_and (ha.go I er w q fun v s1 x px F1 S1 H1 I1 r1 n rp q1 => by
    refine tru_go I1 r1 n.w rp ((vTruth px).mono (fun _ _ q => q) (fun _ _ q => Pw.nxt n q) q1) fun t s2 F2 S2 H2 I2 n2 q2 => ?_
    have n' := n.trans n2
    cases t with
    | true => exact hb.go I2 (er.mono (n'.toSub w)) n'.w ((mb env).mono (fun _ _ q => q) (fun _ _ q => Pw.nxt n' q) q2) fun v s3 y py F3 S3 H3 I3 r3 n3 rp3 q3 => fin I3 r3 (n'.trans n3) rp3 q3
    | false => exact fin I2 r1 n' (rp.nxt n.w n2) q2)
theorem s_or (ha : SE X Wx a ma) (hb : SE X Wx (.BoolOp .Or (b :: rest) pos) mb) : SE X Wx (.BoolOp .Or (a :: b :: rest) pos) (fun env => bnd (ma env) fun x => vOr x (mb env)) :=
  .mk fun pins s σ H F S env Q I er w q => BoolOp_or (ha.go I er w q fun v s1 x px F1 S1 H1 I1 r1 n rp q1 => by
    refine tru_go I1 r1 n.w rp ((vTruth px).mono (fun _ _ q => q) (fun _ _ q => Pw.nxt n q) q1) fun t s2 F2 S2 H2 I2 n2 q2 => ?_
    have n' := n.trans n2
    cases t with
    | false => exact hb.go I2 (er.mono (n'.toSub w)) n'.w ((mb env).mono (fun _ _ q => q) (fun _ _ q => Pw.nxt n' q) q2) fun v s3 y py F3 S3 H3 I3 r3 n3 rp3 q3 => fin I3 r3 (n'.trans n3) rp3 q3
    | true => exact fin I2 r1 n' (rp.nxt n.w n2) q2)
theorem s_not (ha : STe X Wx a mta) (he : eval (.UnaryOp .Not a pos) X.env = eval (.UnaryOp .Not a pos) X.env := rfl) : STe X Wx (.UnaryOp .Not a pos) (fun env => bnd (mta env) fun t => ret (!t)) :=
  ⟨fun pins s σ H Q I ⟨F, S, env, er, w, q⟩ => (pt_not ha).run pins s σ H Q I ⟨F, S, env, er, w, q⟩⟩
def vNot (x : PV) : M PV := bnd (vTruth x) fun t => ret (.bl !t)
theorem o_not : Op1 X Wx (unaryOp .Not) vNot := fun pins s σ H x v Q F S px I rx w rp q =>
  not_of (tru_go I rx w rp q fun t s1 F1 S1 H1 I1 n q1 => fin (x := V.bl (!t)) I1 rfl n (.bl _) q1)
/-- a test of one kind: what isTrue makes of and, or -/
def STw (X : Cx) (Wx : WX) (e : Expr) (m : En → M Bool) : Prop := PW X e (tT (zs X) Wx m)
theorem w_and1 (ha : STe X Wx a mta) : STw X Wx (.BoolOp .And [a] pos) mta := pw_and1 ha
theorem w_or1 (ha : STe X Wx a mta) : STw X Wx (.BoolOp .Or [a] pos) mta := pw_or1 ha
theorem w_and (ha : STe X Wx a mta) (hb : STw X Wx (.BoolOp .And (b :: rest) pos) mtb) : STw X Wx (.BoolOp .And (a :: b :: rest) pos) (fun env => bnd (mta env) fun t => if t = true then mtb env else ret false) :=
  ⟨fun wh pins s σ H Q I ⟨F, S, env, er, w, q⟩ => (pw_and ha hb).run wh pins s σ H Q I ⟨F, S, env, er, w, (mta env).mono (fun t S1 q F1 H1 n => by
    cases t with
    | true => exact ⟨F1, S1, env, er.mono (n.toSub w), n.w, (mtb env).mono (fun _ _ q => Pb.nxt n q) (fun _ _ q => Pw.nxt n q) q⟩
    | false => exact q F1 H1 n) (fun _ _ q => q) q⟩⟩
theorem w_or (ha : STe X Wx a mta) (hb : STw X Wx (.BoolOp .Or (b :: rest) pos) mtb) : STw X Wx (.BoolOp .Or (a :: b :: rest) pos) (fun env => bnd (mta env) fun t => if t = true then ret true else mtb env) :=
  ⟨fun wh pins s σ H Q I ⟨F, S, env, er, w, q⟩ => (pw_or ha hb).run wh pins s σ H Q I ⟨F, S, env, er, w, (mta env).mono (fun t S1 q F1 H1 n => by
    cases t with
    | false => exact ⟨F1, S1, env, er.mono (n.toSub w), n.w, (mtb env).mono (fun _ _ q => Pb.nxt n q) (fun _ _ q => Pw.nxt n q) q⟩
    | true => exact q F1 H1 n) (fun _ _ q => q) q⟩⟩
theorem s_tcmp {op : CmpOp} {m : PV → PV → M PV} (ho : Op2 X Wx (compareOp op) m) (ha : SE X Wx a ma) (hb : SE X Wx b mb) (hm : behindInMarks op b = false) : STe X Wx (.Compare a [op] [b] pos) (fun env => bnd (ma env) fun x => bnd (mb env) fun y => bnd (m x y) vTruth) :=
  .mk fun pins s σ H F S env Q I er w q => by
    refine wpAny_isTrue_Compare1 (two ha hb I er w (R := fun px py S2 => (m px py).run S2 (fun pz S3 => (vTruth pz).run S3 (Pb (zs X) F S H Q) (Pw (zs X) F S H [] σ Wx)) (Pw (zs X) F S H [] σ Wx)) q fun v u s2 x y px py F2 S2 H2 I2 r1 r2 n rp1 rp2 q2 => ?_) hm
    refine thn (ho pins s2 σ H2 x y v u (fun z H3 => ∃ F3 S3 pz, Nxt (zs X) F2 S2 H2 F3 S3 H3 ∧ Rep (zs X) F3 H3 pz z ∧ (vTruth pz).run S3 (Pb (zs X) F S H Q) (Pw (zs X) F S H [] σ Wx)) F2 S2 px py I2 r1 r2 n.w rp1 rp2
      ((m px py).mono (fun pz S3 r F3 H3 z n3 r3 => ⟨F3, S3, pz, n3, r3, r⟩) (fun _ _ q => Pw.nxt n q) q2)) fun c s3 ⟨z, H3, I3, r3, F3, S3, pz, n3, rp3, q3⟩ => ?_
    have n' := n.trans n3
    exact tru_go I3 r3 n'.w rp3 ((vTruth pz).mono (fun _ _ q => q) (fun _ _ q => Pw.nxt n' q) q3) fun t s4 F4 S4 H4 I4 n4 q4 => ⟨H4, I4, q4 F4 H4 (n'.trans n4)⟩
end
end Dp

namespace Dp
open PySem PySem.Spec L2
open PyProof.Rows hiding St

section
variable {X : Cx} {Wx : WX} {a b c : Expr} {ma mb mc : En → M PV} {pos : Pos}
/-! ### a op1 b op2 c -/
def chain2 (m1 m2 : PV → PV → M PV) (x y : PV) (k : M PV) : M PV := bnd (m1 x y) fun t => bnd (vTruth t) fun d => if d = true then bnd k fun z => m2 y z else ret t
theorem go2 {op : CmpOp} {m : PV → PV → M PV} (ho : Op2 X Wx (compareOp op) m) {pins : List (Addr × Obj)} {s : Shared} {σ : St} {H : Hp} {x y : V} {v u : Value} {F : Addr → Prop} {S : Stt} {px py : PV} (I : Inv X pins σ H s) (rx : RelV x v) (ry : RelV y u) (w : W (zs X) F S H) (rpx : Rep (zs X) F H px x) (rpy : Rep (zs X) F H py y)
    {R : PV → Stt → Prop} (q : (m px py).run S R (Pw (zs X) F S H [] σ Wx)) {Qf : Value → Shared → Prop} (hk : ∀ v s1 x px F1 S1 H1, Inv X pins σ H1 s1 → RelV x v → Nxt (zs X) F S H F1 S1 H1 → Rep (zs X) F1 H1 px x → R px S1 → Qf v s1) :
    wpAny (model X.prog X.w) X.A (compareOp op v u) Qf X.xe s :=
  thn (ho pins s σ H x y v u (fun z H3 => ∃ F3 S3 pz, Nxt (zs X) F S H F3 S3 H3 ∧ Rep (zs X) F3 H3 pz z ∧ R pz S3) F S px py I rx ry w rpx rpy ((m px py).mono (fun pz S3 r F3 H3 z n3 r3 => ⟨F3, S3, pz, n3, r3, r⟩) (fun _ _ q => q) q))
    fun v s1 ⟨z, H1, I1, r1, F1, S1, pz, n, rp, r⟩ => hk v s1 z pz F1 S1 H1 I1 r1 n rp r
theorem s_chain {op op' : CmpOp} {m1 m2 : PV → PV → M PV} (ho : Op2 X Wx (compareOp op) m1) (ho' : Op2 X Wx (compareOp op') m2) (ha : SE X Wx a ma) (hb : SE X Wx b mb) (hc : SE X Wx c mc) (hm : lastMarks [op, op'] [b, c] = false) :
    SE X Wx (.Compare a [op, op'] [b, c] pos) (fun env => bnd (ma env) fun x => bnd (mb env) fun y => chain2 m1 m2 x y (mc env)) := .mk fun pins s σ H F S env Q I er w q => by
  refine Compare_chain (ha.go I er w q fun v s1 x px F1 S1 H1 I1 r1 n1 rp1 q1 => chain_link (hb.go I1 (er.mono (n1.toSub w)) n1.w ((mb env).mono (fun _ _ q => q) (fun _ _ q => Pw.nxt n1 q) q1) fun u s2 y py F2 S2 H2 I2 r2 n2 rp2 q2 => ?_)) hm
  have n12 := n1.trans n2
  refine go2 ho I2 r1 r2 n2.w (rp1.nxt n1.w n2) rp2 ((m1 px py).mono (fun _ _ q => q) (fun _ _ q => Pw.nxt n12 q) q2) fun d s3 z pz F3 S3 H3 I3 r3 n3 rp3 q3 => ?_
  have n13 := n12.trans n3
  refine tru_go I3 r3 n3.w rp3 ((vTruth pz).mono (fun _ _ q => q) (fun _ _ q => Pw.nxt n13 q) q3) fun t s4 F4 S4 H4 I4 n4 q4 => ?_
  have n14 := n13.trans n4
  cases t with
  | false => exact ite_ff (fin I4 r3 n14 (rp3.nxt n3.w n4) q4)
  | true =>
    refine ite_tt (chain_last (hc.go I4 (er.mono (n14.toSub w)) n4.w ((mc env).mono (fun _ _ q => q) (fun _ _ q => Pw.nxt n14 q) q4) fun w' s5 z' pz' F5 S5 H5 I5 r5 n5 rp5 q5 => ?_))
    have n15 := n14.trans n5
    exact go2 ho' I5 r2 r5 n5.w (rp2.nxt n2.w (n3.trans (n4.trans n5))) rp5 ((m2 py pz').mono (fun _ _ q => q) (fun _ _ q => Pw.nxt n15 q) q5) fun d s6 z6 pz6 F6 S6 H6 I6 r6 n6 rp6 q6 => fin I6 r6 (n15.trans n6) rp6 q6
theorem s_tchain {op op' : CmpOp} {m1 m2 : PV → PV → M PV} (ho : Op2 X Wx (compareOp op) m1) (ho' : Op2 X Wx (compareOp op') m2) (ha : SE X Wx a ma) (hb : SE X Wx b mb) (hc : SE X Wx c mc) (hm : lastMarks [op, op'] [b, c] = false) :
    STe X Wx (.Compare a [op, op'] [b, c] pos) (fun env => bnd (ma env) fun x => bnd (mb env) fun y => bnd (m1 x y) fun t => bnd (vTruth t) fun d => if d = true then bnd (mc env) fun z => bnd (m2 y z) vTruth else ret false) := .mk fun pins s σ H F S env Q I er w q => by
  refine isTrue_chain (ha.go I er w q fun v s1 x px F1 S1 H1 I1 r1 n1 rp1 q1 => test_link (hb.go I1 (er.mono (n1.toSub w)) n1.w ((mb env).mono (fun _ _ q => q) (fun _ _ q => Pw.nxt n1 q) q1) fun u s2 y py F2 S2 H2 I2 r2 n2 rp2 q2 => ?_)) hm
  have n12 := n1.trans n2
  refine go2 ho I2 r1 r2 n2.w (rp1.nxt n1.w n2) rp2 ((m1 px py).mono (fun _ _ q => q) (fun _ _ q => Pw.nxt n12 q) q2) fun d s3 z pz F3 S3 H3 I3 r3 n3 rp3 q3 => ?_
  have n13 := n12.trans n3
  refine tru_go I3 r3 n3.w rp3 ((vTruth pz).mono (fun _ _ q => q) (fun _ _ q => Pw.nxt n13 q) q3) fun t s4 F4 S4 H4 I4 n4 q4 => ?_
  have n14 := n13.trans n4
  cases t with
  | false => exact ite_ff ⟨H4, I4, q4 F4 H4 n14⟩
  | true =>
    refine ite_tt (test_last (hc.go I4 (er.mono (n14.toSub w)) n4.w ((mc env).mono (fun _ _ q => q) (fun _ _ q => Pw.nxt n14 q) q4) fun w' s5 z' pz' F5 S5 H5 I5 r5 n5 rp5 q5 => ?_))
    have n15 := n14.trans n5
    refine go2 ho' I5 r2 r5 n5.w (rp2.nxt n2.w (n3.trans (n4.trans n5))) rp5 ((m2 py pz').mono (fun _ _ q => q) (fun _ _ q => Pw.nxt n15 q) q5) fun d s6 z6 pz6 F6 S6 H6 I6 r6 n6 rp6 q6 => ?_
    have n16 := n15.trans n6
    exact tru_go I6 r6 n6.w rp6 ((vTruth pz6).mono (fun _ _ q => q) (fun _ _ q => Pw.nxt n16 q) q6) fun t s7 F7 S7 H7 I7 n7 q7 => ⟨H7, I7, q7 F7 H7 (n16.trans n7)⟩

/-! ### calls of defs -/
/-- how a call's arguments come to the parameters: so many by position, these names, and for each parameter the place of its value among all -/
structure Shape where
  n : Nat
  ks : List Str
  ix : List Nat
  deriving DecidableEq
def pick {α : Type} (is : List Nat) (xs : List α) : List α := is.filterMap (xs[·]?)
structure Fn where
  ps : List Str
  shapes : List Shape
  m : List PV → M PV
abbrev Tab := Str → Option Fn
def FnSp (Z : Zs) (n : Nat) (m : List PV → M PV) : Sp := fun vs H Q E => vs.length = n ∧ ∃ F S args, RepL Z F H args vs ∧ W Z F S H ∧ (m args).run S (Pv Z F S H Q) (Px Z F S H E)
structure FnAt (X : Cx) (k : Nat) (f : Str) (fn : Fn) : Prop where
  ex : ∃ (a : Addr) (fd : FuncData), X.mg f = some (.ref a) ∧ PySem.W.keepIn X.K (.ref a) = true ∧ FnOk X.prog X.w X.K X.mg X.base (L2.CX X.prog X.w) k a fd fn.ps (FnSp (zs X) fn.ps.length fn.m) ∧
    ∀ sh ∈ fn.shapes, ∀ (s : Shared) (us ws : List Value), X.K.In s.heap → us.length = sh.n → ws.length = sh.ks.length → BindsTo s fd ⟨us, sh.ks.zip ws⟩ (fn.ps.zip (pick sh.ix (us ++ ws)))
def TabOk (X : Cx) (T : Tab) (k : Nat) : Prop := ∀ f fn, T f = some fn → FnAt X k f fn
theorem pick_vals : ∀ {is : List Nat} {xs : List V} {us : List Value}, Vals xs us → Vals (pick is xs) (pick is us)
  | [], _, _, _ => .nil
  | i :: is, xs, us, r => by
    unfold pick
    rw [List.filterMap_cons, List.filterMap_cons]
    cases e : xs[i]? with
    | none => rw [r.none_of e]; exact pick_vals r
    | some x =>
      obtain ⟨u, e', ru⟩ := r.get e
      rw [e']; exact .cons ru (pick_vals r)
theorem pick_rep {Z F H} : ∀ {is : List Nat} {xs : List PV} {vs : List V}, RepL Z F H xs vs → RepL Z F H (pick is xs) (pick is vs)
  | [], _, _, _ => .nil
  | i :: is, xs, vs, r => by
    unfold pick
    rw [List.filterMap_cons, List.filterMap_cons]
    cases e : xs[i]? with
    | none =>
      have : vs[i]? = none := by
        have h1 := List.getElem?_eq_none_iff.mp e
        exact List.getElem?_eq_none_iff.mpr (by rw [← r.length]; exact h1)
      rw [this]; exact pick_rep r
    | some x =>
      obtain ⟨u, e', ru⟩ := r.get e
      rw [e']; exact .cons ru (pick_rep r)
/-- the callee runs -/
theorem run_call {k : Nat} {g : Addr} {fd : FuncData} {ps : List Str} {m : List PV → M PV} (FO : FnOk X.prog X.w X.K X.mg X.base (L2.CX X.prog X.w) k g fd ps (FnSp (zs X) ps.length m)) (hr : Room k X.A) (tk : Takes X Wx)
    {pins : List (Addr × Obj)} {σ : St} {H : Hp} {s : Shared} {Q : VK} {args : Args} {us : List Value} {vs : List V} {F : Addr → Prop} {S : Stt} {pvs : List PV} (I : Inv X pins σ H s) (hb : BindsTo s fd args (ps.zip us)) (r : Vals vs us) (hl : vs.length = ps.length) (w : W (zs X) F S H) (rp : RepL (zs X) F H pvs vs)
    (q : (m pvs).run S (Pv (zs X) F S H Q) (Pw (zs X) F S H [] σ Wx)) : codeAny (model X.prog X.w) X.A (.call (.ref g) args) (fun r s' => match r with | .ok (.ret u) => EP X pins σ Q u s' | .ok _ => False | .error e => X.xe e s') s := by
  refine codeAny_mono (FO.run X.A X.stack s H args us vs Q (fun c d H' => Wx c d σ H') hr I.env0 hb r ⟨hl, F, S, pvs, rp, w, (m pvs).mono (fun _ _ q => q) (fun e S' q F' H' c d n ex => q F' H' c d σ n ex Out.refl) q⟩) fun r s' hq => ?_
  cases r with
  | error e => exact tk e s' (XE.of_call I (fun _ _ _ q => q) hq)
  | ok fl =>
    cases fl with
    | ret u => exact I.after hq
    | next => exact False.elim hq
    | brk => exact False.elim hq
    | cont => exact False.elim hq
/-- keywords' values -/
def SK (X : Cx) (Wx : WX) (kws : List Keyword) (m : En → M (List PV)) : Prop := PK X kws (tL (zs X) Wx m)
theorem sk_nil : SK X Wx [] (fun _ => ret []) := ⟨fun pos pins s σ H Q I ⟨F, S, env, er, w, q⟩ => pk_nil.run pos pins s σ H Q I (q F H _ (Nxt.refl w) .nil)⟩
theorem sk_cons {e : Expr} {nm : Option Str} {kpos : Pos} {kws : List Keyword} {m : En → M PV} {ms : En → M (List PV)} (he : SE X Wx e m) (hr : SK X Wx kws ms) : SK X Wx (⟨nm, e, kpos⟩ :: kws) (fun env => bnd (m env) fun x => bnd (ms env) fun xs => ret (x :: xs)) :=
  ⟨fun pos pins s σ H Q I ⟨F, S, env, er, w, q⟩ => by
    refine (pk_cons he hr).run pos pins s σ H Q I ?_
    refine ⟨F, S, env, er, w, (m env).mono (fun px S1 q F1 H1 x n1 r1 => ?_) (fun _ _ q => q) q⟩
    refine ⟨F1, S1, env, er.mono (n1.toSub w), n1.w, (ms env).mono (fun pxs S2 q F2 H2 xs n2 r2 => ?_) (fun _ _ q => Pw.nxt n1 q) q⟩
    exact q F2 H2 _ (n1.trans n2) (.cons (r1.nxt n1.w n2) r2)⟩
def kwNames (kws : List Keyword) : Option (List Str) := kws.mapM fun k => k.arg
theorem SK.go {kws : List Keyword} {m : En → M (List PV)} (he : SK X Wx kws m) (pos : Pos) {pins : List (Addr × Obj)} {s : Shared} {σ : St} {H : Hp} {F : Addr → Prop} {S : Stt} {env : En} (I : Inv X pins σ H s) (er : EnvR (zs X) F H env σ) (w : W (zs X) F S H) {R : List PV → Stt → Prop} (h : (m env).run S R (Pw (zs X) F S H [] σ Wx))
    {Qf : List Value → Shared → Prop} (hk : ∀ us s1 vs ps F1 S1 H1, Inv X pins σ H1 s1 → Vals vs us → Nxt (zs X) F S H F1 S1 H1 → RepL (zs X) F1 H1 ps vs → R ps S1 → Qf us s1) :
    wpAny (model X.prog X.w) X.A (evalAll ((backToKw pos (keywordEach kws X.env)).map (·.2))) Qf X.xe s := by
  refine thn (he.run pos pins s σ H (fun x H1 => ∃ F1 S1 px, Nxt (zs X) F S H F1 S1 H1 ∧ RepL (zs X) F1 H1 px x ∧ R px S1) I ⟨F, S, env, er, w, (m env).mono (fun px S1 r F1 H1 x n rp => ⟨F1, S1, px, n, rp, r⟩) (fun _ _ q => q) h⟩) ?_
  rintro v s1 ⟨x, H1, I1, r1, F1, S1, px, n, rp, r⟩
  exact hk v s1 x px F1 S1 H1 I1 r1 n rp r
theorem kw_all {pos : Pos} {env : Env} : ∀ {kws : List Keyword} {ks : List Str}, kwNames kws = some ks → (backToKw pos (keywordEach kws env)).all (·.1.isSome) = true ∧ (backToKw pos (keywordEach kws env)).filterMap (·.1) = ks ∧ (backToKw pos (keywordEach kws env)).any (·.1.isNone) = false ∧ (keywordEach kws env).length = ks.length
  | [], ks, h => by
    cases ks with
    | nil => exact ⟨rfl, rfl, rfl, rfl⟩
    | cons => simp [kwNames] at h
  | ⟨nm, e, p⟩ :: kws, ks, h => by
    unfold kwNames at h
    rw [List.mapM_cons] at h
    cases nm with
    | none => simp at h
    | some nm =>
      cases e2 : kwNames kws with
      | none => unfold kwNames at e2; simp [e2] at h
      | some ks' =>
        have e2' := e2
        unfold kwNames at e2'
        simp [e2'] at h
        subst h
        obtain ⟨h1, h2, h3, h4⟩ := kw_all (pos := pos) (env := env) e2
        unfold backToKw at h1 h2 h3 ⊢
        refine ⟨?_, ?_, ?_, ?_⟩
        · simp only [keywordEach, List.map_cons, List.all_cons]; rw [h1]; rfl
        · simp only [keywordEach, List.map_cons, List.filterMap_cons]; rw [h2]
        · simp only [keywordEach, List.map_cons, List.any_cons]; rw [h3]; rfl
        · simp only [keywordEach, List.length_cons]; rw [h4]
def noStars : List Expr → Bool
  | [] => true
  | e :: es => notStar e && noStars es
theorem stars_none {pos : Pos} {env : Env} : ∀ {es : List Expr}, noStars es = true → (backTo pos (starEach es env)).any (·.1) = false
  | [], _ => rfl
  | e :: es, h => by
    have h' : notStar e = true ∧ noStars es = true := by simpa [noStars] using h
    rw [starEach_not h'.1]
    unfold backTo
    rw [List.map_cons, List.any_cons]
    have := stars_none (pos := pos) (env := env) h'.2
    unfold backTo at this
    rw [this]; rfl
theorem call_last {k : Nat} {a : Addr} {fd : FuncData} {fn : Fn} {sh : Shape} (FO : FnOk X.prog X.w X.K X.mg X.base (L2.CX X.prog X.w) k a fd fn.ps (FnSp (zs X) fn.ps.length fn.m)) (hr : Room k X.A) (tk : Takes X Wx)
    (hb : ∀ (s : Shared) (us ws : List Value), X.K.In s.heap → us.length = sh.n → ws.length = sh.ks.length → BindsTo s fd ⟨us, sh.ks.zip ws⟩ (fn.ps.zip (pick sh.ix (us ++ ws))))
    {pins : List (Addr × Obj)} {σ : St} {H : Hp} {F : Addr → Prop} {S : Stt} {Q : VK} {us ws : List Value} {s2 : Shared} {vs zs' : List V} {ps pz : List PV} {F2 : Addr → Prop} {S2 : Stt} {H2 : Hp} (I2 : Inv X pins σ H2 s2) (r1 : Vals vs us) (r2 : Vals zs' ws) (n : Nxt (zs X) F S H F2 S2 H2) (rp1 : RepL (zs X) F2 H2 ps vs) (rp2 : RepL (zs X) F2 H2 pz zs')
    (q2 : (bnd (guard (ps.length = sh.n ∧ pz.length = sh.ks.length ∧ (pick sh.ix (ps ++ pz)).length = fn.ps.length)) fun _ => fn.m (pick sh.ix (ps ++ pz))).run S2 (Pv (zs X) F S H Q) (Pw (zs X) F S H [] σ Wx)) :
    wpAny (model X.prog X.w) X.A (call (.ref a) us (sh.ks.zip ws)) (EP X pins σ Q) X.xe s2 := by
  obtain ⟨⟨g1, g2, g3⟩, q2⟩ := q2
  have rp := (rp1.append rp2)
  refine wpAny_call (codeAny_mono (run_call (Wx := Wx) (Q := Q) FO hr tk I2 (hb s2 us ws I2.kIn ?_ ?_) (pick_vals (r1.append r2)) ?_ n.w (pick_rep rp) ((fn.m _).mono (fun _ _ q => Pv.nxt n q) (fun _ _ q => Pw.nxt n q) q2)) fun r s' hq => ?_)
  · rw [← r1.length, ← rp1.length]; exact g1
  · rw [← r2.length, ← rp2.length]; exact g2
  · rw [← (pick_rep rp).length]; exact g3
  · cases r with
    | error e => exact hq
    | ok fl => cases fl <;> first | exact hq | exact False.elim hq
def callFn (fn : Fn) (sh : Shape) (xs ys : List PV) : M PV := bnd (guard (xs.length = sh.n ∧ ys.length = sh.ks.length ∧ (pick sh.ix (xs ++ ys)).length = fn.ps.length)) fun _ => fn.m (pick sh.ix (xs ++ ys))
theorem s_call {k : Nat} {f : Str} {fn : Fn} {sh : Shape} {p : Pos} {e : Expr} {es : List Expr} {kws : List Keyword} {ms mk : En → M (List PV)} (FA : FnAt X k f fn) (hr : Room k X.A) (tk : Takes X Wx) (hg : Gl X f) (hsh : sh ∈ fn.shapes) (hd : (f == ("__debug__" : Str)) = false)
    (he : SA X Wx (e :: es) ms) (hst : noStars (e :: es) = true) (hkw : SK X Wx kws mk) (hks : kwNames kws = some sh.ks) :
    SE X Wx (.Call (.Name f p) (e :: es) kws pos) (fun env => bnd (ms env) fun xs => bnd (mk env) fun ys => callFn fn sh xs ys) := .mk fun pins s σ H F S env Q I er w q => by
  obtain ⟨a, fd, hm, hkp, FO, hb⟩ := FA.ex
  obtain ⟨k1, k2, k3, k4⟩ := kw_all (pos := pos) (env := X.env) hks
  refine wpAny_Call_Name_kw (ld_glob I hg hm ?_ hd)
  have h' : notStar e = true ∧ noStars es = true := by simpa [noStars] using hst
  refine PySem.W.callWith_KW (h₀ := X.base) I.ok.mod.kin hkp k1 (he.go pos I er w q fun us s1 vs ps F1 S1 H1 I1 r1 n1 rp1 q1 => ?_) (by rw [k3, stars_none hst]; rfl) (starEach_not h'.1)
  refine hkw.go pos I1 (er.mono (n1.toSub w)) n1.w ((mk env).mono (fun _ _ q => q) (fun _ _ q => Pw.nxt n1 q) q1) fun ws s2 zs' pz F2 S2 H2 I2 r2 n2 rp2 q2 => ⟨I2.kIn, ?_⟩
  rw [k2]
  exact call_last FO hr tk (hb sh hsh) I2 r1 r2 (n1.trans n2) (rp1.nxt n1.w n2) rp2 q2
theorem s_call0 {k : Nat} {f : Str} {fn : Fn} {sh : Shape} {p : Pos} {kws : List Keyword} {mk : En → M (List PV)} (FA : FnAt X k f fn) (hr : Room k X.A) (tk : Takes X Wx) (hg : Gl X f) (hsh : sh ∈ fn.shapes) (hd : (f == ("__debug__" : Str)) = false)
    (hkw : SK X Wx kws mk) (hks : kwNames kws = some sh.ks) :
    SE X Wx (.Call (.Name f p) [] kws pos) (fun env => bnd (mk env) fun ys => callFn fn sh [] ys) := .mk fun pins s σ H F S env Q I er w q => by
  obtain ⟨a, fd, hm, hkp, FO, hb⟩ := FA.ex
  obtain ⟨k1, k2, k3, k4⟩ := kw_all (pos := pos) (env := X.env) hks
  refine wpAny_Call_Name_kw (ld_glob I hg hm ?_ hd)
  refine PySem.W.callWith_KW0 (h₀ := X.base) I.ok.mod.kin hkp k1 (hkw.go pos I er w q fun ws s2 zs' pz F2 S2 H2 I2 r2 n2 rp2 q2 => ⟨I2.kIn, ?_⟩) (by rw [k3]; rfl)
  rw [k2]
  exact call_last FO hr tk (hb sh hsh) I2 .nil r2 n2 .nil rp2 q2

/-! ### calls of built-ins -/
theorem s_callB {id : String} {x : Str} {p : Pos} {e : Expr} {es : List Expr} {ms : En → M (List PV)} {m : List PV → M PV} (ho : OpN X Wx (fun us => call (.builtin id) us) m) (hg : Gl X x) (hm : X.mg x = none) (hv : bootBuiltins x = some (.builtin id)) (ha : SA X Wx (e :: es) ms) (hst : noStars (e :: es) = true) (hn : x ≠ "__name__") (hd : (x == ("__debug__" : Str)) = false) :
    SE X Wx (.Call (.Name x p) (e :: es) [] pos) (fun env => bnd (ms env) m) := .mk fun pins s σ H F S env Q I er w q => by
  have h' : notStar e = true ∧ noStars es = true := by simpa [noStars] using hst
  refine wpAny_Call_Name_kw (ld_blt I hg hm hv ?_ hn hd)
  refine PyProof.Rows.callWith_builtin1 (ha.go pos I er w q fun us s1 vs ps F1 S1 H1 I1 r1 n1 rp1 q1 => ?_) (starEach_not h'.1) (stars_none h'.2)
  exact ho pins s1 σ H1 vs us Q F1 S1 ps I1 r1 n1.w rp1 ((m ps).mono (fun _ _ q => Pv.nxt n1 q) (fun _ _ q => Pw.nxt n1 q) q1)
theorem s_callT {T : String} {x : Str} {p : Pos} {e : Expr} {es : List Expr} {ms : En → M (List PV)} {m : List PV → M PV} (ho : OpN X Wx (fun us => call (.type T) us) m) (hg : Gl X x) (hm : X.mg x = none) (hv : bootBuiltins x = some (.type T)) (ha : SA X Wx (e :: es) ms) (hst : noStars (e :: es) = true) (hn : x ≠ "__name__") (hd : (x == ("__debug__" : Str)) = false) :
    SE X Wx (.Call (.Name x p) (e :: es) [] pos) (fun env => bnd (ms env) m) := .mk fun pins s σ H F S env Q I er w q => by
  have h' : notStar e = true ∧ noStars es = true := by simpa [noStars] using hst
  refine wpAny_Call_Name_kw (ld_blt I hg hm hv ?_ hn hd)
  refine PyProof.Rows.callWith_type1 (ha.go pos I er w q fun us s1 vs ps F1 S1 H1 I1 r1 n1 rp1 q1 => ?_) (starEach_not h'.1) (stars_none h'.2)
  exact ho pins s1 σ H1 vs us Q F1 S1 ps I1 r1 n1.w rp1 ((m ps).mono (fun _ _ q => Pv.nxt n1 q) (fun _ _ q => Pw.nxt n1 q) q1)

/-! ### methods of lists, texts -/
def OpM (X : Cx) (Wx : WX) (id : String) (m : PV → List PV → M PV) : Prop :=
  ∀ (pins : List (Addr × Obj)) (s : Shared) (σ : St) (H : Hp) (x : V) (xs : List V) (v : Value) (us : List Value) (Q : VK) (F : Addr → Prop) (S : Stt) (px : PV) (ps : List PV), Inv X pins σ H s → RelV x v → Vals xs us → W (zs X) F S H → Rep (zs X) F H px x → RepL (zs X) F H ps xs →
    (m px ps).run S (Pv (zs X) F S H Q) (Pw (zs X) F S H [] σ Wx) → wpAny (model X.prog X.w) X.A (call (.builtin id) (v :: us)) (EP X pins σ Q) X.xe s
/-- it is of the built-in type -/
def isT (T : String) : PV → M Unit := fun x => bnd (deref x) fun x => match x with
  | .lst _ => guard (T = "list")
  | .loc _ => guard (T = "list")
  | .str _ => guard (T = "str")
  | _ => stuck
theorem isT_ok {F S H px x Q E} {T : String} (w : W (zs X) F S H) (rpx : Rep (zs X) F H px x) (q : (isT T px).run S Q E) : tyV X.K T x H ∧ Q () S := by
  obtain ⟨py, r, q⟩ := deref_ok w rpx q
  cases py with
  | lst xs =>
    obtain ⟨a, vs, rfl, h, rl⟩ := r.lst
    exact ⟨.inl ⟨q.1, vs, .of h⟩, q.2⟩
  | loc xs =>
    cases r.rep (fun xs e => nomatch e) with
    | loc t rl => exact ⟨.inl ⟨q.1, _, t.sq⟩, q.2⟩
  | str z => cases r.rep (fun xs e => nomatch e); exact ⟨q.1, q.2⟩
  | _ => exact q.elim
def plainBase : Expr → Bool
  | .Call (.Name id _) [] [] _ => id != "super"
  | _ => true
theorem base_ok {o : Expr} {f : Str} {env : Env} (h : plainBase o = true) : attributeBase o f env (eval o env) = eval o env := by
  unfold attributeBase
  split
  · rename_i id _ _
    have h' : (id != ("super" : Str)) = true := h
    simp only [h', Bool.true_or, if_true, pure_bind]
  · rfl
theorem s_meth0 {T id : String} {name : Str} {o : Expr} {mo : En → M PV} {apos cpos : Pos} {m : PV → List PV → M PV} (pa : PlainAttrs T) (slot : Slot T name id) (hty : typeOf (.builtin id) = pure (.type "method_descriptor")) (hm : OpM X Wx id m) (ho : SE X Wx o mo) (hb : plainBase o = true) (hline : (apos.endLine == cpos.line) = true) :
    SE X Wx (.Call (.Attribute o name apos) [] [] cpos) (fun env => bnd (mo env) fun x => bnd (isT T x) fun _ => m x []) := .mk fun pins s σ H F S env Q I er w q =>
  wpAny_Call_method0_late (base_ok hb) hline (ho.go I er w q fun v s1 x px F1 S1 H1 I1 r1 n1 rp1 q1 => by
    obtain ⟨ty, q2⟩ := isT_ok n1.w rp1 q1
    obtain ⟨h1, h2⟩ := tyV_is I1 r1 ty
    exact ⟨T, id, pa, slot, hty, h1, h2, Calls.callWith_builtin rfl (PySem.evalArgs_none (hm pins s1 σ H1 x [] v [] Q F1 S1 px [] I1 r1 .nil n1.w rp1 .nil ((m px []).mono (fun _ _ q => Pv.nxt n1 q) (fun _ _ q => Pw.nxt n1 q) q2)))⟩)
theorem s_meth {T id : String} {name : Str} {o e : Expr} {es : List Expr} {mo : En → M PV} {ms : En → M (List PV)} {apos cpos : Pos} {m : PV → List PV → M PV} (pa : PlainAttrs T) (slot : Slot T name id) (hty : typeOf (.builtin id) = pure (.type "method_descriptor")) (hm : OpM X Wx id m) (ho : SE X Wx o mo) (ha : SA X Wx (e :: es) ms) (hb : plainBase o = true) (hst : noStars (e :: es) = true) (hlen : es.length < 20)
    (hline : (apos.endLine == cpos.line) = true) :
    SE X Wx (.Call (.Attribute o name apos) (e :: es) [] cpos) (fun env => bnd (mo env) fun x => bnd (isT T x) fun _ => bnd (ms env) fun xs => m x xs) := .mk fun pins s σ H F S env Q I er w q => by
  have h' : notStar e = true ∧ noStars es = true := by simpa [noStars] using hst
  have hall : (backTo cpos (starEach (e :: es) X.env)).all (fun x => !x.1) = true := by
    have := stars_none (pos := cpos) (env := X.env) hst
    rw [List.any_eq_false] at this
    rw [List.all_eq_true]
    intro x hx
    have := this x hx
    simpa using this
  refine wpAny_Call_method_late (base_ok hb) (by rw [hall]; simp [backToKw, keywordEach]; omega) hline rfl (ho.go I er w q fun v s1 x px F1 S1 H1 I1 r1 n1 rp1 q1 => ?_)
  obtain ⟨ty, q2⟩ := isT_ok n1.w rp1 q1
  obtain ⟨h1, h2⟩ := tyV_is I1 r1 ty
  refine ⟨T, id, pa, slot, hty, h1, h2, ?_⟩
  have hA := ha.go cpos I1 (er.mono (n1.toSub w)) n1.w ((ms env).mono (fun _ _ q => q) (fun _ _ q => Pw.nxt n1 q) q2) (Qf := fun us s2 => wpAny (model X.prog X.w) X.A (call (.builtin id) (v :: us)) (EP X pins σ Q) X.xe s2) fun us s2 vs ps F2 S2 H2 I2 r2 n2 rp2 q2 => by
    have n12 := n1.trans n2
    exact hm pins s2 σ H2 x vs v us Q F2 S2 px ps I2 r1 r2 n2.w (rp1.nxt n1.w n2) rp2 ((m px ps).mono (fun _ _ q => Pv.nxt n12 q) (fun _ _ q => Pw.nxt n12 q) q2)
  rw [starEach_not h'.1] at hA ⊢
  exact Calls.callWith_builtin (by show (false || (backTo cpos (starEach es X.env)).any (·.1)) = false; rw [stars_none h'.2] <;> rfl) (Calls.evalArgs_plain hA)
end
end Dp

namespace Dp
open PySem PySem.Spec L2
open PyProof.Rows hiding St

theorem set_self_get {α : Type} : ∀ {l : List α} {i : Nat} {x : α}, l[i]? = some x → l.set i x = l
  | [], _, _, h => by simp at h
  | a :: l, 0, x, h => by simp at h; simp [h]
  | a :: l, i + 1, x, h => by simp at h; simp [set_self_get h]
/-! ### statements -/
def seqR (r : Res) (k : En → M Res) : M Res := match r with
  | .nx e => k e
  | r => ret r
section
variable {Z : Zs} {F F1 : Addr → Prop} {S S1 S2 : Stt} {H H1 : Hp} {L L1 L2' : List Nat} {σ σ1 : St}
theorem Pe.step (n : Nxt Z F S H F1 S1 H1) (o : Out L σ σ1) {Q : St → Hp → Prop} {e S2} (h : Pe Z F S H L σ Q e S2) : Pe Z F1 S1 H1 L σ1 Q e S2 := fun F' H' σ' n' r o' => h F' H' σ' (n.trans n') r (o.trans o')
theorem Pe.sub (hs : ∀ i ∈ L1, i ∈ L) {Q : St → Hp → Prop} {e S2} (h : Pe Z F S H L σ Q e S2) : Pe Z F S H L1 σ Q e S2 := fun F' H' σ' n' r o' => h F' H' σ' n' r (o'.mono hs)
theorem Pw.step (n : Nxt Z F S H F1 S1 H1) (o : Out L σ σ1) {Q : WX} {e S2} (h : Pw Z F S H L σ Q e S2) : Pw Z F1 S1 H1 L σ1 Q e S2 := fun F' H' c d σ' n' r o' => h F' H' c d σ' (n.trans n') r (o.trans o')
theorem Pw.sub (hs : ∀ i ∈ L1, i ∈ L) {Q : WX} {e S2} (h : Pw Z F S H L σ Q e S2) : Pw Z F S H L1 σ Q e S2 := fun F' H' c d σ' n' r o' => h F' H' c d σ' n' r (o'.mono hs)
theorem Pr.step (n : Nxt Z F S H F1 S1 H1) (o : Out L σ σ1) {D : Ends} {r S2} (h : Pr Z F S H L σ D r S2) : Pr Z F1 S1 H1 L σ1 D r S2 := by
  cases r with
  | nx e => exact Pe.step n o h
  | rt v => exact Pv.nxt n h
  | bk e => exact Pe.step n o h
  | ct e => exact Pe.step n o h
theorem Pr.sub (hs : ∀ i ∈ L1, i ∈ L) {D : Ends} {r S2} (h : Pr Z F S H L σ D r S2) : Pr Z F S H L1 σ D r S2 := by
  cases r with
  | nx e => exact Pe.sub hs h
  | rt v => exact h
  | bk e => exact Pe.sub hs h
  | ct e => exact Pe.sub hs h
end
section
variable {X : Cx} {Wx : WX} {L : List Nat} {st : Stmt} {rest : List Stmt} {e a b c : Expr} {m m2 : En → M PV} {mt : En → M Bool} {ms ms2 : En → M Res} {pos : Pos}
theorem nil_sub : ∀ i ∈ ([] : List Nat), i ∈ L := fun i h => by simp at h
theorem SS.mk (h : ∀ D σ H F S env, EnvR (zs X) F H env σ → W (zs X) F S H → (ms env).run S (Pr (zs X) F S H L σ D) (Pw (zs X) F S H L σ Wx) → ∀ pins s, Inv X pins σ H s → wpAny (model X.prog X.w) X.A (exec st X.env) (SP X pins D) X.xe s) : SS X Wx L st ms :=
  ⟨fun pins s σ H D I ⟨F, S, env, er, w, q⟩ => h D σ H F S env er w q pins s I⟩
/-- by a reading of the hand layer -/
theorem SS.of {t : TS} (hp : PS X st t) (h : ∀ D σ H F S env, EnvR (zs X) F H env σ → W (zs X) F S H → (ms env).run S (Pr (zs X) F S H L σ D) (Pw (zs X) F S H L σ Wx) → t D σ H) : SS X Wx L st ms :=
  ⟨fun pins s σ H D I ⟨F, S, env, er, w, q⟩ => hp.run pins s σ H D I (h D σ H F S env er w q)⟩
theorem SSs.of {sts : List Stmt} {t : TS} (hp : PSs X sts t) (h : ∀ D σ H F S env, EnvR (zs X) F H env σ → W (zs X) F S H → (ms env).run S (Pr (zs X) F S H L σ D) (Pw (zs X) F S H L σ Wx) → t D σ H) : SSs X Wx L sts ms :=
  ⟨fun pins s σ H D I ⟨F, S, env, er, w, q⟩ => hp.run pins s σ H D I (h D σ H F S env er w q)⟩
theorem b_nil : SSs X Wx L [] (fun env => ret (.nx env)) := .of pss_nil fun D σ H F S env er w q => q F H σ (Nxt.refl w) er Out.refl
theorem b_cons (h1 : SS X Wx L st ms) (h2 : SSs X Wx L rest ms2) : SSs X Wx L (st :: rest) (fun env => bnd (ms env) fun r => seqR r ms2) := .of (pss_cons h1 h2) fun D σ H F S env er w q =>
  ⟨F, S, env, er, w, (ms env).mono (fun r S1 q => by
    cases r with
    | nx e => exact fun F1 H1 σ1 n r o => ⟨F1, S1, e, r, n.w, (ms2 e).mono (fun _ _ q => Pr.step n o q) (fun _ _ q => Pw.step n o q) q⟩
    | rt v => exact q
    | bk e => exact q
    | ct e => exact q) (fun _ _ q => q) q⟩
theorem c_pass : SS X Wx L (.Pass pos) (fun env => ret (.nx env)) := .of ps_pass fun D σ H F S env er w q => q F H σ (Nxt.refl w) er Out.refl
theorem c_break : SS X Wx L (.Break pos) (fun env => ret (.bk env)) := .of ps_break fun D σ H F S env er w q => q F H σ (Nxt.refl w) er Out.refl
theorem c_cont : SS X Wx L (.Continue pos) (fun env => ret (.ct env)) := .of ps_continue fun D σ H F S env er w q => q F H σ (Nxt.refl w) er Out.refl
theorem c_doc {x j pos'} : SS X Wx L (.Expr (.Constant (.str x) j pos) pos') (fun env => ret (.nx env)) := .of ps_doc fun D σ H F S env er w q => q F H σ (Nxt.refl w) er Out.refl
theorem c_retN : SS X Wx L (.Return none pos) (fun env => ret (.rt .non)) := .of ps_retN fun D σ H F S env er w q => q F H _ (Nxt.refl w) .non
theorem c_ret (he : SE X Wx e m) : SS X Wx L (.Return (some e) pos) (fun env => bnd (m env) fun v => ret (.rt v)) := .of (ps_ret he) fun D σ H F S env er w q =>
  ⟨F, S, env, er, w, (m env).mono (fun v S1 q => q) (fun _ _ q => Pw.sub nil_sub q) q⟩
theorem c_expr (he : SE X Wx e m) (hs : swapsWith e none pos.line X.env = pure false) : SS X Wx L (.Expr e pos) (fun env => bnd (m env) fun _ => ret (.nx env)) := .of (ps_expr he hs) fun D σ H F S env er w q =>
  ⟨F, S, env, er, w, (m env).mono (fun v S1 q F1 H1 x n r => q F1 H1 σ n (er.mono (n.toSub w)) Out.refl) (fun _ _ q => Pw.sub nil_sub q) q⟩
theorem c_if {sa sb : List Stmt} (hc : STe X Wx c mt) (ha : SSs X Wx L sa ms) (hb : SSs X Wx L sb ms2) : SS X Wx L (.If c sa sb pos) (fun env => bnd (mt env) fun t => if t = true then ms env else ms2 env) := .of (ps_if hc ha hb) fun D σ H F S env er w q =>
  ⟨F, S, env, er, w, (mt env).mono (fun t S1 q F1 H1 n => by
    cases t with
    | true => exact ⟨F1, S1, env, er.mono (n.toSub w), n.w, (ms env).mono (fun _ _ q => Pr.step n Out.refl q) (fun _ _ q => Pw.step n Out.refl q) q⟩
    | false => exact ⟨F1, S1, env, er.mono (n.toSub w), n.w, (ms2 env).mono (fun _ _ q => Pr.step n Out.refl q) (fun _ _ q => Pw.step n Out.refl q) q⟩) (fun _ _ q => Pw.sub nil_sub q) q⟩
/-- an owned list is frozen, ahead of a block -/
def freezeV (i : Nat) (env : En) : M En := match env[i]? with
  | some (some (.ref a)) => ⟨fun S Q _ => ∃ xs, S a = some (.lst xs) ∧ Q (env.set i (some (.lst xs))) (del S a), fun h _ ⟨xs, e, q⟩ => ⟨xs, e, h _ _ q⟩⟩
  | _ => stuck
theorem b_freeze {i : Nat} (h2 : SSs X Wx L rest ms2) : SSs X Wx L rest (fun env => bnd (freezeV i env) ms2) :=
  ⟨fun pins s σ H D I ⟨F, S, env, er, w, q⟩ => by
    have q' : (bnd (freezeV i env) ms2).run S (Pr (zs X) F S H L σ D) (Pw (zs X) F S H L σ Wx) := q
    unfold freezeV at q'
    split at q'
    · rename_i a ha
      obtain ⟨xs, e, q'⟩ := q'
      obtain ⟨n, r⟩ := w.freeze e
      refine h2.run pins s σ H D I ⟨_, _, _, ?_, n.w, (ms2 _).mono (fun _ _ q => Pr.step n Out.refl q) (fun _ _ q => Pw.step n Out.refl q) q'⟩
      have er' := er.mono (n.toSub w)
      obtain ⟨v, e1, e2⟩ := er.2 i _ ha
      cases e2
      have := er'.set i r
      rw [show σ.set i (some (V.ref a)) = σ from set_self_get e1] at this
      exact this
    · exact q'.elim⟩

/-! ### targets -/
def setv (i : Nat) (x : PV) (env : En) : M En := ret (env.set i (some x))
theorem g_name {i : Nat} {x : Str} (hN : X.N.Nodup) (hi : X.N[i]? = some x) (hx : Loc X.env.scope x) (hf : X.fn x = true ∨ X.env.scope.names.lookup x = some .local) (hL : i ∈ L) : SG X Wx L (.Name x pos) (setv i) :=
  ⟨fun pins s σ H v u Q I r ⟨F, S, env, px, er, w, rp, q⟩ => (pg_name (pos := pos) hN hi hx hf).run pins s σ H v u Q I r (q F H _ (Nxt.refl w) (er.set i rp) (Out.set hL))⟩
def setNil : List PV → En → M En
  | [], env => ret env
  | _, _ => stuck
theorem gs_nil : SGs X Wx L [] setNil := ⟨fun pins s σ H vs us Q I r ⟨F, S, env, xs, er, w, rp, q⟩ => by
  cases rp with
  | nil => exact pgs_nil.run pins s σ H [] us Q I r ⟨rfl, q F H σ (Nxt.refl w) er Out.refl⟩
  | cons => exact q.elim⟩
def setCons (m1 : PV → En → M En) (m2 : List PV → En → M En) : List PV → En → M En
  | x :: xs, env => bnd (m1 x env) fun env => m2 xs env
  | [], _ => stuck
theorem gs_cons {e : Expr} {es : List Expr} {m1 : PV → En → M En} {m2 : List PV → En → M En} (h1 : SG X Wx L e m1) (h2 : SGs X Wx L es m2) (hs : (assignEach (e :: es) X.env).map (·.2) = assign e X.env :: (assignEach es X.env).map (·.2)) : SGs X Wx L (e :: es) (setCons m1 m2) :=
  ⟨fun pins s σ H vs us Q I r ⟨F, S, env, xs, er, w, rp, q⟩ => by
    cases rp with
    | nil => exact q.elim
    | @cons x xs v vs r1 r2 =>
      refine (pgs_cons h1 h2 hs).run pins s σ H (v :: vs) us Q I r ⟨v, vs, rfl, F, S, env, x, er, w, r1, (m1 x env).mono (fun env1 S1 q F1 H1 σ1 n er1 o => ?_) (fun _ _ q => q) q⟩
      exact ⟨F1, S1, env1, xs, er1, n.w, r2.nxt w n, (m2 xs env1).mono (fun _ _ q => Pe.step n o q) (fun _ _ q => Pw.step n o q) q⟩⟩
def setTup (m : List PV → En → M En) (n : Nat) : PV → En → M En
  | .tup xs, env => bnd (guard (xs.length = n)) fun _ => m xs env
  | .lst xs, env => bnd (guard (xs.length = n)) fun _ => m xs env
  | .loc xs, env => bnd (guard (xs.length = n)) fun _ => m xs env
  | _, _ => stuck
theorem g_tup {es : List Expr} {k : Nat} {m : List PV → En → M En} {n : Nat} (hc : X.calm = true) (h : SGs X Wx L es m) (hn : (assignEach es X.env).length = n) (hst : (assignEach es X.env).findIdx? (·.1) = none) : SG X Wx L (.Tuple es k pos) (setTup m n) :=
  ⟨fun pins s σ H v u Q I r ⟨F, S, env, x, er, w, rp, q⟩ => by
    cases x with
    | tup xs =>
      obtain ⟨hl, q⟩ := q
      cases rp with
      | @tup a _ vs t rl =>
        exact (pg_tup (pos := pos) (k := k) hc h hn hst).run pins s σ H _ u Q I r ⟨a, vs, rfl, t.sq, by rw [← rl.length]; exact hl, F, S, env, xs, er, w, rl, q⟩
    | lst xs =>
      obtain ⟨hl, q⟩ := q
      cases rp with
      | @lst a _ vs t rl =>
        exact (pg_unl (pos := pos) (k := k) hc h hn hst).run pins s σ H _ u Q I r ⟨a, vs, rfl, t.sq, by rw [← rl.length]; exact hl, F, S, env, xs, er, w, rl, q⟩
    | loc xs =>
      obtain ⟨hl, q⟩ := q
      cases rp with
      | @loc a _ vs t rl =>
        exact (pg_unl (pos := pos) (k := k) hc h hn hst).run pins s σ H _ u Q I r ⟨a, vs, rfl, t.sq, by rw [← rl.length]; exact hl, F, S, env, xs, er, w, rl, q⟩
    | _ => exact q.elim⟩
def asgn (m : En → M PV) (g : PV → En → M En) : En → M Res := fun env => bnd (m env) fun v => bnd (g v env) fun env => ret (.nx env)
theorem c_asg {tg : Expr} {g : PV → En → M En} (he : SE X Wx e m) (hg : SG X Wx L tg g) (hs : swapsWithSole [tg] e pos.line X.env = pure false) (hw : swappedStores [tg] e X.env = pure none) (h1 : (assignEach [tg] X.env).map (·.2) = [assign tg X.env]) :
    SS X Wx L (.Assign [tg] e pos) (asgn m g) := .of (ps_asg he hg hs hw h1) fun D σ H F S env er w q =>
  ⟨F, S, env, er, w, (m env).mono (fun v S1 q F1 H1 x n r => ⟨F1, S1, env, v, er.mono (n.toSub w), n.w, r, (g v env).mono (fun e2 S2 q => Pe.step n Out.refl q) (fun _ _ q => Pw.step n Out.refl q) q⟩) (fun _ _ q => Pw.sub nil_sub q) q⟩
/-- a, b = x, y of plain local names -/
def asgn2 (i j : Nat) (m : En → M (List PV)) : En → M Res := fun env => bnd (m env) fun vs => match vs with
  | [v, w] => ret (.nx ((env.set i (some v)).set j (some w)))
  | _ => stuck
theorem c_par {i j : Nat} {x y : Str} {a b : Expr} {ml : En → M (List PV)} {px py pt : Pos} {kt k2 pt2} (hc : X.calm = true) (hN : X.N.Nodup) (hi : X.N[i]? = some x) (hj : X.N[j]? = some y) (hij : i ≠ j)
    (hx : X.env.scope.names.lookup x = some .local) (hy : X.env.scope.names.lookup y = some .local) (ha : SA X Wx [a, b] ml)
    (hw : swappedStores [.Tuple [.Name x px, .Name y py] kt pt] (.Tuple [a, b] k2 pt2) X.env = pure (some [x, y]))
    (hs : swapsWithSole [.Tuple [.Name x px, .Name y py] kt pt] (.Tuple [a, b] k2 pt2) pos.line X.env = pure false) (hL : i ∈ L ∧ j ∈ L) :
    SS X Wx L (.Assign [.Tuple [.Name x px, .Name y py] kt pt] (.Tuple [a, b] k2 pt2) pos) (asgn2 i j ml) := .of (ps_par hc hN hi hj hij hx hy ha hw hs) fun D σ H F S env er w q =>
  ⟨F, S, env, er, w, (ml env).mono (fun ps S1 q F1 H1 vs n r => by
    match ps, vs, r with
    | [p1, p2], [v1, v2], .cons r1 (.cons r2 .nil) =>
      exact ⟨v1, v2, rfl, q F1 H1 _ n (((er.mono (n.toSub w)).set i r1).set j r2) ((Out.set hL.1).trans (Out.set hL.2))⟩
    | [], _, _ => exact q.elim
    | [_], _, _ => exact q.elim
    | _ :: _ :: _ :: _, _, _ => exact q.elim) (fun _ _ q => Pw.sub nil_sub q) q⟩
def asgn3 (i j l : Nat) (m : En → M (List PV)) : En → M Res := fun env => bnd (m env) fun vs => match vs with
  | [v, w, z] => ret (.nx (((env.set i (some v)).set j (some w)).set l (some z)))
  | _ => stuck
theorem c_par3 {i j l : Nat} {x y z : Str} {a b c : Expr} {ml : En → M (List PV)} {px py pz pt : Pos} {kt k2 pt2} (hc : X.calm = true) (hN : X.N.Nodup) (hi : X.N[i]? = some x) (hj : X.N[j]? = some y) (hl : X.N[l]? = some z) (hij : i ≠ j) (hil : i ≠ l) (hjl : j ≠ l)
    (hx : X.env.scope.names.lookup x = some .local) (hy : X.env.scope.names.lookup y = some .local) (hz : X.env.scope.names.lookup z = some .local) (ha : SA X Wx [a, b, c] ml)
    (hw : swappedStores [.Tuple [.Name x px, .Name y py, .Name z pz] kt pt] (.Tuple [a, b, c] k2 pt2) X.env = pure (some [x, y, z]))
    (hs : swapsWithSole [.Tuple [.Name x px, .Name y py, .Name z pz] kt pt] (.Tuple [a, b, c] k2 pt2) pos.line X.env = pure false) (hL : i ∈ L ∧ j ∈ L ∧ l ∈ L) :
    SS X Wx L (.Assign [.Tuple [.Name x px, .Name y py, .Name z pz] kt pt] (.Tuple [a, b, c] k2 pt2) pos) (asgn3 i j l ml) := .of (ps_par3 hc hN hi hj hl hij hil hjl hx hy hz ha hw hs) fun D σ H F S env er w q =>
  ⟨F, S, env, er, w, (ml env).mono (fun ps S1 q F1 H1 vs n r => by
    match ps, vs, r with
    | [p1, p2, p3], [v1, v2, v3], .cons r1 (.cons r2 (.cons r3 .nil)) =>
      exact ⟨v1, v2, v3, rfl, q F1 H1 _ n ((((er.mono (n.toSub w)).set i r1).set j r2).set l r3) (((Out.set hL.1).trans (Out.set hL.2.1)).trans (Out.set hL.2.2))⟩
    | [], _, _ => exact q.elim
    | [_], _, _ => exact q.elim
    | [_, _], _, _ => exact q.elim
    | _ :: _ :: _ :: _ :: _, _, _ => exact q.elim) (fun _ _ q => Pw.sub nil_sub q) q⟩
/-! ### o[i] = v -/
def vSet (o i v : PV) : M Unit := match o, i with
  | .ref a, .int k => ⟨fun S Q _ => ∃ xs j, S a = some (.lst xs) ∧ ixN xs.length k = some j ∧ Q () (put S a (.lst (xs.set j v))), fun h _ ⟨xs, j, e, e2, q⟩ => ⟨xs, j, e, e2, h _ _ q⟩⟩
  | _, _ => stuck
theorem o_set : ∀ (pins : List (Addr × Obj)) (s : Shared) (σ : St) (H : Hp) (o i v : V) (ov iv u : Value) (Q : Hp → Prop) (F : Addr → Prop) (S : Stt) (po pi pv : PV) (E : Exc → Stt → Prop), Inv X pins σ H s → RelV o ov → RelV i iv → RelV v u → W (zs X) F S H → Rep (zs X) F H po o → Rep (zs X) F H pi i → Rep (zs X) F H pv v →
    (vSet po pi pv).run S (fun _ S' => ∀ F' H', Nxt (zs X) F S H F' S' H' → Q H') E → wpAny (model X.prog X.w) X.A (setItem ov iv u) (fun _ s' => ∃ H', Inv X pins σ H' s' ∧ Q H') X.xe s := by
  intro pins s σ H o i v ov iv u Q F S po pi pv E I ro ri rv w rpo rpi rpv q
  refine set_list pins s σ H o i v ov iv u Q I ro ri rv ?_
  cases po with
  | ref a =>
    cases pi with
    | int k =>
      cases rpo; cases rpi
      obtain ⟨xs, j, e, e2, q⟩ := q
      obtain ⟨vs, h, r⟩ := w.cell a _ e
      rw [r.length] at e2
      exact ⟨a, vs, k, j, rfl, rfl, h, e2, q _ _ (w.setLst e (r.set j rpv))⟩
    | _ => exact q.elim
  | _ => exact q.elim
theorem g_sub {o i : Expr} {mo mi : En → M PV} (ho : SE X Wx o mo) (hi : SE X Wx i mi) (hx : notSlice i = true) : SG X Wx L (.Subscript o i pos) (fun v env => bnd (mo env) fun a => bnd (mi env) fun k => bnd (vSet a k v) fun _ => ret env) :=
  ⟨fun pins s σ H v u Q I r ⟨F, S, env, px, er, w, rp, q⟩ => by
    have ha : ∀ v, assign (.Subscript o i pos) X.env v = (do
      let ov ← holding [v] (eval o X.env)
      let iv ← holding [v, ov] (eval i X.env)
      standAt pos
      holding [v, ov, iv] (setItem ov iv v)
      release [v, ov, iv] []) := by
      intro v
      cases i <;> first | rfl | cases hx
    rw [ha]
    have q' : (mo env).run S (fun a S1 => (mi env).run S1 (fun k S2 => (vSet a k px).run S2 (fun _ S3 => Pe (zs X) F S H L σ Q env S3) (Pw (zs X) F S H L σ Wx)) (Pw (zs X) F S H L σ Wx)) (Pw (zs X) F S H [] σ Wx) := (mo env).mono (fun _ _ q => q) (fun _ _ q => Pw.sub nil_sub q) q
    refine wpAny_bind (wpAny_holding (ho.go I er w q' fun ov s1 x1 p1 F1 S1 H1 I1 r1 n1 rp1 q1 => ?_))
    refine wpAny_bind (wpAny_holding (hi.go I1 (er.mono (n1.toSub w)) n1.w ((mi env).mono (fun _ _ q => q) (fun _ _ q => Pw.sub nil_sub (Pw.nxt n1 q)) q1) fun iv s2 x2 p2 F2 S2 H2 I2 r2 n2 rp2 q2 => ?_))
    have n12 := n1.trans n2
    refine wpAny_bind (wpAny_standAt (wpAny_bind (wpAny_holding (thn (o_set pins s2 σ H2 x1 x2 v ov iv u (fun H3 => Q σ H3) F2 S2 p1 p2 px _ I2 r1 r2 r n2.w (rp1.nxt n1.w n2) rp2 (rp.nxt w n12)
      ((vSet p1 p2 px).mono (fun _ S3 q F3 H3 n3 => q F3 H3 σ (n12.trans n3) (er.mono ((n12.trans n3).toSub w)) Out.refl) (fun _ _ q => q) q2)) fun _ s3 ⟨H3, I3, q3⟩ => ?_))))
    exact wpAny_release ⟨σ, H3, I3, q3⟩⟩

/-! ### what is walked -/
inductive Src where
  | fix
  | own (a : Addr) (xs : List PV)
def chkP (src : Src) (S : Stt) : Prop := match src with
  | .fix => True
  | .own a xs => S a = some (.lst xs)
def chk (src : Src) : M Unit := match src with
  | .fix => ret ()
  | .own a xs => ⟨fun S Q _ => S a = some (.lst xs) ∧ Q () S, fun h _ q => ⟨q.1, h _ _ q.2⟩⟩
theorem chk_run {src : Src} {S Q E} (h : (chk src).run S Q E) : chkP src S ∧ Q () S := by
  cases src with
  | fix => exact ⟨trivial, h⟩
  | own a xs => exact h
/-- J gives the items xs, one by one -/
structure Iter (Z : Zs) (J : It) (src : Src) (xs : List PV) (ok : (Addr → Prop) → Stt → Hp → Prop) : Prop where
  go : ∀ F S H i, ok F S H → W Z F S H → i < xs.length → J.go i H
  stop : ∀ F S H, ok F S H → W Z F S H → J.stop xs.length H
  yld : ∀ F S H i x v H', ok F S H → W Z F S H → xs[i]? = some x → J.yld i H v H' → ∃ F1, Nxt Z F S H F1 S H' ∧ Rep Z F1 H' x v
  keep : ∀ F S H F' S' H', ok F S H → Sub F H F' H' → chkP src S' → ok F' S' H'
def iM (Z : Zs) (Wx : WX) (mi : En → M (Src × List PV)) : TI := fun σ H R => ∃ F S env, EnvR Z F H env σ ∧ W Z F S H ∧ (mi env).run S (fun p S' => ∀ F' H' J ok, Nxt Z F S H F' S' H' → Iter Z J p.1 p.2 ok → ok F' S' H' → R J H') (Pw Z F S H [] σ Wx)
def SI (X : Cx) (Wx : WX) (tg iter : Expr) (mi : En → M (Src × List PV)) : Prop := PI X tg iter (iM (zs X) Wx mi)

def forM (src : Src) (body : PV → En → M Res) : List PV → En → M Res
  | [], env => bnd (chk src) fun _ => ret (.nx env)
  | x :: xs, env => bnd (chk src) fun _ => bnd (body x env) fun r => match r with
    | .nx e => forM src body xs e
    | .ct e => forM src body xs e
    | .bk e => ret (.nx e)
    | .rt v => ret (.rt v)
def forB (mi : En → M (Src × List PV)) (body : PV → En → M Res) : En → M Res := fun env => bnd (mi env) fun p => forM p.1 body p.2 env
theorem drop_get {α : Type} {xs : List α} {i : Nat} (h : i < xs.length) : ∃ x, xs[i]? = some x ∧ xs.drop i = x :: xs.drop (i + 1) :=
  ⟨xs[i], by simp [h], List.drop_eq_getElem_cons h⟩
theorem c_for {tg iter : Expr} {body : List Stmt} {mi : En → M (Src × List PV)} {g : PV → En → M En} {mb : En → M Res} (hp : PassesOwn (model X.prog X.w) X.A X.env X.xe) (hc : X.calm = true) (hi : SI X Wx tg iter mi) (hg : SG X Wx L tg g) (hb : SSs X Wx L body mb) (hs : ∀ x, foldedSetIterable iter X.env x = pure x) :
    SS X Wx L (.For tg iter body [] pos) (forB mi fun x env => bnd (g x env) mb) := .of (ps_for hp hc hi hg hb hs) fun D σ H F S env er w q => by
  refine ⟨F, S, env, er, w, (mi env).mono (fun p S1 q F1 H1 J ok n1 it o1 => ?_) (fun _ _ q => Pw.sub nil_sub q) q⟩
  obtain ⟨src, xs⟩ := p
  let body' : PV → En → M Res := fun x env => bnd (g x env) mb
  let Wn : Nat → Nat → St → Hp → Prop := fun i m σ' H' => m = xs.length - i ∧ i ≤ xs.length ∧ ∃ F0 S0 H0 F' S' env', ok F0 S0 H0 ∧ W (zs X) F0 S0 H0 ∧ Nxt (zs X) F0 S0 H0 F' S' H' ∧ Nxt (zs X) F S H F' S' H' ∧ EnvR (zs X) F' H' env' σ' ∧ Out L σ σ' ∧
    (forM src body' (xs.drop i) env').run S' (Pr (zs X) F S H L σ D) (Pw (zs X) F S H L σ Wx)
  refine ⟨Wn, ⟨_, rfl, Nat.zero_le _, F1, S1, H1, F1, S1, env, o1, n1.w, Nxt.refl n1.w, n1, er.mono (n1.toSub w), Out.refl, q⟩, ?_⟩
  rintro i m σ' H' ⟨rfl, hi', F0, S0, H0, F', S', env', o0, w0, n0, n', er', out', q'⟩
  by_cases hlt : i < xs.length
  · obtain ⟨x, hx, hd⟩ := drop_get hlt
    rw [hd] at q'
    obtain ⟨ck, q'⟩ := chk_run q'
    have o' := it.keep F0 S0 H0 F' S' H' o0 (n0.toSub w0) ck
    refine .inr ⟨it.go F' S' H' i o' n'.w hlt, Wn (i + 1) (xs.length - (i + 1)), fun σ2 H2 h => ⟨_, by omega, h⟩, fun v H2 y => ?_⟩
    obtain ⟨F2, n2, rx⟩ := it.yld F' S' H' i x v H2 o' n'.w hx y
    have n02 := n'.trans n2
    refine ⟨F2, S', env', x, er'.mono (n2.toSub n'.w), n2.w, rx, (g x env').mono (fun env3 S3 q3 F3 H3 σ3 n3 er3 out3 => ?_) (fun _ _ q => Pw.step n02 out' q) q'⟩
    have n03 := n02.trans n3
    have out03 := out'.trans out3
    refine ⟨F3, S3, env3, er3, n3.w, (mb env3).mono (fun r S4 q4 => ?_) (fun _ _ q => Pw.step n03 out03 q) q3⟩
    have next : ∀ {e : En}, (forM src body' (xs.drop (i + 1)) e).run S4 (Pr (zs X) F S H L σ D) (Pw (zs X) F S H L σ Wx) → Pe (zs X) F3 S3 H3 L σ3 (Wn (i + 1) (xs.length - (i + 1))) e S4 := fun {e} q F5 H5 σ5 n5 er5 out5 =>
      ⟨rfl, hlt, F', S', H', F5, S4, e, o', n'.w, (n2.trans n3).trans n5, n03.trans n5, er5, out03.trans out5, q⟩
    cases r with
    | nx e => exact next q4
    | ct e => exact next q4
    | bk e => exact Pe.step n03 out03 q4
    | rt v => exact Pv.nxt n03 q4
  · have ei : i = xs.length := by omega
    subst ei
    rw [List.drop_length] at q'
    obtain ⟨ck, q'⟩ := chk_run q'
    have o' := it.keep F0 S0 H0 F' S' H' o0 (n0.toSub w0) ck
    exact .inl ⟨it.stop F' S' H' o' n'.w, q' F' H' σ' n' er' out'⟩

/-! ### while -/
def wh (mt : En → M Bool) (mb : En → M Res) : Nat → En → M Res
  | 0, _ => stuck
  | n + 1, env => bnd (mt env) fun t => if t = true then bnd (mb env) fun r => match r with
    | .nx e => wh mt mb n e
    | .ct e => wh mt mb n e
    | .bk e => ret (.nx e)
    | .rt v => ret (.rt v)
    else ret (.nx env)
def whileM (mt : En → M Bool) (mb : En → M Res) (env : En) : M Res := ⟨fun S Q E => ∃ n, (wh mt mb n env).run S Q E, fun h g ⟨n, q⟩ => ⟨n, (wh mt mb n env).mono h g q⟩⟩
theorem c_while {body : List Stmt} {mb : En → M Res} (hp : PassesOwn (model X.prog X.w) X.A X.env X.xe) (hc : STe X Wx c mt) (hb : SSs X Wx L body mb) : SS X Wx L (.While c body [] pos) (whileM mt mb) := .of (ps_while hp hc hb) fun D σ H F S env er w ⟨n, q⟩ => by
  let Wn : Nat → St → Hp → Prop := fun m σ' H' => ∃ F' S' env', Nxt (zs X) F S H F' S' H' ∧ EnvR (zs X) F' H' env' σ' ∧ Out L σ σ' ∧ (wh mt mb m env').run S' (Pr (zs X) F S H L σ D) (Pw (zs X) F S H L σ Wx)
  refine ⟨Wn, ⟨n, F, S, env, Nxt.refl w, er, Out.refl, q⟩, ?_⟩
  rintro m σ' H' ⟨F', S', env', n', er', out', q'⟩
  cases m with
  | zero => exact q'.elim
  | succ m =>
    refine ⟨F', S', env', er', n'.w, (mt env').mono (fun t S2 q2 F2 H2 n2 => ?_) (fun _ _ q => Pw.sub nil_sub (Pw.step n' out' q)) q'⟩
    have n02 := n'.trans n2
    cases t with
    | true =>
      show if true = true then _ else _
      rw [if_pos rfl]
      refine ⟨fun σ3 H3 => Wn m σ3 H3, fun σ3 H3 h => ⟨m, Nat.lt_succ_self m, h⟩, F2, S2, env', er'.mono (n2.toSub n'.w), n2.w, (mb env').mono (fun r S4 q4 => ?_) (fun _ _ q => Pw.step n02 out' q) q2⟩
      have next : ∀ {e : En}, (wh mt mb m e).run S4 (Pr (zs X) F S H L σ D) (Pw (zs X) F S H L σ Wx) → Pe (zs X) F2 S2 H2 L σ' (Wn m) e S4 := fun {e} q F5 H5 σ5 n5 er5 out5 => ⟨F5, S4, e, n02.trans n5, er5, out'.trans out5, q⟩
      cases r with
      | nx e => exact next q4
      | ct e => exact next q4
      | bk e => exact Pe.step n02 out' q4
      | rt v => exact Pv.nxt n02 q4
    | false =>
      show if false = true then _ else _
      rw [if_neg Bool.false_ne_true]
      exact q2 F2 H2 σ' n02 (er'.mono (n2.toSub n'.w)) out'
end
end Dp

namespace Dp
open PySem PySem.Spec L2
open PyProof.Rows hiding St

section
variable {X : Cx} {Wx : WX} {tg iter : Expr} {pos : Pos}
/-! ### sources of loops -/
theorem it_fix {J : It} {xs : List PV} {G : (Addr → Prop) → Hp → Prop} (mono : ∀ F H F' H', Sub F H F' H' → G F H → G F' H')
    (go : ∀ F H i, G F H → i < xs.length → J.go i H) (stop : ∀ F H, G F H → J.stop xs.length H)
    (yld : ∀ F S H i x v H', G F H → W (zs X) F S H → xs[i]? = some x → J.yld i H v H' → ∃ F1, Nxt (zs X) F S H F1 S H' ∧ Rep (zs X) F1 H' x v) : Iter (zs X) J .fix xs (fun F _ H => G F H) :=
  ⟨fun F S H i o _ h => go F H i o h, fun F S H o _ => stop F H o, fun F S H i x v H' o w hx y => yld F S H i x v H' o w hx y, fun F S H F' S' H' o sb _ => mono F H F' H' sb o⟩
theorem it_lst {a : Addr} {xs : List PV} : Iter (zs X) (Itl X.K a) .fix xs (fun F _ H => ∃ vs, LstAt F H a vs ∧ RepL (zs X) F H xs vs) := by
  refine it_fix (fun F H F' H' s ⟨vs, h, r⟩ => ⟨vs, h.mono s, r.mono s⟩) (fun F H i ⟨vs, h, r⟩ hi => ?_) (fun F H ⟨vs, h, r⟩ => ⟨vs, h.sq, by rw [r.length]; exact Nat.le_refl _⟩) fun F S H i x v H' ⟨vs, h, r⟩ w hx y => ?_
  · rw [r.length] at hi
    exact ⟨vs, vs[i], h.sq, by simp [hi]⟩
  · obtain ⟨e, y⟩ := y
    subst e
    obtain ⟨u, hu, ru⟩ := r.get hx
    have := y vs h.sq
    rw [hu] at this; cases this
    exact ⟨F, Nxt.refl w, ru⟩
theorem it_loc {a : Addr} {xs : List PV} : Iter (zs X) (Itl X.K a) .fix xs (fun F _ H => ∃ vs, LocAt (zs X) F H a vs ∧ RepL (zs X) F H xs vs) := by
  refine it_fix (fun F H F' H' s ⟨vs, h, r⟩ => ⟨vs, h.mono s, r.mono s⟩) (fun F H i ⟨vs, h, r⟩ hi => ?_) (fun F H ⟨vs, h, r⟩ => ⟨vs, h.sq, by rw [r.length]; exact Nat.le_refl _⟩) fun F S H i x v H' ⟨vs, h, r⟩ w hx y => ?_
  · rw [r.length] at hi
    exact ⟨vs, vs[i], h.sq, by simp [hi]⟩
  · obtain ⟨e, y⟩ := y
    subst e
    obtain ⟨u, hu, ru⟩ := r.get hx
    have := y vs h.sq
    rw [hu] at this; cases this
    exact ⟨F, Nxt.refl w, ru⟩
theorem it_tup {a : Addr} {xs : List PV} : Iter (zs X) (Itt X.K a) .fix xs (fun F _ H => ∃ vs, TupAt (zs X) F H a vs ∧ RepL (zs X) F H xs vs) := by
  refine it_fix (fun F H F' H' s ⟨vs, h, r⟩ => ⟨vs, h.mono s, r.mono s⟩) (fun F H i ⟨vs, h, r⟩ hi => ?_) (fun F H ⟨vs, h, r⟩ => ⟨vs, h.sq, by rw [r.length]; exact Nat.le_refl _⟩) fun F S H i x v H' ⟨vs, h, r⟩ w hx y => ?_
  · rw [r.length] at hi
    exact ⟨vs, vs[i], h.sq, by simp [hi]⟩
  · obtain ⟨e, y⟩ := y
    subst e
    obtain ⟨u, hu, ru⟩ := r.get hx
    have := y vs h.sq
    rw [hu] at this; cases this
    exact ⟨F, Nxt.refl w, ru⟩
theorem it_own {a : Addr} {xs : List PV} : Iter (zs X) (Itl X.K a) (.own a xs) xs (fun _ S _ => S a = some (.lst xs)) := by
  refine ⟨fun F S H i o w hi => ?_, fun F S H o w => ?_, fun F S H i x v H' o w hx y => ?_, fun F S H F' S' H' _ _ ck => ck⟩
  · obtain ⟨vs, h, r⟩ := w.cell a _ o
    rw [r.length] at hi
    exact ⟨vs, vs[i], .of h, by simp [hi]⟩
  · obtain ⟨vs, h, r⟩ := w.cell a _ o
    exact ⟨vs, .of h, by rw [r.length]; exact Nat.le_refl _⟩
  · obtain ⟨e, y⟩ := y
    subst e
    obtain ⟨vs, h, r⟩ := w.cell a _ o
    obtain ⟨u, hu, ru⟩ := r.get hx
    have := y vs (.of h)
    rw [hu] at this; cases this
    exact ⟨F, Nxt.refl w, ru⟩
def strItems (z : Str) : List PV := z.cps.toList.map fun c => .str ⟨#[c]⟩
theorem it_str {z : Str} : Iter (zs X) (Its z) .fix (strItems z) (fun _ _ _ => True) := by
  refine it_fix (fun _ _ _ _ _ _ => trivial) (fun F H i _ hi => ?_) (fun F H _ => ?_) fun F S H i x v H' _ w hx y => ?_
  · show i < z.cps.size
    simpa [strItems] using hi
  · show z.cps.size ≤ _
    simp [strItems]
  · obtain ⟨rfl, c, hc, rfl⟩ := y
    unfold strItems at hx
    rw [List.getElem?_map] at hx
    have hc' : z.cps.toList[i]? = some c := by simpa using hc
    rw [hc'] at hx
    cases hx
    exact ⟨F, Nxt.refl w, .str _⟩
def rngItems (lo : Int) (n : Nat) : List PV := (List.range n).map fun (i : Nat) => PV.int (lo + (i : Int))
theorem rngItems_len {lo n} : (rngItems lo n).length = n := by simp [rngItems]
theorem it_rng {lo : Int} {n : Nat} : Iter (zs X) (Itr lo n) .fix (rngItems lo n) (fun _ _ _ => True) := by
  refine it_fix (fun _ _ _ _ _ _ => trivial) (fun F H i _ hi => ?_) (fun F H _ => ?_) fun F S H i x v H' _ w hx y => ?_
  · show i < n
    rw [rngItems_len] at hi; exact hi
  · show n ≤ _
    rw [rngItems_len]; exact Nat.le_refl _
  · obtain ⟨rfl, rfl⟩ := y
    unfold rngItems at hx
    rw [List.getElem?_map] at hx
    cases e : (List.range n)[i]? with
    | none => rw [e] at hx; cases hx
    | some j =>
      rw [e] at hx
      cases hx
      have : j = i := by
        rw [List.getElem?_range] at e
        · cases e; rfl
        · exact Nat.lt_of_not_le fun z => by rw [List.getElem?_eq_none (by simpa using z)] at e; cases e
      subst this
      exact ⟨F, Nxt.refl w, .int _⟩
/-- any value that is walked -/
def vSrc : PV → M (Src × List PV)
  | .tup xs => ret (.fix, xs)
  | .lst xs => ret (.fix, xs)
  | .loc xs => ret (.fix, xs)
  | .str z => ret (.fix, strItems z)
  | .ref a => ⟨fun S Q _ => ∃ xs, S a = some (.lst xs) ∧ Q (.own a xs, xs) S, fun h _ ⟨xs, e, q⟩ => ⟨xs, e, h _ _ q⟩⟩
  | _ => stuck
theorem i_val {m : En → M PV} (he : SE X Wx iter m) : SI X Wx tg iter (fun env => bnd (m env) vSrc) :=
  ⟨fun pins s σ H R I ⟨F, S, env, er, w, q⟩ => he.go I er w q fun v s1 x px F1 S1 H1 I1 r1 n1 rp1 q1 => by
    have one : ∀ {a : Addr}, (∃ vs, SqL X.K H1 a vs) → R (Itl X.K a) H1 → wpAny (model X.prog X.w) X.A (pyIter (.ref a)) (PIE X pins σ tg R) X.xe s1 := fun {a} ⟨vs, hq⟩ hR => by
      obtain ⟨its, rv, p, hz⟩ := I1.list hq
      refine wpAny_pyIter_list p.isList ?_
      refine ⟨s1.heap.objs.size, [s1.heap.objs.size], _, _, H1, rfl, I1.kept (t' := s1.toks) fun b o e => Heap.get?_push_of_some _ e, turn_list a _, ⟨_, Heap.get?_push_size _ rfl, rfl, rfl⟩, fun b hb => ?_, hR⟩
      have e : b = s1.heap.objs.size := by simpa using hb
      subst e
      exact I1.fpOk (Nat.le_refl _) (I1.hok.fresh (Nat.le_refl _))
    cases px with
    | tup xs =>
      cases rp1 with
      | @tup a _ vs t rl =>
        cases r1
        obtain ⟨its, rv, p, hz⟩ := I1.tuple t.sq
        refine wpAny_pyIter_tuple (show s1.heap.IsTuple a its.toArray from p) ?_
        refine ⟨s1.heap.objs.size, [s1.heap.objs.size], _, _, H1, rfl, I1.kept (t' := s1.toks) fun b o e => Heap.get?_push_of_some _ e, turn_tuple a _, ⟨_, Heap.get?_push_size _ rfl, rfl, rfl⟩, fun b hb => ?_, q1 F1 H1 _ _ n1 it_tup ⟨vs, t, rl⟩⟩
        have e : b = s1.heap.objs.size := by simpa using hb
        subst e
        exact I1.fpOk (Nat.le_refl _) (I1.hok.fresh (Nat.le_refl _))
    | lst xs =>
      cases rp1 with
      | @lst a _ vs t rl =>
        cases r1
        exact one ⟨vs, t.sq⟩ (q1 F1 H1 _ _ n1 it_lst ⟨vs, t, rl⟩)
    | loc xs =>
      cases rp1 with
      | @loc a _ vs t rl =>
        cases r1
        exact one ⟨vs, t.sq⟩ (q1 F1 H1 _ _ n1 it_loc ⟨vs, t, rl⟩)
    | ref a =>
      cases rp1
      cases r1
      obtain ⟨xs, e, q1⟩ := q1
      obtain ⟨vs, h, rl⟩ := n1.w.cell a _ e
      exact one ⟨vs, .of h⟩ (q1 F1 H1 _ _ n1 it_own e)
    | str z =>
      cases rp1
      obtain ⟨t, rfl⟩ := r1
      have hR := q1 F1 H1 _ _ n1 it_str trivial
      cases ha : z.cps.all (· < 128)
      · exact wpAny_pyIter_wide ha (pi_one (tk := s1.toks) I1 _ (turn_str _ z t "str_iterator" (.inr rfl)) ⟨_, Heap.get?_push_size _ rfl, rfl, rfl⟩ hR)
      · exact wpAny_pyIter_ascii ha (pi_one (tk := s1.toks) I1 _ (turn_str _ z t "str_ascii_iterator" (.inl rfl)) ⟨_, Heap.get?_push_size _ rfl, rfl, rfl⟩ hR)
    | _ => exact q1.elim⟩
def inRng (i : Int) : Prop := -(2 ^ 62) ≤ i ∧ i < 2 ^ 62
def vRng : List PV → M (Src × List PV)
  | [.int j] => bnd (guard (inRng j)) fun _ => ret (.fix, rngItems 0 j.toNat)
  | [.int i, .int j] => bnd (guard (inRng i ∧ inRng j)) fun _ => ret (.fix, rngItems i (j - i).toNat)
  | _ => stuck
theorem i_rng1 {a : Expr} {ms : En → M (List PV)} {p : Pos} (hg : Gl X "range") (hm : X.mg "range" = none) (ha : SA X Wx [a] ms) (hs : notStar a = true) : SI X Wx tg (.Call (.Name "range" p) [a] [] pos) (fun env => bnd (ms env) fun xs => bnd (guard (xs.length = 1)) fun _ => vRng xs) :=
  ⟨fun pins s σ H R I ⟨F, S, env, er, w, q⟩ => (pi_range1 hg hm ha (starEach_not hs)).run pins s σ H R I ⟨F, S, env, er, w, (ms env).mono (fun ps S1 q F1 H1 vs n r => by
    obtain ⟨hl, q⟩ := q
    match ps, vs, r with
    | [.int j], [_], .cons (.int _) .nil => exact ⟨j, rfl, q.1.1, q.1.2, q.2 F1 H1 _ _ n it_rng trivial⟩
    | [.non], _, _ => exact q.elim
    | [.bl _], _, _ => exact q.elim
    | [.str _], _, _ => exact q.elim
    | [.tup _], _, _ => exact q.elim
    | [.lst _], _, _ => exact q.elim
    | [.loc _], _, _ => exact q.elim
    | [.ref _], _, _ => exact q.elim
    | [.fn _], _, _ => exact q.elim
    | [.ty _], _, _ => exact q.elim
    | [], _, _ => simp at hl
    | _ :: _ :: _, _, _ => simp at hl) (fun _ _ q => q) q⟩⟩
theorem vRng2 {x y : PV} {S Q E} (h : (vRng [x, y]).run S Q E) : ∃ i j, x = .int i ∧ y = .int j ∧ inRng i ∧ inRng j ∧ Q (.fix, rngItems i (j - i).toNat) S := by
  cases x <;> cases y <;> first | exact ⟨_, _, rfl, rfl, h.1.1, h.1.2, h.2⟩ | exact h.elim
theorem i_rng2 {a b : Expr} {ms : En → M (List PV)} {p : Pos} (hg : Gl X "range") (hm : X.mg "range" = none) (ha : SA X Wx [a, b] ms) (hs : noStars [a, b] = true) : SI X Wx tg (.Call (.Name "range" p) [a, b] [] pos) (fun env => bnd (ms env) fun xs => bnd (guard (xs.length = 2)) fun _ => vRng xs) := by
  have h' : notStar a = true ∧ noStars [b] = true := by simpa [noStars] using hs
  exact ⟨fun pins s σ H R I ⟨F, S, env, er, w, q⟩ => (pi_range2 hg hm ha (by rw [starEach_not h'.1, starEach_not (by simpa [noStars] using h'.2)]; rfl) (by rw [starEach_not (by simpa [noStars] using h'.2)]; rfl)).run pins s σ H R I ⟨F, S, env, er, w, (ms env).mono (fun ps S1 q F1 H1 vs n r => by
    obtain ⟨hl, q⟩ := q
    match ps, vs, r with
    | [x, y], [_, _], .cons r1 (.cons r2 .nil) =>
      obtain ⟨i, j, rfl, rfl, h1, h2, q⟩ := vRng2 q
      cases r1; cases r2
      exact ⟨i, j, rfl, ⟨h1.1, h1.2, h2.1, h2.2⟩, q F1 H1 _ _ n it_rng trivial⟩
    | [], _, _ => simp at hl
    | [_], _, _ => simp at hl
    | _ :: _ :: _ :: _, _, _ => simp at hl) (fun _ _ q => q) q⟩⟩
end

/-! ### comprehensions -/
section
variable {Z : Zs} {F0 F : Addr → Prop} {S0 S : Stt} {H0 H : Hp} {D : Addr} {xs : List PV} {vs : List V}
/-- a hidden list becomes a value -/
theorem Nxt.adopt (n : Nxt Z F0 S0 H0 F S H) (h0 : H0 D = none) (hS : S D = none) (hD : H D = some (.lst vs)) : Nxt Z F0 S0 H0 (fun a => F a ∨ a = D) S H := by
  have sb : Sub F H (fun a => F a ∨ a = D) H := ⟨fun a q => .inl q, fun a u q e _ => e⟩
  refine ⟨fun a q => .inl (n.sub a q), n.keep, n.own, fun b o e s nt f q => ?_, ⟨fun a q => ?_, fun a q => ?_, fun a c e => (n.w.cell a c e).mono sb rfl fun _ q => q⟩⟩
  · rcases q with q | q
    · exact n.fre b o e s nt f q
    · rw [q, h0] at e; cases e
  · rcases q with q | q
    · exact n.w.dis a q
    · rw [q]; exact hS
  · rcases q with q | q
    · exact n.w.ff a q
    · rw [q]; exact ⟨_, hD, rfl⟩
theorem Nxt.adoptOwn (n : Nxt Z F0 S0 H0 F S H) (h0 : H0 D = none) (hS : S D = none) (hF : ¬ F D) (hD : H D = some (.lst vs)) (r : RepL Z F H xs vs) : Nxt Z F0 S0 H0 F (put S D (.lst xs)) H := by
  refine ⟨n.sub, n.keep, fun b o e s nt => ?_, n.fre, ⟨fun a q => ?_, n.w.ff, fun a c e => ?_⟩⟩
  · rw [put_ne (ne_of_none e h0)]; exact n.own b o e s nt
  · rw [put_ne (fun z => hF (by rw [← z]; exact q))]; exact n.w.dis a q
  · by_cases ha : a = D
    · subst ha; rw [put_same] at e; cases e
      exact ⟨vs, hD, r⟩
    · rw [put_ne ha] at e; exact n.w.cell a c e
/-- the hidden list grows -/
theorem W.grow (w : W Z F S H) (hS : S D = none) (hF : ¬ F D) (hD : H D = some (.lst vs)) {us : List V} : W Z F S (upd H D (.lst us)) ∧ Sub F H F (upd H D (.lst us)) := by
  have sb : Sub F H F (upd H D (.lst us)) := ⟨fun a q => q, fun a u q e _ => by rw [upd_ne (fun z => hF (by rw [← z]; exact q))]; exact e⟩
  refine ⟨⟨w.dis, fun a q => ?_, fun a c e => (w.cell a c e).mono sb (upd_ne fun z => ?_) fun dx q => ?_⟩, sb⟩
  · obtain ⟨u, e, t⟩ := w.ff a q
    exact ⟨u, by rw [upd_ne (fun z => hF (by rw [← z]; exact q))]; exact e, t⟩
  · rw [z, hS] at e; cases e
  · rw [upd_ne fun z => by rw [z, hD] at q; cases q]; exact q
theorem Nxt.grow (n : Nxt Z F0 S0 H0 F S H) (h0 : H0 D = none) (hS : S D = none) (hF : ¬ F D) (hD : H D = some (.lst vs)) {us : List V} : Nxt Z F0 S0 H0 F S (upd H D (.lst us)) :=
  ⟨n.sub, fun b o e s nt => by rw [upd_ne (ne_of_none e h0)]; exact n.keep b o e s nt, n.own, n.fre, (n.w.grow hS hF hD).1⟩
end
def noexc {α : Type} (m : M α) : M α := ⟨fun S Q _ => m.run S Q (fun _ _ => False), fun h _ q => m.mono h (fun _ _ z => z) q⟩
@[simp] theorem noexc_ret {α : Type} (a : α) : noexc (ret a) = ret a := rfl
/-- a comprehension's loop: acc is what it has so far -/
def compM (src : Src) (body : PV → List PV → M (List PV)) : List PV → List PV → M (List PV)
  | [], acc => bnd (chk src) fun _ => ret acc
  | x :: xs, acc => bnd (chk src) fun _ => bnd (body x acc) fun acc => compM src body xs acc
def app1 (acc : List PV) (x : PV) : M (List PV) := bnd (guard (acc.length < sizeLine)) fun _ => ret (acc ++ [x])
def compB (vs : List Nat) (mi : En → M (Src × List PV)) (g : PV → En → M En) (mt : En → M Bool) (me : En → M PV) : En → M (List PV) := fun env =>
  bnd (mi env) fun p => compM p.1 (fun x acc => noexc (bnd (g x (wipeE env vs)) fun env1 => bnd (mt env1) fun t => if t = true then bnd (me env1) fun y => app1 acc y else ret acc)) p.2 []
def wFalse : WX := fun _ _ _ _ => False
def SPT (X : Cx) (Wx : WX) (ifs : List Expr) (mt : En → M Bool) : Prop := PTs X ifs (tT (zs X) Wx mt)
theorem spt_nil {X : Cx} {Wx : WX} : SPT X Wx [] (fun _ => ret true) := ⟨fun pins s σ H Q I ⟨F, S, env, er, w, q⟩ => pts_nil.run pins s σ H Q I (q F H (Nxt.refl w))⟩
theorem spt_one {X : Cx} {Wx : WX} {c : Expr} {mt : En → M Bool} (h : STe X Wx c mt) : SPT X Wx [c] mt := pts_one h
def freezeL (xs : List PV) : M PV := ret (.lst xs)
def ownL (xs : List PV) : M PV := ⟨fun S Q _ => ∀ p, S p = none → Q (.ref p) (put S p (.lst xs)), fun h _ q => fun p e => h _ _ (q p e)⟩
theorem W.layHid {Z : Zs} {F : Addr → Prop} {S : Stt} {H : Hp} {D : Addr} (w : W Z F S H) (h : H D = none) {vs : List V} : Nxt Z F S H F S (upd H D (.lst vs)) := by
  have hs := w.fresh_S h
  have sb : Sub F H F (upd H D (.lst vs)) := ⟨fun a q => q, fun a u q e _ => by rw [upd_ne (ne_of_none e h)]; exact e⟩
  refine ⟨fun a q => q, fun b u e _ _ => ?_, fun b u e s _ => s, fun b u e _ _ nf => nf, ⟨w.dis, fun a q => ?_, fun a c e => ?_⟩⟩
  · rw [upd_ne (ne_of_none e h)]; exact e
  · obtain ⟨u, e, t⟩ := w.ff a q
    exact ⟨u, by rw [upd_ne (ne_of_none e h)]; exact e, t⟩
  · have ha : a ≠ D := fun z => by subst z; rw [hs] at e; cases e
    refine (w.cell a c e).mono sb (upd_ne ha) fun dx q => ?_
    rw [upd_ne (ne_of_none q h)]; exact q
theorem Out.wipe {L : List Nat} {σ : St} : Out L σ (L2.wipe σ L) := ⟨wipe_length σ L, fun i h => wipe_get h⟩
/-- the list that a comprehension fills -/
structure Hid (Z : Zs) (D : Addr) (F : Addr → Prop) (S : Stt) (H : Hp) (acc : List PV) : Prop where
  s : S D = none
  f : ¬ F D
  ex : ∃ vs, H D = some (.lst vs) ∧ RepL Z F H acc vs
theorem Hid.nxt {Z D F S H F' S' H' acc} (h : Hid Z D F S H acc) (w : W Z F S H) (n : Nxt Z F S H F' S' H') : Hid Z D F' S' H' acc := by
  obtain ⟨vs, e, r⟩ := h.ex
  have nt : nontbl (.lst vs) := fun ps e => nomatch e
  exact ⟨n.own D _ e h.s nt, n.fre D _ e h.s nt h.f, vs, n.keep D _ e h.s nt, r.mono (n.toSub w)⟩
section
variable {X : Cx} {Wx : WX}
theorem comp_loop {J : It} {src : Src} {xs : List PV} {ok : (Addr → Prop) → Stt → Hp → Prop} (it : Iter (zs X) J src xs ok) {D : Addr} {Fb Fs : Addr → Prop} {Sb Ss : Stt} {Hb Hs : Hp} {body : PV → List PV → M (List PV)} {R : List PV → Stt → Prop} {E : Exc → Stt → Prop} {Fin : Hp → Prop} {Step : V → Hp → (Hp → Prop) → Prop} {acc0 : List PV}
    (fin : ∀ acc F S H, R acc S → Nxt (zs X) Fb Sb Hb F S H → Sub Fs Hs F H → Hid (zs X) D F S H acc → Fin H)
    (step : ∀ x v acc F S H (K : List PV → Stt → Prop) (Nx : Hp → Prop), Nxt (zs X) Fb Sb Hb F S H → Sub Fs Hs F H → Hid (zs X) D F S H acc → Rep (zs X) F H x v → (body x acc).run S K E →
      (∀ acc' F' S' H', Nxt (zs X) Fb Sb Hb F' S' H' → Sub Fs Hs F' H' → Hid (zs X) D F' S' H' acc' → K acc' S' → Nx H') → Step v H Nx)
    (n : Nxt (zs X) Fb Sb Hb Fs Ss Hs) (hid : Hid (zs X) D Fs Ss Hs acc0) (o : ok Fs Ss Hs) (q : (compM src body xs acc0).run Ss R E) :
    ∃ W : Nat → Nat → Hp → Prop, (∃ m, W 0 m Hs) ∧ ∀ i m H, W i m H → (J.stop i H ∧ Fin H) ∨ (J.go i H ∧ ∃ Nx : Hp → Prop, (∀ H', Nx H' → ∃ m', m' < m ∧ W (i + 1) m' H') ∧ ∀ x H', J.yld i H x H' → Step x H' Nx) := by
  let Wn : Nat → Nat → Hp → Prop := fun i m H' => m = xs.length - i ∧ i ≤ xs.length ∧ ∃ F' S' acc, Nxt (zs X) Fb Sb Hb F' S' H' ∧ Sub Fs Hs F' H' ∧ Hid (zs X) D F' S' H' acc ∧ (compM src body (xs.drop i) acc).run S' R E
  refine ⟨Wn, ⟨_, rfl, Nat.zero_le _, Fs, Ss, acc0, n, Sub.refl, hid, q⟩, ?_⟩
  rintro i m H' ⟨rfl, hi', F', S', acc, n', sb, hd', q'⟩
  by_cases hlt : i < xs.length
  · obtain ⟨x, hx, hd⟩ := drop_get hlt
    rw [hd] at q'
    obtain ⟨ck, q'⟩ := chk_run q'
    have o' := it.keep Fs Ss Hs F' S' H' o sb ck
    refine .inr ⟨it.go F' S' H' i o' n'.w hlt, Wn (i + 1) (xs.length - (i + 1)), fun H2 h => ⟨_, by omega, h⟩, fun v H2 y => ?_⟩
    obtain ⟨F2, n2, rx⟩ := it.yld F' S' H' i x v H2 o' n'.w hx y
    exact step x v acc F2 S' H2 _ _ (n'.trans n2) (sb.trans (n2.toSub n'.w)) (hd'.nxt n'.w n2) rx q' fun acc' F3 S3 H3 n3 sb3 hd3 q3 => ⟨rfl, hlt, F3, S3, acc', n3, sb3, hd3, q3⟩
  · have ei : i = xs.length := by omega
    subst ei
    rw [List.drop_length] at q'
    obtain ⟨ck, q'⟩ := chk_run q'
    have o' := it.keep Fs Ss Hs F' S' H' o sb ck
    exact .inl ⟨it.stop F' S' H' o' n'.w, fin acc F' S' H' q' n' sb hd'⟩
/-- the element laid behind -/
theorem comp_leaf {me : En → M PV} {env : En} {σ : St} {D : Addr} {Fb Fs F : Addr → Prop} {Sb S : Stt} {Hb Hs H : Hp} {acc : List PV} {K : List PV → Stt → Prop} {Nx : Hp → Prop} {E : Exc → Stt → Prop} (hb : Hb D = none) (hE : ∀ e S, ¬ E e S)
    (n : Nxt (zs X) Fb Sb Hb F S H) (sb : Sub Fs Hs F H) (hfs : ¬ Fs D) (hid : Hid (zs X) D F S H acc) (er : EnvR (zs X) F H env σ) (q : (bnd (me env) fun y => app1 acc y).run S K E)
    (hk : ∀ acc' F' S' H', Nxt (zs X) Fb Sb Hb F' S' H' → Sub Fs Hs F' H' → Hid (zs X) D F' S' H' acc' → K acc' S' → Nx H') :
    tE (zs X) wFalse me σ H fun y H4 => ∃ acc, H4 D = some (.lst acc) ∧ acc.length < sizeLine ∧ Nx (upd H4 D (.lst (acc ++ [y]))) := by
  refine ⟨F, S, env, er, n.w, (me env).mono (fun y S5 q5 F5 H5 yv n5 r5 => ?_) (fun e S q => (hE e S q).elim) q⟩
  obtain ⟨hz, q5⟩ := q5
  have h5 := hid.nxt n.w n5
  obtain ⟨vs, hD, rl⟩ := h5.ex
  have nb := n.trans n5
  refine ⟨vs, hD, by rw [← rl.length]; exact hz, ?_⟩
  have g := nb.w.grow h5.s h5.f hD (us := vs ++ [yv])
  refine hk (acc ++ [y]) F5 S5 _ (nb.grow hb h5.s h5.f hD) ((sb.trans (n5.toSub n.w)).trans g.2) ⟨h5.s, h5.f, _, upd_same, ((rl.append (.cons r5 .nil)).mono g.2)⟩ q5
theorem compM_chk {src : Src} {body : PV → List PV → M (List PV)} {xs acc : List PV} {S R E} (q : (compM src body xs acc).run S R E) : chkP src S := by
  cases xs with
  | nil => exact (chk_run q).1
  | cons => exact (chk_run q).1
/-- one clause's turn -/
theorem comp_turn {L : List Nat} {g : PV → En → M En} {mt : En → M Bool} {env : En} {σ : St} {D : Addr} {Fb Fs F : Addr → Prop} {Sb S : Stt} {Hb Hs H : Hp} {acc : List PV} {K : List PV → Stt → Prop} {Nx : Hp → Prop} {E : Exc → Stt → Prop} {x : PV} {v : V} {cont : En → M (List PV)} {rest : St → Hp → Prop} (hE : ∀ e S, ¬ E e S)
    (n : Nxt (zs X) Fb Sb Hb F S H) (sb : Sub Fs Hs F H) (hid : Hid (zs X) D F S H acc) (er : EnvR (zs X) Fs Hs env σ) (rx : Rep (zs X) F H x v) (q : (bnd (g x (wipeE env L)) fun env1 => bnd (mt env1) fun t => if t = true then cont env1 else ret acc).run S K E)
    (hk : ∀ acc' F' S' H', Nxt (zs X) Fb Sb Hb F' S' H' → Sub Fs Hs F' H' → Hid (zs X) D F' S' H' acc' → K acc' S' → Nx H')
    (hc : ∀ env1 σ1 F' S' H', Nxt (zs X) Fb Sb Hb F' S' H' → Sub Fs Hs F' H' → Hid (zs X) D F' S' H' acc → EnvR (zs X) F' H' env1 σ1 → (cont env1).run S' K E → rest σ1 H') :
    tG (zs X) wFalse L g v (wipe σ L) H fun σ2 H2 => wipe σ2 L = wipe σ L ∧ tT (zs X) wFalse mt σ2 H2 fun b H3 => if b = true then rest σ2 H3 else Nx H3 := by
  refine ⟨F, S, wipeE env L, x, (er.mono sb).wipe L, n.w, rx, (g x (wipeE env L)).mono (fun env3 S3 q3 F3 H3 σ3 n3 er3 out3 => ?_) (fun e S q => (hE e S q).elim) q⟩
  refine ⟨((Out.wipe (σ := σ)).trans out3).wipe_eq, ?_⟩
  refine ⟨F3, S3, env3, er3, n3.w, (mt env3).mono (fun t S4 q4 F4 H4 n4 => ?_) (fun e S q => (hE e S q).elim) q3⟩
  have n34 := n3.trans n4
  have sb' := sb.trans (n34.toSub n.w)
  cases t with
  | false => exact hk acc F4 S4 H4 (n.trans n34) sb' (hid.nxt n.w n34) q4
  | true => exact hc env3 σ3 F4 S4 H4 (n.trans n34) sb' (hid.nxt n.w n34) (er3.mono (n4.toSub n3.w)) q4
theorem tLc_of {L : List Nat} {mi : En → M (Src × List PV)} {g : PV → En → M En} {mt : En → M Bool} {me : En → M PV} {σ : St} {H : Hp} {F : Addr → Prop} {S : Stt} {env : En} {Q : VK} (er : EnvR (zs X) F H env σ) (w : W (zs X) F S H)
    (R : List PV → Stt → Prop) (hR : ∀ acc S' F' H' D F1 S1 H1, R acc S' → Nxt (zs X) F S H F1 S1 H1 → Nxt (zs X) F1 S1 H1 F' S' H' → H1 D = none → Hid (zs X) D F' S' H' acc → Q (.ref D) H')
    (q : (compB L mi g mt me env).run S R (Pw (zs X) F S H [] σ Wx)) : tLc (iM (zs X) Wx mi) (tG (zs X) wFalse L g) (tT (zs X) wFalse mt) (tE (zs X) wFalse me) L σ H Q := by
  refine ⟨F, S, env, er, w, (mi env).mono (fun p S1 q F1 H1 J ok n1 it o1 => ?_) (fun _ _ q => q) q⟩
  obtain ⟨src, xs⟩ := p
  intro D hD
  have nl := n1.w.layHid hD (vs := [])
  have sb0 : Sub F1 H1 F1 (upd H1 D (.lst [])) := nl.toSub n1.w
  refine comp_loop (X := X) it (D := D) (Fb := F1) (Sb := S1) (Hb := H1) (Fs := F1) (Ss := S1) (Hs := upd H1 D (.lst [])) (E := Pw (zs X) F S H [] σ Wx) (Fin := fun H' => Q (.ref D) H')
    (fun acc F' S' H' r n' _ hd => hR acc S' F' H' D F1 S1 H1 r n1 n' hD hd) (fun x v acc F' S' H' K Nx n' sb hd rx q' hk => ?_) nl ⟨n1.w.fresh_S hD, n1.w.fresh_F hD, [], upd_same, .nil⟩ (it.keep F1 S1 H1 F1 S1 _ o1 sb0 ?_) q
  · exact comp_turn (E := fun _ _ => False) (fun _ _ z => z) n' sb hd ((er.mono (n1.toSub w)).mono sb0) rx q' hk fun env1 σ1 F2 S2 H2 n2 sb2 hd2 er2 q2 => comp_leaf hD (fun _ _ z => z) n2 sb2 (n1.w.fresh_F hD) hd2 er2 q2 hk
  · cases src with
    | fix => trivial
    | own a ys => exact compM_chk (src := .own a ys) q
/-- two clauses -/
def compB2 (vs vs1 : List Nat) (mi : En → M (Src × List PV)) (g : PV → En → M En) (mt : En → M Bool) (mi1 : En → M (Src × List PV)) (g1 : PV → En → M En) (mt1 : En → M Bool) (me : En → M PV) : En → M (List PV) := fun env =>
  bnd (mi env) fun p => compM p.1 (fun x acc => noexc (bnd (g x (wipeE env vs)) fun env1 => bnd (mt env1) fun t => if t = true then
    bnd (mi1 env1) fun p1 => compM p1.1 (fun y acc => bnd (g1 y (wipeE env1 vs1)) fun env2 => bnd (mt1 env2) fun t => if t = true then bnd (me env2) fun z => app1 acc z else ret acc) p1.2 acc
    else ret acc)) p.2 []
theorem tLc2_of {L L1 : List Nat} {mi mi1 : En → M (Src × List PV)} {g g1 : PV → En → M En} {mt mt1 : En → M Bool} {me : En → M PV} {σ : St} {H : Hp} {F : Addr → Prop} {S : Stt} {env : En} {Q : VK} (er : EnvR (zs X) F H env σ) (w : W (zs X) F S H)
    (R : List PV → Stt → Prop) (hR : ∀ acc S' F' H' D F1 S1 H1, R acc S' → Nxt (zs X) F S H F1 S1 H1 → Nxt (zs X) F1 S1 H1 F' S' H' → H1 D = none → Hid (zs X) D F' S' H' acc → Q (.ref D) H')
    (q : (compB2 L L1 mi g mt mi1 g1 mt1 me env).run S R (Pw (zs X) F S H [] σ Wx)) :
    tLc2 (iM (zs X) Wx mi) (tG (zs X) wFalse L g) (tT (zs X) wFalse mt) (iM (zs X) wFalse mi1) (tG (zs X) wFalse L1 g1) (tT (zs X) wFalse mt1) (tE (zs X) wFalse me) L L1 σ H Q := by
  refine ⟨F, S, env, er, w, (mi env).mono (fun p S1 q F1 H1 J ok n1 it o1 => ?_) (fun _ _ q => q) q⟩
  obtain ⟨src, xs⟩ := p
  intro D hD
  have nl := n1.w.layHid hD (vs := [])
  have sb0 : Sub F1 H1 F1 (upd H1 D (.lst [])) := nl.toSub n1.w
  refine comp_loop (X := X) it (D := D) (Fb := F1) (Sb := S1) (Hb := H1) (Fs := F1) (Ss := S1) (Hs := upd H1 D (.lst [])) (E := Pw (zs X) F S H [] σ Wx) (Fin := fun H' => Q (.ref D) H')
    (fun acc F' S' H' r n' _ hd => hR acc S' F' H' D F1 S1 H1 r n1 n' hD hd) (fun x v acc F' S' H' K Nx n' sb hd rx q' hk => ?_) nl ⟨n1.w.fresh_S hD, n1.w.fresh_F hD, [], upd_same, .nil⟩ (it.keep F1 S1 H1 F1 S1 _ o1 sb0 ?_) q
  · refine comp_turn (E := fun _ _ => False) (fun _ _ z => z) n' sb hd ((er.mono (n1.toSub w)).mono sb0) rx q' hk fun env1 σ1 F2 S2 H2 n2 sb2 hd2 er2 q2 => ?_
    refine ⟨F2, S2, env1, er2, n2.w, (mi1 env1).mono (fun p1 S3 q3 F3 H3 J1 ok1 n3 it1 o3 => ?_) (fun e S z => z.elim) q2⟩
    obtain ⟨src1, ys⟩ := p1
    have sb3 := sb2.trans (n3.toSub n2.w)
    have nb3 := n2.trans n3
    refine comp_loop (X := X) it1 (D := D) (Fb := F1) (Sb := S1) (Hb := H1) (Fs := F3) (Ss := S3) (Hs := H3) (E := fun _ _ => False) (R := K) (Fin := Nx)
      (fun acc F' S' H' r n' sb4 hd => hk acc F' S' H' n' (sb3.trans sb4) hd r) (fun y u acc F4 S4 H4 K4 Nx4 n4 sb4 hd4 ry q4 hk4 => ?_) nb3 (hd2.nxt n2.w n3) o3 q3
    exact comp_turn (E := fun _ _ => False) (fun _ _ z => z) n4 sb4 hd4 (er2.mono (n3.toSub n2.w)) ry q4 hk4 fun env2 σ2 F5 S5 H5 n5 sb5 hd5 er5 q5 => comp_leaf hD (fun _ _ z => z) n5 sb5 ((hd2.nxt n2.w n3).f) hd5 er5 q5 hk4
  · cases src with
    | fix => trivial
    | own a ys => exact compM_chk (src := .own a ys) q

/-! ### as expressions -/
section
variable {elt tg iter tg1 iter1 : Expr} {ifs ifs1 : List Expr} {scope : Scope} {own : List (Str × Nat)} {vs1 : List Nat} {pos spos py : Pos} {mi mi1 : En → M (Src × List PV)} {g g1 : PV → En → M En} {mt mt1 : En → M Bool} {me : En → M PV} {Lx : List Nat}
/-- what the rest does with the new list -/
structure Ends1 (X : Cx) (fl : List PV → M PV) : Prop where
  ok : ∀ {σ : St} {H : Hp} {F : Addr → Prop} {S : Stt} {R : PV → Stt → Prop} {E : Exc → Stt → Prop} {acc S' F' H' D F1 S1 H1}, (fl acc).run S' R E → Nxt (zs X) F S H F1 S1 H1 → Nxt (zs X) F1 S1 H1 F' S' H' → H1 D = none → Hid (zs X) D F' S' H' acc →
    ∃ F2 S2 px, Nxt (zs X) F S H F2 S2 H' ∧ Rep (zs X) F2 H' px (.ref D) ∧ R px S2
theorem e_frz : Ends1 X freezeL := ⟨fun {σ H F S R E acc S' F' H' D F1 S1 H1} q n1 n' hD hd => by
  obtain ⟨vs, e, r⟩ := hd.ex
  have n2 := n'.adopt hD hd.s e
  exact ⟨_, _, _, n1.trans n2, .lst ⟨.inr rfl, e⟩ (r.mono ⟨fun a q => .inl q, fun a u q e _ => e⟩), q⟩⟩
theorem e_own : Ends1 X ownL := ⟨fun {σ H F S R E acc S' F' H' D F1 S1 H1} q n1 n' hD hd => by
  obtain ⟨vs, e, r⟩ := hd.ex
  have n2 := n'.adoptOwn hD hd.s hd.f e r
  exact ⟨_, _, _, n1.trans n2, .ref D, q D hd.s⟩⟩
theorem s_lc {fl : List PV → M PV} (hf : Ends1 X fl) (hc : X.calm = true) (hN : X.N.Nodup) (hi : SI X Wx tg iter mi) (ok : BlkOk X.N X.env.scope scope own)
    (hg : ∀ (s : Shared) (H : Hp) (C : Addr) (cl : List (Str × Addr)) (fp : List Addr), SG (X.blk s H scope (compEnvC scope cl C X.env) fp) wFalse (own.map (·.2)) tg g) (ht : ∀ (s : Shared) (H : Hp) (C : Addr) (cl : List (Str × Addr)) (fp : List Addr), SPT (X.blk s H scope (compEnvC scope cl C X.env) fp) wFalse ifs mt)
    (he : ∀ (s : Shared) (H : Hp) (C : Addr) (cl : List (Str × Addr)) (fp : List Addr), SE (X.blk s H scope (compEnvC scope cl C X.env) fp) wFalse elt me) (hs : ∀ x, foldedSetIterable iter X.env x = pure x) :
    SE X Wx (.ListComp elt [⟨tg, iter, ifs, 0⟩] scope pos) (fun env => bnd (compB (own.map (·.2)) mi g mt me env) fl) :=
  ⟨fun pins s σ H Q I ⟨F, S, env, er, w, q⟩ => (pe_lc (pos := pos) (g := tG (zs X) wFalse (List.map (fun (p : Str × Nat) => p.2) own) g) (tt := tT (zs X) wFalse mt) (te := tE (zs X) wFalse me) hc hN hi ok hg ht he hs).run pins s σ H Q I (tLc_of er w (fun acc S' => (fl acc).run S' (Pv (zs X) F S H Q) (Pw (zs X) F S H [] σ Wx)) (fun acc S' F' H' D F1 S1 H1 r n1 n' hD hd => by
    obtain ⟨F2, S2, px, n2, rp, q⟩ := hf.ok (σ := σ) r n1 n' hD hd
    exact q F2 H' _ n2 rp) q)⟩
theorem c_setLc {fl : List PV → M PV} {i : Nat} {y : Str} (hf : Ends1 X fl) (hc : X.calm = true) (hN : X.N.Nodup) (hy : X.N[i]? = some y) (hyl : X.env.scope.names.lookup y = some .local) (hL : i ∈ Lx)
    (hsw : swapsWith (.ListComp elt [⟨tg, iter, ifs, 0⟩] scope pos) (some (.Name y py)) spos.line X.env = pure true) (hi : SI X Wx tg iter mi) (ok : BlkOk X.N X.env.scope scope own)
    (hg : ∀ (s : Shared) (H : Hp) (C : Addr) (cl : List (Str × Addr)) (fp : List Addr), SG (X.blk s H scope (compEnvC scope cl C X.env) fp) wFalse (own.map (·.2)) tg g) (ht : ∀ (s : Shared) (H : Hp) (C : Addr) (cl : List (Str × Addr)) (fp : List Addr), SPT (X.blk s H scope (compEnvC scope cl C X.env) fp) wFalse ifs mt)
    (he : ∀ (s : Shared) (H : Hp) (C : Addr) (cl : List (Str × Addr)) (fp : List Addr), SE (X.blk s H scope (compEnvC scope cl C X.env) fp) wFalse elt me) (hs : ∀ x, foldedSetIterable iter X.env x = pure x) :
    SS X Wx Lx (.Assign [.Name y py] (.ListComp elt [⟨tg, iter, ifs, 0⟩] scope pos) spos) (asgn (fun env => bnd (compB (own.map (·.2)) mi g mt me env) fl) (setv i)) :=
  .of (ps_setLc (g := tG (zs X) wFalse (List.map (fun (p : Str × Nat) => p.2) own) g) (tt := tT (zs X) wFalse mt) (te := tE (zs X) wFalse me) hc hN hy hyl hsw hi ok hg ht he hs) fun D σ H F S env er w q => tLc_of (Q := fun x H1 => gName i x σ H1 D.nx) er w (fun acc S' => (fl acc).run S' (fun v S1 => Pe (zs X) F S H Lx σ D.nx (env.set i (some v)) S1) (Pw (zs X) F S H Lx σ Wx)) (fun acc S' F' H' D' F1 S1 H1 r n1 n' hD hd => by
    obtain ⟨F2, S2, px, n2, rp, q⟩ := hf.ok (σ := σ) r n1 n' hD hd
    exact q F2 H' _ n2 ((er.mono (n2.toSub w)).set i rp) (Out.set hL)) ((compB _ mi g mt me env).mono (fun _ _ q => q) (fun _ _ q => Pw.sub nil_sub q) q)
theorem s_lc2 {fl : List PV → M PV} (hf : Ends1 X fl) (hc : X.calm = true) (hN : X.N.Nodup) (hi : SI X Wx tg iter mi) (ok : BlkOk X.N X.env.scope scope own) (hv : ∀ i ∈ vs1, i ∈ own.map (·.2))
    (hg : ∀ (s : Shared) (H : Hp) (C : Addr) (cl : List (Str × Addr)) (fp : List Addr), SG (X.blk s H scope (compEnvC scope cl C X.env) fp) wFalse (own.map (·.2)) tg g) (ht : ∀ (s : Shared) (H : Hp) (C : Addr) (cl : List (Str × Addr)) (fp : List Addr), SPT (X.blk s H scope (compEnvC scope cl C X.env) fp) wFalse ifs mt)
    (hi1 : ∀ (s : Shared) (H : Hp) (C : Addr) (cl : List (Str × Addr)) (fp : List Addr), SI (X.blk s H scope (compEnvC scope cl C X.env) fp) wFalse tg1 iter1 mi1)
    (hg1 : ∀ (s : Shared) (H : Hp) (C : Addr) (cl : List (Str × Addr)) (fp : List Addr), SG (X.blk s H scope (compEnvC scope cl C X.env) fp) wFalse vs1 tg1 g1) (ht1 : ∀ (s : Shared) (H : Hp) (C : Addr) (cl : List (Str × Addr)) (fp : List Addr), SPT (X.blk s H scope (compEnvC scope cl C X.env) fp) wFalse ifs1 mt1)
    (he : ∀ (s : Shared) (H : Hp) (C : Addr) (cl : List (Str × Addr)) (fp : List Addr), SE (X.blk s H scope (compEnvC scope cl C X.env) fp) wFalse elt me) (hs : ∀ x, foldedSetIterable iter X.env x = pure x) (hs1 : ∀ env x, foldedSetIterable iter1 env x = pure x) :
    SE X Wx (.ListComp elt [⟨tg, iter, ifs, 0⟩, ⟨tg1, iter1, ifs1, 0⟩] scope pos) (fun env => bnd (compB2 (own.map (·.2)) vs1 mi g mt mi1 g1 mt1 me env) fl) :=
  ⟨fun pins s σ H Q I ⟨F, S, env, er, w, q⟩ => (pe_lc2 (pos := pos) (g := tG (zs X) wFalse (List.map (fun (p : Str × Nat) => p.2) own) g) (tt := tT (zs X) wFalse mt) (wi1 := iM (zs X) wFalse mi1) (g1 := tG (zs X) wFalse vs1 g1) (tt1 := tT (zs X) wFalse mt1) (te := tE (zs X) wFalse me) hc hN hi ok hv hg ht hi1 hg1 ht1 he hs hs1).run pins s σ H Q I (tLc2_of er w (fun acc S' => (fl acc).run S' (Pv (zs X) F S H Q) (Pw (zs X) F S H [] σ Wx)) (fun acc S' F' H' D F1 S1 H1 r n1 n' hD hd => by
    obtain ⟨F2, S2, px, n2, rp, q⟩ := hf.ok (σ := σ) r n1 n' hD hd
    exact q F2 H' _ n2 rp) q)⟩
theorem c_setLc2 {fl : List PV → M PV} {i : Nat} {y : Str} (hf : Ends1 X fl) (hc : X.calm = true) (hN : X.N.Nodup) (hy : X.N[i]? = some y) (hyl : X.env.scope.names.lookup y = some .local) (hL : i ∈ Lx)
    (hsw : swapsWith (.ListComp elt [⟨tg, iter, ifs, 0⟩, ⟨tg1, iter1, ifs1, 0⟩] scope pos) (some (.Name y py)) spos.line X.env = pure true) (hi : SI X Wx tg iter mi) (ok : BlkOk X.N X.env.scope scope own) (hv : ∀ i ∈ vs1, i ∈ own.map (·.2))
    (hg : ∀ (s : Shared) (H : Hp) (C : Addr) (cl : List (Str × Addr)) (fp : List Addr), SG (X.blk s H scope (compEnvC scope cl C X.env) fp) wFalse (own.map (·.2)) tg g) (ht : ∀ (s : Shared) (H : Hp) (C : Addr) (cl : List (Str × Addr)) (fp : List Addr), SPT (X.blk s H scope (compEnvC scope cl C X.env) fp) wFalse ifs mt)
    (hi1 : ∀ (s : Shared) (H : Hp) (C : Addr) (cl : List (Str × Addr)) (fp : List Addr), SI (X.blk s H scope (compEnvC scope cl C X.env) fp) wFalse tg1 iter1 mi1)
    (hg1 : ∀ (s : Shared) (H : Hp) (C : Addr) (cl : List (Str × Addr)) (fp : List Addr), SG (X.blk s H scope (compEnvC scope cl C X.env) fp) wFalse vs1 tg1 g1) (ht1 : ∀ (s : Shared) (H : Hp) (C : Addr) (cl : List (Str × Addr)) (fp : List Addr), SPT (X.blk s H scope (compEnvC scope cl C X.env) fp) wFalse ifs1 mt1)
    (he : ∀ (s : Shared) (H : Hp) (C : Addr) (cl : List (Str × Addr)) (fp : List Addr), SE (X.blk s H scope (compEnvC scope cl C X.env) fp) wFalse elt me) (hs : ∀ x, foldedSetIterable iter X.env x = pure x) (hs1 : ∀ env x, foldedSetIterable iter1 env x = pure x) :
    SS X Wx Lx (.Assign [.Name y py] (.ListComp elt [⟨tg, iter, ifs, 0⟩, ⟨tg1, iter1, ifs1, 0⟩] scope pos) spos) (asgn (fun env => bnd (compB2 (own.map (·.2)) vs1 mi g mt mi1 g1 mt1 me env) fl) (setv i)) :=
  .of (ps_setLc2 (g := tG (zs X) wFalse (List.map (fun (p : Str × Nat) => p.2) own) g) (tt := tT (zs X) wFalse mt) (wi1 := iM (zs X) wFalse mi1) (g1 := tG (zs X) wFalse vs1 g1) (tt1 := tT (zs X) wFalse mt1) (te := tE (zs X) wFalse me) hc hN hy hyl hsw hi ok hv hg ht hi1 hg1 ht1 he hs hs1) fun D σ H F S env er w q => tLc2_of (Q := fun x H1 => gName i x σ H1 D.nx) er w (fun acc S' => (fl acc).run S' (fun v S1 => Pe (zs X) F S H Lx σ D.nx (env.set i (some v)) S1) (Pw (zs X) F S H Lx σ Wx)) (fun acc S' F' H' D' F1 S1 H1 r n1 n' hD hd => by
    obtain ⟨F2, S2, px, n2, rp, q⟩ := hf.ok (σ := σ) r n1 n' hD hd
    exact q F2 H' _ n2 ((er.mono (n2.toSub w)).set i rp) (Out.set hL)) ((compB2 _ _ mi g mt mi1 g1 mt1 me env).mono (fun _ _ q => q) (fun _ _ q => Pw.sub nil_sub q) q)
end
end
end Dp

namespace Dp
open PySem PySem.Spec L2
open PyProof.Rows hiding St

/-! ### built-in functions -/
def tyName : PV → Option String
  | .non => some "NoneType"
  | .bl _ => some "bool"
  | .int _ => some "int"
  | .str _ => some "str"
  | .tup _ => some "tuple"
  | .lst _ => some "list"
  | .loc _ => some "list"
  | _ => none
def isiNames : List String := ["int", "bool", "str", "tuple", "list"]
def isiB (t n : String) : Bool := t == n || (t == "bool" && n == "int")
theorem isiB_ok {t n : String} (ht : t ∈ ["NoneType", "bool", "int", "str", "tuple", "list"]) (hn : n ∈ isiNames) : kitB t n = some (isiB t n) := by
  revert t n
  have : ∀ t ∈ ["NoneType", "bool", "int", "str", "tuple", "list"], ∀ n ∈ isiNames, kitB t n = some (isiB t n) := by decide +kernel
  exact fun {t n} h1 h2 => this t h1 n h2
theorem tyName_mem {x : PV} {t : String} (h : tyName x = some t) : t ∈ ["NoneType", "bool", "int", "str", "tuple", "list"] := by
  cases x <;> simp [tyName] at h <;> subst h <;> decide
def vIsi : List PV → M PV
  | [x, .ty n] => bnd (deref x) fun x => match tyName x with
    | some t => bnd (guard (n ∈ isiNames)) fun _ => ret (.bl (isiB t n))
    | none => stuck
  | _ => stuck
def vAbs : List PV → M PV
  | [.int i] => ret (.int (if i < 0 then -i else i))
  | _ => stuck
def intsOf : List PV → Option (List Int)
  | [] => some []
  | .int i :: xs => (intsOf xs).map (i :: ·)
  | _ => none
def blsOf : List PV → Option (List Bool)
  | [] => some []
  | .bl b :: xs => (blsOf xs).map (b :: ·)
  | _ => none
def maxL : List Int → Int
  | [] => 0
  | [x] => x
  | x :: xs => max x (maxL xs)
def minL : List Int → Int
  | [] => 0
  | [x] => x
  | x :: xs => min x (minL xs)
def vMax : List PV → M PV
  | [.int a, .int b] => ret (.int (max a b))
  | [.int a, .int b, .int c] => ret (.int (max a (max b c)))
  | [x] => bnd (deref x) fun x => match x with
    | .lst xs => bnd (ofO (intsOf xs)) fun ns => bnd (guard (0 < ns.length)) fun _ => ret (.int (maxL ns))
    | _ => stuck
  | _ => stuck
def vMin : List PV → M PV
  | [.int a, .int b] => ret (.int (min a b))
  | [.int a, .int b, .int c] => ret (.int (min a (min b c)))
  | [x] => bnd (deref x) fun x => match x with
    | .lst xs => bnd (ofO (intsOf xs)) fun ns => bnd (guard (0 < ns.length)) fun _ => ret (.int (minL ns))
    | _ => stuck
  | _ => stuck
def vSum : List PV → M PV
  | [x] => bnd (deref x) fun x => match x with
    | .lst xs => bnd (ofO (intsOf xs)) fun ns => ret (.int ns.sum)
    | _ => stuck
  | _ => stuck
def vAll : List PV → M PV
  | [x] => bnd (deref x) fun x => match x with
    | .lst xs => bnd (ofO (blsOf xs)) fun bs => ret (.bl (bs.all id))
    | _ => stuck
  | _ => stuck
def vAny : List PV → M PV
  | [x] => bnd (deref x) fun x => match x with
    | .lst xs => bnd (ofO (blsOf xs)) fun bs => ret (.bl (bs.any id))
    | _ => stuck
  | _ => stuck
def vLenL : List PV → M PV
  | [x] => vLen x
  | _ => stuck
def vDivmod : List PV → M PV
  | [.int a, .int b] => bnd (guard (CDivP a b)) fun _ => ret (.tup [.int (a / b), .int (a % b)])
  | _ => stuck
def vTupT : List PV → M PV
  | [x] => bnd (deref x) fun x => match x with
    | .tup xs => ret (.tup xs)
    | .lst xs => ret (.tup xs)
    | .loc xs => ret (.tup xs)
    | _ => stuck
  | _ => stuck
def vLstT : List PV → M PV
  | [x] => bnd (deref x) fun x => match x with
    | .tup xs => ret (.lst xs)
    | .lst xs => ret (.lst xs)
    | .loc xs => ret (.lst xs)
    | _ => stuck
  | _ => stuck
def vIntT : List PV → M PV
  | [.int a] => ret (.int a)
  | [.bl k] => ret (.int (if k then 1 else 0))
  | _ => stuck
def vStrT : List PV → M PV
  | [.int i] => bnd (guard (i.natAbs.log2 < 1920)) fun _ => ret (.str (Str.ofString (toString i)))
  | _ => stuck

section
variable {X : Cx} {Wx : WX} {Z : Zs} {F : Addr → Prop} {S : Stt} {H : Hp}
theorem RepL.ints : ∀ {xs : List PV} {ns : List Int} {vs : List V}, intsOf xs = some ns → RepL Z F H xs vs → vs = ns.map V.int
  | [], ns, _, h, .nil => by simp [intsOf] at h; subst h; rfl
  | x :: xs, ns, _, h, .cons r t => by
    cases x with
    | int i =>
      unfold intsOf at h
      cases e : intsOf xs with
      | none => rw [e] at h; cases h
      | some ms =>
        rw [e] at h
        cases h
        cases r
        rw [RepL.ints e t]; rfl
    | _ => cases h
theorem RepL.bls : ∀ {xs : List PV} {ns : List Bool} {vs : List V}, blsOf xs = some ns → RepL Z F H xs vs → vs = ns.map V.bl
  | [], ns, _, h, .nil => by simp [blsOf] at h; subst h; rfl
  | x :: xs, ns, _, h, .cons r t => by
    cases x with
    | bl i =>
      unfold blsOf at h
      cases e : blsOf xs with
      | none => rw [e] at h; cases h
      | some ms =>
        rw [e] at h
        cases h
        cases r
        rw [RepL.bls e t]; rfl
    | _ => cases h
theorem ofO_run {α : Type} {o : Option α} {S Q E} (h : (ofO o).run S Q E) : ∃ a, o = some a ∧ Q a S := by
  cases o with
  | none => exact h.elim
  | some a => exact ⟨a, rfl, h⟩
theorem maxL_mem : ∀ {ns : List Int}, 0 < ns.length → maxL ns ∈ ns ∧ ∀ y ∈ ns, y ≤ maxL ns
  | [x], _ => by simp [maxL]
  | x :: y :: r, _ => by
    obtain ⟨h1, h2⟩ := maxL_mem (ns := y :: r) (by simp)
    simp only [maxL]
    refine ⟨?_, fun z hz => ?_⟩
    · by_cases h : x ≤ maxL (y :: r)
      · rw [Int.max_eq_right h]; exact List.mem_cons_of_mem _ h1
      · rw [Int.max_eq_left (by omega)]; exact List.mem_cons_self
    · rcases List.mem_cons.mp hz with rfl | hz
      · exact Int.le_max_left _ _
      · exact Int.le_trans (h2 z hz) (Int.le_max_right _ _)
theorem minL_mem : ∀ {ns : List Int}, 0 < ns.length → minL ns ∈ ns ∧ ∀ y ∈ ns, minL ns ≤ y
  | [x], _ => by simp [minL]
  | x :: y :: r, _ => by
    obtain ⟨h1, h2⟩ := minL_mem (ns := y :: r) (by simp)
    simp only [minL]
    refine ⟨?_, fun z hz => ?_⟩
    · by_cases h : x ≤ minL (y :: r)
      · rw [Int.min_eq_left h]; exact List.mem_cons_self
      · rw [Int.min_eq_right (by omega)]; exact List.mem_cons_of_mem _ h1
    · rcases List.mem_cons.mp hz with rfl | hz
      · exact Int.min_le_left _ _
      · exact Int.le_trans (Int.min_le_right _ _) (h2 z hz)
theorem rep1 {ps : List PV} {xs : List V} {x : PV} (r : RepL Z F H ps xs) (e : ps = [x]) : ∃ v, xs = [v] ∧ Rep Z F H x v := by
  subst e
  cases r with
  | cons r t => cases t; exact ⟨_, rfl, r⟩
theorem TyX_of (w : W (zs X) F S H) {px py : PV} {x : V} {t : String} (r : RepD (zs X) F H py x) (h : tyName py = some t) : TyX X.K H x (.type t) := by
  cases py with
  | non => cases h; cases r.rep (fun xs e => nomatch e); exact .base .non
  | bl b => cases h; cases r.rep (fun xs e => nomatch e); exact .base (.bl b)
  | int i => cases h; cases r.rep (fun xs e => nomatch e); exact .base (.int i)
  | str z => cases h; cases r.rep (fun xs e => nomatch e); exact .base (.str z)
  | tup xs =>
    cases h
    cases r.rep (fun xs e => nomatch e) with
    | tup t rl =>
      rcases t with ⟨_, t | ⟨o, t⟩⟩ | ⟨o, its, n, t, c, _⟩
      · exact .base (.tup t)
      · exact .fTuple t
      · exact .kTuple t c
  | lst xs =>
    cases h
    obtain ⟨a, vs, rfl, h, rl⟩ := r.lst
    exact .base (.lst h)
  | loc xs =>
    cases h
    cases r.rep (fun xs e => nomatch e) with
    | loc t rl =>
      rcases t with ⟨_, t | ⟨o, t⟩⟩ | ⟨o, its, n, t, c, _⟩
      · exact .base (.lst t)
      · exact .base (.frz t)
      · exact .kList t c
  | _ => cases h
theorem o_isi : OpN X Wx (fun us => call (.builtin "isinstance") us) vIsi := .of call_isi fun xs H Q F S ps E w r q => by
  match ps, xs, r with
  | [px, .ty n], [x, _], .cons r1 (.cons (.ty _) .nil) =>
    obtain ⟨py, rd, q⟩ := deref_ok w r1 q
    cases e : tyName py with
    | none => simp only [e] at q; exact q.elim
    | some t =>
      simp only [e] at q
      obtain ⟨hn, q⟩ := q
      exact ⟨x, .ty n, .type t, .type n, _, rfl, .ty n, TyX_of (px := px) w rd e, kit_ty (isiB_ok (tyName_mem e) hn), q F H _ (Nxt.refl w) (.bl _)⟩
  | [_, .non], _, _ => exact q.elim
  | [_, .bl _], _, _ => exact q.elim
  | [_, .int _], _, _ => exact q.elim
  | [_, .str _], _, _ => exact q.elim
  | [_, .tup _], _, _ => exact q.elim
  | [_, .lst _], _, _ => exact q.elim
  | [_, .loc _], _, _ => exact q.elim
  | [_, .ref _], _, _ => exact q.elim
  | [_, .fn _], _, _ => exact q.elim
  | [], _, _ => exact q.elim
  | [_], _, _ => exact q.elim
  | _ :: y :: _ :: _, _, _ => cases y <;> exact q.elim
theorem o_len : OpN X Wx (fun us => call (.builtin "len") us) vLenL := .of call_len fun xs H Q F S ps E w r q => by
  match ps, xs, r with
  | [px], [x], .cons r1 .nil =>
    obtain ⟨n, h1, h2⟩ := lenV_of w r1 q
    exact ⟨x, n, rfl, h1, h2⟩
  | [], _, _ => exact q.elim
  | _ :: _ :: _, _, _ => exact q.elim
theorem o_abs : OpN X Wx (fun us => call (.builtin "abs") us) vAbs := .of call_abs fun xs H Q F S ps E w r q => by
  unfold vAbs at q
  split at q
  · cases r with
    | cons r1 t => cases t; cases r1; exact ⟨_, rfl, q F H _ (Nxt.refl w) (.int _)⟩
  · exact q.elim
theorem o_int : OpN X Wx (fun us => call (.type "int") us) vIntT := .of call_int1 fun xs H Q F S ps E w r q => by
  unfold vIntT at q
  split at q
  · cases r with
    | cons r1 t => cases t; cases r1; exact .inl ⟨_, rfl, q F H _ (Nxt.refl w) (.int _)⟩
  · cases r with
    | cons r1 t => cases t; cases r1; exact .inr ⟨_, rfl, q F H _ (Nxt.refl w) (.int _)⟩
  · exact q.elim
theorem o_str : OpN X Wx (fun us => call (.type "str") us) vStrT := .of call_str_int fun xs H Q F S ps E w r q => by
  unfold vStrT at q
  split at q
  · cases r with
    | cons r1 t => cases t; cases r1; exact ⟨_, rfl, q.1, q.2 F H _ (Nxt.refl w) (.str _)⟩
  · exact q.elim
theorem o_divmod : OpN X Wx (fun us => call (.builtin "divmod") us) vDivmod := .of call_divmodW fun xs H Q F S ps E w r q => by
  unfold vDivmod at q
  split at q
  · cases r with
    | cons r1 t =>
      cases t with
      | cons r2 t =>
        cases t; cases r1; cases r2
        exact ⟨_, _, rfl, q.1, fun p hp => lay_tup (Nxt.refl w) (.cons (.int _) (.cons (.int _) .nil)) q.2 hp⟩
  · exact q.elim
theorem o_tup : OpN X Wx (fun us => call (.type "tuple") us) vTupT := .of call_tuple_of fun xs H Q F S ps E w r q => by
  match ps, xs, r with
  | [px], [x], .cons r1 .nil =>
    obtain ⟨py, rd, q⟩ := deref_ok w r1 q
    cases py with
    | tup ys =>
      cases rd.rep (fun xs e => nomatch e) with
      | @tup a _ vs t rl => exact ⟨_, _, rfl, .inr ⟨t.sq, q F H _ (Nxt.refl w) (.tup t rl)⟩⟩
    | lst ys =>
      obtain ⟨a, vs, rfl, h, rl⟩ := rd.lst
      exact ⟨_, _, rfl, .inl ⟨.of h, fun p hp => lay_tup (Nxt.refl w) rl q hp⟩⟩
    | loc ys =>
      cases rd.rep (fun xs e => nomatch e) with
      | @loc a _ vs t rl => exact ⟨_, _, rfl, .inl ⟨t.sq, fun p hp => lay_tup (Nxt.refl w) rl q hp⟩⟩
    | _ => exact q.elim
  | [], _, _ => exact q.elim
  | _ :: _ :: _, _, _ => exact q.elim
theorem o_lst : OpN X Wx (fun us => call (.type "list") us) vLstT := .of call_list_of fun xs H Q F S ps E w r q => by
  match ps, xs, r with
  | [px], [x], .cons r1 .nil =>
    obtain ⟨py, rd, q⟩ := deref_ok w r1 q
    cases py with
    | tup ys =>
      cases rd.rep (fun xs e => nomatch e) with
      | @tup a _ vs t rl => exact ⟨_, _, rfl, .inr t.sq, fun p hp => lay_lst (Nxt.refl w) rl q hp⟩
    | lst ys =>
      obtain ⟨a, vs, rfl, h, rl⟩ := rd.lst
      exact ⟨_, _, rfl, .inl (.of h), fun p hp => lay_lst (Nxt.refl w) rl q hp⟩
    | loc ys =>
      cases rd.rep (fun xs e => nomatch e) with
      | @loc a _ vs t rl => exact ⟨_, _, rfl, .inl t.sq, fun p hp => lay_lst (Nxt.refl w) rl q hp⟩
    | _ => exact q.elim
  | [], _, _ => exact q.elim
  | _ :: _ :: _, _, _ => exact q.elim
theorem o_all (hc : X.calm = true) : OpN X Wx (fun us => call (.builtin "all") us) vAll := .of (cr_all hc) fun xs H Q F S ps E w r q => by
  match ps, xs, r with
  | [px], [x], .cons r1 .nil =>
    obtain ⟨py, rd, q⟩ := deref_ok w r1 q
    cases py with
    | lst ys =>
      obtain ⟨a, vs, rfl, h, rl⟩ := rd.lst
      obtain ⟨bs, e, q⟩ := ofO_run q
      have := rl.bls e
      subst this
      exact ⟨a, bs, rfl, .of h, q F H _ (Nxt.refl w) (.bl _)⟩
    | _ => exact q.elim
  | [], _, _ => exact q.elim
  | _ :: _ :: _, _, _ => exact q.elim
theorem o_any (hc : X.calm = true) : OpN X Wx (fun us => call (.builtin "any") us) vAny := .of (cr_any hc) fun xs H Q F S ps E w r q => by
  match ps, xs, r with
  | [px], [x], .cons r1 .nil =>
    obtain ⟨py, rd, q⟩ := deref_ok w r1 q
    cases py with
    | lst ys =>
      obtain ⟨a, vs, rfl, h, rl⟩ := rd.lst
      obtain ⟨bs, e, q⟩ := ofO_run q
      have := rl.bls e
      subst this
      exact ⟨a, bs, rfl, .of h, q F H _ (Nxt.refl w) (.bl _)⟩
    | _ => exact q.elim
  | [], _, _ => exact q.elim
  | _ :: _ :: _, _, _ => exact q.elim
theorem o_sum (hc : X.calm = true) : OpN X Wx (fun us => call (.builtin "sum") us) vSum := .of (cr_sum hc) fun xs H Q F S ps E w r q => by
  match ps, xs, r with
  | [px], [x], .cons r1 .nil =>
    obtain ⟨py, rd, q⟩ := deref_ok w r1 q
    cases py with
    | lst ys =>
      obtain ⟨a, vs, rfl, h, rl⟩ := rd.lst
      obtain ⟨bs, e, q⟩ := ofO_run q
      have := rl.ints e
      subst this
      exact ⟨a, bs, rfl, .of h, q F H _ (Nxt.refl w) (.int _)⟩
    | _ => exact q.elim
  | [], _, _ => exact q.elim
  | _ :: _ :: _, _, _ => exact q.elim
theorem CallR.or {f : Value} {r r' : List V → Hp → VK → Prop} (h : CallR X f r) (h' : CallR X f r') : CallR X f (fun xs H Q => r xs H Q ∨ r' xs H Q) :=
  fun pins s σ H xs us Q I rx q => q.elim (h pins s σ H xs us Q I rx) (h' pins s σ H xs us Q I rx)
theorem vals3' {x y z : V} {us : List Value} (r : Vals [x, y, z] us) : ∃ u v t, us = [u, v, t] ∧ RelV x u ∧ RelV y v ∧ RelV z t := by
  cases r with
  | cons r1 t => cases t with
    | cons r2 t => cases t with
      | cons r3 t => cases t; exact ⟨_, _, _, rfl, r1, r2, r3⟩
theorem call_max3 (hc : X.calm = true) : CallR X (.builtin "max") (fun xs H Q => ∃ i j k, xs = [.int i, .int j, .int k] ∧ Q (.int (max i (max j k))) H) := by
  intro pins s σ H xs us Q I r h
  obtain ⟨i, j, k, rfl, q⟩ := h
  obtain ⟨u1, u2, u3, rfl, ⟨t1, rfl⟩, ⟨t2, rfl⟩, ⟨t3, rfl⟩⟩ := vals3' r
  refine max_three_ints (I.ok.hd hc) fun h' tk hk => ⟨.int (max i (max j k)), H, I.kept hk, ?_, q⟩
  have e : ∀ {a b : Int} {t t' : Tok}, a = b → RelV (.int a) (.int b t) := fun {a b t t'} e => ⟨t, by rw [e]⟩
  split
  · split
    · exact e (t' := t1) (by omega)
    · exact e (t' := t1) (by omega)
  · split
    · exact e (t' := t1) (by omega)
    · exact e (t' := t1) (by omega)
theorem call_min3 (hc : X.calm = true) : CallR X (.builtin "min") (fun xs H Q => ∃ i j k, xs = [.int i, .int j, .int k] ∧ Q (.int (min i (min j k))) H) := by
  intro pins s σ H xs us Q I r h
  obtain ⟨i, j, k, rfl, q⟩ := h
  obtain ⟨u1, u2, u3, rfl, ⟨t1, rfl⟩, ⟨t2, rfl⟩, ⟨t3, rfl⟩⟩ := vals3' r
  refine min_three_ints (I.ok.hd hc) fun h' tk hk => ⟨.int (min i (min j k)), H, I.kept hk, ?_, q⟩
  have e : ∀ {a b : Int} {t t' : Tok}, a = b → RelV (.int a) (.int b t) := fun {a b t t'} e => ⟨t, by rw [e]⟩
  split
  · split
    · exact e (t' := t1) (by omega)
    · exact e (t' := t1) (by omega)
  · split
    · exact e (t' := t1) (by omega)
    · exact e (t' := t1) (by omega)
theorem o_max (hc : X.calm = true) : OpN X Wx (fun us => call (.builtin "max") us) vMax := .of (((call_max2 hc).or (call_max3 hc)).or (cr_max hc)) fun xs H Q F S ps E w r q => by
  unfold vMax at q
  split at q
  · rename_i a b
    cases r with
    | cons r1 t => cases t with
      | cons r2 t =>
        cases t; cases r1; cases r2
        refine .inl (.inl ⟨a, b, rfl, ?_⟩)
        have e : (if b > a then b else a) = max a b := by split <;> omega
        rw [e]; exact q F H _ (Nxt.refl w) (.int _)
  · rename_i a b c
    cases r with
    | cons r1 t => cases t with
      | cons r2 t => cases t with
        | cons r3 t =>
          cases t; cases r1; cases r2; cases r3
          exact .inl (.inr ⟨a, b, c, rfl, q F H _ (Nxt.refl w) (.int _)⟩)
  · cases r with
    | cons r1 t =>
      cases t
      obtain ⟨py, rd, q⟩ := deref_ok w r1 q
      cases py with
      | lst ys =>
        obtain ⟨a, vs, rfl, h, rl⟩ := rd.lst
        obtain ⟨ns, e, hl, q⟩ := ofO_run q
        have := rl.ints e
        subst this
        refine .inr ⟨a, ns, rfl, .of h, hl, fun m h1 h2 => ?_⟩
        obtain ⟨h3, h4⟩ := maxL_mem hl
        have : m = maxL ns := Int.le_antisymm (h4 m h1) (h2 _ h3)
        rw [this]; exact q F H _ (Nxt.refl w) (.int _)
      | _ => exact q.elim
  · exact q.elim
theorem o_min (hc : X.calm = true) : OpN X Wx (fun us => call (.builtin "min") us) vMin := .of (((call_min2 hc).or (call_min3 hc)).or (cr_min hc)) fun xs H Q F S ps E w r q => by
  unfold vMin at q
  split at q
  · rename_i a b
    cases r with
    | cons r1 t => cases t with
      | cons r2 t =>
        cases t; cases r1; cases r2
        refine .inl (.inl ⟨a, b, rfl, ?_⟩)
        have e : (if b < a then b else a) = min a b := by split <;> omega
        rw [e]; exact q F H _ (Nxt.refl w) (.int _)
  · rename_i a b c
    cases r with
    | cons r1 t => cases t with
      | cons r2 t => cases t with
        | cons r3 t =>
          cases t; cases r1; cases r2; cases r3
          exact .inl (.inr ⟨a, b, c, rfl, q F H _ (Nxt.refl w) (.int _)⟩)
  · cases r with
    | cons r1 t =>
      cases t
      obtain ⟨py, rd, q⟩ := deref_ok w r1 q
      cases py with
      | lst ys =>
        obtain ⟨a, vs, rfl, h, rl⟩ := rd.lst
        obtain ⟨ns, e, hl, q⟩ := ofO_run q
        have := rl.ints e
        subst this
        refine .inr ⟨a, ns, rfl, .of h, hl, fun m h1 h2 => ?_⟩
        obtain ⟨h3, h4⟩ := minL_mem hl
        have : m = minL ns := Int.le_antisymm (h2 _ h3) (h4 m h1)
        rw [this]; exact q F H _ (Nxt.refl w) (.int _)
      | _ => exact q.elim
  · exact q.elim

/-! ### methods -/
/-- xs.append(y), xs owned -/
def vAppend : PV → List PV → M PV
  | .ref a, [y] => ⟨fun S Q _ => ∃ xs, S a = some (.lst xs) ∧ xs.length < sizeLine ∧ Q .non (put S a (.lst (xs ++ [y]))), fun h _ ⟨xs, e, l, q⟩ => ⟨xs, e, l, h _ _ q⟩⟩
  | _, _ => stuck
def vExtend : PV → List PV → M PV
  | .ref a, [y] => bnd (deref y) fun y => match y with
    | .lst ys => ⟨fun S Q _ => ∃ xs, S a = some (.lst xs) ∧ xs.length + ys.length ≤ sizeLine ∧ Q .non (put S a (.lst (xs ++ ys))), fun h _ ⟨xs, e, l, q⟩ => ⟨xs, e, l, h _ _ q⟩⟩
    | _ => stuck
  | _, _ => stuck
def vPop : PV → List PV → M PV
  | .ref a, [] => ⟨fun S Q _ => ∃ xs y, S a = some (.lst xs) ∧ xs[xs.length - 1]? = some y ∧ Q y (put S a (.lst xs.dropLast)), fun h _ ⟨xs, y, e, l, q⟩ => ⟨xs, y, e, l, h _ _ q⟩⟩
  | _, _ => stuck
/-- the first place of a value -/
def findP (y : PV) : List PV → Option Nat
  | [] => none
  | x :: xs => if PV.eqv x y = true then some 0 else (findP y xs).map (· + 1)
def vIndex : PV → List PV → M PV
  | x, [y] => bnd (deref x) fun x => match x with
    | .lst xs => bnd (guard (fine2 y (.lst xs))) fun _ => bnd (ofO (findP y xs)) fun j => ret (.int j)
    | _ => stuck
  | _, _ => stuck
theorem findP_ok {y : PV} : ∀ {xs : List PV} {j : Nat}, findP y xs = some j → (∃ z, xs[j]? = some z ∧ PV.eqv z y = true) ∧ ∀ m z, m < j → xs[m]? = some z → PV.eqv z y = false
  | [], _, h => by simp [findP] at h
  | x :: xs, j, h => by
    unfold findP at h
    split at h
    · cases h
      rename_i e
      exact ⟨⟨x, rfl, e⟩, fun m z hm => absurd hm (Nat.not_lt_zero m)⟩
    · rename_i e
      cases e2 : findP y xs with
      | none => rw [e2] at h; cases h
      | some k =>
        rw [e2] at h
        cases h
        obtain ⟨⟨z, h1, h2⟩, h3⟩ := findP_ok e2
        refine ⟨⟨z, by simpa using h1, h2⟩, fun m z hm hz => ?_⟩
        cases m with
        | zero => simp at hz; subst hz; simpa using e
        | succ m => exact h3 m z (Nat.lt_of_succ_lt_succ hm) (by simpa using hz)
theorem OpM.of {id : String} {m : PV → List PV → M PV} {r : V → List V → Hp → VK → Prop} (ho : MtR X id r)
    (h : ∀ (x : V) (xs : List V) (H : Hp) (Q : VK) (F : Addr → Prop) (S : Stt) (px : PV) (ps : List PV) (E : Exc → Stt → Prop), W (zs X) F S H → Rep (zs X) F H px x → RepL (zs X) F H ps xs → (m px ps).run S (Pv (zs X) F S H Q) E → r x xs H Q) : OpM X Wx id m :=
  fun pins s σ H x xs v us Q F S px ps I rx rxs w rp rps q => ho pins s σ H x xs v us Q I rx rxs (h x xs H Q F S px ps _ w rp rps q)
theorem m_append : OpM X Wx "list.append" vAppend := .of mt_append fun x xs H Q F S px ps E w rp rps q => by
  unfold vAppend at q
  split at q
  · obtain ⟨ys, e, hl, q⟩ := q
    cases rp
    cases rps with
    | cons r1 t =>
      cases t
      obtain ⟨vs, h, rl⟩ := w.cell _ _ e
      rw [rl.length] at hl
      exact ⟨_, vs, _, rfl, rfl, h, hl, q _ _ _ (w.setLst e (rl.append (.cons r1 .nil))) .non⟩
  · exact q.elim
theorem m_extend : OpM X Wx "list.extend" vExtend := .of mt_extend fun x xs H Q F S px ps E w rp rps q => by
  unfold vExtend at q
  split at q
  · cases rp
    cases rps with
    | cons r1 t =>
      cases t
      obtain ⟨py, rd, q⟩ := deref_ok w r1 q
      cases py with
      | lst ys =>
        obtain ⟨b, us, rfl, hb, rb⟩ := rd.lst
        obtain ⟨xs, e, hl, q⟩ := q
        obtain ⟨vs, h, rl⟩ := w.cell _ _ e
        rw [rl.length, rb.length] at hl
        exact ⟨_, b, vs, us, rfl, rfl, h, hb, hl, q _ _ _ (w.setLst e (rl.append rb)) .non⟩
      | _ => exact q.elim
  · exact q.elim
theorem RepL.dropLast {xs : List PV} {vs : List V} (r : RepL Z F H xs vs) : RepL Z F H xs.dropLast vs.dropLast := by
  rw [List.dropLast_eq_take, List.dropLast_eq_take, r.length]
  exact r.take _
theorem m_pop : OpM X Wx "list.pop" vPop := .of mt_pop fun x xs H Q F S px ps E w rp rps q => by
  unfold vPop at q
  split at q
  · obtain ⟨ys, y, e, hy, q⟩ := q
    cases rp
    cases rps
    obtain ⟨vs, h, rl⟩ := w.cell _ _ e
    obtain ⟨v, hv, rv⟩ := rl.get hy
    rw [rl.length] at hv
    have n := w.setLst e rl.dropLast
    exact ⟨_, vs, v, rfl, rfl, h, hv, q _ _ _ n (rv.nxt w n)⟩
  · exact q.elim
theorem m_index (hu : X.A.units + 65 < cLine) : OpM X Wx "list.index" vIndex := .of (mt_indexD hu) fun x xs H Q F S px ps E w rp rps q => by
  unfold vIndex at q
  split at q
  · cases rps with
    | cons r1 t =>
      cases t
      obtain ⟨py, rd, q⟩ := deref_ok w rp q
      cases py with
      | lst ys =>
        obtain ⟨⟨f1, f2⟩, q⟩ := q
        obtain ⟨j, e, q⟩ := ofO_run q
        have f2' : PV.fineL 29 ys = true := by simpa [PV.fine] using f2
        obtain ⟨a, vs, rfl, ha, rl⟩ := rd.lst
        obtain ⟨⟨z, h1, h2⟩, h3⟩ := findP_ok e
        have hget : ∀ {m : Nat} {xs : List PV}, (PV.datL xs)[m]? = xs[m]?.map PV.dat := by
          intro m xs
          induction xs generalizing m with
          | nil => simp [PV.datL]
          | cons x xs ih => cases m <;> simp [PV.datL, ih]
        have fz : ∀ {m : Nat} {z : PV}, ys[m]? = some z → PV.fine 29 z = true := fun {m z} h => (fineL_all.mp f2') z (List.mem_of_getElem? h)
        refine ⟨a, _, _, _, j, z.dat, rfl, rfl, rd.dp f2, r1.dp f1, shaped_fine (by decide) f2, shaped_fine (by decide) f1, by rw [hget, h1]; rfl, ?_, fun m z' hm hz => ?_, q F H _ (Nxt.refl w) (.int _)⟩
        · rw [eqv_dat _ _ (fz h1) f1]; exact h2
        · rw [hget] at hz
          cases e3 : ys[m]? with
          | none => rw [e3] at hz; cases hz
          | some z2 =>
            rw [e3] at hz; cases hz
            rw [eqv_dat _ _ (fz e3) f1]; exact h3 m z2 hm e3
      | _ => exact q.elim
  · exact q.elim
/-- a built-in type as a value -/
theorem s_bty {x : Str} {n : String} {pos : Pos} (hg : Gl X x) (hm : X.mg x = none) (hv : bootBuiltins x = some (.type n)) (hn : x ≠ "__name__") (hd : (x == ("__debug__" : Str)) = false) : SE X Wx (.Name x pos) (fun _ => ret (.ty n)) := .mk fun pins s σ H F S env Q I er w q =>
  (pe_bltn (v := .ty n) hg hm hv rfl hn hd).run pins s σ H Q I (q F H _ (Nxt.refl w) (.ty n))
end
end Dp

namespace Dp
open PySem PySem.Spec L2
open PyProof.Rows hiding St

/-! ### the core syntax -/
inductive Bop where
  | add | sub | mul | mod | fdiv | pow
inductive Cop where
  | eq | ne | lt | le | gt | ge | isin | notin | isN | notN
inductive Bf where
  | isi | len | abs | max | min | sum | all | any | divmod
inductive Bt where
  | int | str | tup | lst
inductive Mt where
  | append | extend | pop | index
mutual
inductive CE where
  | var (i : Nat) | int (i : Int) | str (x : Str) | bl (b : Bool) | non | glob (g : Nat) | bty (x n : String)
  | bin (op : Bop) (a b : CE) | neg (a : CE) | nt (a : CE) | cmp (op : Cop) (a b : CE) | chn (o1 o2 : Cop) (a b c : CE)
  | tv (a : CE) | b1 (a : CE) | and (a b : CE) | or (a b : CE) | ife (c a b : CE)
  | tup (es : CL) | lst (own : Bool) (es : CL) | ix (a i : CE) | sl (a : CE) (lo hi : CO)
  | call (k : Nat) (sh : Shape) (es ks : CL) | callB (f : Bf) (es : CL) | callT (f : Bt) (es : CL) | meth (m : Mt) (o : CE) (es : CL)
  | comp (own : Bool) (L : List (Str × Nat)) (elt : CE) (tg : CT) (it : CI) (c : CO)
  | comp2 (own : Bool) (L : List (Str × Nat)) (L1 : List Nat) (elt : CE) (tg : CT) (it : CI) (c : CO) (tg1 : CT) (it1 : CI) (c1 : CO)
inductive CL where
  | nil | cons (e : CE) (es : CL) | star (e : CE) (es : CL)
inductive CO where
  | none | some (e : CE)
inductive CT where
  | name (i : Nat) | tup (ts : CTs) | sub (o i : CE)
inductive CTs where
  | nil | cons (t : CT) (ts : CTs)
inductive CI where
  | val (e : CE) | rng (es : CL)
end
mutual
inductive CS where
  | expr (e : CE) | asg (t : CT) (e : CE) | setc (i : Nat) (e : CE) | par2 (i j : Nat) (es : CL) | par3 (i j k : Nat) (es : CL) | ret (e : CE) | retN
  | ifs (c : CE) (a b : CB) | loop (t : CT) (it : CI) (b : CB) | whl (c : CE) (b : CB) | pass | brk | cont | never | doc
inductive CB where
  | nil | cons (s : CS) (ss : CB) | frz (i : Nat) (ss : CB)
end

/-! ### what it means -/
def Bop.sem : Bop → PV → PV → M PV
  | .add => vAdd | .sub => vSub | .mul => vMul | .mod => vMod | .fdiv => vFDiv | .pow => vPow
def vIsN (x _ : PV) : M PV := ret (.bl (isNon x))
def vNotN (x _ : PV) : M PV := ret (.bl (!isNon x))
def Cop.sem : Cop → PV → PV → M PV
  | .eq => vEq | .ne => vNe | .lt => vLt | .le => vLe | .gt => vGt | .ge => vGe | .isin => vIn false | .notin => vIn true | .isN => vIsN | .notN => vNotN
def Bf.sem : Bf → List PV → M PV
  | .isi => vIsi | .len => vLenL | .abs => vAbs | .max => vMax | .min => vMin | .sum => vSum | .all => vAll | .any => vAny | .divmod => vDivmod
def Bt.sem : Bt → List PV → M PV
  | .int => vIntT | .str => vStrT | .tup => vTupT | .lst => vLstT
def Mt.sem : Mt → PV → List PV → M PV
  | .append => vAppend | .extend => vExtend | .pop => vPop | .index => vIndex
def Mt.T : Mt → String := fun _ => "list"
def fnl (own : Bool) : List PV → M PV := if own then ownL else freezeL
def disp (own : Bool) : List PV → M PV := if own then mkOwn else mkLst
structure FnE extends Fn where
  nm : Str
/-- the text's functions with their levels, its constants -/
structure Sg where
  T : Nat → Option FnE
  lv : Nat → Nat
  n : Nat
  G : Nat → Option (Str × PV)
mutual
def dE (g : Sg) : CE → En → M PV
  | .var i => fun env => getv env i
  | .int i => fun _ => ret (.int i)
  | .str x => fun _ => ret (.str x)
  | .bl b => fun _ => ret (.bl b)
  | .non => fun _ => ret .non
  | .glob k => fun _ => match g.G k with | some p => ret p.2 | none => stuck
  | .bty _ n => fun _ => ret (.ty n)
  | .bin op a b => fun env => bnd (dE g a env) fun x => bnd (dE g b env) fun y => op.sem x y
  | .neg a => fun env => bnd (dE g a env) vNeg
  | .nt a => fun env => bnd (dE g a env) vNot
  | .cmp op a b => fun env => bnd (dE g a env) fun x => bnd (dE g b env) fun y => op.sem x y
  | .chn o1 o2 a b c => fun env => bnd (dE g a env) fun x => bnd (dE g b env) fun y => chain2 o1.sem o2.sem x y (dE g c env)
  | .tv a => dE g a
  | .b1 a => dE g a
  | .and a b => fun env => bnd (dE g a env) fun x => vAnd x (dE g b env)
  | .or a b => fun env => bnd (dE g a env) fun x => vOr x (dE g b env)
  | .ife c a b => fun env => bnd (dT g c env) fun t => if t = true then dE g a env else dE g b env
  | .tup es => fun env => bnd (dL g es env) mkTup
  | .lst own es => fun env => bnd (dL g es env) (disp own)
  | .ix a i => fun env => bnd (dE g a env) fun x => bnd (dE g i env) fun y => vIdx x y
  | .sl a lo hi => fun env => bnd (dE g a env) fun x => bnd (dO g lo env) fun l => bnd (dO g hi env) fun h => vSlice l h x
  | .call k sh es ks => fun env => bnd (dL g es env) fun xs => bnd (dL g ks env) fun ys => match g.T k with | some fn => callFn fn.toFn sh xs ys | none => stuck
  | .callB f es => fun env => bnd (dL g es env) f.sem
  | .callT f es => fun env => bnd (dL g es env) f.sem
  | .meth m o es => fun env => bnd (dE g o env) fun x => bnd (isT m.T x) fun _ => bnd (dL g es env) fun xs => m.sem x xs
  | .comp own L elt tg it c => fun env => bnd (compB (L.map (·.2)) (dI g it) (dG g tg) (dC g c) (dE g elt) env) (fnl own)
  | .comp2 own L L1 elt tg it c tg1 it1 c1 => fun env => bnd (compB2 (L.map (·.2)) L1 (dI g it) (dG g tg) (dC g c) (dI g it1) (dG g tg1) (dC g c1) (dE g elt) env) (fnl own)
/-- as a test -/
def dT (g : Sg) : CE → En → M Bool
  | .nt a => fun env => bnd (dT g a env) fun t => ret (!t)
  | .b1 a => dT g a
  | .and a b => fun env => bnd (dT g a env) fun t => if t = true then dT g b env else ret false
  | .or a b => fun env => bnd (dT g a env) fun t => if t = true then ret true else dT g b env
  | .cmp op a b => fun env => bnd (dE g a env) fun x => bnd (dE g b env) fun y => bnd (op.sem x y) vTruth
  | .chn o1 o2 a b c => fun env => bnd (dE g a env) fun x => bnd (dE g b env) fun y => bnd (o1.sem x y) fun t => bnd (vTruth t) fun d => if d = true then bnd (dE g c env) fun z => bnd (o2.sem y z) vTruth else ret false
  | .tv a => fun env => bnd (dE g a env) vTruth
  | _ => fun _ => stuck
def dL (g : Sg) : CL → En → M (List PV)
  | .nil => fun _ => ret []
  | .cons e es => fun env => bnd (dE g e env) fun x => bnd (dL g es env) fun xs => ret (x :: xs)
  | .star e es => fun env => bnd (dE g e env) fun x => bnd (vItems x) fun ys => bnd (dL g es env) fun xs => ret (ys ++ xs)
def dO (g : Sg) : CO → En → M (Option Int)
  | .none => fun _ => ret none
  | .some e => fun env => bnd (dE g e env) vPart
def dC (g : Sg) : CO → En → M Bool
  | .none => fun _ => ret true
  | .some e => dT g e
def dG (g : Sg) : CT → PV → En → M En
  | .name i => setv i
  | .tup ts => setTup (dGs g ts) (lenTs ts)
  | .sub o i => fun v env => bnd (dE g o env) fun a => bnd (dE g i env) fun k => bnd (vSet a k v) fun _ => ret env
def dGs (g : Sg) : CTs → List PV → En → M En
  | .nil => setNil
  | .cons t ts => setCons (dG g t) (dGs g ts)
def lenTs : CTs → Nat
  | .nil => 0
  | .cons _ ts => lenTs ts + 1
def lenL : CL → Nat
  | .nil => 0
  | .cons _ ts => lenL ts + 1
  | .star _ ts => lenL ts + 1
def dI (g : Sg) : CI → En → M (Src × List PV)
  | .val e => fun env => bnd (dE g e env) vSrc
  | .rng es => fun env => bnd (dL g es env) fun xs => bnd (guard (xs.length = lenL es)) fun _ => vRng xs
end
mutual
def dS (g : Sg) : CS → En → M Res
  | .expr e => fun env => bnd (dE g e env) fun _ => ret (.nx env)
  | .asg t e => asgn (dE g e) (dG g t)
  | .setc i e => asgn (dE g e) (setv i)
  | .par2 i j es => asgn2 i j (dL g es)
  | .par3 i j k es => asgn3 i j k (dL g es)
  | .ret e => fun env => bnd (dE g e env) fun v => ret (.rt v)
  | .retN => fun _ => ret (.rt .non)
  | .ifs c a b => fun env => bnd (dT g c env) fun t => if t = true then dB g a env else dB g b env
  | .loop t it b => forB (dI g it) fun x env => bnd (dG g t x env) (dB g b)
  | .whl c b => whileM (dT g c) (dB g b)
  | .pass => fun env => ret (.nx env)
  | .brk => fun env => ret (.bk env)
  | .cont => fun env => ret (.ct env)
  | .never => fun _ => stuck
  | .doc => fun env => ret (.nx env)
def dB (g : Sg) : CB → En → M Res
  | .nil => fun env => ret (.nx env)
  | .cons s ss => fun env => bnd (dS g s env) fun r => seqR r (dB g ss)
  | .frz i ss => fun env => bnd (freezeV i env) (dB g ss)
end

/-! ### how it lies over the text -/
def Bop.op : Bop → Operator
  | .add => .Add | .sub => .Sub | .mul => .Mult | .mod => .Mod | .fdiv => .FloorDiv | .pow => .Pow
def Cop.op : Cop → CmpOp
  | .eq => .Eq | .ne => .NotEq | .lt => .Lt | .le => .LtE | .gt => .Gt | .ge => .GtE | .isin => .In | .notin => .NotIn | .isN => .Is | .notN => .IsNot
def Bf.nm : Bf → String
  | .isi => "isinstance" | .len => "len" | .abs => "abs" | .max => "max" | .min => "min" | .sum => "sum" | .all => "all" | .any => "any" | .divmod => "divmod"
def Bt.nm : Bt → String
  | .int => "int" | .str => "str" | .tup => "tuple" | .lst => "list"
def Mt.nm : Mt → String
  | .append => "append" | .extend => "extend" | .pop => "pop" | .index => "index"
def visB (sc : Scope) (x : Str) : Bool := match sc.names.lookup x with
  | some .local => true | some .cell => true | some .free => true | _ => false
def glB (sc : Scope) (x : Str) : Bool := decide (sc.names.lookup x = some .globalImplicit)
def dbg (x : Str) : Bool := !(x == ("__debug__" : Str)) && !(x == ("__classdict__" : Str))
def notSet : Expr → Bool
  | .Set .. => false
  | _ => true
def plainT : Expr → Bool
  | .UnaryOp .Not _ _ => false | .BoolOp .. => false | .IfExp .. => false | .Compare .. => false | _ => true
def notComp : Expr → Bool
  | .ListComp .. => false | .SetComp .. => false | .DictComp .. => false | _ => true
def tupB : Expr → Bool
  | .Tuple .. => true | _ => false
def listB : Expr → Bool
  | .List .. => true | _ => false
def nameB : Expr → Bool
  | .Name .. => true | _ => false
structure Mc where
  g : Sg
  N : List Str
  sc : Scope
  /-- names whose cells are its own -/
  fc : Str → Bool
def btys : List (String × String) := [("int", "int"), ("bool", "bool"), ("str", "str"), ("tuple", "tuple"), ("list", "list"), ("dict", "dict")]
/-- comparisons with None alone -/
def nonE : Expr → Bool
  | .Constant .none _ _ => true
  | _ => false
def copOk : Cop → Expr → Bool
  | .isN, e => nonE e
  | .notN, e => nonE e
  | _, _ => true
def copPl : Cop → Bool
  | .isN => false
  | .notN => false
  | _ => true
mutual
def mE (c : Mc) : CE → Expr → Bool
  | .var i => fun e => match e with | .Name x _ => decide (c.N[i]? = some x) && visB c.sc x && dbg x | _ => false
  | .int i => fun e => match e with | .Constant (.int j) _ _ => decide (i = j) | _ => false
  | .str x => fun e => match e with | .Constant (.str y) _ _ => decide (x = y) | _ => false
  | .bl b => fun e => match e with | .Constant (.bool d) _ _ => b == d | _ => false
  | .non => fun e => nonE e
  | .glob k => fun e => match e with | .Name x _ => (match c.g.G k with | some p => decide (p.1 = x) | none => false) && glB c.sc x && dbg x | _ => false
  | .bty y n => fun e => match e with | .Name x _ => decide (x = Str.ofString y) && btys.contains (y, n) && glB c.sc x | _ => false
  | .bin op a b => fun e => match e with | .BinOp e1 o e2 _ => decide (o = op.op) && mE c a e1 && mE c b e2 | _ => false
  | .neg a => fun e => match e with | .UnaryOp .USub e _ => mE c a e | _ => false
  | .nt a => fun e => match e with | .UnaryOp .Not e _ => mE c a e | _ => false
  | .cmp op a b => fun e => match e with | .Compare e1 [o] [e2] _ => decide (o = op.op) && copOk op e2 && !behindInMarks o e2 && mE c a e1 && mE c b e2 | _ => false
  | .chn o1 o2 a b d => fun e => match e with | .Compare e1 [p1, p2] [e2, e3] _ => decide (p1 = o1.op) && decide (p2 = o2.op) && copPl o1 && copPl o2 && !lastMarks [p1, p2] [e2, e3] && mE c a e1 && mE c b e2 && mE c d e3 | _ => false
  | .tv _ => fun _ => false
  | .b1 a => fun e => match e with | .BoolOp _ [e] _ => mE c a e | _ => false
  | .and a b => fun e => match e with | .BoolOp .And (e1 :: e2 :: r) pos => mE c a e1 && mE c b (.BoolOp .And (e2 :: r) pos) | _ => false
  | .or a b => fun e => match e with | .BoolOp .Or (e1 :: e2 :: r) pos => mE c a e1 && mE c b (.BoolOp .Or (e2 :: r) pos) | _ => false
  | .ife t a b => fun e => match e with | .IfExp e1 e2 e3 _ => mT c t e1 && mE c a e2 && mE c b e3 | _ => false
  | .tup es => fun e => match e with | .Tuple l _ _ => mL c es l | _ => false
  | .lst _ es => fun e => match e with | .List l _ => mL c es l | _ => false
  | .ix a i => fun e => match e with | .Subscript e1 e2 _ => notSlice e2 && mE c a e1 && mE c i e2 | _ => false
  | .sl a lo hi => fun e => match e with | .Subscript e1 (.Slice l h none _) _ => mE c a e1 && mO c lo l && mO c hi h | _ => false
  | .call k sh es ks => fun e => match e with
    | .Call (.Name f _) l kws _ => (match c.g.T k with | some fn => decide (f = fn.nm) && decide (sh ∈ fn.shapes) | none => false) && decide (c.g.lv k ≤ c.g.n) && glB c.sc f && dbg f && noStars l && decide (kwNames kws = some sh.ks) && mL c es l && mK c ks kws
    | _ => false
  | .callB b es => fun e => match e with | .Call (.Name f _) l [] _ => decide (f = Str.ofString b.nm) && glB c.sc f && noStars l && !l.isEmpty && mL c es l | _ => false
  | .callT b es => fun e => match e with | .Call (.Name f _) l [] _ => decide (f = Str.ofString b.nm) && glB c.sc f && noStars l && !l.isEmpty && mL c es l | _ => false
  | .meth m o es => fun e => match e with | .Call (.Attribute eo nm ap) l [] cp => decide (nm = Str.ofString m.nm) && plainBase eo && (ap.endLine == cp.line) && noStars l && decide (l.length < 20) && mE c o eo && mL c es l | _ => false
  | .comp _ L elt tg it d => fun e => match e with
    | .ListComp ee [⟨t, i, ifs, a⟩] scope _ => decide (a = 0) && blkC c.N c.sc scope L && notSet i && mI c it i && mG { c with sc := relS scope c.sc, fc := fun x => scope.names.lookup x == some .cell } (L.map (·.2)) tg t &&
      mC { c with sc := relS scope c.sc, fc := fun x => scope.names.lookup x == some .cell } d ifs && mE { c with sc := relS scope c.sc, fc := fun x => scope.names.lookup x == some .cell } elt ee
    | _ => false
  | .comp2 _ L L1 elt tg it d tg1 it1 d1 => fun e => match e with
    | .ListComp ee [⟨t, i, ifs, a⟩, ⟨t1, i1, ifs1, a1⟩] scope _ => decide (a = 0) && decide (a1 = 0) && blkC c.N c.sc scope L && L1.all (fun i => (L.map (·.2)).contains i) && notSet i && notSet i1 && mI c it i && mG { c with sc := relS scope c.sc, fc := fun x => scope.names.lookup x == some .cell } (L.map (·.2)) tg t &&
      mC { c with sc := relS scope c.sc, fc := fun x => scope.names.lookup x == some .cell } d ifs && mI { c with sc := relS scope c.sc, fc := fun x => scope.names.lookup x == some .cell } it1 i1 && mG { c with sc := relS scope c.sc, fc := fun x => scope.names.lookup x == some .cell } L1 tg1 t1 &&
      mC { c with sc := relS scope c.sc, fc := fun x => scope.names.lookup x == some .cell } d1 ifs1 && mE { c with sc := relS scope c.sc, fc := fun x => scope.names.lookup x == some .cell } elt ee
    | _ => false
def mT (c : Mc) : CE → Expr → Bool
  | .nt a => fun e => match e with | .UnaryOp .Not e _ => mT c a e | _ => false
  | .b1 a => fun e => match e with | .BoolOp _ [e] _ => mT c a e | _ => false
  | .and a b => fun e => match e with | .BoolOp .And (e1 :: e2 :: r) pos => mT c a e1 && mT c b (.BoolOp .And (e2 :: r) pos) | _ => false
  | .or a b => fun e => match e with | .BoolOp .Or (e1 :: e2 :: r) pos => mT c a e1 && mT c b (.BoolOp .Or (e2 :: r) pos) | _ => false
  | .cmp op a b => fun e => match e with | .Compare e1 [o] [e2] _ => decide (o = op.op) && copOk op e2 && !behindInMarks o e2 && mE c a e1 && mE c b e2 | _ => false
  | .chn o1 o2 a b d => fun e => match e with | .Compare e1 [p1, p2] [e2, e3] _ => decide (p1 = o1.op) && decide (p2 = o2.op) && copPl o1 && copPl o2 && !lastMarks [p1, p2] [e2, e3] && mE c a e1 && mE c b e2 && mE c d e3 | _ => false
  | .tv a => fun e => plainT e && mE c a e
  | _ => fun _ => false
def mL (c : Mc) : CL → List Expr → Bool
  | .nil => fun l => l.isEmpty
  | .cons e es => fun l => match l with | x :: xs => notStar x && mE c e x && mL c es xs | _ => false
  | .star e es => fun l => match l with | .Starred x _ :: xs => mE c e x && mL c es xs | _ => false
def mK (c : Mc) : CL → List Keyword → Bool
  | .nil => fun l => l.isEmpty
  | .cons e es => fun l => match l with | ⟨_, x, _⟩ :: xs => mE c e x && mK c es xs | _ => false
  | .star _ _ => fun _ => false
def mO (c : Mc) : CO → Option Expr → Bool
  | .none => fun o => o.isNone
  | .some e => fun o => match o with | some x => mE c e x | _ => false
def mC (c : Mc) : CO → List Expr → Bool
  | .none => fun o => o.isEmpty
  | .some e => fun o => match o with | [x] => mT c e x | _ => false
def mG (c : Mc) (L : List Nat) : CT → Expr → Bool
  | .name i => fun e => match e with | .Name x _ => decide (c.N[i]? = some x) && (decide (c.sc.names.lookup x = some .local) || (decide (c.sc.names.lookup x = some .cell) && c.fc x)) && L.contains i | _ => false
  | .tup ts => fun e => match e with | .Tuple l _ _ => mGs c L ts l | _ => false
  | .sub o i => fun e => match e with | .Subscript e1 e2 _ => notSlice e2 && mE c o e1 && mE c i e2 | _ => false
def mGs (c : Mc) (L : List Nat) : CTs → List Expr → Bool
  | .nil => fun l => l.isEmpty
  | .cons t ts => fun l => match l with | x :: xs => notStar x && mG c L t x && mGs c L ts xs | _ => false
def mI (c : Mc) : CI → Expr → Bool
  | .val e => fun x => mE c e x
  | .rng es => fun x => match x with | .Call (.Name f _) l [] _ => decide (f = ("range" : Str)) && glB c.sc f && noStars l && (decide (l.length = 1) || decide (l.length = 2)) && mL c es l | _ => false
end
/-- what a pair of displays is stored by -/
def swNames (sc : Scope) (ts : List Expr) : List Str := ts.filterMap fun
      | .Name id pos => if sc.names.lookup id == some .local && pos.line == (ts.head?.map (·.pos.line)).getD 0 then some id else none
      | _ => none
def isStar (vs : List Expr) : Bool := vs.any fun | .Starred .. => true | _ => false
def sws (sc : Scope) (ts vs : List Expr) : Option (Option (List Str)) :=
  if (!(ts.length == 2 || ts.length == 3) || vs.length != ts.length) = true then some none
  else if isStar vs = true then some none
  else if ((swNames sc ts).length != ts.length || (swNames sc ts).eraseDups.length != (swNames sc ts).length) = true then some none
  else if vs.all (foldedForSure 8) = true then some none
  else if vs.all (constantsAlone 8) = true then none
  else some (some (swNames sc ts))
/-- whether a comprehension's list goes to the name at once -/
def swc (sc scope : Scope) (y : Str) (py pos : Pos) : Bool :=
  sc.names.lookup y == some .local && py.line == pos.line && !(scope.names.any fun (n, k) => n == y && (k == .local || k == .cell))
def asgOk (sc : Scope) : Expr → Expr → Bool
  | .Name y py, .ListComp _ _ scope pos => !swc sc scope y py pos
  | .Tuple ts _ _, .Tuple vs _ _ => decide (sws sc ts vs = some none)
  | t, e => notComp e && !(tupB t && tupB e) && !listB t
def compB1 : CE → Bool
  | .comp .. => true
  | .comp2 .. => true
  | _ => false
mutual
def mS (c : Mc) (L : List Nat) : CS → Stmt → Bool
  | .expr e => fun s => match s with | .Expr x _ => notComp x && mE c e x | _ => false
  | .asg t e => fun s => match s with | .Assign [tg] x _ => notStar tg && asgOk c.sc tg x && mG c L t tg && mE c e x | _ => false
  | .setc i e => fun s => match s with | .Assign [.Name y py] (.ListComp ee gs scope pos) sp => compB1 e && swc c.sc scope y py pos && decide (c.N[i]? = some y) && L.contains i && mE c e (.ListComp ee gs scope pos) | _ => false
  | .par2 i j es => fun s => match s with
    | .Assign [.Tuple [.Name x px, .Name y py] kt pt] (.Tuple [a, b] k2 pt2) _ => decide (c.N[i]? = some x) && decide (c.N[j]? = some y) && decide (i ≠ j) && decide (c.sc.names.lookup x = some .local) && decide (c.sc.names.lookup y = some .local) && decide (sws c.sc [.Name x px, .Name y py] [a, b] = some (some [x, y])) && L.contains i && L.contains j && mL c es [a, b]
    | _ => false
  | .par3 i j k es => fun s => match s with
    | .Assign [.Tuple [.Name x px, .Name y py, .Name z pz] kt pt] (.Tuple [a, b, d] k2 pt2) _ => decide (c.N[i]? = some x) && decide (c.N[j]? = some y) && decide (c.N[k]? = some z) && decide (i ≠ j) && decide (i ≠ k) && decide (j ≠ k) && decide (c.sc.names.lookup x = some .local) && decide (c.sc.names.lookup y = some .local) && decide (c.sc.names.lookup z = some .local) &&
        decide (sws c.sc [.Name x px, .Name y py, .Name z pz] [a, b, d] = some (some [x, y, z])) && L.contains i && L.contains j && L.contains k && mL c es [a, b, d]
    | _ => false
  | .ret e => fun s => match s with | .Return (some x) _ => mE c e x | _ => false
  | .retN => fun s => match s with | .Return none _ => true | _ => false
  | .ifs t a b => fun s => match s with | .If x sa sb _ => mT c t x && mB c L a sa && mB c L b sb | _ => false
  | .loop t it b => fun s => match s with | .For tg i body [] _ => notSet i && mI c it i && mG c L t tg && mB c L b body | _ => false
  | .whl t b => fun s => match s with | .While x body [] _ => mT c t x && mB c L b body | _ => false
  | .pass => fun s => match s with | .Pass _ => true | _ => false
  | .brk => fun s => match s with | .Break _ => true | _ => false
  | .cont => fun s => match s with | .Continue _ => true | _ => false
  | .never => fun _ => true
  | .doc => fun s => match s with | .Expr (.Constant (.str _) _ _) _ => true | _ => false
def mB (c : Mc) (L : List Nat) : CB → List Stmt → Bool
  | .nil => fun l => l.isEmpty
  | .cons s ss => fun l => match l with | x :: xs => mS c L s x && mB c L ss xs | _ => false
  | .frz _ ss => fun l => mB c L ss l
end
end Dp

namespace Dp
open PySem PySem.Spec L2
open PyProof.Rows hiding St

def bltNames : List String := ["isinstance", "len", "abs", "max", "min", "sum", "all", "any", "divmod", "int", "bool", "str", "tuple", "list", "dict", "range", "enumerate", "zip", "sorted"]
structure CtxOk (X : Cx) (Wx : WX) (c : Mc) : Prop where
  N : X.N = c.N
  sc : X.env.scope = c.sc
  kind : c.sc.kind = .function
  calm : X.calm = true
  nd : X.N.Nodup
  fc : ∀ x, c.fc x = true → X.fn x = true
  room : Room c.g.n X.A
  tk : Takes X Wx
  tab : ∀ k fn, c.g.T k = some fn → c.g.lv k ≤ c.g.n → FnAt X (c.g.lv k) fn.nm fn.toFn
  glo : ∀ i p, c.g.G i = some p → ∃ u w, X.mg p.1 = some u ∧ RelV w u ∧ Wr (zs X) p.2 w
  blt : ∀ x ∈ bltNames, X.mg (Str.ofString x) = none
section
variable {X : Cx} {Wx : WX} {c : Mc}
theorem CtxOk.hu (k : CtxOk X Wx c) : X.A.units + 65 < cLine := by
  have := k.room.un
  omega
theorem CtxOk.gl (k : CtxOk X Wx c) {x : Str} (h : glB c.sc x = true) : Gl X x := by
  show X.env.scope.names.lookup x = some .globalImplicit
  rw [k.sc]
  exact of_decide_eq_true h
theorem CtxOk.vis (k : CtxOk X Wx c) {x : Str} (h : visB c.sc x = true) : Vis X.env.scope x := by
  unfold visB at h
  rw [k.sc]
  split at h
  · exact .inl (by assumption)
  · exact .inr (.inl (by assumption))
  · exact .inr (.inr (by assumption))
  · cases h
theorem dbg_1 {x : Str} (h : dbg x = true) : (x == ("__debug__" : Str)) = false := by
  unfold dbg at h
  rw [Bool.and_eq_true] at h
  simpa using h.1
theorem dbg_2 {x : Str} (h : dbg x = true) : (x == ("__classdict__" : Str)) = false := by
  unfold dbg at h
  rw [Bool.and_eq_true] at h
  simpa using h.2
theorem CtxOk.blk (k : CtxOk X Wx c) {scope : Scope} {L : List (Str × Nat)} (hb : BlkOk X.N X.env.scope scope L) (s : Shared) (H : Hp) (C : Addr) (cl : List (Str × Addr)) (fp : List Addr) :
    CtxOk (X.blk s H scope (compEnvC scope cl C X.env) fp) wFalse { c with sc := relS scope c.sc, fc := fun x => scope.names.lookup x == some .cell } where
  N := k.N
  sc := by
    show relS scope X.env.scope = relS scope c.sc
    rw [k.sc]
  kind := hb.kind
  calm := k.calm
  nd := k.nd
  fc := fun x h => h
  room := k.room
  tk := takes0
  tab := fun i fn h1 h2 => ⟨(k.tab i fn h1 h2).ex⟩
  glo := k.glo
  blt := k.blt

/-! ### the tables of operators -/
theorem op_ok (k : CtxOk X Wx c) (o : Bop) : Op2 X Wx (binaryOp o.op) o.sem := by
  cases o
  · exact o_add
  · exact o_sub
  · exact o_mul
  · exact o_mod
  · exact o_fdiv
  · exact o_pow
theorem cop_ok (k : CtxOk X Wx c) (o : Cop) (ho : o ≠ .isN) (ho' : o ≠ .notN) : Op2 X Wx (compareOp o.op) o.sem := by
  have hu := k.hu
  cases o
  · exact o_eq (by omega)
  · exact o_ne (by omega)
  · exact o_lt
  · exact o_le
  · exact o_gt
  · exact o_ge
  · exact o_in hu
  · exact o_notIn hu
  · exact absurd rfl ho
  · exact absurd rfl ho'
def btn (f : Bf) : Prop := bootBuiltins (Str.ofString f.nm) = some (.builtin f.nm) ∧ Str.ofString f.nm ≠ "__name__" ∧ (Str.ofString f.nm == ("__debug__" : Str)) = false ∧ f.nm ∈ bltNames
theorem btn_ok (f : Bf) : btn f := by cases f <;> (unfold btn; decide +kernel)
theorem bf_ok (k : CtxOk X Wx c) (f : Bf) : OpN X Wx (fun us => call (.builtin f.nm) us) f.sem := by
  cases f
  · exact o_isi
  · exact o_len
  · exact o_abs
  · exact o_max k.calm
  · exact o_min k.calm
  · exact o_sum k.calm
  · exact o_all k.calm
  · exact o_any k.calm
  · exact o_divmod
def btt (f : Bt) : Prop := bootBuiltins (Str.ofString f.nm) = some (.type f.nm) ∧ Str.ofString f.nm ≠ "__name__" ∧ (Str.ofString f.nm == ("__debug__" : Str)) = false ∧ f.nm ∈ bltNames
theorem btt_ok (f : Bt) : btt f := by cases f <;> (unfold btt; decide +kernel)
theorem bt_ok (k : CtxOk X Wx c) (f : Bt) : OpN X Wx (fun us => call (.type f.nm) us) f.sem := by
  cases f
  · exact o_int
  · exact o_str
  · exact o_tup
  · exact o_lst
def btyp (p : String × String) : Prop := bootBuiltins (Str.ofString p.1) = some (.type p.2) ∧ Str.ofString p.1 ≠ "__name__" ∧ (Str.ofString p.1 == ("__debug__" : Str)) = false ∧ p.1 ∈ bltNames
theorem btyp_ok : ∀ p ∈ btys, btyp p := by unfold btyp; decide +kernel
structure MtOk (m : Mt) (id : String) : Prop where
  pa : PlainAttrs m.T
  sl : Slot m.T (Str.ofString m.nm) id
  ty : typeOf (.builtin id) = pure (.type "method_descriptor")
theorem mt_ok (k : CtxOk X Wx c) (m : Mt) : ∃ id, MtOk m id ∧ OpM X Wx id m.sem := by
  cases m
  · exact ⟨_, ⟨F.plainAttrs_list, F.slot_list_append, F.type_list_append⟩, m_append⟩
  · exact ⟨_, ⟨F.plainAttrs_list, F.slot_list_extend, F.type_list_extend⟩, m_extend⟩
  · exact ⟨_, ⟨F.plainAttrs_list, F.slot_list_pop, F.type_list_pop⟩, m_pop⟩
  · exact ⟨_, ⟨F.plainAttrs_list, F.slot_list_index, F.type_list_index⟩, m_index k.hu⟩
/-- is None -/
theorem nonE_some {e : Expr} (h : nonE e = true) : ∃ j p, e = .Constant .none j p := by
  unfold nonE at h
  split at h
  · exact ⟨_, _, rfl⟩
  · cases h
theorem isNon_ok {Z F H px x} (r : Rep Z F H px x) : decide (x = V.non) = isNon px := by
  cases r <;> rfl
theorem o_isN : ∀ (pins : List (Addr × Obj)) (s : Shared) (σ : St) (H : Hp) (x y : V) (v u : Value) (Q : VK) (F : Addr → Prop) (S : Stt) (px py : PV), Inv X pins σ H s → RelV x v → RelV y u → W (zs X) F S H → Rep (zs X) F H px x → Rep (zs X) F H py y → py = .non →
    (vIsN px py).run S (Pv (zs X) F S H Q) (Pw (zs X) F S H [] σ Wx) → wpAny (model X.prog X.w) X.A (compareOp .Is v u) (EP X pins σ Q) X.xe s := fun pins s σ H x y v u Q F S px py I rx ry w rpx rpy e q => by
  subst e
  cases rpy
  refine op_isN pins s σ H x .non v u Q I rx ry ⟨rfl, ?_⟩
  rw [isNon_ok rpx]
  exact q F H _ (Nxt.refl w) (.bl _)
theorem o_notN : ∀ (pins : List (Addr × Obj)) (s : Shared) (σ : St) (H : Hp) (x y : V) (v u : Value) (Q : VK) (F : Addr → Prop) (S : Stt) (px py : PV), Inv X pins σ H s → RelV x v → RelV y u → W (zs X) F S H → Rep (zs X) F H px x → Rep (zs X) F H py y → py = .non →
    (vNotN px py).run S (Pv (zs X) F S H Q) (Pw (zs X) F S H [] σ Wx) → wpAny (model X.prog X.w) X.A (compareOp .IsNot v u) (EP X pins σ Q) X.xe s := fun pins s σ H x y v u Q F S px py I rx ry w rpx rpy e q => by
  subst e
  cases rpy
  refine op_notN pins s σ H x .non v u Q I rx ry ⟨rfl, ?_⟩
  rw [isNon_ok rpx]
  exact q F H _ (Nxt.refl w) (.bl _)
end
end Dp

namespace Dp
open PySem PySem.Spec L2
open PyProof.Rows hiding St

theorem assignEach_not {e : Expr} {es : List Expr} {env : Env} (h : notStar e = true) : assignEach (e :: es) env = (false, assign e env) :: assignEach es env := by
  cases e <;> first | rfl | cases h
theorem fold_ok {iter : Expr} (h : notSet iter = true) (env : Env) (x : Value) : foldedSetIterable iter env x = pure x := by
  cases iter <;> first | rfl | cases h
theorem truth_ok {e : Expr} (h : plainT e = true) (env : Env) (whole : Sem Value) : isTrue e env whole = (do let v ← whole; standAt e.pos; holding [v] (truthy v)) := by
  cases e with
  | UnaryOp op x p => cases op <;> first | rfl | cases h
  | _ => first | rfl | cases h
theorem CtxOk.tblt {X Wx c} (k : CtxOk X Wx c) (f : Bt) : X.mg (Str.ofString f.nm) = none := k.blt _ (btt_ok f).2.2.2
theorem CtxOk.bblt {X Wx c} (k : CtxOk X Wx c) (f : Bf) : X.mg (Str.ofString f.nm) = none := k.blt _ (btn_ok f).2.2.2
theorem cmp_isN {X Wx} {a : Expr} {ma : En → M PV} {j : Nat} {p pos : Pos} (ha : SE X Wx a ma) : SE X Wx (.Compare a [.Is] [.Constant .none j p] pos) (fun env => bnd (ma env) fun x => vIsN x .non) :=
  .mk fun pins s σ H F S env Q I er w q => wpAny_Compare1 (two ha (s_non (Wx := Wx)) I er w (R := fun px py S2 => py = .non ∧ (vIsN px py).run S2 (Pv (zs X) F S H Q) (Pw (zs X) F S H [] σ Wx)) ((ma env).mono (fun _ _ q => ⟨rfl, q⟩) (fun _ _ q => q) q) fun v u s2 x y px py F2 S2 H2 I2 r1 r2 n rp1 rp2 q2 =>
    o_isN pins s2 σ H2 x y v u Q F2 S2 px py I2 r1 r2 n.w rp1 rp2 q2.1 ((vIsN px py).mono (fun _ _ q => Pv.nxt n q) (fun _ _ q => Pw.nxt n q) q2.2)) rfl
theorem cmp_notN {X Wx} {a : Expr} {ma : En → M PV} {j : Nat} {p pos : Pos} (ha : SE X Wx a ma) : SE X Wx (.Compare a [.IsNot] [.Constant .none j p] pos) (fun env => bnd (ma env) fun x => vNotN x .non) :=
  .mk fun pins s σ H F S env Q I er w q => wpAny_Compare1 (two ha (s_non (Wx := Wx)) I er w (R := fun px py S2 => py = .non ∧ (vNotN px py).run S2 (Pv (zs X) F S H Q) (Pw (zs X) F S H [] σ Wx)) ((ma env).mono (fun _ _ q => ⟨rfl, q⟩) (fun _ _ q => q) q) fun v u s2 x y px py F2 S2 H2 I2 r1 r2 n rp1 rp2 q2 =>
    o_notN pins s2 σ H2 x y v u Q F2 S2 px py I2 r1 r2 n.w rp1 rp2 q2.1 ((vNotN px py).mono (fun _ _ q => Pv.nxt n q) (fun _ _ q => Pw.nxt n q) q2.2)) rfl
theorem Compare_arm {left : Expr} {op : CmpOp} {e : Expr} {pos : Pos} (env : Env) : True := trivial
theorem tcmp_isN {X Wx} {a : Expr} {ma : En → M PV} {j : Nat} {p pos : Pos} (ha : SE X Wx a ma) : STe X Wx (.Compare a [.Is] [.Constant .none j p] pos) (fun env => bnd (ma env) fun x => bnd (vIsN x .non) vTruth) :=
  .mk fun pins s σ H F S env Q I er w q => by
    refine wpAny_isTrue_Compare1 (two ha (s_non (Wx := Wx)) I er w (R := fun px py S2 => py = .non ∧ Pb (zs X) F S H Q (isNon px) S2) ((ma env).mono (fun _ _ q => ⟨rfl, q⟩) (fun _ _ q => q) q) fun v u s2 x y px py F2 S2 H2 I2 r1 r2 n rp1 rp2 q2 => ?_) rfl
    refine thn (o_isN (Wx := Wx) pins s2 σ H2 x y v u (fun z H3 => z = .bl (isNon px) ∧ Q (isNon px) H3) F2 S2 px py I2 r1 r2 n.w rp1 rp2 q2.1 (fun F3 H3 z n3 r3 => ?_)) fun d s3 ⟨z, H3, I3, r3, e, q3⟩ => ?_
    · cases r3; exact ⟨rfl, q2.2 F3 H3 (n.trans n3)⟩
    · subst e; cases r3; exact wpAny_truthy_bool ⟨H3, I3, q3⟩
theorem tcmp_notN {X Wx} {a : Expr} {ma : En → M PV} {j : Nat} {p pos : Pos} (ha : SE X Wx a ma) : STe X Wx (.Compare a [.IsNot] [.Constant .none j p] pos) (fun env => bnd (ma env) fun x => bnd (vNotN x .non) vTruth) :=
  .mk fun pins s σ H F S env Q I er w q => by
    refine wpAny_isTrue_Compare1 (two ha (s_non (Wx := Wx)) I er w (R := fun px py S2 => py = .non ∧ Pb (zs X) F S H Q (!isNon px) S2) ((ma env).mono (fun _ _ q => ⟨rfl, q⟩) (fun _ _ q => q) q) fun v u s2 x y px py F2 S2 H2 I2 r1 r2 n rp1 rp2 q2 => ?_) rfl
    refine thn (o_notN (Wx := Wx) pins s2 σ H2 x y v u (fun z H3 => z = .bl (!isNon px) ∧ Q (!isNon px) H3) F2 S2 px py I2 r1 r2 n.w rp1 rp2 q2.1 (fun F3 H3 z n3 r3 => ?_)) fun d s3 ⟨z, H3, I3, r3, e, q3⟩ => ?_
    · cases r3; exact ⟨rfl, q2.2 F3 H3 (n.trans n3)⟩
    · subst e; cases r3; exact wpAny_truthy_bool ⟨H3, I3, q3⟩
theorem non_of {c : Mc} {b : CE} {j : Nat} {p : Pos} (h : mE c b (.Constant .none j p) = true) : b = .non := by
  cases b <;> first | rfl | (simp [mE] at h)
theorem copPl_ne {o : Cop} (h : copPl o = true) : o ≠ .isN ∧ o ≠ .notN := by cases o <;> simp [copPl] at h ⊢
theorem lenL_ok {c : Mc} : ∀ {es : CL} {l : List Expr}, mL c es l = true → lenL es = l.length
  | .nil, l, h => by
    simp only [mL] at h
    cases l with
    | nil => rfl
    | cons => simp at h
  | .cons e es, l, h => by
    simp only [mL] at h
    split at h
    · simp only [Bool.and_eq_true] at h
      simp only [lenL, List.length_cons, lenL_ok h.2]
    · cases h
  | .star e es, l, h => by
    simp only [mL] at h
    split at h
    · simp only [Bool.and_eq_true] at h
      simp only [lenL, List.length_cons, lenL_ok h.2]
    · cases h
theorem ts_ok {c : Mc} {L : List Nat} {env : Env} : ∀ {ts : CTs} {l : List Expr}, mGs c L ts l = true → (assignEach l env).length = lenTs ts ∧ (assignEach l env).findIdx? (·.1) = none
  | .nil, l, h => by
    simp only [mGs] at h
    cases l with
    | nil => exact ⟨rfl, rfl⟩
    | cons => cases h
  | .cons t ts, l, h => by
    simp only [mGs] at h; split at h
    · simp only [Bool.and_eq_true] at h
      obtain ⟨h1, h2⟩ := ts_ok (env := env) h.2
      rw [assignEach_not h.1.1]
      refine ⟨by simp only [List.length_cons, h1, lenTs], ?_⟩
      rw [List.findIdx?_cons]
      simp [h2]
    · cases h
theorem ends1 {X : Cx} (own : Bool) : Ends1 X (fnl own) := by
  cases own
  · exact e_frz
  · exact e_own
theorem snd_call {X : Cx} {Wx : WX} {c : Mc} {i : Nat} {sh : Shape} {es ks : CL} {e : Expr} (k : CtxOk X Wx c) (h : mE c (.call i sh es ks) e = true) (hL : ∀ l, mL c es l = true → SA X Wx l (dL c.g es)) (hK : ∀ l, mK c ks l = true → SK X Wx l (dL c.g ks)) : SE X Wx e (dE c.g (.call i sh es ks)) := by
  simp only [mE] at h; split at h
  · rename_i f p l kws pos
    simp only [Bool.and_eq_true, decide_eq_true_eq] at h
    obtain ⟨⟨⟨⟨⟨⟨⟨h1, h2⟩, h3⟩, h4⟩, h5⟩, h6⟩, h7⟩, h8⟩ := h
    cases e : c.g.T i with
    | none => rw [e] at h1; cases h1
    | some fn =>
      rw [e] at h1
      simp only [Bool.and_eq_true, decide_eq_true_eq] at h1
      obtain ⟨h1, h9⟩ := h1
      subst h1
      have hd : dE c.g (.call i sh es ks) = fun env => bnd (dL c.g es env) fun xs => bnd (dL c.g ks env) fun ys => callFn fn.toFn sh xs ys := by simp only [dE, e]
      rw [hd]
      have FA := k.tab i fn e h2
      have hr : Room (c.g.lv i) X.A := k.room.mono h2
      cases l with
      | nil =>
        cases es with
        | nil => exact s_call0 FA hr k.tk (k.gl h3) h9 (dbg_1 h4) (hK _ h8) h6
        | cons => simp [mL] at h7
        | star => simp [mL] at h7
      | cons x xs => exact s_call FA hr k.tk (k.gl h3) h9 (dbg_1 h4) (hL _ h7) h5 (hK _ h8) h6
  · cases h
theorem snd_callB {X : Cx} {Wx : WX} {c : Mc} {b : Bf} {es : CL} {e : Expr} (k : CtxOk X Wx c) (h : mE c (.callB b es) e = true) (hL : ∀ l, mL c es l = true → SA X Wx l (dL c.g es)) : SE X Wx e (dE c.g (.callB b es)) := by
  simp only [mE] at h; split at h
  · rename_i f p l pos
    simp only [Bool.and_eq_true, decide_eq_true_eq, Bool.not_eq_true'] at h
    obtain ⟨⟨⟨⟨h1, h2⟩, h3⟩, h4⟩, h5⟩ := h
    subst h1
    cases l with
    | nil => cases h4
    | cons x xs => exact s_callB (bf_ok k b) (k.gl h2) (k.bblt b) (btn_ok b).1 (hL _ h5) h3 (btn_ok b).2.1 (btn_ok b).2.2.1
  · cases h
mutual
theorem sndE : ∀ (a : CE) {X : Cx} {Wx : WX} {c : Mc} (k : CtxOk X Wx c) (e : Expr), mE c a e = true → SE X Wx e (dE c.g a)
  | .var i, X, Wx, c, k, e, h => by
    simp only [mE] at h; split at h
    · simp only [Bool.and_eq_true, decide_eq_true_eq] at h
      exact s_var (by rw [k.N]; exact h.1.1) (k.vis h.1.2) (dbg_1 h.2) (dbg_2 h.2)
    · cases h
  | .int i, X, Wx, c, k, e, h => by
    simp only [mE] at h; split at h
    · have := of_decide_eq_true h; subst this; exact s_int
    · cases h
  | .str x, X, Wx, c, k, e, h => by
    simp only [mE] at h; split at h
    · have := of_decide_eq_true h; subst this; exact s_str
    · cases h
  | .bl b, X, Wx, c, k, e, h => by
    simp only [mE] at h; split at h
    · have := eq_of_beq h; subst this; exact s_bl
    · cases h
  | .non, X, Wx, c, k, e, h => by
    simp only [mE] at h
    obtain ⟨j, p, rfl⟩ := nonE_some h
    exact s_non
  | .glob i, X, Wx, c, k, e, h => by
    simp only [mE] at h; split at h
    · rename_i x pos
      simp only [Bool.and_eq_true] at h
      obtain ⟨⟨h1, h2⟩, h3⟩ := h
      cases e : c.g.G i with
      | none => rw [e] at h1; cases h1
      | some p =>
        rw [e] at h1
        have := of_decide_eq_true h1; subst this
        obtain ⟨u, w, hm, hr, hw⟩ := k.glo i p e
        have : dE c.g (.glob i) = fun _ => ret p.2 := by simp only [dE, e]
        rw [this]
        exact s_glob (k.gl h2) hm hr hw (dbg_1 h3)
    · cases h
  | .bty y n, X, Wx, c, k, e, h => by
    simp only [mE] at h; split at h
    · simp only [Bool.and_eq_true, decide_eq_true_eq] at h
      obtain ⟨⟨h1, h2⟩, h3⟩ := h
      subst h1
      obtain ⟨b1, b2, b3, b4⟩ := btyp_ok (y, n) (by simpa using h2)
      exact s_bty (k.gl h3) (k.blt _ b4) b1 b2 b3
    · cases h
  | .bin op a b, X, Wx, c, k, e, h => by
    simp only [mE] at h; split at h
    · simp only [Bool.and_eq_true, decide_eq_true_eq] at h
      obtain ⟨⟨h1, h2⟩, h3⟩ := h
      subst h1
      exact s_bin (op_ok k op) (sndE a k _ h2) (sndE b k _ h3)
    · cases h
  | .neg a, X, Wx, c, k, e, h => by
    simp only [mE] at h; split at h
    · exact s_un o_neg (sndE a k _ h)
    · cases h
  | .nt a, X, Wx, c, k, e, h => by
    simp only [mE] at h; split at h
    · exact s_un o_not (sndE a k _ h)
    · cases h
  | .cmp op a b, X, Wx, c, k, e, h => by
    simp only [mE] at h; split at h
    · simp only [Bool.and_eq_true, decide_eq_true_eq, Bool.not_eq_true'] at h
      obtain ⟨⟨⟨⟨h1, h5⟩, h2⟩, h3⟩, h4⟩ := h
      subst h1
      by_cases e1 : op = .isN
      · subst e1
        obtain ⟨j, p, rfl⟩ := nonE_some h5
        have := non_of h4; subst this
        exact cmp_isN (sndE a k _ h3)
      · by_cases e2 : op = .notN
        · subst e2
          obtain ⟨j, p, rfl⟩ := nonE_some h5
          have := non_of h4; subst this
          exact cmp_notN (sndE a k _ h3)
        · exact s_cmp (cop_ok k op e1 e2) (sndE a k _ h3) (sndE b k _ h4) h2
    · cases h
  | .chn o1 o2 a b d, X, Wx, c, k, e, h => by
    simp only [mE] at h; split at h
    · simp only [Bool.and_eq_true, decide_eq_true_eq, Bool.not_eq_true'] at h
      obtain ⟨⟨⟨⟨⟨⟨⟨h1, h2⟩, h3⟩, h4⟩, h5⟩, h6⟩, h7⟩, h8⟩ := h
      subst h1; subst h2
      exact s_chain (cop_ok k o1 (copPl_ne h3).1 (copPl_ne h3).2) (cop_ok k o2 (copPl_ne h4).1 (copPl_ne h4).2) (sndE a k _ h6) (sndE b k _ h7) (sndE d k _ h8) h5
    · cases h
  | .tv _, _, _, _, _, _, h => by simp [mE] at h
  | .b1 a, X, Wx, c, k, e, h => by
    simp only [mE] at h; split at h
    · exact s_one (sndE a k _ h)
    · cases h
  | .and a b, X, Wx, c, k, e, h => by
    simp only [mE] at h; split at h
    · simp only [Bool.and_eq_true] at h
      exact s_and (sndE a k _ h.1) (sndE b k _ h.2)
    · cases h
  | .or a b, X, Wx, c, k, e, h => by
    simp only [mE] at h; split at h
    · simp only [Bool.and_eq_true] at h
      exact s_or (sndE a k _ h.1) (sndE b k _ h.2)
    · cases h
  | .ife t a b, X, Wx, c, k, e, h => by
    simp only [mE] at h; split at h
    · simp only [Bool.and_eq_true] at h
      exact s_ifExp (sndT t k _ h.1.1) (sndE a k _ h.1.2) (sndE b k _ h.2)
    · cases h
  | .tup es, X, Wx, c, k, e, h => by
    simp only [mE] at h; split at h
    · exact s_tup (sndL es k _ h)
    · cases h
  | .lst own es, X, Wx, c, k, e, h => by
    simp only [mE] at h; split at h
    · cases own
      · exact s_lst (sndL es k _ h)
      · exact s_own (sndL es k _ h)
    · cases h
  | .ix a i, X, Wx, c, k, e, h => by
    simp only [mE] at h; split at h
    · simp only [Bool.and_eq_true] at h
      exact s_ix (sndE a k _ h.1.2) (sndE i k _ h.2) (plainIx h.1.1)
    · cases h
  | .sl a lo hi, X, Wx, c, k, e, h => by
    simp only [mE] at h; split at h
    · simp only [Bool.and_eq_true] at h
      exact s_slice (sndE a k _ h.1.1) (sndO lo k _ h.1.2) (sndO hi k _ h.2)
    · cases h
  | .call i sh es ks, X, Wx, c, k, e, h => snd_call k h (fun l h => sndL es k l h) (fun l h => sndK ks k l h)
  | .callB b es, X, Wx, c, k, e, h => snd_callB k h (fun l h => sndL es k l h)
  | .callT b es, X, Wx, c, k, e, h => by
    simp only [mE] at h; split at h
    · rename_i f p l pos
      simp only [Bool.and_eq_true, decide_eq_true_eq, Bool.not_eq_true'] at h
      obtain ⟨⟨⟨⟨h1, h2⟩, h3⟩, h4⟩, h5⟩ := h
      subst h1
      cases l with
      | nil => cases h4
      | cons x xs => exact s_callT (bt_ok k b) (k.gl h2) (k.tblt b) (btt_ok b).1 (sndL es k _ h5) h3 (btt_ok b).2.1 (btt_ok b).2.2.1
    · cases h
  | .meth m o es, X, Wx, c, k, e, h => by
    simp only [mE] at h; split at h
    · rename_i eo nm ap l cp
      simp only [Bool.and_eq_true, decide_eq_true_eq] at h
      obtain ⟨⟨⟨⟨⟨⟨h1, h2⟩, h3⟩, h4⟩, h5⟩, h6⟩, h7⟩ := h
      subst h1
      obtain ⟨id, ⟨pa, sl, ty⟩, om⟩ := mt_ok k m
      cases l with
      | nil =>
        cases es with
        | nil => exact s_meth0 pa sl ty om (sndE o k _ h6) h2 h3
        | cons => simp [mL] at h7
        | star => simp [mL] at h7
      | cons x xs =>
        rw [List.length_cons] at h5
        exact s_meth pa sl ty om (sndE o k _ h6) (sndL es k _ h7) h2 h4 (by omega) h3
    · cases h
  | .comp own L elt tg it d, X, Wx, c, k, e, h => by
    simp only [mE] at h; split at h
    · rename_i ee t i ifs a scope pos
      simp only [Bool.and_eq_true, decide_eq_true_eq] at h
      obtain ⟨⟨⟨⟨⟨⟨h1, h2⟩, h3⟩, h4⟩, h5⟩, h6⟩, h7⟩ := h
      subst h1
      have hb : BlkOk X.N X.env.scope scope L := by rw [k.N, k.sc]; exact blkOk_by h2
      exact s_lc (ends1 own) k.calm k.nd (sndI it k _ _ h4) hb (fun s H C cl fp => sndG tg (k.blk hb s H C cl fp) _ _ h5) (fun s H C cl fp => sndC d (k.blk hb s H C cl fp) _ h6) (fun s H C cl fp => sndE elt (k.blk hb s H C cl fp) _ h7) (fold_ok h3 _)
    · cases h
  | .comp2 own L L1 elt tg it d tg1 it1 d1, X, Wx, c, k, e, h => by
    simp only [mE] at h; split at h
    · rename_i ee t i ifs a t1 i1 ifs1 a1 scope pos
      simp only [Bool.and_eq_true, decide_eq_true_eq] at h
      obtain ⟨⟨⟨⟨⟨⟨⟨⟨⟨⟨⟨⟨h1, h1'⟩, h2⟩, hL⟩, h3⟩, h3'⟩, h4⟩, h5⟩, h6⟩, h8⟩, h9⟩, h10⟩, h7⟩ := h
      subst h1; subst h1'
      have hb : BlkOk X.N X.env.scope scope L := by rw [k.N, k.sc]; exact blkOk_by h2
      exact s_lc2 (ends1 own) k.calm k.nd (sndI it k _ _ h4) hb (fun i hi => by have := (List.all_eq_true.mp hL) i hi; simpa using this)
        (fun s H C cl fp => sndG tg (k.blk hb s H C cl fp) _ _ h5) (fun s H C cl fp => sndC d (k.blk hb s H C cl fp) _ h6) (fun s H C cl fp => sndI it1 (k.blk hb s H C cl fp) _ _ h8) (fun s H C cl fp => sndG tg1 (k.blk hb s H C cl fp) _ _ h9)
        (fun s H C cl fp => sndC d1 (k.blk hb s H C cl fp) _ h10) (fun s H C cl fp => sndE elt (k.blk hb s H C cl fp) _ h7) (fold_ok h3 _) (fun env x => fold_ok h3' env x)
    · cases h
theorem sndT : ∀ (a : CE) {X : Cx} {Wx : WX} {c : Mc} (k : CtxOk X Wx c) (e : Expr), mT c a e = true → STe X Wx e (dT c.g a)
  | .nt a, X, Wx, c, k, e, h => by
    simp only [mT] at h; split at h
    · exact s_not (sndT a k _ h)
    · cases h
  | .b1 a, X, Wx, c, k, e, h => by
    simp only [mT] at h; split at h
    · rename_i op e pos
      cases op
      · exact (w_and1 (sndT a k _ h)).pt
      · exact (w_or1 (sndT a k _ h)).pt
    · cases h
  | .and a b, X, Wx, c, k, e, h => by
    simp only [mT] at h; split at h
    · simp only [Bool.and_eq_true] at h
      exact (w_and (sndT a k _ h.1) (sndW b k h.2)).pt
    · cases h
  | .or a b, X, Wx, c, k, e, h => by
    simp only [mT] at h; split at h
    · simp only [Bool.and_eq_true] at h
      exact (w_or (sndT a k _ h.1) (sndW b k h.2)).pt
    · cases h
  | .cmp op a b, X, Wx, c, k, e, h => by
    simp only [mT] at h; split at h
    · simp only [Bool.and_eq_true, decide_eq_true_eq, Bool.not_eq_true'] at h
      obtain ⟨⟨⟨⟨h1, h5⟩, h2⟩, h3⟩, h4⟩ := h
      subst h1
      by_cases e1 : op = .isN
      · subst e1
        obtain ⟨j, p, rfl⟩ := nonE_some h5
        have := non_of h4; subst this
        exact tcmp_isN (sndE a k _ h3)
      · by_cases e2 : op = .notN
        · subst e2
          obtain ⟨j, p, rfl⟩ := nonE_some h5
          have := non_of h4; subst this
          exact tcmp_notN (sndE a k _ h3)
        · exact s_tcmp (cop_ok k op e1 e2) (sndE a k _ h3) (sndE b k _ h4) h2
    · cases h
  | .chn o1 o2 a b d, X, Wx, c, k, e, h => by
    simp only [mT] at h; split at h
    · simp only [Bool.and_eq_true, decide_eq_true_eq, Bool.not_eq_true'] at h
      obtain ⟨⟨⟨⟨⟨⟨⟨h1, h2⟩, h3⟩, h4⟩, h5⟩, h6⟩, h7⟩, h8⟩ := h
      subst h1; subst h2
      exact s_tchain (cop_ok k o1 (copPl_ne h3).1 (copPl_ne h3).2) (cop_ok k o2 (copPl_ne h4).1 (copPl_ne h4).2) (sndE a k _ h6) (sndE b k _ h7) (sndE d k _ h8) h5
    · cases h
  | .tv a, X, Wx, c, k, e, h => by
    simp only [mT, Bool.and_eq_true] at h
    exact s_truth o_truth (sndE a k _ h.2) (truth_ok h.1 _)
  | .var _, _, _, _, _, _, h => by simp [mT] at h
  | .call _ _ _ _, _, _, _, _, _, h => by simp [mT] at h
  | .callB _ _, _, _, _, _, _, h => by simp [mT] at h
  | .ix _ _, _, _, _, _, _, h => by simp [mT] at h
  | .bl _, _, _, _, _, _, h => by simp [mT] at h
  | .int _, _, _, _, _, _, h => by simp [mT] at h
  | .str _, _, _, _, _, _, h => by simp [mT] at h
  | .non, _, _, _, _, _, h => by simp [mT] at h
  | .glob _, _, _, _, _, _, h => by simp [mT] at h
  | .bty _ _, _, _, _, _, _, h => by simp [mT] at h
  | .bin _ _ _, _, _, _, _, _, h => by simp [mT] at h
  | .neg _, _, _, _, _, _, h => by simp [mT] at h
  | .ife _ _ _, _, _, _, _, _, h => by simp [mT] at h
  | .tup _, _, _, _, _, _, h => by simp [mT] at h
  | .lst _ _, _, _, _, _, _, h => by simp [mT] at h
  | .sl _ _ _, _, _, _, _, _, h => by simp [mT] at h
  | .callT _ _, _, _, _, _, _, h => by simp [mT] at h
  | .meth _ _ _, _, _, _, _, _, h => by simp [mT] at h
  | .comp .., _, _, _, _, _, h => by simp [mT] at h
  | .comp2 .., _, _, _, _, _, h => by simp [mT] at h
theorem sndW : ∀ (a : CE) {X : Cx} {Wx : WX} {c : Mc} (k : CtxOk X Wx c) {op : BoolOp} {l : List Expr} {pos : Pos}, mT c a (.BoolOp op l pos) = true → STw X Wx (.BoolOp op l pos) (dT c.g a)
  | .b1 a, X, Wx, c, k, op, l, pos, h => by
    simp only [mT] at h; split at h
    · rename_i op' e pos' he
      cases he
      cases op
      · exact w_and1 (sndT a k _ h)
      · exact w_or1 (sndT a k _ h)
    · cases h
  | .and a b, X, Wx, c, k, op, l, pos, h => by
    simp only [mT] at h; split at h
    · rename_i he
      cases he
      simp only [Bool.and_eq_true] at h
      exact w_and (sndT a k _ h.1) (sndW b k h.2)
    · cases h
  | .or a b, X, Wx, c, k, op, l, pos, h => by
    simp only [mT] at h; split at h
    · rename_i he
      cases he
      simp only [Bool.and_eq_true] at h
      exact w_or (sndT a k _ h.1) (sndW b k h.2)
    · cases h
  | .tv _, _, _, _, _, _, _, _, h => by simp [mT, plainT] at h
  | .nt _, _, _, _, _, _, _, _, h => by simp [mT] at h
  | .cmp _ _ _, _, _, _, _, _, _, _, h => by simp [mT] at h
  | .chn _ _ _ _ _, _, _, _, _, _, _, _, h => by simp [mT] at h
  | .var _, _, _, _, _, _, _, _, h => by simp [mT] at h
  | .call _ _ _ _, _, _, _, _, _, _, _, h => by simp [mT] at h
  | .callB _ _, _, _, _, _, _, _, _, h => by simp [mT] at h
  | .ix _ _, _, _, _, _, _, _, _, h => by simp [mT] at h
  | .bl _, _, _, _, _, _, _, _, h => by simp [mT] at h
  | .int _, _, _, _, _, _, _, _, h => by simp [mT] at h
  | .str _, _, _, _, _, _, _, _, h => by simp [mT] at h
  | .non, _, _, _, _, _, _, _, h => by simp [mT] at h
  | .glob _, _, _, _, _, _, _, _, h => by simp [mT] at h
  | .bty _ _, _, _, _, _, _, _, _, h => by simp [mT] at h
  | .bin _ _ _, _, _, _, _, _, _, _, h => by simp [mT] at h
  | .neg _, _, _, _, _, _, _, _, h => by simp [mT] at h
  | .ife _ _ _, _, _, _, _, _, _, _, h => by simp [mT] at h
  | .tup _, _, _, _, _, _, _, _, h => by simp [mT] at h
  | .lst _ _, _, _, _, _, _, _, _, h => by simp [mT] at h
  | .sl _ _ _, _, _, _, _, _, _, _, h => by simp [mT] at h
  | .callT _ _, _, _, _, _, _, _, _, h => by simp [mT] at h
  | .meth _ _ _, _, _, _, _, _, _, _, h => by simp [mT] at h
  | .comp .., _, _, _, _, _, _, _, h => by simp [mT] at h
  | .comp2 .., _, _, _, _, _, _, _, h => by simp [mT] at h
theorem sndL : ∀ (a : CL) {X : Cx} {Wx : WX} {c : Mc} (k : CtxOk X Wx c) (e : List Expr), mL c a e = true → SA X Wx e (dL c.g a)
  | .nil, X, Wx, c, k, e, h => by
    simp only [mL] at h
    cases e with
    | nil => exact sa_nil
    | cons => cases h
  | .cons a es, X, Wx, c, k, e, h => by
    simp only [mL] at h; split at h
    · simp only [Bool.and_eq_true] at h
      exact sa_cons (sndE a k _ h.1.2) (sndL es k _ h.2) h.1.1
    · cases h
  | .star a es, X, Wx, c, k, e, h => by
    simp only [mL] at h; split at h
    · simp only [Bool.and_eq_true] at h
      exact sa_star (sndE a k _ h.1) (sndL es k _ h.2)
    · cases h
theorem sndK : ∀ (a : CL) {X : Cx} {Wx : WX} {c : Mc} (k : CtxOk X Wx c) (e : List Keyword), mK c a e = true → SK X Wx e (dL c.g a)
  | .nil, X, Wx, c, k, e, h => by
    simp only [mK] at h
    cases e with
    | nil => exact sk_nil
    | cons => cases h
  | .cons a es, X, Wx, c, k, e, h => by
    simp only [mK] at h; split at h
    · simp only [Bool.and_eq_true] at h
      exact sk_cons (sndE a k _ h.1) (sndK es k _ h.2)
    · cases h
  | .star a es, X, Wx, c, k, e, h => by simp [mK] at h
theorem sndO : ∀ (a : CO) {X : Cx} {Wx : WX} {c : Mc} (k : CtxOk X Wx c) (e : Option Expr), mO c a e = true → SOx X Wx e (dO c.g a)
  | .none, X, Wx, c, k, e, h => by
    simp only [mO] at h
    cases e with
    | none => exact so_none
    | some => cases h
  | .some a, X, Wx, c, k, e, h => by
    simp only [mO] at h; split at h
    · exact so_some (sndE a k _ h)
    · cases h
theorem sndC : ∀ (a : CO) {X : Cx} {Wx : WX} {c : Mc} (k : CtxOk X Wx c) (e : List Expr), mC c a e = true → SPT X Wx e (dC c.g a)
  | .none, X, Wx, c, k, e, h => by
    simp only [mC] at h
    cases e with
    | nil => exact spt_nil
    | cons => cases h
  | .some a, X, Wx, c, k, e, h => by
    simp only [mC] at h; split at h
    · exact spt_one (sndT a k _ h)
    · cases h
theorem sndG : ∀ (a : CT) {X : Cx} {Wx : WX} {c : Mc} (k : CtxOk X Wx c) (L : List Nat) (e : Expr), mG c L a e = true → SG X Wx L e (dG c.g a)
  | .name i, X, Wx, c, k, L, e, h => by
    simp only [mG] at h; split at h
    · simp only [Bool.and_eq_true, Bool.or_eq_true, decide_eq_true_eq] at h
      obtain ⟨⟨h1, h2⟩, h3⟩ := h
      refine g_name k.nd (by rw [k.N]; exact h1) ?_ ?_ (by simpa using h3)
      · rcases h2 with h2 | h2
        · exact .inl (by rw [k.sc]; exact h2)
        · exact .inr (by rw [k.sc]; exact h2.1)
      · rcases h2 with h2 | h2
        · exact .inr (by rw [k.sc]; exact h2)
        · exact .inl (k.fc _ h2.2)
    · cases h
  | .tup ts, X, Wx, c, k, L, e, h => by
    simp only [mG] at h; split at h
    · have hh := ts_ok (env := X.env) h
      exact g_tup k.calm (sndGs ts k L _ h) hh.1 hh.2
    · cases h
  | .sub o i, X, Wx, c, k, L, e, h => by
    simp only [mG] at h; split at h
    · simp only [Bool.and_eq_true] at h
      exact g_sub (sndE o k _ h.1.2) (sndE i k _ h.2) h.1.1
    · cases h
theorem sndGs : ∀ (a : CTs) {X : Cx} {Wx : WX} {c : Mc} (k : CtxOk X Wx c) (L : List Nat) (e : List Expr), mGs c L a e = true → SGs X Wx L e (dGs c.g a)
  | .nil, X, Wx, c, k, L, e, h => by
    simp only [mGs] at h
    cases e with
    | nil => exact gs_nil
    | cons => cases h
  | .cons t ts, X, Wx, c, k, L, e, h => by
    simp only [mGs] at h; split at h
    · simp only [Bool.and_eq_true] at h
      exact gs_cons (sndG t k L _ h.1.2) (sndGs ts k L _ h.2) (by rw [assignEach_not h.1.1]; rfl)
    · cases h
theorem sndI : ∀ (a : CI) {X : Cx} {Wx : WX} {c : Mc} (k : CtxOk X Wx c) (tg : Expr) (e : Expr), mI c a e = true → SI X Wx tg e (dI c.g a)
  | .val a, X, Wx, c, k, tg, e, h => by
    simp only [mI] at h
    exact i_val (sndE a k _ h)
  | .rng es, X, Wx, c, k, tg, e, h => by
    simp only [mI] at h; split at h
    · rename_i f p l pos
      simp only [Bool.and_eq_true, Bool.or_eq_true, decide_eq_true_eq] at h
      obtain ⟨⟨⟨⟨h1, h2⟩, h3⟩, h4⟩, h5⟩ := h
      subst h1
      have hl := lenL_ok h5
      have hg := k.gl h2
      have hm : X.mg "range" = none := k.blt "range" (by decide)
      have hsa := sndL es k _ h5
      simp only [dI, hl]
      rcases h4 with h4 | h4
      · match l, h4 with
        | [x], _ =>
          have h3' : notStar x = true ∧ noStars [] = true := by simpa [noStars] using h3
          exact i_rng1 hg hm hsa h3'.1
      · match l, h4 with
        | [x, y], _ => exact i_rng2 hg hm hsa h3
    · cases h
end
end Dp

namespace Dp
open PySem PySem.Spec L2
open PyProof.Rows hiding St

theorem sole_eq {t e : Expr} {l : Nat} {env : Env} : swapsWithSole [t] e l env = swapsWith e (some t) l env := by
  simp only [swapsWithSole]
theorem swaps_no {e : Expr} (h : notComp e = true) (t : Option Expr) (l : Nat) (env : Env) : swapsWith e t l env = pure false := by
  cases e <;> first | rfl | cases h
theorem block_fn {env : Env} (h : env.scope.kind = .function) : env.blockKind = .function := by
  unfold Env.blockKind; rw [h]; rfl
theorem swc_ok {env : Env} {elt : Expr} {gs : List Comprehension} {scope : Scope} {pos py : Pos} {y : Str} {l : Nat} (hk : env.scope.kind = .function) :
    swapsWith (.ListComp elt gs scope pos) (some (.Name y py)) l env = pure (swc env.scope scope y py pos) := by
  unfold swapsWith swc
  simp only [block_fn hk, Env.kindOf, Expr.pos]
  rfl
theorem sws_ok {env : Env} {ts vs : List Expr} {k k2 : Nat} {p p2 : Pos} {r : Option (List Str)} (hk : env.scope.kind = .function) (h : sws env.scope ts vs = some r) :
    swappedStores [.Tuple ts k p] (.Tuple vs k2 p2) env = pure r := by
  unfold sws at h
  unfold swappedStores
  simp only [block_fn hk, Env.kindOf]
  have e0 : ∀ b : Bool, (b || ScopeKind.function != ScopeKind.function) = b := by decide
  rw [e0]
  split at h
  · rename_i h1
    cases h
    exact if_pos h1
  · rename_i h1
    refine (if_neg h1).trans ?_
    split at h
    · rename_i h2
      cases h
      exact if_pos h2
    · rename_i h2
      refine (if_neg h2).trans ?_
      split at h
      · rename_i h3
        cases h
        exact if_pos h3
      · rename_i h3
        refine (if_neg h3).trans ?_
        split at h
        · rename_i h4
          cases h
          exact if_pos h4
        · rename_i h4
          refine (if_neg h4).trans ?_
          split at h
          · cases h
          · rename_i h5
            cases h
            exact if_neg h5
theorem stores_no {tg e : Expr} (env : Env) (h : (tupB tg && tupB e) = false) (hl : listB tg = false) : swappedStores [tg] e env = pure none := by
  cases tg <;> first | rfl | cases hl | skip
  cases e <;> first | rfl | cases h
section
variable {X : Cx} {Wx : WX} {c : Mc}
theorem asg_ok (k : CtxOk X Wx c) {tg e : Expr} {pos : Pos} (h : asgOk c.sc tg e = true) : swapsWithSole [tg] e pos.line X.env = pure false ∧ swappedStores [tg] e X.env = pure none := by
  have hk : X.env.scope.kind = .function := by rw [k.sc]; exact k.kind
  unfold asgOk at h
  split at h
  · rename_i y py elt gs scope pos'
    refine ⟨?_, rfl⟩
    rw [sole_eq, swc_ok hk, k.sc]
    have : swc c.sc scope y py pos' = false := by simpa using h
    rw [this]
  · refine ⟨rfl, sws_ok hk ?_⟩
    rw [k.sc]
    exact of_decide_eq_true h
  · simp only [Bool.and_eq_true, Bool.not_eq_true'] at h
    exact ⟨by rw [sole_eq]; exact swaps_no h.1.1 _ _ _, stores_no _ h.1.2 h.2⟩
theorem snd_setc (k : CtxOk X Wx c) {L : List Nat} {i : Nat} {y : Str} {py pos sp : Pos} {ee : Expr} {gs : List Comprehension} {scope : Scope} {own : Bool} {LL : List (Str × Nat)} {elt : CE} {tg : CT} {it : CI} {d : CO}
    (hs : swc c.sc scope y py pos = true) (hi : c.N[i]? = some y) (hL : i ∈ L) (h : mE c (.comp own LL elt tg it d) (.ListComp ee gs scope pos) = true) :
    SS X Wx L (.Assign [.Name y py] (.ListComp ee gs scope pos) sp) (asgn (dE c.g (.comp own LL elt tg it d)) (setv i)) := by
  have hk : X.env.scope.kind = .function := by rw [k.sc]; exact k.kind
  have hy : c.sc.names.lookup y = some .local := by
    unfold swc at hs
    simp only [Bool.and_eq_true] at hs
    exact eq_of_beq hs.1.1
  simp only [mE] at h; split at h
  · rename_i he
    cases he
    simp only [Bool.and_eq_true, decide_eq_true_eq] at h
    obtain ⟨⟨⟨⟨⟨⟨h1, h2⟩, h3⟩, h4⟩, h5⟩, h6⟩, h7⟩ := h
    subst h1
    have hb : BlkOk X.N X.env.scope scope LL := by rw [k.N, k.sc]; exact blkOk_by h2
    exact c_setLc (ends1 own) k.calm k.nd (by rw [k.N]; exact hi) (by rw [k.sc]; exact hy) hL (by rw [swc_ok hk, k.sc, hs]) (sndI it k _ _ h4) hb (fun s H C cl fp => sndG tg (k.blk hb s H C cl fp) _ _ h5) (fun s H C cl fp => sndC d (k.blk hb s H C cl fp) _ h6) (fun s H C cl fp => sndE elt (k.blk hb s H C cl fp) _ h7) (fold_ok h3 _)
  · cases h
theorem snd_setc2 (k : CtxOk X Wx c) {L : List Nat} {i : Nat} {y : Str} {py pos sp : Pos} {ee : Expr} {gs : List Comprehension} {scope : Scope} {own : Bool} {LL : List (Str × Nat)} {L1 : List Nat} {elt : CE} {tg tg1 : CT} {it it1 : CI} {d d1 : CO}
    (hs : swc c.sc scope y py pos = true) (hi : c.N[i]? = some y) (hL : i ∈ L) (h : mE c (.comp2 own LL L1 elt tg it d tg1 it1 d1) (.ListComp ee gs scope pos) = true) :
    SS X Wx L (.Assign [.Name y py] (.ListComp ee gs scope pos) sp) (asgn (dE c.g (.comp2 own LL L1 elt tg it d tg1 it1 d1)) (setv i)) := by
  have hk : X.env.scope.kind = .function := by rw [k.sc]; exact k.kind
  have hy : c.sc.names.lookup y = some .local := by
    unfold swc at hs
    simp only [Bool.and_eq_true] at hs
    exact eq_of_beq hs.1.1
  simp only [mE] at h; split at h
  · rename_i he
    cases he
    simp only [Bool.and_eq_true, decide_eq_true_eq] at h
    obtain ⟨⟨⟨⟨⟨⟨⟨⟨⟨⟨⟨⟨h1, h1'⟩, h2⟩, hL1⟩, h3⟩, h3'⟩, h4⟩, h5⟩, h6⟩, h8⟩, h9⟩, h10⟩, h7⟩ := h
    subst h1; subst h1'
    have hb : BlkOk X.N X.env.scope scope LL := by rw [k.N, k.sc]; exact blkOk_by h2
    exact c_setLc2 (ends1 own) k.calm k.nd (by rw [k.N]; exact hi) (by rw [k.sc]; exact hy) hL (by rw [swc_ok hk, k.sc, hs]) (sndI it k _ _ h4) hb (fun i hi => by have := (List.all_eq_true.mp hL1) i hi; simpa using this)
      (fun s H C cl fp => sndG tg (k.blk hb s H C cl fp) _ _ h5) (fun s H C cl fp => sndC d (k.blk hb s H C cl fp) _ h6) (fun s H C cl fp => sndI it1 (k.blk hb s H C cl fp) _ _ h8) (fun s H C cl fp => sndG tg1 (k.blk hb s H C cl fp) _ _ h9)
      (fun s H C cl fp => sndC d1 (k.blk hb s H C cl fp) _ h10) (fun s H C cl fp => sndE elt (k.blk hb s H C cl fp) _ h7) (fold_ok h3 _) (fun env x => fold_ok h3' env x)
  · cases h
end
mutual
theorem sndS : ∀ (a : CS) {X : Cx} {Wx : WX} {c : Mc} {L : List Nat} (k : CtxOk X Wx c) (hp : PassesOwn (model X.prog X.w) X.A X.env X.xe) (s : Stmt), mS c L a s = true → SS X Wx L s (dS c.g a)
  | .expr e, X, Wx, c, L, k, hp, s, h => by
    simp only [mS] at h; split at h
    · simp only [Bool.and_eq_true] at h
      exact c_expr (sndE e k _ h.2) (swaps_no h.1 _ _ _)
    · cases h
  | .asg t e, X, Wx, c, L, k, hp, s, h => by
    simp only [mS] at h; split at h
    · simp only [Bool.and_eq_true] at h
      obtain ⟨⟨⟨h1, h2⟩, h3⟩, h4⟩ := h
      obtain ⟨a1, a2⟩ := asg_ok k h2
      exact c_asg (sndE e k _ h4) (sndG t k L _ h3) a1 a2 (by rw [assignEach_not h1]; rfl)
    · cases h
  | .setc i e, X, Wx, c, L, k, hp, s, h => by
    simp only [mS] at h; split at h
    · simp only [Bool.and_eq_true, decide_eq_true_eq] at h
      obtain ⟨⟨⟨⟨h0, h1⟩, h2⟩, h3⟩, h4⟩ := h
      cases e with
      | comp own LL elt tg it d => exact snd_setc k h1 h2 (by simpa using h3) h4
      | comp2 own LL L1 elt tg it d tg1 it1 d1 => exact snd_setc2 k h1 h2 (by simpa using h3) h4
      | _ => cases h0
    · cases h
  | .par2 i j es, X, Wx, c, L, k, hp, s, h => by
    simp only [mS] at h; split at h
    · simp only [Bool.and_eq_true, decide_eq_true_eq] at h
      obtain ⟨⟨⟨⟨⟨⟨⟨⟨h1, h2⟩, h3⟩, h4⟩, h5⟩, h6⟩, h7⟩, h8⟩, h9⟩ := h
      exact c_par k.calm k.nd (by rw [k.N]; exact h1) (by rw [k.N]; exact h2) h3 (by rw [k.sc]; exact h4) (by rw [k.sc]; exact h5) (sndL es k _ h9) (sws_ok (by rw [k.sc]; exact k.kind) (by rw [k.sc]; exact h6)) rfl ⟨by simpa using h7, by simpa using h8⟩
    · cases h
  | .par3 i j l es, X, Wx, c, L, k, hp, s, h => by
    simp only [mS] at h; split at h
    · simp only [Bool.and_eq_true, decide_eq_true_eq] at h
      obtain ⟨⟨⟨⟨⟨⟨⟨⟨⟨⟨⟨⟨⟨h1, h2⟩, h3⟩, h4⟩, h5⟩, h6⟩, h7⟩, h8⟩, h9⟩, h10⟩, h11⟩, h12⟩, h13⟩, h14⟩ := h
      exact c_par3 k.calm k.nd (by rw [k.N]; exact h1) (by rw [k.N]; exact h2) (by rw [k.N]; exact h3) h4 h5 h6 (by rw [k.sc]; exact h7) (by rw [k.sc]; exact h8) (by rw [k.sc]; exact h9) (sndL es k _ h14) (sws_ok (by rw [k.sc]; exact k.kind) (by rw [k.sc]; exact h10)) rfl ⟨by simpa using h11, by simpa using h12, by simpa using h13⟩
    · cases h
  | .ret e, X, Wx, c, L, k, hp, s, h => by
    simp only [mS] at h; split at h
    · exact c_ret (sndE e k _ h)
    · cases h
  | .retN, X, Wx, c, L, k, hp, s, h => by
    simp only [mS] at h; split at h
    · exact c_retN
    · cases h
  | .ifs t a b, X, Wx, c, L, k, hp, s, h => by
    simp only [mS] at h; split at h
    · simp only [Bool.and_eq_true] at h
      exact c_if (sndT t k _ h.1.1) (sndB a k hp _ h.1.2) (sndB b k hp _ h.2)
    · cases h
  | .loop t it b, X, Wx, c, L, k, hp, s, h => by
    simp only [mS] at h; split at h
    · simp only [Bool.and_eq_true] at h
      obtain ⟨⟨⟨h1, h2⟩, h3⟩, h4⟩ := h
      exact c_for hp k.calm (sndI it k _ _ h2) (sndG t k L _ h3) (sndB b k hp _ h4) (fold_ok h1 _)
    · cases h
  | .whl t b, X, Wx, c, L, k, hp, s, h => by
    simp only [mS] at h; split at h
    · simp only [Bool.and_eq_true] at h
      exact c_while hp (sndT t k _ h.1) (sndB b k hp _ h.2)
    · cases h
  | .pass, X, Wx, c, L, k, hp, s, h => by
    simp only [mS] at h; split at h
    · exact c_pass
    · cases h
  | .brk, X, Wx, c, L, k, hp, s, h => by
    simp only [mS] at h; split at h
    · exact c_break
    · cases h
  | .cont, X, Wx, c, L, k, hp, s, h => by
    simp only [mS] at h; split at h
    · exact c_cont
    · cases h
  | .never, X, Wx, c, L, k, hp, s, h => .of ps_never fun D σ H F S env er w q => q.elim
  | .doc, X, Wx, c, L, k, hp, s, h => by
    simp only [mS] at h; split at h
    · exact c_doc
    · cases h
theorem sndB : ∀ (a : CB) {X : Cx} {Wx : WX} {c : Mc} {L : List Nat} (k : CtxOk X Wx c) (hp : PassesOwn (model X.prog X.w) X.A X.env X.xe) (s : List Stmt), mB c L a s = true → SSs X Wx L s (dB c.g a)
  | .nil, X, Wx, c, L, k, hp, s, h => by
    simp only [mB] at h
    cases s with
    | nil => exact b_nil
    | cons => cases h
  | .cons a b, X, Wx, c, L, k, hp, s, h => by
    simp only [mB] at h; split at h
    · simp only [Bool.and_eq_true] at h
      exact b_cons (sndS a k hp _ h.1) (sndB b k hp _ h.2)
    · cases h
  | .frz i b, X, Wx, c, L, k, hp, s, h => by
    simp only [mB] at h
    exact b_freeze (sndB b k hp _ h)
end

/-! ### a def -/
/-- the value of a body -/
def runB (m : M Res) : M PV := bnd m fun r => match r with
  | .rt v => ret v
  | .nx _ => ret .non
  | _ => stuck
def startE (N : Nat) (args : List PV) : En := args.map some ++ List.replicate (N - args.length) none
/-- stronger -/
def M.le {α : Type} (m n : M α) : Prop := ∀ S Q E, m.run S Q E → n.run S Q E
structure Df where
  /-- its statement, names by slot, how many are parameters, its body -/
  st : Stmt
  N : List Str
  np : Nat
  body : CB
def Df.L (d : Df) : List Nat := List.range d.N.length
def Df.den (g : Sg) (d : Df) (args : List PV) : M PV := runB (dB g d.body (startE d.N.length args))
def okScope (N P : List Str) (sc : Scope) : Bool :=
  (match sc.kind with | .function => true | _ => false) && !sc.isCoroutine && !sc.isGenerator && decide N.Nodup && decide (N.take P.length = P) && P.all (fun x => decide (sc.names.lookup x = some .local) || decide (sc.names.lookup x = some .cell)) && sc.names.all (fun y => y.2 != .free)
theorem scope_ok {N P : List Str} {sc : Scope} (h : okScope N P sc = true) : FnScope N P sc := by
  unfold okScope at h
  simp only [Bool.and_eq_true, decide_eq_true_eq, Bool.not_eq_true', List.all_eq_true, Bool.or_eq_true] at h
  obtain ⟨⟨⟨⟨⟨⟨h1, h2⟩, h3⟩, h4⟩, h5⟩, h6⟩, h7⟩ := h
  refine ⟨?_, h2, h3, h4, h5, h6, fun y hy e => ?_⟩
  · split at h1
    · assumption
    · cases h1
  · have := h7 y hy
    rw [e] at this
    cases this
def mcOf (g : Sg) (d : Df) : Mc := ⟨g, d.N, defScope d.st, fun _ => true⟩
def chkDf (g : Sg) (d : Df) : Bool := okScope d.N (d.N.take d.np) (defScope d.st) && decide (d.np ≤ d.N.length) && mB (mcOf g d) d.L d.body (defBody d.st)
/-- what stands in the module -/
structure World1 (P : Program) (w : World) (K : PySem.W.Frag) (mg : Str → Option Value) (base : Heap) (g : Sg) : Prop where
  glo : ∀ i p, g.G i = some p → ∃ u v, mg p.1 = some u ∧ RelV v u ∧ Wr ⟨K, mg⟩ p.2 v
  blt : ∀ x ∈ bltNames, mg (Str.ofString x) = none
structure FnAt' (P : Program) (w : World) (K : PySem.W.Frag) (mg : Str → Option Value) (base : Heap) (k : Nat) (f : Str) (fn : Fn) : Prop where
  ex : ∃ (a : Addr) (fd : FuncData), mg f = some (.ref a) ∧ PySem.W.keepIn K (.ref a) = true ∧ FnOk P w K mg base (L2.CX P w) k a fd fn.ps (FnSp ⟨K, mg⟩ fn.ps.length fn.m) ∧
    ∀ sh ∈ fn.shapes, ∀ (s : Shared) (us ws : List Value), K.In s.heap → us.length = sh.n → ws.length = sh.ks.length → BindsTo s fd ⟨us, sh.ks.zip ws⟩ (fn.ps.zip (pick sh.ix (us ++ ws)))
theorem startE_rep {Z F H} {N : List Str} {args : List PV} {vs : List V} (r : RepL Z F H args vs) : EnvR Z F H (startE N.length args) (L2.start N vs) := by
  have hl := r.length
  refine ⟨?_, fun i x h => ?_⟩
  · unfold startE L2.start
    simp [hl]
  · unfold startE at h
    unfold L2.start
    by_cases hi : i < args.length
    · rw [List.getElem?_append_left (by simpa using hi), List.getElem?_map] at h
      cases e : args[i]? with
      | none => rw [e] at h; cases h
      | some y =>
        rw [e] at h
        cases h
        obtain ⟨v, hv, rv⟩ := r.get e
        refine ⟨v, ?_, rv⟩
        rw [List.getElem?_append_left (by rw [List.length_map, ← hl]; exact hi), List.getElem?_map, hv]
        rfl
    · rw [List.getElem?_append_right (by simpa using hi), List.getElem?_replicate] at h
      split at h <;> cases h
theorem def_ok {P : Program} {w : World} {K : PySem.W.Frag} {mg : Str → Option Value} {base : Heap} {g : Sg} {d : Df} {x : Str} {f : Addr} {fd : FuncData} {m : List PV → M PV} (F : L2.Fun K x x d.st f fd) (W1 : World1 P w K mg base g)
    (tab : ∀ k fn, g.T k = some fn → g.lv k ≤ g.n → FnAt' P w K mg base (g.lv k) fn.nm fn.toFn) (hc : chkDf g d = true) (hm : ∀ args, args.length = d.np → M.le (m args) (d.den g args)) :
    FnOk P w K mg base (L2.CX P w) (g.n + 1) f fd (d.N.take d.np) (FnSp ⟨K, mg⟩ (d.N.take d.np).length m) := by
  unfold chkDf at hc
  simp only [Bool.and_eq_true, decide_eq_true_eq] at hc
  obtain ⟨⟨h1, h2⟩, h3⟩ := hc
  have S := scope_ok h1
  have hlen : (d.N.take d.np).length = d.np := by rw [List.length_take]; omega
  obtain ⟨oc, od, kV, doc, pm, an, cdv, ct, osl, rfl, lk, hcd⟩ := F.ex
  refine fn_of lk hcd S (fun vs H Q E h => h.1) fun A outer s H vs Q E hr hsp => ?_
  obtain ⟨hl, F0, S0, args, rp, w0, q⟩ := hsp
  let X := cxOf (L2.CX P w) P w K mg base d.N x (defScope d.st) f cdv A outer s H E
  have tk : Takes X (fun cls dd _ H' => E cls dd H') := takes_of rfl rfl rfl rfl
  have k : CtxOk X (fun cls dd _ H' => E cls dd H') (mcOf g d) :=
    ⟨rfl, rfl, S.kind, rfl, S.nd, fun _ _ => rfl, hr, tk, fun i fn a b => ⟨(tab i fn a b).ex⟩, W1.glo, W1.blt⟩
  have hp : PassesOwn (model X.prog X.w) X.A X.env X.xe := passes_of rfl
  have hb := sndB d.body (L := d.L) k hp _ h3
  refine ⟨_, hb, F0, S0, startE d.N.length args, startE_rep rp, w0, ?_⟩
  have hargs : args.length = d.np := by rw [rp.length, hl, hlen]
  have q' := hm args hargs S0 _ _ q
  refine (dB g d.body _).mono (fun r S' q => ?_) (fun e S' q F' H' c' d' σ' n ex o => q F' H' c' d' n ex) q'
  cases r with
  | nx env => exact fun F' H' σ' n er o => q F' H' _ n .non
  | rt v => exact q
  | bk env => exact q.elim
  | ct env => exact q.elim
end Dp

namespace Dp
open PySem PySem.Spec L2
open PyProof.Rows hiding St

/-! ### reckoning with M -/
/-- any value that is so -/
def any {α : Type} (P : α → Prop) : M α := ⟨fun S Q _ => ∀ a, P a → Q a S, fun h _ q => fun a p => h _ _ (q a p)⟩
/-- an owned list's items -/
def getc (a : Addr) : M (List PV) := ⟨fun S Q _ => ∃ xs, S a = some (.lst xs) ∧ Q xs S, fun h _ ⟨xs, e, q⟩ => ⟨xs, e, h _ _ q⟩⟩
def putc (a : Addr) (xs : List PV) : M Unit := ⟨fun S Q _ => Q () (put S a (.lst xs)), fun h _ q => h _ _ q⟩
theorem M.le_refl {α : Type} {m : M α} : M.le m m := fun _ _ _ q => q
theorem M.le_of_eq {α : Type} {m n : M α} (h : m = n) : M.le m n := h ▸ M.le_refl
theorem le_guard {α : Type} {p : Prop} {f : Unit → M α} {n : M α} (h : p → M.le (f ()) n) : M.le (bnd (guard p) f) n := fun S Q E q => h q.1 S Q E q.2
theorem le_stuck {α : Type} {n : M α} : M.le stuck n := fun _ _ _ q => q.elim
theorem guard_ok {α : Type} {p : Prop} {f : Unit → M α} (h : p) : bnd (guard p) f = f () := guard_true h
theorem guard_no {α : Type} {p : Prop} {f : Unit → M α} (h : ¬ p) : bnd (guard p) f = stuck := M.ext fun S Q E => propext ⟨fun q => h q.1, fun q => q.elim⟩
theorem bnd_congr {α β : Type} {m : M α} {f g : α → M β} (h : ∀ a, f a = g a) : bnd m f = bnd m g := by rw [show f = g from funext h]
end Dp

namespace Dp
open PySem PySem.Spec L2
open PyProof.Rows hiding St
/-! ### symbolic runs -/
def setK {γ : Sort _} : En → Nat → Option PV → (En → γ) → γ
  | l, i, x, k => k (l.set i x)
def wipeK {γ : Sort _} (env : En) (vs : List Nat) (k : En → γ) : γ := k (wipeE env vs)
def appK {γ : Sort _} (l : List PV) (x : PV) (k : List PV → γ) : γ := k (l ++ [x])
def catK {γ : Sort _} (l m : List PV) (k : List PV → γ) : γ := k (l ++ m)
def endR : Res → M PV
  | .rt v => ret v
  | .nx _ => ret .non
  | _ => stuck
def forR (src : Src) (body : PV → En → M Res) (xs : List PV) : Res → M Res
  | .nx e => forM src body xs e
  | .ct e => forM src body xs e
  | .bk e => ret (.nx e)
  | .rt v => ret (.rt v)
section
variable {α β : Type} {S : Stt} {g : Sg} {env : En}
section
variable {Q : α → Stt → Prop} {E : Exc → Stt → Prop}
theorem r_ret {a : α} : (ret a).run S Q E = Q a S := rfl
theorem r_bnd {m : M β} {f : β → M α} : (bnd m f).run S Q E = m.run S (fun a S1 => (f a).run S1 Q E) E := rfl
theorem r_guard {p : Prop} {Q : Unit → Stt → Prop} : (guard p).run S Q E = (p ∧ Q () S) := rfl
theorem r_ite {c : Prop} [Decidable c] {m n : M α} : (if c then m else n).run S Q E = if c then m.run S Q E else n.run S Q E := by split <;> rfl
theorem r_ofO {a : α} : (ofO (some a)).run S Q E = Q a S := rfl
theorem r_noexc {m : M α} : (noexc m).run S Q E = m.run S Q (fun _ _ => False) := rfl
theorem r_any {P : α → Prop} : (any P).run S Q E = ∀ a, P a → Q a S := rfl
theorem k_set0 {γ : Sort _} {o x : Option PV} {l : En} {k : En → γ} : setK (o :: l) 0 x k = k (x :: l) := rfl
theorem k_setS {γ : Sort _} {o x : Option PV} {l : En} {n : Nat} {k : En → γ} : setK (o :: l) (n + 1) x k = setK l n x fun l => k (o :: l) := rfl
theorem k_wipe0 {γ : Sort _} {l : En} {k : En → γ} : wipeK l [] k = k l := rfl
theorem k_wipeS {γ : Sort _} {l : En} {v : Nat} {vs : List Nat} {k : En → γ} : wipeK l (v :: vs) k = wipeK l vs fun e => setK e v none k := rfl
theorem k_app0 {γ : Sort _} {x : PV} {k : List PV → γ} : appK [] x k = k [x] := rfl
theorem k_appS {γ : Sort _} {y x : PV} {l : List PV} {k : List PV → γ} : appK (y :: l) x k = appK l x fun l => k (y :: l) := rfl
theorem k_cat0 {γ : Sort _} {m : List PV} {k : List PV → γ} : catK [] m k = k m := rfl
theorem k_catS {γ : Sort _} {y : PV} {l m : List PV} {k : List PV → γ} : catK (y :: l) m k = catK l m fun l => k (y :: l) := rfl
end
section
variable {Q : PV → Stt → Prop} {E : Exc → Stt → Prop}
theorem r_get0 {x : PV} {l : En} : (getv (some x :: l) 0).run S Q E = Q x S := rfl
theorem r_getS {o : Option PV} {l : En} {n : Nat} : (getv (o :: l) (n + 1)).run S Q E = (getv l n).run S Q E := rfl
theorem r_var {i : Nat} : (dE g (.var i) env).run S Q E = (getv env i).run S Q E := rfl
theorem r_int {i : Int} : (dE g (.int i) env).run S Q E = Q (.int i) S := rfl
theorem r_str {i : Str} : (dE g (.str i) env).run S Q E = Q (.str i) S := rfl
theorem r_bl {i : Bool} : (dE g (.bl i) env).run S Q E = Q (.bl i) S := rfl
theorem r_non : (dE g .non env).run S Q E = Q .non S := rfl
theorem r_bty {x n : String} : (dE g (.bty x n) env).run S Q E = Q (.ty n) S := rfl
theorem r_bin {op : Bop} {a b : CE} : (dE g (.bin op a b) env).run S Q E = (dE g a env).run S (fun x S => (dE g b env).run S (fun y S => (op.sem x y).run S Q E) E) E := rfl
theorem r_neg {a : CE} : (dE g (.neg a) env).run S Q E = (dE g a env).run S (fun x S => (vNeg x).run S Q E) E := rfl
theorem r_nt {a : CE} : (dE g (.nt a) env).run S Q E = (dE g a env).run S (fun x S => (vNot x).run S Q E) E := rfl
theorem r_cmp {op : Cop} {a b : CE} : (dE g (.cmp op a b) env).run S Q E = (dE g a env).run S (fun x S => (dE g b env).run S (fun y S => (op.sem x y).run S Q E) E) E := rfl
theorem r_chn {o1 o2 : Cop} {a b c : CE} : (dE g (.chn o1 o2 a b c) env).run S Q E = (dE g a env).run S (fun x S => (dE g b env).run S (fun y S => (o1.sem x y).run S (fun t S => (vTruth t).run S (fun d S => if d = true then (dE g c env).run S (fun z S => (o2.sem y z).run S Q E) E else Q t S) E) E) E) E := by
  show (dE g a env).run S (fun x S => (dE g b env).run S (fun y S => (o1.sem x y).run S (fun t S => (vTruth t).run S (fun d S => (if d = true then bnd (dE g c env) fun z => o2.sem y z else ret t : M PV).run S Q E) E) E) E) E = _
  simp only [r_ite]; rfl
theorem r_tv {a : CE} : (dE g (.tv a) env).run S Q E = (dE g a env).run S Q E := rfl
theorem r_b1 {a : CE} : (dE g (.b1 a) env).run S Q E = (dE g a env).run S Q E := rfl
theorem r_and {a b : CE} : (dE g (.and a b) env).run S Q E = (dE g a env).run S (fun x S => (vTruth x).run S (fun t S => if t = true then (dE g b env).run S Q E else Q x S) E) E := by
  show (dE g a env).run S (fun x S => (vTruth x).run S (fun t S => (if t = true then dE g b env else ret x : M PV).run S Q E) E) E = _
  simp only [r_ite]; rfl
theorem r_or {a b : CE} : (dE g (.or a b) env).run S Q E = (dE g a env).run S (fun x S => (vTruth x).run S (fun t S => if t = true then Q x S else (dE g b env).run S Q E) E) E := by
  show (dE g a env).run S (fun x S => (vTruth x).run S (fun t S => (if t = true then ret x else dE g b env : M PV).run S Q E) E) E = _
  simp only [r_ite]; rfl
theorem r_ife {c a b : CE} : (dE g (.ife c a b) env).run S Q E = (dT g c env).run S (fun t S => if t = true then (dE g a env).run S Q E else (dE g b env).run S Q E) E := by
  show (dT g c env).run S (fun t S => (if t = true then dE g a env else dE g b env : M PV).run S Q E) E = _
  simp only [r_ite]
theorem r_tup {es : CL} : (dE g (.tup es) env).run S Q E = (dL g es env).run S (fun xs S => (xs.length ≤ sizeLine ∧ Q (.tup xs) S)) E := rfl
theorem r_lst {es : CL} : (dE g (.lst false es) env).run S Q E = (dL g es env).run S (fun xs S => (xs.length ≤ sizeLine ∧ Q (.lst xs) S)) E := rfl
theorem r_own {es : CL} : (dE g (.lst true es) env).run S Q E = (dL g es env).run S (fun xs S => (xs.length ≤ sizeLine ∧ ∀ p, S p = none → Q (.ref p) (put S p (.lst xs)))) E := rfl
theorem r_ix {a i : CE} : (dE g (.ix a i) env).run S Q E = (dE g a env).run S (fun x S => (dE g i env).run S (fun y S => (vIdx x y).run S Q E) E) E := rfl
theorem r_sl {a : CE} {lo hi : CO} : (dE g (.sl a lo hi) env).run S Q E = (dE g a env).run S (fun x S => (dO g lo env).run S (fun l S => (dO g hi env).run S (fun h S => (vSlice l h x).run S Q E) E) E) E := rfl
theorem r_callB {f : Bf} {es : CL} : (dE g (.callB f es) env).run S Q E = (dL g es env).run S (fun xs S => (f.sem xs).run S Q E) E := rfl
theorem r_callT {f : Bt} {es : CL} : (dE g (.callT f es) env).run S Q E = (dL g es env).run S (fun xs S => (f.sem xs).run S Q E) E := rfl
theorem r_meth {m : Mt} {o : CE} {es : CL} : (dE g (.meth m o es) env).run S Q E = (dE g o env).run S (fun x S => (isT m.T x).run S (fun _ S => (dL g es env).run S (fun xs S => (m.sem x xs).run S Q E) E) E) E := rfl
/-- the body of a comprehension, one clause -/
def compF (g : Sg) (elt : CE) (tg : CT) (c : CO) (w : En) (x : PV) (acc : List PV) : M (List PV) := noexc (bnd (dG g tg x w) fun env1 => bnd (dC g c env1) fun t => if t = true then bnd (dE g elt env1) fun y => app1 acc y else ret acc)
theorem r_comp {L : List (Str × Nat)} {elt : CE} {tg : CT} {it : CI} {c : CO} : (dE g (.comp false L elt tg it c) env).run S Q E = (dI g it env).run S (fun p S => wipeK env (L.map (·.2)) fun w => (compM p.1 (compF g elt tg c w) p.2 []).run S (fun xs S => Q (.lst xs) S) E) E := rfl
theorem r_compO {L : List (Str × Nat)} {elt : CE} {tg : CT} {it : CI} {c : CO} : (dE g (.comp true L elt tg it c) env).run S Q E = (dI g it env).run S (fun p S => wipeK env (L.map (·.2)) fun w => (compM p.1 (compF g elt tg c w) p.2 []).run S (fun xs S => ∀ p, S p = none → Q (.ref p) (put S p (.lst xs))) E) E := rfl
end
section
variable {Q : List PV → Stt → Prop} {E : Exc → Stt → Prop}
theorem r_compF {elt : CE} {tg : CT} {c : CO} {w : En} {x : PV} {acc : List PV} : (compF g elt tg c w x acc).run S Q E = (dG g tg x w).run S (fun env1 S => (dC g c env1).run S (fun t S => if t = true then (dE g elt env1).run S (fun y S => (acc.length < sizeLine ∧ appK acc y fun l => Q l S)) (fun _ _ => False) else Q acc S) (fun _ _ => False)) (fun _ _ => False) := by
  show (dG g tg x w).run S (fun env1 S => (dC g c env1).run S (fun t S => (if t = true then bnd (dE g elt env1) fun y => app1 acc y else ret acc : M (List PV)).run S Q (fun _ _ => False)) (fun _ _ => False)) (fun _ _ => False) = _
  simp only [r_ite]; rfl
theorem r_cm0 {body : PV → List PV → M (List PV)} {acc : List PV} : (compM .fix body [] acc).run S Q E = Q acc S := rfl
theorem r_cmS {body : PV → List PV → M (List PV)} {acc xs : List PV} {x : PV} : (compM .fix body (x :: xs) acc).run S Q E = (body x acc).run S (fun acc S => (compM .fix body xs acc).run S Q E) E := rfl
theorem r_l0 : (dL g .nil env).run S Q E = Q [] S := rfl
theorem r_lc {e : CE} {es : CL} : (dL g (.cons e es) env).run S Q E = (dE g e env).run S (fun x S => (dL g es env).run S (fun xs S => Q (x :: xs) S) E) E := rfl
theorem r_ls {e : CE} {es : CL} : (dL g (.star e es) env).run S Q E = (dE g e env).run S (fun x S => (vItems x).run S (fun ys S => (dL g es env).run S (fun xs S => catK ys xs fun l => Q l S) E) E) E := rfl
end
/-- two clauses: the inner body, the outer one -/
def compI (g : Sg) (elt : CE) (tg : CT) (c : CO) (w : En) (x : PV) (acc : List PV) : M (List PV) := bnd (dG g tg x w) fun env1 => bnd (dC g c env1) fun t => if t = true then bnd (dE g elt env1) fun y => app1 acc y else ret acc
def compF2 (g : Sg) (elt : CE) (tg : CT) (c : CO) (L1 : List Nat) (tg1 : CT) (it1 : CI) (c1 : CO) (w : En) (x : PV) (acc : List PV) : M (List PV) := noexc (bnd (dG g tg x w) fun env1 => bnd (dC g c env1) fun t => if t = true then bnd (dI g it1 env1) fun p1 => compM p1.1 (compI g elt tg1 c1 (wipeE env1 L1)) p1.2 acc else ret acc)
section
variable {Q : PV → Stt → Prop} {E : Exc → Stt → Prop}
theorem r_comp2 {L : List (Str × Nat)} {L1 : List Nat} {elt : CE} {tg : CT} {it : CI} {c : CO} {tg1 : CT} {it1 : CI} {c1 : CO} : (dE g (.comp2 false L L1 elt tg it c tg1 it1 c1) env).run S Q E = (dI g it env).run S (fun p S => wipeK env (L.map (·.2)) fun w => (compM p.1 (compF2 g elt tg c L1 tg1 it1 c1 w) p.2 []).run S (fun xs S => Q (.lst xs) S) E) E := rfl
end
section
variable {Q : List PV → Stt → Prop} {E : Exc → Stt → Prop}
theorem r_compI {elt : CE} {tg : CT} {c : CO} {w : En} {x : PV} {acc : List PV} : (compI g elt tg c w x acc).run S Q E = (dG g tg x w).run S (fun env1 S => (dC g c env1).run S (fun t S => if t = true then (dE g elt env1).run S (fun y S => (acc.length < sizeLine ∧ appK acc y fun l => Q l S)) E else Q acc S) E) E := by
  show (dG g tg x w).run S (fun env1 S => (dC g c env1).run S (fun t S => (if t = true then bnd (dE g elt env1) fun y => app1 acc y else ret acc : M (List PV)).run S Q E) E) E = _
  simp only [r_ite]; rfl
theorem r_compF2 {elt : CE} {tg : CT} {c : CO} {L1 : List Nat} {tg1 : CT} {it1 : CI} {c1 : CO} {w : En} {x : PV} {acc : List PV} : (compF2 g elt tg c L1 tg1 it1 c1 w x acc).run S Q E = (dG g tg x w).run S (fun env1 S => (dC g c env1).run S (fun t S => if t = true then (dI g it1 env1).run S (fun p1 S => wipeK env1 L1 fun w1 => (compM p1.1 (compI g elt tg1 c1 w1) p1.2 acc).run S Q (fun _ _ => False)) (fun _ _ => False) else Q acc S) (fun _ _ => False)) (fun _ _ => False) := by
  show (dG g tg x w).run S (fun env1 S => (dC g c env1).run S (fun t S => (if t = true then bnd (dI g it1 env1) fun p1 => compM p1.1 (compI g elt tg1 c1 (wipeE env1 L1)) p1.2 acc else ret acc : M (List PV)).run S Q (fun _ _ => False)) (fun _ _ => False)) (fun _ _ => False) = _
  simp only [r_ite]; rfl
end
section
variable {Q : Bool → Stt → Prop} {E : Exc → Stt → Prop}
theorem r_tnt {a : CE} : (dT g (.nt a) env).run S Q E = (dT g a env).run S (fun t S => Q (!t) S) E := rfl
theorem r_tb1 {a : CE} : (dT g (.b1 a) env).run S Q E = (dT g a env).run S Q E := rfl
theorem r_tand {a b : CE} : (dT g (.and a b) env).run S Q E = (dT g a env).run S (fun t S => if t = true then (dT g b env).run S Q E else Q false S) E := by
  show (dT g a env).run S (fun t S => (if t = true then dT g b env else ret false : M Bool).run S Q E) E = _
  simp only [r_ite]; rfl
theorem r_tor {a b : CE} : (dT g (.or a b) env).run S Q E = (dT g a env).run S (fun t S => if t = true then Q true S else (dT g b env).run S Q E) E := by
  show (dT g a env).run S (fun t S => (if t = true then ret true else dT g b env : M Bool).run S Q E) E = _
  simp only [r_ite]; rfl
theorem r_tcmp {op : Cop} {a b : CE} : (dT g (.cmp op a b) env).run S Q E = (dE g a env).run S (fun x S => (dE g b env).run S (fun y S => (op.sem x y).run S (fun v S => (vTruth v).run S Q E) E) E) E := rfl
theorem r_tchn {o1 o2 : Cop} {a b c : CE} : (dT g (.chn o1 o2 a b c) env).run S Q E = (dE g a env).run S (fun x S => (dE g b env).run S (fun y S => (o1.sem x y).run S (fun t S => (vTruth t).run S (fun d S => if d = true then (dE g c env).run S (fun z S => (o2.sem y z).run S (fun v S => (vTruth v).run S Q E) E) E else Q false S) E) E) E) E := by
  show (dE g a env).run S (fun x S => (dE g b env).run S (fun y S => (o1.sem x y).run S (fun t S => (vTruth t).run S (fun d S => (if d = true then bnd (dE g c env) fun z => bnd (o2.sem y z) vTruth else ret false : M Bool).run S Q E) E) E) E) E = _
  simp only [r_ite]; rfl
theorem r_ttv {a : CE} : (dT g (.tv a) env).run S Q E = (dE g a env).run S (fun v S => (vTruth v).run S Q E) E := rfl
theorem r_c0 : (dC g .none env).run S Q E = Q true S := rfl
theorem r_c1 {a : CE} : (dC g (.some a) env).run S Q E = (dT g a env).run S Q E := rfl
theorem r_trb {b : Bool} : (vTruth (.bl b)).run S Q E = Q b S := rfl
theorem r_trn : (vTruth .non).run S Q E = Q false S := rfl
theorem r_tri {i : Int} : (vTruth (.int i)).run S Q E = Q (i != 0) S := rfl
theorem r_trt {xs : List PV} : (vTruth (.tup xs)).run S Q E = Q (!xs.isEmpty) S := rfl
theorem r_trl {xs : List PV} : (vTruth (.lst xs)).run S Q E = Q (!xs.isEmpty) S := rfl
end
section
variable {Q : Option Int → Stt → Prop} {E : Exc → Stt → Prop}
theorem r_o0 : (dO g .none env).run S Q E = Q none S := rfl
theorem r_o1 {e : CE} : (dO g (.some e) env).run S Q E = (dE g e env).run S (fun x S => (vPart x).run S Q E) E := rfl
theorem r_prt {i : Int} : (vPart (.int i)).run S Q E = Q (some i) S := rfl
end
section
variable {Q : En → Stt → Prop} {E : Exc → Stt → Prop}
theorem r_gn {i : Nat} {x : PV} : (dG g (.name i) x env).run S Q E = setK env i (some x) fun e => Q e S := rfl
theorem r_gt {ts : CTs} {xs : List PV} : (dG g (.tup ts) (.tup xs) env).run S Q E = (xs.length = lenTs ts ∧ (dGs g ts xs env).run S Q E) := rfl
theorem r_gl {ts : CTs} {xs : List PV} : (dG g (.tup ts) (.lst xs) env).run S Q E = (xs.length = lenTs ts ∧ (dGs g ts xs env).run S Q E) := rfl
theorem r_gs {o i : CE} {v : PV} : (dG g (.sub o i) v env).run S Q E = (dE g o env).run S (fun a S => (dE g i env).run S (fun k S => (vSet a k v).run S (fun _ S => Q env S) E) E) E := rfl
theorem r_g0 : (dGs g .nil [] env).run S Q E = Q env S := rfl
theorem r_gc {t : CT} {ts : CTs} {x : PV} {xs : List PV} : (dGs g (.cons t ts) (x :: xs) env).run S Q E = (dG g t x env).run S (fun env S => (dGs g ts xs env).run S Q E) E := rfl
theorem r_frz {i : Nat} {xs : List PV} {a : Addr} : (freezeV i env).run S Q E = (freezeV i env).run S Q E := rfl
end
section
variable {Q : Src × List PV → Stt → Prop} {E : Exc → Stt → Prop}
theorem r_iv {e : CE} : (dI g (.val e) env).run S Q E = (dE g e env).run S (fun x S => (vSrc x).run S Q E) E := rfl
theorem r_ir {es : CL} : (dI g (.rng es) env).run S Q E = (dL g es env).run S (fun xs S => (xs.length = lenL es ∧ (vRng xs).run S Q E)) E := rfl
theorem r_srt {xs : List PV} : (vSrc (.tup xs)).run S Q E = Q (.fix, xs) S := rfl
theorem r_srl {xs : List PV} : (vSrc (.lst xs)).run S Q E = Q (.fix, xs) S := rfl
theorem r_src {xs : List PV} : (vSrc (.loc xs)).run S Q E = Q (.fix, xs) S := rfl
theorem r_rg1 {j : Int} : (vRng [.int j]).run S Q E = (inRng j ∧ Q (.fix, rngItems 0 j.toNat) S) := rfl
theorem r_rg2 {i j : Int} : (vRng [.int i, .int j]).run S Q E = ((inRng i ∧ inRng j) ∧ Q (.fix, rngItems i (j - i).toNat) S) := rfl
end
section
variable {Q : Res → Stt → Prop} {E : Exc → Stt → Prop}
theorem r_ex {e : CE} : (dS g (.expr e) env).run S Q E = (dE g e env).run S (fun _ S => Q (.nx env) S) E := rfl
theorem r_asg {t : CT} {e : CE} : (dS g (.asg t e) env).run S Q E = (dE g e env).run S (fun v S => (dG g t v env).run S (fun env S => Q (.nx env) S) E) E := rfl
theorem r_setc {i : Nat} {e : CE} : (dS g (.setc i e) env).run S Q E = (dE g e env).run S (fun v S => setK env i (some v) fun env => Q (.nx env) S) E := rfl
def asg2 (i j : Nat) (env : En) : List PV → M Res := fun vs => match vs with
  | [v, w] => ret (.nx ((env.set i (some v)).set j (some w)))
  | _ => stuck
theorem r_par2 {i j : Nat} {es : CL} : (dS g (.par2 i j es) env).run S Q E = (dL g es env).run S (fun vs S => (asg2 i j env vs).run S Q E) E := rfl
theorem r_asg2 {i j : Nat} {v w : PV} : (asg2 i j env [v, w]).run S Q E = setK env i (some v) fun env => setK env j (some w) fun env => Q (.nx env) S := rfl
def asg3 (i j l : Nat) (env : En) : List PV → M Res := fun vs => match vs with
  | [v, w, z] => ret (.nx (((env.set i (some v)).set j (some w)).set l (some z)))
  | _ => stuck
theorem r_par3 {i j l : Nat} {es : CL} : (dS g (.par3 i j l es) env).run S Q E = (dL g es env).run S (fun vs S => (asg3 i j l env vs).run S Q E) E := rfl
theorem r_asg3 {i j l : Nat} {v w z : PV} : (asg3 i j l env [v, w, z]).run S Q E = setK env i (some v) fun env => setK env j (some w) fun env => setK env l (some z) fun env => Q (.nx env) S := rfl
theorem r_rt {e : CE} : (dS g (.ret e) env).run S Q E = (dE g e env).run S (fun v S => Q (.rt v) S) E := rfl
theorem r_rtN : (dS g .retN env).run S Q E = Q (.rt .non) S := rfl
theorem r_if {c : CE} {a b : CB} : (dS g (.ifs c a b) env).run S Q E = (dT g c env).run S (fun t S => if t = true then (dB g a env).run S Q E else (dB g b env).run S Q E) E := by
  show (dT g c env).run S (fun t S => (if t = true then dB g a env else dB g b env : M Res).run S Q E) E = _
  simp only [r_ite]
/-- a turn of a loop -/
def turnF (g : Sg) (t : CT) (b : CB) (x : PV) (env : En) : M Res := bnd (dG g t x env) (dB g b)
theorem r_loop {t : CT} {it : CI} {b : CB} : (dS g (.loop t it b) env).run S Q E = (dI g it env).run S (fun p S => (forM p.1 (turnF g t b) p.2 env).run S Q E) E := rfl
theorem r_turn {t : CT} {b : CB} {x : PV} : (turnF g t b x env).run S Q E = (dG g t x env).run S (fun env S => (dB g b env).run S Q E) E := rfl
theorem r_for0 {body : PV → En → M Res} : (forM .fix body [] env).run S Q E = Q (.nx env) S := rfl
theorem r_forS {body : PV → En → M Res} {x : PV} {xs : List PV} : (forM .fix body (x :: xs) env).run S Q E = (body x env).run S (fun r S => (forR .fix body xs r).run S Q E) E := by
  show (body x env).run S _ E = _
  congr 1
theorem r_fnx {src : Src} {body : PV → En → M Res} {xs : List PV} : (forR src body xs (.nx env)).run S Q E = (forM src body xs env).run S Q E := rfl
theorem r_fct {src : Src} {body : PV → En → M Res} {xs : List PV} : (forR src body xs (.ct env)).run S Q E = (forM src body xs env).run S Q E := rfl
theorem r_fbk {src : Src} {body : PV → En → M Res} {xs : List PV} : (forR src body xs (.bk env)).run S Q E = Q (.nx env) S := rfl
theorem r_frt {src : Src} {body : PV → En → M Res} {xs : List PV} {v : PV} : (forR src body xs (.rt v)).run S Q E = Q (.rt v) S := rfl
theorem r_pass : (dS g .pass env).run S Q E = Q (.nx env) S := rfl
theorem r_brk : (dS g .brk env).run S Q E = Q (.bk env) S := rfl
theorem r_cont : (dS g .cont env).run S Q E = Q (.ct env) S := rfl
theorem r_doc : (dS g .doc env).run S Q E = Q (.nx env) S := rfl
theorem r_never : (dS g .never env).run S Q E = False := rfl
theorem r_b0 : (dB g .nil env).run S Q E = Q (.nx env) S := rfl
theorem r_bc {s : CS} {ss : CB} : (dB g (.cons s ss) env).run S Q E = (dS g s env).run S (fun r S => (seqR r (dB g ss)).run S Q E) E := rfl
theorem r_bf {i : Nat} {ss : CB} : (dB g (.frz i ss) env).run S Q E = (freezeV i env).run S (fun env S => (dB g ss env).run S Q E) E := rfl
theorem r_snx {k : En → M Res} {e : En} : (seqR (.nx e) k).run S Q E = (k e).run S Q E := rfl
theorem r_srr {k : En → M Res} {v : PV} : (seqR (.rt v) k).run S Q E = Q (.rt v) S := rfl
theorem r_sbk {k : En → M Res} {e : En} : (seqR (.bk e) k).run S Q E = Q (.bk e) S := rfl
theorem r_sct {k : En → M Res} {e : En} : (seqR (.ct e) k).run S Q E = Q (.ct e) S := rfl
end
section
variable {Q : PV → Stt → Prop} {E : Exc → Stt → Prop}
theorem r_runB {m : M Res} : (runB m).run S Q E = m.run S (fun r S => (endR r).run S Q E) E := by
  show m.run S _ E = _
  congr 1
theorem r_ert {v : PV} : (endR (.rt v)).run S Q E = Q v S := rfl
theorem r_enx : (endR (.nx env)).run S Q E = Q .non S := rfl
/-! operators -/
theorem r_add {a b : Int} : (Bop.add.sem (.int a) (.int b)).run S Q E = Q (.int (a + b)) S := rfl
theorem r_addT {a b : List PV} : (Bop.add.sem (.tup a) (.tup b)).run S Q E = (a.length + b.length ≤ sizeLine ∧ catK a b fun l => Q (.tup l) S) := rfl
theorem r_addL {a b : List PV} : (Bop.add.sem (.lst a) (.lst b)).run S Q E = (a.length + b.length ≤ sizeLine ∧ catK a b fun l => Q (.lst l) S) := rfl
theorem r_addS {a b : Str} : (Bop.add.sem (.str a) (.str b)).run S Q E = (a.length + b.length ≤ sizeLine ∧ Q (.str (a ++ b)) S) := rfl
theorem r_sub {a b : Int} : (Bop.sub.sem (.int a) (.int b)).run S Q E = Q (.int (a - b)) S := propext ⟨fun q => q.2, fun q => ⟨trivial, q⟩⟩
theorem r_mul {a b : Int} : (Bop.mul.sem (.int a) (.int b)).run S Q E = (CMulA a b ∧ Q (.int (a * b)) S) := rfl
theorem r_mod {a b : Int} : (Bop.mod.sem (.int a) (.int b)).run S Q E = (0 < b ∧ Q (.int (a % b)) S) := rfl
theorem r_fdiv {a b : Int} : (Bop.fdiv.sem (.int a) (.int b)).run S Q E = (CDivW a b ∧ Q (.int (a / b)) S) := rfl
theorem r_pow {a b : Int} : (Bop.pow.sem (.int a) (.int b)).run S Q E = (CPow a b ∧ Q (.int (a ^ b.toNat)) S) := rfl
theorem r_vneg {a : Int} : (vNeg (.int a)).run S Q E = Q (.int (-a)) S := rfl
theorem r_vnot {a : PV} : (vNot a).run S Q E = (vTruth a).run S (fun t S => Q (.bl !t) S) E := rfl
theorem r_lt {a b : Int} : (Cop.lt.sem (.int a) (.int b)).run S Q E = Q (.bl (decide (a < b))) S := propext ⟨fun q => q.2, fun q => ⟨trivial, q⟩⟩
theorem r_le {a b : Int} : (Cop.le.sem (.int a) (.int b)).run S Q E = Q (.bl (decide (a ≤ b))) S := propext ⟨fun q => q.2, fun q => ⟨trivial, q⟩⟩
theorem r_gt' {a b : Int} : (Cop.gt.sem (.int a) (.int b)).run S Q E = Q (.bl (decide (b < a))) S := propext ⟨fun q => q.2, fun q => ⟨trivial, q⟩⟩
theorem r_ge {a b : Int} : (Cop.ge.sem (.int a) (.int b)).run S Q E = Q (.bl (decide (b ≤ a))) S := propext ⟨fun q => q.2, fun q => ⟨trivial, q⟩⟩
theorem r_eqI {a b : Int} : (Cop.eq.sem (.int a) (.int b)).run S Q E = Q (.bl (decide (a = b))) S := by
  show (fine2 _ _ ∧ Q (.bl (PV.eqv (.int a) (.int b))) S) = _
  have h : PV.eqv (.int a) (.int b) = decide (a = b) := by simp only [PV.eqv]; rfl
  rw [h]
  exact propext ⟨fun q => q.2, fun q => ⟨by simp [fine2, PV.fine], q⟩⟩
theorem r_neI {a b : Int} : (Cop.ne.sem (.int a) (.int b)).run S Q E = Q (.bl (!decide (a = b))) S := by
  show (fine2 _ _ ∧ Q (.bl (!PV.eqv (.int a) (.int b))) S) = _
  have h : PV.eqv (.int a) (.int b) = decide (a = b) := by simp only [PV.eqv]; rfl
  rw [h]
  exact propext ⟨fun q => q.2, fun q => ⟨by simp [fine2, PV.fine], q⟩⟩
theorem r_eqB {a b : Bool} : (Cop.eq.sem (.bl a) (.bl b)).run S Q E = Q (.bl (a == b)) S := by
  show (fine2 _ _ ∧ Q (.bl (PV.eqv (.bl a) (.bl b))) S) = _
  have h : PV.eqv (.bl a) (.bl b) = (a == b) := by simp only [PV.eqv]
  rw [h]
  exact propext ⟨fun q => q.2, fun q => ⟨by simp [fine2, PV.fine], q⟩⟩
theorem r_neB {a b : Bool} : (Cop.ne.sem (.bl a) (.bl b)).run S Q E = Q (.bl (!(a == b))) S := by
  show (fine2 _ _ ∧ Q (.bl (!PV.eqv (.bl a) (.bl b))) S) = _
  have h : PV.eqv (.bl a) (.bl b) = (a == b) := by simp only [PV.eqv]
  rw [h]
  exact propext ⟨fun q => q.2, fun q => ⟨by simp [fine2, PV.fine], q⟩⟩
theorem r_eqL {a b : List PV} : (Cop.eq.sem (.lst a) (.lst b)).run S Q E = (fine2 (.lst a) (.lst b) ∧ Q (.bl (PV.eqv (.lst a) (.lst b))) S) := rfl
theorem r_eqT {a b : List PV} : (Cop.eq.sem (.tup a) (.tup b)).run S Q E = (fine2 (.tup a) (.tup b) ∧ Q (.bl (PV.eqv (.tup a) (.tup b))) S) := rfl
theorem r_eqS {a b : Str} : (Cop.eq.sem (.str a) (.str b)).run S Q E = (fine2 (.str a) (.str b) ∧ Q (.bl (a == b)) S) := by
  show (fine2 _ _ ∧ Q (.bl (PV.eqv (.str a) (.str b))) S) = _
  have h : PV.eqv (.str a) (.str b) = (a == b) := by simp only [PV.eqv]
  rw [h]
theorem r_inL {a : PV} {b : List PV} : (Cop.isin.sem a (.lst b)).run S Q E = (fine2 a (.lst b) ∧ Q (.bl (false ^^ b.any fun y => PV.eqv y a)) S) := rfl
theorem r_inT {a : PV} {b : List PV} : (Cop.isin.sem a (.tup b)).run S Q E = (fine2 a (.tup b) ∧ Q (.bl (false ^^ b.any fun y => PV.eqv y a)) S) := rfl
theorem r_isN {a b : PV} : (Cop.isN.sem a b).run S Q E = Q (.bl (isNon a)) S := rfl
theorem r_notN {a b : PV} : (Cop.notN.sem a b).run S Q E = Q (.bl (!isNon a)) S := rfl
/-! items -/
section
variable {x y z w v : PV} {l : List PV}
theorem at0 {α : Type} {x : α} {l : List α} : atI (x :: l) 0 = some x := by
  unfold atI ixN; simp [show (0 : Int) < (l.length : Int) + 1 by omega]
theorem at1 {α : Type} {x y : α} {l : List α} : atI (x :: y :: l) 1 = some y := by
  unfold atI ixN; simp [show (1 : Int) < (l.length : Int) + 1 + 1 by omega]
theorem at2 {α : Type} {x y z : α} {l : List α} : atI (x :: y :: z :: l) 2 = some z := by
  unfold atI ixN; simp [show (2 : Int) < (l.length : Int) + 1 + 1 + 1 by omega]
theorem at3 {α : Type} {x y z w : α} {l : List α} : atI (x :: y :: z :: w :: l) 3 = some w := by
  unfold atI ixN; simp [show (3 : Int) < (l.length : Int) + 1 + 1 + 1 + 1 by omega]
theorem r_ixT0 : (vIdx (.tup (x :: l)) (.int 0)).run S Q E = Q x S := by show (ofO (atI _ _)).run S Q E = _; rw [at0]; rfl
theorem r_ixL0 : (vIdx (.lst (x :: l)) (.int 0)).run S Q E = Q x S := by show (ofO (atI _ _)).run S Q E = _; rw [at0]; rfl
theorem r_ixT1 : (vIdx (.tup (x :: y :: l)) (.int 1)).run S Q E = Q y S := by show (ofO (atI _ _)).run S Q E = _; rw [at1]; rfl
theorem r_ixL1 : (vIdx (.lst (x :: y :: l)) (.int 1)).run S Q E = Q y S := by show (ofO (atI _ _)).run S Q E = _; rw [at1]; rfl
theorem r_ixT2 : (vIdx (.tup (x :: y :: z :: l)) (.int 2)).run S Q E = Q z S := by show (ofO (atI _ _)).run S Q E = _; rw [at2]; rfl
theorem r_ixL2 : (vIdx (.lst (x :: y :: z :: l)) (.int 2)).run S Q E = Q z S := by show (ofO (atI _ _)).run S Q E = _; rw [at2]; rfl
theorem r_ixT3 : (vIdx (.tup (x :: y :: z :: w :: l)) (.int 3)).run S Q E = Q w S := by show (ofO (atI _ _)).run S Q E = _; rw [at3]; rfl
theorem r_ixL3 : (vIdx (.lst (x :: y :: z :: w :: l)) (.int 3)).run S Q E = Q w S := by show (ofO (atI _ _)).run S Q E = _; rw [at3]; rfl
theorem r_ixT3m : (vIdx (.tup [x, y, z]) (.int (-1))).run S Q E = Q z S := rfl
theorem r_ixT {i : Int} : (vIdx (.tup l) (.int i)).run S Q E = (ofO (atI l i)).run S Q E := rfl
theorem r_ixL {i : Int} : (vIdx (.lst l) (.int i)).run S Q E = (ofO (atI l i)).run S Q E := rfl
theorem r_ixC {i : Int} : (vIdx (.loc l) (.int i)).run S Q E = (ofO (atI l i)).run S Q E := rfl
theorem r_at {i : Int} {j : Nat} {xs : List PV} (h : ixN xs.length i = some j) : (ofO (atI xs i)).run S Q E = (ofO xs[j]?).run S Q E := by
  unfold atI; rw [h]; rfl
theorem r_lenT : (Bf.len.sem [.tup l]).run S Q E = Q (.int l.length) S := rfl
theorem r_lenL : (Bf.len.sem [.lst l]).run S Q E = Q (.int l.length) S := rfl
theorem r_lenC : (Bf.len.sem [.loc l]).run S Q E = Q (.int l.length) S := rfl
theorem r_isiI {i : Int} {n : String} : (Bf.isi.sem [.int i, .ty n]).run S Q E = (n ∈ isiNames ∧ Q (.bl (isiB "int" n)) S) := rfl
theorem r_isiB {i : Bool} {n : String} : (Bf.isi.sem [.bl i, .ty n]).run S Q E = (n ∈ isiNames ∧ Q (.bl (isiB "bool" n)) S) := rfl
theorem r_isiN {n : String} : (Bf.isi.sem [.non, .ty n]).run S Q E = (n ∈ isiNames ∧ Q (.bl (isiB "NoneType" n)) S) := rfl
theorem r_isiS {i : Str} {n : String} : (Bf.isi.sem [.str i, .ty n]).run S Q E = (n ∈ isiNames ∧ Q (.bl (isiB "str" n)) S) := rfl
theorem r_isiT {n : String} : (Bf.isi.sem [.tup l, .ty n]).run S Q E = (n ∈ isiNames ∧ Q (.bl (isiB "tuple" n)) S) := rfl
theorem r_isiL {n : String} : (Bf.isi.sem [.lst l, .ty n]).run S Q E = (n ∈ isiNames ∧ Q (.bl (isiB "list" n)) S) := rfl
theorem r_abs {i : Int} : (Bf.abs.sem [.int i]).run S Q E = Q (.int (if i < 0 then -i else i)) S := rfl
theorem r_min2 {a b : Int} : (Bf.min.sem [.int a, .int b]).run S Q E = Q (.int (min a b)) S := rfl
theorem r_min3 {a b c : Int} : (Bf.min.sem [.int a, .int b, .int c]).run S Q E = Q (.int (min a (min b c))) S := rfl
theorem r_max2 {a b : Int} : (Bf.max.sem [.int a, .int b]).run S Q E = Q (.int (max a b)) S := rfl
theorem r_max3 {a b c : Int} : (Bf.max.sem [.int a, .int b, .int c]).run S Q E = Q (.int (max a (max b c))) S := rfl
theorem r_minL : (Bf.min.sem [.lst l]).run S Q E = (ofO (intsOf l)).run S (fun ns S => (0 < ns.length ∧ Q (.int (minL ns)) S)) E := rfl
theorem r_maxL : (Bf.max.sem [.lst l]).run S Q E = (ofO (intsOf l)).run S (fun ns S => (0 < ns.length ∧ Q (.int (maxL ns)) S)) E := rfl
theorem r_sumL : (Bf.sum.sem [.lst l]).run S Q E = (ofO (intsOf l)).run S (fun ns S => Q (.int ns.sum) S) E := rfl
theorem r_allL : (Bf.all.sem [.lst l]).run S Q E = (ofO (blsOf l)).run S (fun ns S => Q (.bl (ns.all id)) S) E := rfl
theorem r_anyL : (Bf.any.sem [.lst l]).run S Q E = (ofO (blsOf l)).run S (fun ns S => Q (.bl (ns.any id)) S) E := rfl
theorem r_divm {a b : Int} : (Bf.divmod.sem [.int a, .int b]).run S Q E = (CDivP a b ∧ Q (.tup [.int (a / b), .int (a % b)]) S) := rfl
theorem r_Tint {a : Int} : (Bt.int.sem [.int a]).run S Q E = Q (.int a) S := rfl
theorem r_Ttup : (Bt.tup.sem [.lst l]).run S Q E = Q (.tup l) S := rfl
theorem r_Ttup' : (Bt.tup.sem [.tup l]).run S Q E = Q (.tup l) S := rfl
theorem r_Tlst : (Bt.lst.sem [.lst l]).run S Q E = Q (.lst l) S := rfl
theorem r_Tlst' : (Bt.lst.sem [.tup l]).run S Q E = Q (.lst l) S := rfl
end
theorem r_slC {l : List PV} {lo hi : Option Int} : (vSlice lo hi (.loc l)).run S Q E = Q (.lst (cutL l lo hi)) S := rfl
theorem r_slL {l : List PV} {lo hi : Option Int} : (vSlice lo hi (.lst l)).run S Q E = Q (.lst (cutL l lo hi)) S := rfl
theorem r_slT {l : List PV} {lo hi : Option Int} : (vSlice lo hi (.tup l)).run S Q E = Q (.tup (cutL l lo hi)) S := rfl
end
section
variable {E : Exc → Stt → Prop}
theorem r_ints0 {Q : List Int → Stt → Prop} : (ofO (intsOf [])).run S Q E = Q [] S := rfl
theorem r_intsS {Q : List Int → Stt → Prop} {i : Int} {l : List PV} : (ofO (intsOf (.int i :: l))).run S Q E = (ofO (intsOf l)).run S (fun ns S => Q (i :: ns) S) E := by
  show (ofO ((intsOf l).map (i :: ·))).run S Q E = _
  cases intsOf l <;> rfl
theorem r_bls0 {Q : List Bool → Stt → Prop} : (ofO (blsOf [])).run S Q E = Q [] S := rfl
theorem r_blsS {Q : List Bool → Stt → Prop} {i : Bool} {l : List PV} : (ofO (blsOf (.bl i :: l))).run S Q E = (ofO (blsOf l)).run S (fun ns S => Q (i :: ns) S) E := by
  show (ofO ((blsOf l).map (i :: ·))).run S Q E = _
  cases blsOf l <;> rfl
theorem intsOf_map : ∀ {ns : List Int}, intsOf (ns.map .int) = some ns
  | [] => rfl
  | n :: ns => by simp [intsOf, intsOf_map (ns := ns)]
theorem blsOf_map : ∀ {ns : List Bool}, blsOf (ns.map .bl) = some ns
  | [] => rfl
  | n :: ns => by simp [blsOf, blsOf_map (ns := ns)]
/-! owned lists -/
theorem put_id {a : Addr} {c : Cell} (h : S a = some c) : put S a c = S := by
  funext b; unfold put; split <;> simp_all
theorem r_ixR {a : Addr} {l : List PV} {i : PV} {Q : PV → Stt → Prop} : (vIdx (.ref a) i).run (put S a (.lst l)) Q E = (vIdx (.lst l) i).run (put S a (.lst l)) Q E := by
  refine propext ⟨fun q => ?_, fun q => .inl ⟨l, put_same, q⟩⟩
  rcases q with ⟨xs, e, q⟩ | ⟨n, q⟩
  · rw [put_same] at e; cases e; exact q
  · exact absurd put_same (n l)
theorem r_setR {a : Addr} {l : List PV} {i : Int} {v : PV} {Q : Unit → Stt → Prop} {j : Nat} (h : ixN l.length i = some j) : (vSet (.ref a) (.int i) v).run (put S a (.lst l)) Q E = Q () (put S a (.lst (l.set j v))) := by
  refine propext ⟨fun ⟨xs, k, e, e2, q⟩ => ?_, fun q => ⟨l, j, put_same, h, by rw [put_put]; exact q⟩⟩
  rw [put_same] at e; cases e
  rw [h] at e2; cases e2
  rw [put_put] at q; exact q
theorem r_setR0 {a : Addr} {x v : PV} {l : List PV} {Q : Unit → Stt → Prop} : (vSet (.ref a) (.int 0) v).run (put S a (.lst (x :: l))) Q E = Q () (put S a (.lst (v :: l))) := r_setR (j := 0) (by unfold ixN; simp [show (0 : Int) < (l.length : Int) + 1 by omega])
theorem r_setR1 {a : Addr} {x y v : PV} {l : List PV} {Q : Unit → Stt → Prop} : (vSet (.ref a) (.int 1) v).run (put S a (.lst (x :: y :: l))) Q E = Q () (put S a (.lst (x :: v :: l))) := r_setR (j := 1) (by unfold ixN; simp [show (1 : Int) < (l.length : Int) + 1 + 1 by omega])
theorem r_setR2 {a : Addr} {x y z v : PV} {l : List PV} {Q : Unit → Stt → Prop} : (vSet (.ref a) (.int 2) v).run (put S a (.lst (x :: y :: z :: l))) Q E = Q () (put S a (.lst (x :: y :: v :: l))) := r_setR (j := 2) (by unfold ixN; simp [show (2 : Int) < (l.length : Int) + 1 + 1 + 1 by omega])
end
end
section
variable {S : Stt} {E : Exc → Stt → Prop}
theorem del_put1 {a : Addr} {c : Cell} : del (put S a c) a = del S a := by
  funext b; unfold del put; split <;> rfl
theorem del_id {a : Addr} (h : S a = none) : del S a = S := by
  funext b; unfold del; split <;> simp_all
theorem r_frz0 {a : Addr} {xs : List PV} {l : En} {Q : En → Stt → Prop} : (freezeV 0 (some (.ref a) :: l)).run (put S a (.lst xs)) Q E = Q (some (.lst xs) :: l) (del S a) := by
  refine propext ⟨fun ⟨ys, e, q⟩ => ?_, fun q => ⟨xs, put_same, ?_⟩⟩
  · rw [put_same] at e; cases e; rw [del_put1] at q; exact q
  · rw [del_put1]; exact q
theorem r_frzS {o : Option PV} {l : En} {n : Nat} {Q : En → Stt → Prop} : (freezeV (n + 1) (o :: l)).run S Q E = (freezeV n l).run S (fun l S => Q (o :: l) S) E := by
  unfold freezeV
  rw [List.getElem?_cons_succ]
  cases l[n]? with
  | none => rfl
  | some x =>
    cases x with
    | none => rfl
    | some v => cases v <;> rfl
theorem r_isTR {a : Addr} {xs : List PV} {m : Mt} {Q : Unit → Stt → Prop} : (isT m.T (.ref a)).run (put S a (.lst xs)) Q E = Q () (put S a (.lst xs)) := by
  refine propext ⟨fun q => ?_, fun q => .inl ⟨xs, put_same, rfl, q⟩⟩
  rcases q with ⟨ys, e, q⟩ | ⟨n, q⟩
  · exact q.2
  · exact absurd put_same (n xs)
theorem r_appR {a : Addr} {xs : List PV} {v : PV} {Q : PV → Stt → Prop} : (Mt.append.sem (.ref a) [v]).run (put S a (.lst xs)) Q E = (xs.length < sizeLine ∧ appK xs v fun l => Q .non (put S a (.lst l))) := by
  refine propext ⟨fun ⟨ys, e, l, q⟩ => ?_, fun ⟨l, q⟩ => ⟨xs, put_same, l, by rw [put_put]; exact q⟩⟩
  rw [put_same] at e; cases e; rw [put_put] at q; exact ⟨l, q⟩
theorem rng1 : rngItems 0 1 = [.int 0] := rfl
theorem rng2 : rngItems 0 2 = [.int 0, .int 1] := rfl
theorem rng3 : rngItems 0 3 = [.int 0, .int 1, .int 2] := rfl
theorem rng4 : rngItems 0 4 = [.int 0, .int 1, .int 2, .int 3] := rfl
theorem rng5 : rngItems 0 5 = [.int 0, .int 1, .int 2, .int 3, .int 4] := rfl
theorem rng6 : rngItems 0 6 = [.int 0, .int 1, .int 2, .int 3, .int 4, .int 5] := rfl
end
theorem den_eq {g : Sg} {d : Df} {args : List PV} {env : En} {body : CB} (h1 : d.body = body) (h2 : startE d.N.length args = env) : d.den g args = runB (dB g body env) := by subst h1 h2; rfl
/-- a loop by an invariant -/
theorem forM_inv {ι : Type} {h : ι → PV} {body : PV → En → M Res} (P : En → Stt → Prop) : ∀ {ys : List ι}, (∀ y ∈ ys, ∀ env S Q E, P env S → (∀ env' S', P env' S' → Q (.nx env') S') → (body (h y) env).run S Q E) →
    ∀ {env S Q E}, P env S → (∀ env' S', P env' S' → Q (.nx env') S') → (forM .fix body (ys.map h) env).run S Q E
  | [], _, env, S, Q, E, p, q => q env S p
  | y :: ys, hb, env, S, Q, E, p, q => by
    rw [List.map_cons, r_forS]
    refine hb y (by simp) env S _ E p fun env' S' p' => ?_
    rw [r_fnx]
    exact forM_inv P (fun z hz => hb z (by simp [hz])) p' q
/-- a comprehension whose turns keep a word of the state -/
theorem compM_inv {ι : Type} {h : ι → PV} {body : PV → List PV → M (List PV)} (P : List PV → Stt → Prop) : ∀ {ys : List ι}, (∀ y ∈ ys, ∀ acc S Q E, P acc S → (∀ acc' S', P acc' S' → Q acc' S') → (body (h y) acc).run S Q E) →
    ∀ {acc S Q E}, P acc S → (∀ acc' S', P acc' S' → Q acc' S') → (compM .fix body (ys.map h) acc).run S Q E
  | [], _, acc, S, Q, E, p, q => q acc S p
  | y :: ys, hb, acc, S, Q, E, p, q => by
    rw [List.map_cons, r_cmS]
    refine hb y (by simp) acc S _ E p fun acc' S' p' => ?_
    exact compM_inv P (fun z hz => hb z (by simp [hz])) p' q
/-- a comprehension whose turns are plain -/
theorem compM_pure {ι : Type} {body : PV → List PV → M (List PV)} {h : ι → PV} {f : ι → List PV} : ∀ {ys : List ι}, (∀ y ∈ ys, ∀ acc, acc.length + (f y).length ≤ sizeLine → M.le (ret (acc ++ f y)) (body (h y) acc)) → ∀ {acc : List PV}, acc.length + (ys.flatMap f).length ≤ sizeLine → M.le (ret (acc ++ ys.flatMap f)) (compM .fix body (ys.map h) acc)
  | [], _, acc, _ => fun S Q E q => by
    have q : Q (acc ++ []) S := q
    rw [List.append_nil] at q
    exact q
  | y :: ys, hb, acc, hl => fun S Q E q => by
    rw [List.flatMap_cons, List.length_append] at hl
    refine hb y (by simp) acc (by omega) S _ E ?_
    refine compM_pure (ys := ys) (fun z hz => hb z (by simp [hz])) (acc := acc ++ f y) (by rw [List.length_append]; omega) S Q E ?_
    have q : Q (acc ++ (y :: ys).flatMap f) S := q
    rw [List.flatMap_cons, ← List.append_assoc] at q
    exact q
theorem flat_single {ι : Type} {f : ι → PV} : ∀ {ys : List ι}, ys.flatMap (fun y => [f y]) = ys.map f
  | [] => rfl
  | y :: ys => by simp [flat_single (ys := ys)]
end Dp

namespace Dp
open PySem PySem.Spec L2
open PyProof.Rows hiding St
/-! ### the law's own head -/
def AllI {α : Type} (P : Nat → α → Prop) : Nat → List α → Prop
  | _, [] => True
  | i, x :: xs => P i x ∧ AllI P (i + 1) xs
theorem AllI.get {α : Type} {P : Nat → α → Prop} : ∀ {l : List α} {i k : Nat} {x : α}, AllI P i l → l[k]? = some x → P (i + k) x
  | [], _, _, _, _, h => by simp at h
  | y :: l, i, 0, x, a, h => by
    simp at h; subst h; exact a.1
  | y :: l, i, k + 1, x, a, h => by
    have := AllI.get (i := i + 1) (k := k) a.2 (by simpa using h)
    rw [show i + (k + 1) = i + 1 + k by omega]; exact this
theorem fnStuck {P : Program} {w : World} {K : PySem.W.Frag} {mg : Str → Option Value} {base : Heap} {k : Nat} {f : Addr} {fd : FuncData} {ps : List Str} : FnOk P w K mg base (L2.CX P w) k f fd ps (FnSp ⟨K, mg⟩ ps.length fun _ => stuck) :=
  ⟨fun _ _ _ _ h => h.1, fun _ _ _ _ _ _ _ _ _ _ _ _ _ ⟨_, _, _, _, _, _, z⟩ => z.elim⟩
/-- the law's promise: the script in, True out -/
def spLaw (K : PySem.W.Frag) : Sp := fun vs H Q _ => ∃ (a : Addr) (ns : List Int), vs = [.ref a] ∧ SqL K H a (ns.map V.int) ∧ ∀ H', Q (.bl true) H'
/-- any end -/
def endT : M PV := ⟨fun _ Q _ => ∀ S', Q (.bl true) S', fun h _ q S' => h _ _ (q S')⟩
theorem ints_rep {Z F H} : ∀ {ns : List Int}, RepL Z F H (ns.map PV.int) (ns.map V.int)
  | [] => .nil
  | n :: ns => .cons (.int n) ints_rep
theorem spLaw_fn {K : PySem.W.Frag} {mg : Str → Option Value} {m : List PV → M PV} (hm : ∀ ns : List Int, M.le endT (m [.loc (ns.map .int)])) : ∀ vs H Q E, spLaw K vs H Q E → FnSp ⟨K, mg⟩ 1 m vs H Q E := by
  rintro vs H Q E ⟨a, ns, rfl, hS, q⟩
  have fin : ∀ (F : Addr → Prop) (S : Stt), (m [.loc (ns.map .int)]).run S (Pv ⟨K, mg⟩ F S H Q) (Px ⟨K, mg⟩ F S H E) := fun F S => hm ns S _ _ fun S' F' H' v _ r => by
    cases r; exact q H'
  rcases hS with h | h
  · refine ⟨rfl, fun b => b = a, fun _ => none, [.loc (ns.map .int)], .cons (.loc (.inl ⟨rfl, h⟩) ints_rep) .nil, ⟨fun _ _ => rfl, ?_, fun _ _ e => by cases e⟩, fin _ _⟩
    rintro b rfl
    rcases h with h | ⟨o, h⟩
    · exact ⟨_, h, rfl⟩
    · exact ⟨_, h, rfl⟩
  · exact ⟨rfl, fun _ => False, fun _ => none, [.loc (ns.map .int)], .cons (.loc (.inr h) ints_rep) .nil, ⟨fun _ z => z.elim, fun _ z => z.elim, fun _ _ e => by cases e⟩, fin _ _⟩
theorem noCX {P : Program} : ∀ (w : World) (H : Hp) (s : Shared) (e : Value) (s' : Shared), L2.CX P w [] H s (fun _ _ _ => False) e s' → False :=
  fun _ _ _ _ _ ⟨_, _, _, _, _, _, _, _, _, _, _, _, z⟩ => z
end Dp

/-! contracts of the program's functions -/
namespace Dp.L
open PySem PySem.Spec L2 Dp
open PyProof.Rows hiding St
def sgn (a : Int) : Int := if a > 0 then 1 else -1
def turnAt (x1 y1 x2 y2 sx sy : Int) : Int :=
  let turn := (x2 - x1) * (sy - y1) - (y2 - y1) * (sx - x1)
  if turn ≠ 0 then sgn turn else if -(y2 - y1) ≠ 0 then sgn (-(y2 - y1)) else if x2 - x1 ≠ 0 then sgn (x2 - x1) else 0
def areaOf (x1 y1 x2 y2 x3 y3 : Int) : Int := (x2 - x1) * (y3 - y1) - (y2 - y1) * (x3 - x1)
def inTri (x1 y1 x2 y2 x3 y3 sx sy : Int) : Bool :=
  let area := areaOf x1 y1 x2 y2 x3 y3
  let due : Int := if area > 0 then 1 else -1
  decide (area ≠ 0) && decide (turnAt x1 y1 x2 y2 sx sy = due) && decide (turnAt x2 y2 x3 y3 sx sy = due) && decide (turnAt x3 y3 x1 y1 sx sy = due)
abbrev pt (x y : Int) : PV := .tup [.int x, .int y]
inductive Shp where
  | box (x0 y0 x1 y1 : Int) | tri (x1 y1 x2 y2 x3 y3 : Int)
def Shp.pv : Shp → PV
  | .box a b c d => .tup [.int a, .int b, .int c, .int d]
  | .tri a b c d e f => .tup [pt a b, pt c d, pt e f]
structure Stk where
  sh : Shp
  ink : Int
  l : Int
  t : Int
  r : Int
  u : Int
def Stk.pv (s : Stk) : PV := .tup [s.sh.pv, .int s.ink, .tup [.int s.l, .int s.t, .int s.r, .int s.u]]
def Shp.mnx : Shp → Int
  | .box a _ c _ => min a c
  | .tri a _ c _ e _ => min a (min c e)
def Shp.mxx : Shp → Int
  | .box a _ c _ => max a c
  | .tri a _ c _ e _ => max a (max c e)
def Shp.mny : Shp → Int
  | .box _ a _ c => min a c
  | .tri _ a _ c _ e => min a (min c e)
def Shp.mxy : Shp → Int
  | .box _ a _ c => max a c
  | .tri _ a _ c _ e => max a (max c e)
def Shp.has : Shp → Int → Int → Bool
  | .box .., _, _ => true
  | .tri a b c d e f, r, k => inTri (2 * a) (2 * b) (2 * c) (2 * d) (2 * e) (2 * f) (2 * k + 1) (2 * r + 1)
/-- rows, columns that may be covered -/
def Stk.r0 (s : Stk) (first : Int) : Int := max first (max s.t s.sh.mny)
def Stk.r1 (s : Stk) (last : Int) : Int := min last (min s.u s.sh.mxy)
def Stk.c0 (s : Stk) : Int := max 0 (max s.l s.sh.mnx)
def Stk.c1 (s : Stk) (width : Int) : Int := min width (min s.r s.sh.mxx)
def iv (a n : Int) : List Int := (List.range (n - a).toNat).map fun (i : Nat) => a + (i : Int)
def Stk.cells (s : Stk) (width first last : Int) : List (Int × Int) :=
  ((iv (s.r0 first) (s.r1 last)).flatMap fun r => (iv s.c0 (s.c1 width)).map fun k => (r, k)).filter fun p => s.sh.has p.1 p.2
def cellPV (p : Int × Int) : PV := .tup [.int p.1, .int p.2]
def Stk.cov (s : Stk) (r k : Int) : Bool := (s.cells (k + 1) r (r + 1)).contains (r, k)
def Shp.ok : Shp → Prop
  | .box a b c d => -99999 ≤ a ∧ a ≤ c ∧ c ≤ 99999 ∧ -99999 ≤ b ∧ b ≤ d ∧ d ≤ 99999
  | .tri a b c d e f => (-99999 ≤ a ∧ a ≤ 99999) ∧ (-99999 ≤ b ∧ b ≤ 99999) ∧ (-99999 ≤ c ∧ c ≤ 99999) ∧ (-99999 ≤ d ∧ d ≤ 99999) ∧ (-99999 ≤ e ∧ e ≤ 99999) ∧ (-99999 ≤ f ∧ f ≤ 99999)
def Stk.ok (s : Stk) : Prop := s.sh.ok ∧ (0 ≤ s.ink ∧ s.ink ≤ 7) ∧ (0 ≤ s.l ∧ s.l ≤ s.r ∧ s.r ≤ 24) ∧ (0 ≤ s.t ∧ s.t ≤ s.u ∧ s.u ≤ 24)

/-- of a typed stroke -/
def onStk (x : PV) (f : Stk → M PV) : M PV := ⟨fun S Q E => ∃ s : Stk, s.ok ∧ x = s.pv ∧ (f s).run S Q E, fun h g ⟨s, a, b, q⟩ => ⟨s, a, b, (f s).mono h g q⟩⟩
def onShp (x : PV) (f : Shp → M PV) : M PV := ⟨fun S Q E => ∃ s : Shp, s.ok ∧ x = s.pv ∧ (f s).run S Q E, fun h g ⟨s, a, b, q⟩ => ⟨s, a, b, (f s).mono h g q⟩⟩
def C_is_whole : List PV → M PV
  | [.int _] => ret (.bl true)
  | _ => stuck
def C_is_between : List PV → M PV
  | [.int i, .int a, .int b] => bnd (guard (a ≤ i ∧ i ≤ b)) fun _ => ret (.bl true)
  | _ => stuck
def C_is_up_to : List PV → M PV
  | [.int i, .int b] => bnd (guard (0 ≤ i ∧ i ≤ b)) fun _ => ret (.bl true)
  | _ => stuck
def C_is_tuple_of : List PV → M PV
  | [.tup xs, .int n] => ret (.bl (decide ((xs.length : Int) = n)))
  | _ => stuck
def C_is_pair : List PV → M PV
  | [.tup xs] => ret (.bl (decide ((xs.length : Int) = 2)))
  | _ => stuck
def C_is_cell : List PV → M PV
  | [.int w, .int h, .tup [.int a, .int b]] => bnd (guard ((0 ≤ a ∧ a ≤ h - 1) ∧ (0 ≤ b ∧ b ≤ w - 1))) fun _ => ret (.bl true)
  | _ => stuck
def C_is_box : List PV → M PV
  | [.tup [.int a, .int b, .int c, .int d], .int l, .int m] => bnd (guard ((l ≤ a ∧ a ≤ m) ∧ (l ≤ b ∧ b ≤ m) ∧ (l ≤ c ∧ c ≤ m) ∧ (l ≤ d ∧ d ≤ m) ∧ a ≤ c ∧ b ≤ d)) fun _ => ret (.bl true)
  | _ => stuck
def C_is_point : List PV → M PV
  | [.tup [.int a, .int b]] => bnd (guard ((-99999 ≤ a ∧ a ≤ 99999) ∧ (-99999 ≤ b ∧ b ≤ 99999))) fun _ => ret (.bl true)
  | _ => stuck
def C_is_shape : List PV → M PV
  | [x] => onShp x fun _ => ret (.bl true)
  | _ => stuck
def C_is_stroke : List PV → M PV
  | [x] => onStk x fun _ => ret (.bl true)
  | _ => stuck
def sm (a : Int) : Prop := -1000000 ≤ a ∧ a ≤ 1000000
def C_turn_at : List PV → M PV
  | [.tup [.int a, .int b], .tup [.int c, .int d], .tup [.int e, .int f]] => bnd (guard (sm a ∧ sm b ∧ sm c ∧ sm d ∧ sm e ∧ sm f)) fun _ => ret (.int (turnAt a b c d e f))
  | _ => stuck
def C_is_in_corners : List PV → M PV
  | [.lst [.tup [.int a, .int b], .tup [.int c, .int d], .tup [.int e, .int f]], .tup [.int x, .int y]] => bnd (guard (sm a ∧ sm b ∧ sm c ∧ sm d ∧ sm e ∧ sm f ∧ sm x ∧ sm y)) fun _ => ret (.bl (inTri a b c d e f x y))
  | _ => stuck
def C_range_in : List PV → M PV
  | [x, .int w, .int f, .int l] => onStk x fun s => ret (.tup [.tup [.int (s.r0 f), .int (s.r1 l)], .tup [.int s.c0, .int (s.c1 w)]])
  | _ => stuck
def C_cells_in : List PV → M PV
  | [x, .int w, .int f, .int l] => bnd (guard ((0 ≤ f ∧ f ≤ 24) ∧ (0 ≤ l ∧ l ≤ 24) ∧ (0 ≤ w ∧ w ≤ 24))) fun _ => onStk x fun s => ret (.lst ((s.cells w f l).map cellPV))
  | _ => stuck
def C_covers_by : List PV → M PV
  | [x, .int r, .int k] => bnd (guard ((0 ≤ r ∧ r ≤ 23) ∧ (0 ≤ k ∧ k ≤ 23))) fun _ => onStk x fun s => ret (.bl (s.cov r k))
  | _ => stuck
def C_check_stroke : List PV → M PV
  | [x] => onStk x fun _ => ret .non
  | _ => stuck
def C_check_spot : List PV → M PV
  | [.tup [.int a, .int b]] => bnd (guard ((0 ≤ a ∧ a ≤ 23) ∧ (0 ≤ b ∧ b ≤ 23))) fun _ => ret .non
  | _ => stuck
def C_covers : List PV → M PV
  | [x, .tup [.int r, .int k]] => bnd (guard ((0 ≤ r ∧ r ≤ 23) ∧ (0 ≤ k ∧ k ≤ 23))) fun _ => onStk x fun s => ret (.bl (s.cov r k))
  | _ => stuck

/-! the law's own -/
def isPool (xs : List PV) : Prop := ∃ a b c : Int, xs = [.int a, .int b, .int c]
/-- a draw: the pool at a is another one -/
def draw (a : Addr) : M Unit := bnd (getc a) fun xs => bnd (guard (isPool xs)) fun _ => bnd (any isPool) fun ys => putc a ys
abbrev plst (S : Stt) (a : Addr) (p q z : Int) : Stt := put S a (.lst [.int p, .int q, .int z])
def C__law_pool : List PV → M PV
  | [.loc xs, .int lap] => bnd (guard ((∃ ns : List Int, xs = ns.map .int) ∧ 0 ≤ lap ∧ lap ≤ 10)) fun _ => bnd (any isPool) fun ys => ownL ys
  | _ => stuck
def C__law_below : List PV → M PV
  | [.ref a, .int many] => bnd (guard (0 < many ∧ many < 1000000)) fun _ => bnd (draw a) fun _ => bnd (any fun v : Int => 0 ≤ v ∧ v < many) fun v => ret (.int v)
  | _ => stuck
def C__law_one : List PV → M PV
  | [.ref a, .tup xs] => bnd (guard (0 < xs.length ∧ xs.length < 100000)) fun _ => bnd (draw a) fun _ => any fun v => v ∈ xs
  | _ => stuck
def C__law_same_0 : List PV → M PV
  | [.bl a, .bl b] => ret (.bl (a == b))
  | _ => stuck
def C__law_same : List PV → M PV
  | [.lst [.bl a, .bl b], .lst [.bl c, .bl d]] => bnd (guard (a = c ∧ b = d)) fun _ => ret (.bl true)
  | [.lst [.bl a, .bl b, .bl a', .bl b'], .lst [.bl c, .bl d, .bl c', .bl d']] => bnd (guard (a = c ∧ b = d ∧ a' = c' ∧ b' = d')) fun _ => ret (.bl true)
  | _ => stuck
def C__law_boxed : List PV → M PV
  | [.tup [.int a, .int b], .tup [.int c, .int d]] => ret (.tup [.int (min a c), .int (min b d), .int (max a c), .int (max b d)])
  | _ => stuck
def inBox (l t r u y x : Int) : Bool := decide (l ≤ x) && decide (x < r) && decide (t ≤ y) && decide (y < u)
def C__law_in_box : List PV → M PV
  | [.tup [.int l, .int t, .int r, .int u], .tup [.int y, .int x]] => ret (.bl (inBox l t r u y x))
  | _ => stuck
/-- one side of the law's triangle -/
def lside (x1 y1 x2 y2 x y : Int) : Bool :=
  let turned := (x2 - x1) * (y - 2 * y1) - (y2 - y1) * (x - 2 * x1)
  decide ((if turned ≠ 0 then turned else if y2 - y1 ≠ 0 then -(y2 - y1) else x2 - x1) > 0)
def linTri (x1 y1 x2 y2 x3 y3 r k : Int) : Bool :=
  decide (areaOf x1 y1 x2 y2 x3 y3 ≠ 0) && (lside x1 y1 x3 y3 (2 * k + 1) (2 * r + 1) == lside x2 y2 x1 y1 (2 * k + 1) (2 * r + 1)) && (lside x2 y2 x1 y1 (2 * k + 1) (2 * r + 1) == lside x3 y3 x2 y2 (2 * k + 1) (2 * r + 1))
def C__law_in_triangle : List PV → M PV
  | [.tup [.tup [.int a, .int b], .tup [.int c, .int d], .tup [.int e, .int f]], .tup [.int y, .int x]] => bnd (guard (sm a ∧ sm b ∧ sm c ∧ sm d ∧ sm e ∧ sm f ∧ sm x ∧ sm y)) fun _ => ret (.bl (linTri a b c d e f y x))
  | _ => stuck
def Shp.lcov : Shp → Int → Int → Bool
  | .box a b c d, r, k => inBox a b c d r k
  | .tri a b c d e f, r, k => linTri a b c d e f r k
def C__law_covers : List PV → M PV
  | [x, .tup [.int r, .int k]] => bnd (guard ((0 ≤ r ∧ r ≤ 23) ∧ (0 ≤ k ∧ k ≤ 23))) fun _ => onStk x fun s => ret (.bl (s.cov r k))
  | _ => stuck
def C__law_stroke : List PV → M PV
  | [.ref a] => bnd (draw a) fun _ => bnd (any fun s : Stk => s.ok) fun s => ret s.pv
  | _ => stuck
def C__law_right : List PV → M PV
  | [.ref a] => bnd (draw a) fun _ => ret (.bl true)
  | _ => stuck
def C_law : List PV → M PV
  | [.loc xs] => ⟨fun _ Q _ => (∃ ns : List Int, xs = ns.map .int) ∧ ∀ S', Q (.bl true) S', fun h _ q => ⟨q.1, fun S' => h _ _ (q.2 S')⟩⟩
  | _ => stuck
theorem Shp.pv_inj {s t : Shp} (h : s.pv = t.pv) : s = t := by
  cases s <;> cases t <;> simp [Shp.pv] at h <;> simp [h]
theorem Stk.pv_inj {s t : Stk} (h : s.pv = t.pv) : s = t := by
  cases s; cases t
  simp [Stk.pv] at h
  simp [h, Shp.pv_inj h.1]
section
variable {S : Stt} {Q : PV → Stt → Prop} {E : Exc → Stt → Prop}
theorem x_onStk {s : Stk} {f : Stk → M PV} (h : s.ok) : (onStk s.pv f).run S Q E = (f s).run S Q E :=
  propext ⟨fun ⟨t, _, e, q⟩ => by rw [Stk.pv_inj e]; exact q, fun q => ⟨s, h, rfl, q⟩⟩
theorem x_onShp {s : Shp} {f : Shp → M PV} (h : s.ok) : (onShp s.pv f).run S Q E = (f s).run S Q E :=
  propext ⟨fun ⟨t, _, e, q⟩ => by rw [Shp.pv_inj e]; exact q, fun q => ⟨s, h, rfl, q⟩⟩
theorem x_stk0 {s : Stk} : (vIdx s.pv (.int 0)).run S Q E = Q s.sh.pv S := rfl
theorem x_is_whole {i : Int} : (C_is_whole [.int i]).run S Q E = Q (.bl true) S := rfl
theorem x_is_between {i a b : Int} : (C_is_between [.int i, .int a, .int b]).run S Q E = ((a ≤ i ∧ i ≤ b) ∧ Q (.bl true) S) := rfl
theorem x_is_up_to {i b : Int} : (C_is_up_to [.int i, .int b]).run S Q E = ((0 ≤ i ∧ i ≤ b) ∧ Q (.bl true) S) := rfl
theorem x_is_tuple_of {xs : List PV} {n : Int} : (C_is_tuple_of [.tup xs, .int n]).run S Q E = Q (.bl (decide ((xs.length : Int) = n))) S := rfl
theorem x_is_pair {xs : List PV} : (C_is_pair [.tup xs]).run S Q E = Q (.bl (decide ((xs.length : Int) = 2))) S := rfl
theorem x_is_cell {w h a b : Int} : (C_is_cell [.int w, .int h, .tup [.int a, .int b]]).run S Q E = (((0 ≤ a ∧ a ≤ h - 1) ∧ (0 ≤ b ∧ b ≤ w - 1)) ∧ Q (.bl true) S) := rfl
theorem x_is_box {a b c d l m : Int} : (C_is_box [.tup [.int a, .int b, .int c, .int d], .int l, .int m]).run S Q E = (((l ≤ a ∧ a ≤ m) ∧ (l ≤ b ∧ b ≤ m) ∧ (l ≤ c ∧ c ≤ m) ∧ (l ≤ d ∧ d ≤ m) ∧ a ≤ c ∧ b ≤ d) ∧ Q (.bl true) S) := rfl
theorem x_is_point {a b : Int} : (C_is_point [.tup [.int a, .int b]]).run S Q E = (((-99999 ≤ a ∧ a ≤ 99999) ∧ (-99999 ≤ b ∧ b ≤ 99999)) ∧ Q (.bl true) S) := rfl
theorem x_is_shape {s : Shp} (h : s.ok) : (C_is_shape [s.pv]).run S Q E = Q (.bl true) S := x_onShp h
theorem x_is_stroke {s : Stk} (h : s.ok) : (C_is_stroke [s.pv]).run S Q E = Q (.bl true) S := x_onStk h
theorem x_turn_at {a b c d e f : Int} : (C_turn_at [.tup [.int a, .int b], .tup [.int c, .int d], .tup [.int e, .int f]]).run S Q E = ((sm a ∧ sm b ∧ sm c ∧ sm d ∧ sm e ∧ sm f) ∧ Q (.int (turnAt a b c d e f)) S) := rfl
theorem x_is_in_corners {a b c d e f x y : Int} : (C_is_in_corners [.lst [.tup [.int a, .int b], .tup [.int c, .int d], .tup [.int e, .int f]], .tup [.int x, .int y]]).run S Q E = ((sm a ∧ sm b ∧ sm c ∧ sm d ∧ sm e ∧ sm f ∧ sm x ∧ sm y) ∧ Q (.bl (inTri a b c d e f x y)) S) := rfl
theorem x_range_in {s : Stk} {w f l : Int} (h : s.ok) : (C_range_in [s.pv, .int w, .int f, .int l]).run S Q E = Q (.tup [.tup [.int (s.r0 f), .int (s.r1 l)], .tup [.int s.c0, .int (s.c1 w)]]) S := x_onStk h
theorem x_cells_in {s : Stk} {w f l : Int} (h : s.ok) : (C_cells_in [s.pv, .int w, .int f, .int l]).run S Q E = (((0 ≤ f ∧ f ≤ 24) ∧ (0 ≤ l ∧ l ≤ 24) ∧ (0 ≤ w ∧ w ≤ 24)) ∧ Q (.lst ((s.cells w f l).map cellPV)) S) := by
  show (_ ∧ (onStk s.pv _).run S Q E) = _
  rw [x_onStk h]; rfl
theorem x_covers_by {s : Stk} {r k : Int} (h : s.ok) : (C_covers_by [s.pv, .int r, .int k]).run S Q E = (((0 ≤ r ∧ r ≤ 23) ∧ (0 ≤ k ∧ k ≤ 23)) ∧ Q (.bl (s.cov r k)) S) := by
  show (_ ∧ (onStk s.pv _).run S Q E) = _
  rw [x_onStk h]; rfl
theorem x_check_stroke {s : Stk} (h : s.ok) : (C_check_stroke [s.pv]).run S Q E = Q .non S := x_onStk h
theorem x_check_spot {a b : Int} : (C_check_spot [.tup [.int a, .int b]]).run S Q E = (((0 ≤ a ∧ a ≤ 23) ∧ (0 ≤ b ∧ b ≤ 23)) ∧ Q .non S) := rfl
theorem x_covers {s : Stk} {r k : Int} (h : s.ok) : (C_covers [s.pv, .tup [.int r, .int k]]).run S Q E = (((0 ≤ r ∧ r ≤ 23) ∧ (0 ≤ k ∧ k ≤ 23)) ∧ Q (.bl (s.cov r k)) S) := by
  show (_ ∧ (onStk s.pv _).run S Q E) = _
  rw [x_onStk h]; rfl
theorem draw_run {a : Addr} {p q z : Int} {Q : Unit → Stt → Prop} : (draw a).run (plst S a p q z) Q E = ∀ p q z : Int, Q () (plst S a p q z) := by
  refine propext ⟨fun ⟨xs, e, _, k⟩ p' q' z' => ?_, fun k => ⟨_, put_same, ⟨p, q, z, rfl⟩, fun ys ⟨p', q', z', e⟩ => ?_⟩⟩
  · have := k _ ⟨p', q', z', rfl⟩
    change Q () (put (put _ _ _) _ _) at this
    rw [put_put] at this; exact this
  · subst e
    change Q () (put (put _ _ _) _ _)
    rw [put_put]; exact k p' q' z'
theorem x__law_below {a : Addr} {p q z many : Int} : (C__law_below [.ref a, .int many]).run (plst S a p q z) Q E = ((0 < many ∧ many < 1000000) ∧ ∀ p q z v : Int, 0 ≤ v → v < many → Q (.int v) (plst S a p q z)) := by
  show (_ ∧ (draw a).run _ _ _) = _
  rw [draw_run]
  exact propext ⟨fun ⟨h, k⟩ => ⟨h, fun p q z v h1 h2 => k p q z v ⟨h1, h2⟩⟩, fun ⟨h, k⟩ => ⟨h, fun p q z v h1 => k p q z v h1.1 h1.2⟩⟩
theorem x__law_one {a : Addr} {p q z : Int} {xs : List PV} : (C__law_one [.ref a, .tup xs]).run (plst S a p q z) Q E = ((0 < xs.length ∧ xs.length < 100000) ∧ ∀ p q z : Int, ∀ v ∈ xs, Q v (plst S a p q z)) := by
  show (_ ∧ (draw a).run _ _ _) = _
  rw [draw_run]; rfl
theorem x__law_stroke {a : Addr} {p q z : Int} : (C__law_stroke [.ref a]).run (plst S a p q z) Q E = ∀ p q z : Int, ∀ s : Stk, s.ok → Q s.pv (plst S a p q z) := by
  show (draw a).run _ _ _ = _
  rw [draw_run]; rfl
theorem x__law_right {a : Addr} {p q z : Int} : (C__law_right [.ref a]).run (plst S a p q z) Q E = ∀ p q z : Int, Q (.bl true) (plst S a p q z) := by
  show (draw a).run _ _ _ = _
  rw [draw_run]; rfl
theorem x__law_pool {ns : List Int} {lap : Int} : (C__law_pool [.loc (ns.map .int), .int lap]).run S Q E = ((0 ≤ lap ∧ lap ≤ 10) ∧ ∀ a, S a = none → ∀ p q z : Int, Q (.ref a) (plst S a p q z)) := by
  refine propext ⟨fun ⟨⟨_, h⟩, k⟩ => ⟨h, fun a ha p q z => k _ ⟨p, q, z, rfl⟩ a ha⟩, fun ⟨h, k⟩ => ⟨⟨⟨ns, rfl⟩, h⟩, fun ys ⟨p, q, z, e⟩ a ha => ?_⟩⟩
  subst e; exact k a ha p q z
theorem x__law_same_0 {a b : Bool} : (C__law_same_0 [.bl a, .bl b]).run S Q E = Q (.bl (a == b)) S := rfl
theorem x__law_same2 {a b c d : Bool} : (C__law_same [.lst [.bl a, .bl b], .lst [.bl c, .bl d]]).run S Q E = ((a = c ∧ b = d) ∧ Q (.bl true) S) := rfl
theorem x__law_same4 {a b c d a' b' c' d' : Bool} : (C__law_same [.lst [.bl a, .bl b, .bl a', .bl b'], .lst [.bl c, .bl d, .bl c', .bl d']]).run S Q E = ((a = c ∧ b = d ∧ a' = c' ∧ b' = d') ∧ Q (.bl true) S) := rfl
theorem x__law_boxed {a b c d : Int} : (C__law_boxed [.tup [.int a, .int b], .tup [.int c, .int d]]).run S Q E = Q (.tup [.int (min a c), .int (min b d), .int (max a c), .int (max b d)]) S := rfl
theorem x__law_in_box {l t r u y x : Int} : (C__law_in_box [.tup [.int l, .int t, .int r, .int u], .tup [.int y, .int x]]).run S Q E = Q (.bl (inBox l t r u y x)) S := rfl
theorem x__law_in_triangle {a b c d e f y x : Int} : (C__law_in_triangle [.tup [.tup [.int a, .int b], .tup [.int c, .int d], .tup [.int e, .int f]], .tup [.int y, .int x]]).run S Q E = ((sm a ∧ sm b ∧ sm c ∧ sm d ∧ sm e ∧ sm f ∧ sm x ∧ sm y) ∧ Q (.bl (linTri a b c d e f y x)) S) := rfl
theorem x__law_covers {s : Stk} {r k : Int} (h : s.ok) : (C__law_covers [s.pv, .tup [.int r, .int k]]).run S Q E = (((0 ≤ r ∧ r ≤ 23) ∧ (0 ≤ k ∧ k ≤ 23)) ∧ Q (.bl (s.cov r k)) S) := by
  show (_ ∧ (onStk s.pv _).run S Q E) = _
  rw [x_onStk h]; rfl
end
end Dp.L

namespace Dp.L
open PySem PySem.Spec L2 Dp
open PyProof.Rows hiding St
def topS (i : Nat) : Stmt := PySem.Challenge.pw_inkbands_k25_whole_covering.main.body.getD i (.Pass ⟨0, 0, 0, 0⟩)
abbrev i_is_whole : Nat := 0
abbrev i_is_between : Nat := 1
abbrev i_is_up_to : Nat := 2
abbrev i_is_tuple_of : Nat := 3
abbrev i_is_pair : Nat := 4
abbrev i_is_cell : Nat := 5
abbrev i_is_box : Nat := 6
abbrev i_is_point : Nat := 7
abbrev i_is_shape : Nat := 8
abbrev i_is_stroke : Nat := 9
abbrev i_turn_at : Nat := 10
abbrev i_is_in_corners : Nat := 11
abbrev i_range_in : Nat := 12
abbrev i_cells_in : Nat := 13
abbrev i_covers_by : Nat := 14
abbrev i_check_stroke : Nat := 15
abbrev i_check_spot : Nat := 16
abbrev i_covers : Nat := 17
abbrev i__law_pool : Nat := 18
abbrev i__law_below : Nat := 19
abbrev i__law_one : Nat := 20
abbrev i__law_same_b : Nat := 21
abbrev i__law_same_0 : Nat := 22
abbrev i__law_same : Nat := 23
abbrev i__law_boxed : Nat := 24
abbrev i__law_in_box : Nat := 25
abbrev i__law_in_triangle : Nat := 26
abbrev i__law_covers : Nat := 27
abbrev i__law_stroke : Nat := 28
abbrev i__law_right : Nat := 29
abbrev i_law : Nat := 30
def lv : Nat → Nat := fun k => ([1, 2, 3, 1, 2, 4, 3, 3, 4, 5, 1, 2, 1, 3, 4, 6, 5, 7, 1, 1, 2, 0, 1, 2, 1, 1, 1, 2, 3, 8, 9] : List Nat).getD k 0
def G : Nat → Option (Str × PV) := fun k => ([("BOX", (.int 4)), ("FARTHEST", (.int 99999)), ("CORNERS", (.int 3)), ("STROKE", (.int 3)), ("LAST_INK", (.int 7)), ("MOST_SIDE", (.int 24))] : List (Str × PV))[k]?
def c_is_whole : CB :=
  (.cons (.ret (.and (.callB .isi (.cons (.var 0) (.cons (.bty "int" "int") .nil))) (.b1 (.nt (.callB .isi (.cons (.var 0) (.cons (.bty "bool" "bool") .nil))))))) .nil)
def d_is_whole : Df := ⟨topS 5, ["value"], 1, c_is_whole⟩
def c_is_between : CB :=
  (.cons (.ret (.and (.call i_is_whole ⟨1, [], [0]⟩ (.cons (.var 0) .nil) .nil) (.b1 (.chn .le .le (.var 1) (.var 0) (.var 2))))) .nil)
def d_is_between : Df := ⟨topS 6, ["value", "least", "most"], 3, c_is_between⟩
def c_is_up_to : CB :=
  (.cons (.ret (.call i_is_between ⟨3, [], [0, 1, 2]⟩ (.cons (.var 0) (.cons (.int 0) (.cons (.var 1) .nil))) .nil)) .nil)
def d_is_up_to : Df := ⟨topS 7, ["value", "most"], 2, c_is_up_to⟩
def c_is_tuple_of : CB :=
  (.cons (.ret (.and (.callB .isi (.cons (.var 0) (.cons (.bty "tuple" "tuple") .nil))) (.b1 (.cmp .eq (.callB .len (.cons (.var 0) .nil)) (.var 1))))) .nil)
def d_is_tuple_of : Df := ⟨topS 8, ["value", "many"], 2, c_is_tuple_of⟩
def c_is_pair : CB :=
  (.cons (.ret (.call i_is_tuple_of ⟨2, [], [0, 1]⟩ (.cons (.var 0) (.cons (.int 2) .nil)) .nil)) .nil)
def d_is_pair : Df := ⟨topS 9, ["value"], 1, c_is_pair⟩
def c_is_cell : CB :=
  (.cons (.ret (.and (.call i_is_pair ⟨1, [], [0]⟩ (.cons (.var 2) .nil) .nil) (.and (.call i_is_up_to ⟨2, [], [0, 1]⟩ (.cons (.ix (.var 2) (.int 0)) (.cons (.bin .sub (.var 1) (.int 1)) .nil)) .nil) (.b1 (.call i_is_up_to ⟨2, [], [0, 1]⟩ (.cons (.ix (.var 2) (.int 1)) (.cons (.bin .sub (.var 0) (.int 1)) .nil)) .nil))))) .nil)
def d_is_cell : Df := ⟨topS 12, ["width", "height", "value"], 3, c_is_cell⟩
def c_is_box : CB :=
  (.cons (.ifs (.or (.nt (.tv (.call i_is_tuple_of ⟨2, [], [0, 1]⟩ (.cons (.var 0) (.cons (.glob 0) .nil)) .nil))) (.b1 (.nt (.tv (.callB .all (.cons (.comp false [("each", 3)] (.call i_is_between ⟨3, [], [0, 1, 2]⟩ (.cons (.var 3) (.cons (.var 1) (.cons (.var 2) .nil))) .nil) (.name 3) (.val (.var 0)) .none) .nil)))))) (.cons (.ret (.bl false)) .nil) .nil) (.cons (.ret (.and (.cmp .le (.ix (.var 0) (.int 0)) (.ix (.var 0) (.int 2))) (.b1 (.cmp .le (.ix (.var 0) (.int 1)) (.ix (.var 0) (.int 3)))))) .nil))
def d_is_box : Df := ⟨topS 19, ["value", "least", "most", "each"], 3, c_is_box⟩
def c_is_point : CB :=
  (.cons (.ret (.and (.call i_is_pair ⟨1, [], [0]⟩ (.cons (.var 0) .nil) .nil) (.b1 (.callB .all (.cons (.comp false [("each", 1)] (.call i_is_between ⟨3, [], [0, 1, 2]⟩ (.cons (.var 1) (.cons (.neg (.glob 1)) (.cons (.glob 1) .nil))) .nil) (.name 1) (.val (.var 0)) .none) .nil))))) .nil)
def d_is_point : Df := ⟨topS 20, ["value", "each"], 1, c_is_point⟩
def c_is_shape : CB :=
  (.cons (.ifs (.tv (.call i_is_tuple_of ⟨2, [], [0, 1]⟩ (.cons (.var 0) (.cons (.glob 2) .nil)) .nil)) (.cons (.ret (.callB .all (.cons (.comp false [("each", 1)] (.call i_is_point ⟨1, [], [0]⟩ (.cons (.var 1) .nil) .nil) (.name 1) (.val (.var 0)) .none) .nil))) .nil) .nil) (.cons (.ret (.call i_is_box ⟨3, [], [0, 1, 2]⟩ (.cons (.var 0) (.cons (.neg (.glob 1)) (.cons (.glob 1) .nil))) .nil)) .nil))
def d_is_shape : Df := ⟨topS 21, ["value", "each"], 1, c_is_shape⟩
def c_is_stroke : CB :=
  (.cons (.ifs (.or (.nt (.tv (.call i_is_tuple_of ⟨2, [], [0, 1]⟩ (.cons (.var 0) (.cons (.glob 3) .nil)) .nil))) (.b1 (.nt (.tv (.call i_is_shape ⟨1, [], [0]⟩ (.cons (.ix (.var 0) (.int 0)) .nil) .nil))))) (.cons (.ret (.bl false)) .nil) .nil) (.cons (.ret (.and (.call i_is_up_to ⟨2, [], [0, 1]⟩ (.cons (.ix (.var 0) (.int 1)) (.cons (.glob 4) .nil)) .nil) (.b1 (.call i_is_box ⟨3, [], [0, 1, 2]⟩ (.cons (.ix (.var 0) (.int 2)) (.cons (.int 0) (.cons (.glob 5) .nil))) .nil)))) .nil))
def d_is_stroke : Df := ⟨topS 22, ["value"], 1, c_is_stroke⟩
def c_turn_at : CB :=
  (.cons (.par2 3 4 (.cons (.bin .sub (.ix (.var 1) (.int 0)) (.ix (.var 0) (.int 0))) (.cons (.bin .sub (.ix (.var 1) (.int 1)) (.ix (.var 0) (.int 1))) .nil))) (.cons (.asg (.name 5) (.bin .sub (.bin .mul (.var 3) (.bin .sub (.ix (.var 2) (.int 1)) (.ix (.var 0) (.int 1)))) (.bin .mul (.var 4) (.bin .sub (.ix (.var 2) (.int 0)) (.ix (.var 0) (.int 0)))))) (.cons (.loop (.name 6) (.val (.tup (.cons (.var 5) (.cons (.neg (.var 4)) (.cons (.var 3) .nil))))) (.cons (.ifs (.cmp .ne (.var 6) (.int 0)) (.cons (.ret (.ife (.cmp .gt (.var 6) (.int 0)) (.int 1) (.neg (.int 1)))) .nil) .nil) .nil)) (.cons (.ret (.int 0)) .nil))))
def d_turn_at : Df := ⟨topS 23, ["one", "two", "spot", "along", "down", "turn", "each"], 3, c_turn_at⟩
def c_is_in_corners : CB :=
  (.cons (.asg (.tup (.cons (.name 2) (.cons (.name 3) (.cons (.name 4) .nil)))) (.var 0)) (.cons (.asg (.name 5) (.bin .sub (.bin .mul (.bin .sub (.ix (.var 3) (.int 0)) (.ix (.var 2) (.int 0))) (.bin .sub (.ix (.var 4) (.int 1)) (.ix (.var 2) (.int 1)))) (.bin .mul (.bin .sub (.ix (.var 3) (.int 1)) (.ix (.var 2) (.int 1))) (.bin .sub (.ix (.var 4) (.int 0)) (.ix (.var 2) (.int 0)))))) (.cons (.asg (.name 6) (.ife (.cmp .gt (.var 5) (.int 0)) (.int 1) (.neg (.int 1)))) (.cons (.asg (.name 7) (.lst false (.cons (.call i_turn_at ⟨3, [], [0, 1, 2]⟩ (.cons (.var 2) (.cons (.var 3) (.cons (.var 1) .nil))) .nil) (.cons (.call i_turn_at ⟨3, [], [0, 1, 2]⟩ (.cons (.var 3) (.cons (.var 4) (.cons (.var 1) .nil))) .nil) (.cons (.call i_turn_at ⟨3, [], [0, 1, 2]⟩ (.cons (.var 4) (.cons (.var 2) (.cons (.var 1) .nil))) .nil) .nil))))) (.cons (.ret (.and (.cmp .ne (.var 5) (.int 0)) (.b1 (.cmp .eq (.var 7) (.lst false (.cons (.var 6) (.cons (.var 6) (.cons (.var 6) .nil)))))))) .nil)))))
def d_is_in_corners : Df := ⟨topS 24, ["corners", "spot", "one", "two", "three", "area", "due", "turns"], 2, c_is_in_corners⟩
def c_range_in : CB :=
  (.cons (.asg (.tup (.cons (.name 4) (.cons (.name 5) (.cons (.tup (.cons (.name 6) (.cons (.name 7) (.cons (.name 8) (.cons (.name 9) .nil))))) .nil)))) (.var 0)) (.cons (.asg (.name 10) (.ife (.cmp .eq (.callB .len (.cons (.var 4) .nil)) (.glob 0)) (.lst false (.cons (.tup (.cons (.ix (.var 4) (.int 0)) (.cons (.ix (.var 4) (.int 1)) .nil))) (.cons (.tup (.cons (.ix (.var 4) (.int 2)) (.cons (.ix (.var 4) (.int 3)) .nil))) .nil))) (.var 4))) (.cons (.par2 11 12 (.cons (.comp false [("point", 14)] (.ix (.var 14) (.int 0)) (.name 14) (.val (.var 10)) .none) (.cons (.comp false [("point", 14)] (.ix (.var 14) (.int 1)) (.name 14) (.val (.var 10)) .none) .nil))) (.cons (.asg (.name 13) (.tup (.cons (.callB .max (.cons (.var 2) (.cons (.var 7) (.cons (.callB .min (.cons (.var 12) .nil)) .nil)))) (.cons (.callB .min (.cons (.var 3) (.cons (.var 9) (.cons (.callB .max (.cons (.var 12) .nil)) .nil)))) .nil)))) (.cons (.ret (.tup (.cons (.var 13) (.cons (.tup (.cons (.callB .max (.cons (.int 0) (.cons (.var 6) (.cons (.callB .min (.cons (.var 11) .nil)) .nil)))) (.cons (.callB .min (.cons (.var 1) (.cons (.var 8) (.cons (.callB .max (.cons (.var 11) .nil)) .nil)))) .nil))) .nil)))) .nil)))))
def d_range_in : Df := ⟨topS 25, ["stroke", "width", "first", "last", "shape", "_", "left", "top", "right", "under", "points", "across", "down", "rows", "point"], 4, c_range_in⟩
def c_cells_in : CB :=
  (.cons (.asg (.tup (.cons (.name 4) (.cons (.name 5) .nil))) (.call i_range_in ⟨4, [], [0, 1, 2, 3]⟩ (.cons (.var 0) (.cons (.var 1) (.cons (.var 2) (.cons (.var 3) .nil)))) .nil)) (.cons (.setc 6 (.comp2 false [("row", 8), ("column", 9)] [9] (.tup (.cons (.var 8) (.cons (.var 9) .nil))) (.name 8) (.rng (.cons (.ix (.var 4) (.int 0)) (.cons (.ix (.var 4) (.int 1)) .nil))) .none (.name 9) (.rng (.cons (.ix (.var 5) (.int 0)) (.cons (.ix (.var 5) (.int 1)) .nil))) .none)) (.cons (.ifs (.cmp .eq (.callB .len (.cons (.ix (.var 0) (.int 0)) .nil)) (.glob 0)) (.cons (.ret (.var 6)) .nil) .nil) (.cons (.asg (.name 7) (.comp false [("across", 10), ("down", 11)] (.tup (.cons (.bin .mul (.int 2) (.var 10)) (.cons (.bin .mul (.int 2) (.var 11)) .nil))) (.tup (.cons (.name 10) (.cons (.name 11) .nil))) (.val (.ix (.var 0) (.int 0))) .none)) (.cons (.ret (.comp false [("row", 8), ("column", 9)] (.tup (.cons (.var 8) (.cons (.var 9) .nil))) (.tup (.cons (.name 8) (.cons (.name 9) .nil))) (.val (.var 6)) (.some (.tv (.call i_is_in_corners ⟨2, [], [0, 1]⟩ (.cons (.var 7) (.cons (.tup (.cons (.bin .add (.bin .mul (.int 2) (.var 9)) (.int 1)) (.cons (.bin .add (.bin .mul (.int 2) (.var 8)) (.int 1)) .nil))) .nil)) .nil))))) .nil)))))
def d_cells_in : Df := ⟨topS 26, ["stroke", "width", "first", "last", "rows", "columns", "cells", "corners", "row", "column", "across", "down"], 4, c_cells_in⟩
def c_covers_by : CB :=
  (.cons (.ret (.cmp .isin (.tup (.cons (.var 1) (.cons (.var 2) .nil))) (.call i_cells_in ⟨4, [], [0, 1, 2, 3]⟩ (.cons (.var 0) (.cons (.bin .add (.var 2) (.int 1)) (.cons (.var 1) (.cons (.bin .add (.var 1) (.int 1)) .nil)))) .nil))) .nil)
def d_covers_by : Df := ⟨topS 27, ["stroke", "row", "column"], 3, c_covers_by⟩
def c_check_stroke : CB :=
  (.cons (.ifs (.nt (.tv (.call i_is_stroke ⟨1, [], [0]⟩ (.cons (.var 0) .nil) .nil))) (.cons .never .nil) .nil) .nil)
def d_check_stroke : Df := ⟨topS 29, ["stroke"], 1, c_check_stroke⟩
def c_check_spot : CB :=
  (.cons (.ifs (.nt (.tv (.call i_is_cell ⟨3, [], [0, 1, 2]⟩ (.cons (.glob 5) (.cons (.glob 5) (.cons (.var 0) .nil))) .nil))) (.cons .never .nil) .nil) .nil)
def d_check_spot : Df := ⟨topS 30, ["cell"], 1, c_check_spot⟩
def c_covers : CB :=
  (.cons (.expr (.call i_check_stroke ⟨1, [], [0]⟩ (.cons (.var 0) .nil) .nil)) (.cons (.expr (.call i_check_spot ⟨1, [], [0]⟩ (.cons (.var 1) .nil) .nil)) (.cons (.ret (.call i_covers_by ⟨3, [], [0, 1, 2]⟩ (.cons (.var 0) (.cons (.ix (.var 1) (.int 0)) (.cons (.ix (.var 1) (.int 1)) .nil))) .nil)) .nil)))
def d_covers : Df := ⟨topS 31, ["stroke", "cell"], 2, c_covers⟩
def c__law_pool : CB :=
  (.cons (.asg (.name 2) (.ife (.cmp .lt (.var 1) (.callB .len (.cons (.var 0) .nil))) (.callT .int (.cons (.ix (.var 0) (.var 1)) .nil)) (.bin .add (.bin .mul (.int 12503) (.var 1)) (.int 1237)))) (.cons (.asg (.name 3) (.bin .add (.int 104707) (.bin .mul (.int 9013) (.var 1)))) (.cons (.loop (.name 4) (.val (.sl (.var 0) .none (.some (.int 63)))) (.cons (.asg (.name 3) (.bin .mod (.callT .int (.cons (.bin .add (.bin .add (.bin .mul (.var 3) (.int 40699)) (.bin .mod (.callT .int (.cons (.var 4) .nil)) (.int 2147483587))) (.int 23)) .nil)) (.int 2147483629))) .nil)) (.cons (.asg (.name 3) (.bin .mod (.callT .int (.cons (.bin .add (.bin .add (.bin .mul (.var 3) (.int 97)) (.bin .mul (.bin .mod (.callT .int (.cons (.var 2) .nil)) (.int 2147483587)) (.int 31013))) (.int 7)) .nil)) (.int 2147483629))) (.cons (.ret (.lst true (.cons (.ife (.or (.cmp .lt (.var 2) (.int 0)) (.b1 (.cmp .ge (.var 2) (.bin .pow (.int 10) (.int 15))))) (.callB .abs (.cons (.var 2) .nil)) (.int 0)) (.cons (.var 3) (.cons (.int 0) .nil))))) .nil)))))
def d__law_pool : Df := ⟨topS 33, ["script", "lap", "cell", "stirred", "each"], 2, c__law_pool⟩
def c__law_below : CB :=
  (.cons (.ifs (.cmp .gt (.ix (.var 0) (.int 0)) (.int 0)) (.cons (.asg (.tup (.cons (.sub (.var 0) (.int 0)) (.cons (.name 2) .nil))) (.callB .divmod (.cons (.ix (.var 0) (.int 0)) (.cons (.var 1) .nil)))) (.cons (.ret (.var 2)) .nil)) .nil) (.cons (.asg (.sub (.var 0) (.int 2)) (.bin .add (.ix (.var 0) (.int 2)) (.int 1))) (.cons (.asg (.name 3) (.bin .mod (.callT .int (.cons (.bin .add (.bin .add (.bin .mul (.ix (.var 0) (.int 1)) (.int 48677)) (.bin .mul (.int 3413) (.ix (.var 0) (.int 2)))) (.int 61)) .nil)) (.int 2147483563))) (.cons (.asg (.sub (.var 0) (.int 1)) (.bin .mod (.callT .int (.cons (.bin .add (.bin .mul (.var 3) (.bin .add (.bin .mod (.callT .int (.cons (.var 3) .nil)) (.int 4001)) (.int 17911))) (.ix (.var 0) (.int 2))) .nil)) (.int 2147483563))) (.cons (.ret (.bin .mod (.callT .int (.cons (.bin .fdiv (.ix (.var 0) (.int 1)) (.int 367)) .nil)) (.var 1))) .nil)))))
def d__law_below : Df := ⟨topS 34, ["pool", "many", "figure", "stirred"], 2, c__law_below⟩
def c__law_one : CB :=
  (.cons (.ret (.ix (.var 1) (.call i__law_below ⟨2, [], [0, 1]⟩ (.cons (.var 0) (.cons (.callB .len (.cons (.var 1) .nil)) .nil)) .nil))) .nil)
def d__law_one : Df := ⟨topS 35, ["pool", "some"], 2, c__law_one⟩
def c__law_same_0 : CB :=
  (.cons (.ifs (.or (.tv (.callB .isi (.cons (.var 1) (.cons (.bty "tuple" "tuple") .nil)))) (.b1 (.tv (.callB .isi (.cons (.var 1) (.cons (.bty "list" "list") .nil)))))) (.cons (.asg (.name 2) (.ife (.tv (.callB .isi (.cons (.var 1) (.cons (.bty "tuple" "tuple") .nil)))) (.callB .isi (.cons (.var 0) (.cons (.bty "tuple" "tuple") .nil))) (.callB .isi (.cons (.var 0) (.cons (.bty "list" "list") .nil))))) (.cons (.ret (.and (.var 2) (.and (.cmp .eq (.callB .len (.cons (.var 0) .nil)) (.callB .len (.cons (.var 1) .nil))) (.b1 (.callB .all (.cons (.comp false [("k", 3)] (.call i__law_same_b ⟨2, [], [0, 1]⟩ (.cons (.ix (.var 0) (.var 3)) (.cons (.ix (.var 1) (.var 3)) .nil)) .nil) (.name 3) (.rng (.cons (.callB .len (.cons (.var 1) .nil)) .nil)) .none) .nil)))))) .nil)) .nil) (.cons (.ifs (.cmp .isN (.var 1) .non) (.cons (.ret (.cmp .isN (.var 0) .non)) .nil) .nil) (.cons (.ifs (.tv (.callB .isi (.cons (.var 1) (.cons (.bty "bool" "bool") .nil)))) (.cons (.ret (.and (.callB .isi (.cons (.var 0) (.cons (.bty "bool" "bool") .nil))) (.b1 (.cmp .eq (.var 0) (.var 1))))) .nil) .nil) (.cons (.ifs (.tv (.callB .isi (.cons (.var 1) (.cons (.bty "int" "int") .nil)))) (.cons (.ret (.and (.callB .isi (.cons (.var 0) (.cons (.bty "int" "int") .nil))) (.and (.nt (.callB .isi (.cons (.var 0) (.cons (.bty "bool" "bool") .nil)))) (.b1 (.cmp .eq (.var 0) (.var 1)))))) .nil) .nil) (.cons (.ret (.and (.callB .isi (.cons (.var 1) (.cons (.bty "str" "str") .nil))) (.and (.callB .isi (.cons (.var 0) (.cons (.bty "str" "str") .nil))) (.b1 (.cmp .eq (.var 0) (.var 1)))))) .nil)))))
def d__law_same_0 : Df := ⟨topS 36, ["told", "due", "fits", "k"], 2, c__law_same_0⟩
def c__law_same : CB :=
  (.cons (.ifs (.or (.tv (.callB .isi (.cons (.var 1) (.cons (.bty "tuple" "tuple") .nil)))) (.b1 (.tv (.callB .isi (.cons (.var 1) (.cons (.bty "list" "list") .nil)))))) (.cons (.asg (.name 2) (.ife (.tv (.callB .isi (.cons (.var 1) (.cons (.bty "tuple" "tuple") .nil)))) (.callB .isi (.cons (.var 0) (.cons (.bty "tuple" "tuple") .nil))) (.callB .isi (.cons (.var 0) (.cons (.bty "list" "list") .nil))))) (.cons (.ret (.and (.var 2) (.and (.cmp .eq (.callB .len (.cons (.var 0) .nil)) (.callB .len (.cons (.var 1) .nil))) (.b1 (.callB .all (.cons (.comp false [("k", 3)] (.call i__law_same_0 ⟨2, [], [0, 1]⟩ (.cons (.ix (.var 0) (.var 3)) (.cons (.ix (.var 1) (.var 3)) .nil)) .nil) (.name 3) (.rng (.cons (.callB .len (.cons (.var 1) .nil)) .nil)) .none) .nil)))))) .nil)) .nil) (.cons (.ifs (.cmp .isN (.var 1) .non) (.cons (.ret (.cmp .isN (.var 0) .non)) .nil) .nil) (.cons (.ifs (.tv (.callB .isi (.cons (.var 1) (.cons (.bty "bool" "bool") .nil)))) (.cons (.ret (.and (.callB .isi (.cons (.var 0) (.cons (.bty "bool" "bool") .nil))) (.b1 (.cmp .eq (.var 0) (.var 1))))) .nil) .nil) (.cons (.ifs (.tv (.callB .isi (.cons (.var 1) (.cons (.bty "int" "int") .nil)))) (.cons (.ret (.and (.callB .isi (.cons (.var 0) (.cons (.bty "int" "int") .nil))) (.and (.nt (.callB .isi (.cons (.var 0) (.cons (.bty "bool" "bool") .nil)))) (.b1 (.cmp .eq (.var 0) (.var 1)))))) .nil) .nil) (.cons (.ret (.and (.callB .isi (.cons (.var 1) (.cons (.bty "str" "str") .nil))) (.and (.callB .isi (.cons (.var 0) (.cons (.bty "str" "str") .nil))) (.b1 (.cmp .eq (.var 0) (.var 1)))))) .nil)))))
def d__law_same : Df := ⟨topS 36, ["told", "due", "fits", "k"], 2, c__law_same⟩
def c__law_boxed : CB :=
  (.cons (.ret (.tup (.cons (.callB .min (.cons (.ix (.var 0) (.int 0)) (.cons (.ix (.var 1) (.int 0)) .nil))) (.cons (.callB .min (.cons (.ix (.var 0) (.int 1)) (.cons (.ix (.var 1) (.int 1)) .nil))) (.cons (.callB .max (.cons (.ix (.var 0) (.int 0)) (.cons (.ix (.var 1) (.int 0)) .nil))) (.cons (.callB .max (.cons (.ix (.var 0) (.int 1)) (.cons (.ix (.var 1) (.int 1)) .nil))) .nil)))))) .nil)
def d__law_boxed : Df := ⟨topS 37, ["one", "two"], 2, c__law_boxed⟩
def c__law_in_box : CB :=
  (.cons (.ret (.and (.chn .le .lt (.ix (.var 0) (.int 0)) (.ix (.var 1) (.int 1)) (.ix (.var 0) (.int 2))) (.b1 (.chn .le .lt (.ix (.var 0) (.int 1)) (.ix (.var 1) (.int 0)) (.ix (.var 0) (.int 3)))))) .nil)
def d__law_in_box : Df := ⟨topS 38, ["box", "cell"], 2, c__law_in_box⟩
def c__law_in_triangle : CB :=
  (.cons (.par3 2 3 4 (.cons (.bin .add (.bin .mul (.int 2) (.ix (.var 1) (.int 1))) (.int 1)) (.cons (.bin .add (.bin .mul (.int 2) (.ix (.var 1) (.int 0))) (.int 1)) (.cons (.lst true .nil) .nil)))) (.cons (.loop (.name 5) (.rng (.cons (.int 3) .nil)) (.cons (.par2 6 7 (.cons (.ix (.var 0) (.var 5)) (.cons (.ix (.var 0) (.bin .sub (.var 5) (.int 1))) .nil))) (.cons (.par2 8 9 (.cons (.bin .sub (.ix (.var 7) (.int 0)) (.ix (.var 6) (.int 0))) (.cons (.bin .sub (.ix (.var 7) (.int 1)) (.ix (.var 6) (.int 1))) .nil))) (.cons (.asg (.name 10) (.bin .sub (.bin .mul (.var 8) (.bin .sub (.var 3) (.bin .mul (.int 2) (.ix (.var 6) (.int 1))))) (.bin .mul (.var 9) (.bin .sub (.var 2) (.bin .mul (.int 2) (.ix (.var 6) (.int 0))))))) (.cons (.asg (.name 10) (.ife (.cmp .ne (.var 10) (.int 0)) (.var 10) (.ife (.cmp .ne (.var 9) (.int 0)) (.neg (.var 9)) (.var 8)))) (.cons (.expr (.meth .append (.var 4) (.cons (.cmp .gt (.var 10) (.int 0)) .nil))) .nil)))))) (.cons (.asg (.name 11) (.bin .sub (.bin .mul (.bin .sub (.ix (.ix (.var 0) (.int 1)) (.int 0)) (.ix (.ix (.var 0) (.int 0)) (.int 0))) (.bin .sub (.ix (.ix (.var 0) (.int 2)) (.int 1)) (.ix (.ix (.var 0) (.int 0)) (.int 1)))) (.bin .mul (.bin .sub (.ix (.ix (.var 0) (.int 1)) (.int 1)) (.ix (.ix (.var 0) (.int 0)) (.int 1))) (.bin .sub (.ix (.ix (.var 0) (.int 2)) (.int 0)) (.ix (.ix (.var 0) (.int 0)) (.int 0)))))) (.frz 4 (.cons (.ret (.and (.cmp .ne (.var 11) (.int 0)) (.b1 (.chn .eq .eq (.ix (.var 4) (.int 0)) (.ix (.var 4) (.int 1)) (.ix (.var 4) (.int 2)))))) .nil)))))
def d__law_in_triangle : Df := ⟨topS 39, ["shape", "cell", "x", "y", "sides", "k", "one", "two", "right", "down", "turned", "area"], 2, c__law_in_triangle⟩
def c__law_covers : CB :=
  (.cons (.asg (.tup (.cons (.name 2) (.cons (.name 3) (.cons (.name 4) .nil)))) (.var 0)) (.cons (.ret (.and (.call i__law_in_box ⟨2, [], [0, 1]⟩ (.cons (.var 4) (.cons (.var 1) .nil)) .nil) (.b1 (.ife (.cmp .eq (.callB .len (.cons (.var 2) .nil)) (.int 4)) (.call i__law_in_box ⟨2, [], [0, 1]⟩ (.cons (.var 2) (.cons (.var 1) .nil)) .nil) (.call i__law_in_triangle ⟨2, [], [0, 1]⟩ (.cons (.var 2) (.cons (.var 1) .nil)) .nil))))) .nil))
def d__law_covers : Df := ⟨topS 40, ["stroke", "cell", "shape", "ink", "clip"], 2, c__law_covers⟩
def c__law_stroke : CB :=
  (.cons (.asg (.tup (.cons (.name 1) (.cons (.name 2) .nil))) (.tup (.cons (.call i__law_one ⟨2, [], [0, 1]⟩ (.cons (.var 0) (.cons (.tup (.cons (.tup (.cons (.neg (.int 2)) (.cons (.int 12) .nil))) (.cons (.tup (.cons (.int 0) (.cons (.int 4) .nil))) (.cons (.tup (.cons (.neg (.int 30)) (.cons (.int 60) .nil))) (.cons (.tup (.cons (.int 0) (.cons (.int 9) .nil))) .nil))))) .nil)) .nil) (.cons (.call i__law_below ⟨2, [], [0, 1]⟩ (.cons (.var 0) (.cons (.int 8) .nil)) .nil) .nil)))) (.cons (.setc 3 (.comp false [("k", 5)] (.tup (.cons (.bin .add (.ix (.var 1) (.int 0)) (.call i__law_below ⟨2, [], [0, 1]⟩ (.cons (.var 0) (.cons (.ix (.var 1) (.int 1)) .nil)) .nil)) (.cons (.bin .add (.ix (.var 1) (.int 0)) (.call i__law_below ⟨2, [], [0, 1]⟩ (.cons (.var 0) (.cons (.ix (.var 1) (.int 1)) .nil)) .nil)) .nil))) (.name 5) (.rng (.cons (.int 3) .nil)) .none)) (.cons (.asg (.name 4) (.call i__law_one ⟨2, [], [0, 1]⟩ (.cons (.var 0) (.cons (.tup (.cons (.tup (.cons (.int 0) (.cons (.int 0) (.cons (.int 8) (.cons (.int 8) .nil))))) (.cons (.tup (.cons (.int 0) (.cons (.int 0) (.cons (.int 24) (.cons (.int 24) .nil))))) (.cons (.tup (.cons (.int 1) (.cons (.int 1) (.cons (.int 3) (.cons (.int 6) .nil))))) (.cons (.tup (.cons (.int 2) (.cons (.int 3) (.cons (.int 2) (.cons (.int 5) .nil))))) .nil))))) .nil)) .nil)) (.cons (.ret (.tup (.cons (.ife (.cmp .eq (.call i__law_below ⟨2, [], [0, 1]⟩ (.cons (.var 0) (.cons (.int 3) .nil)) .nil) (.int 0)) (.call i__law_boxed ⟨2, [], [0, 1]⟩ (.cons (.ix (.var 3) (.int 0)) (.cons (.ix (.var 3) (.int 1)) .nil)) .nil) (.callT .tup (.cons (.var 3) .nil))) (.cons (.var 2) (.cons (.var 4) .nil))))) .nil))))
def d__law_stroke : Df := ⟨topS 41, ["pool", "low", "high", "spots", "clip", "k"], 1, c__law_stroke⟩
def c__law_right : CB :=
  (.cons (.loop (.name 1) (.rng (.cons (.int 5) .nil)) (.cons (.asg (.name 2) (.call i__law_stroke ⟨1, [], [0]⟩ (.cons (.var 0) .nil) .nil)) (.cons (.loop (.name 3) (.rng (.cons (.int 6) .nil)) (.cons (.loop (.name 4) (.rng (.cons (.int 6) .nil)) (.cons (.asg (.name 5) (.call i__law_covers ⟨2, [], [0, 1]⟩ (.cons (.var 2) (.cons (.tup (.cons (.var 3) (.cons (.var 4) .nil))) .nil)) .nil)) (.cons (.ifs (.nt (.tv (.call i__law_same ⟨2, [], [0, 1]⟩ (.cons (.lst false (.cons (.call i_covers ⟨2, [], [0, 1]⟩ (.cons (.var 2) (.cons (.tup (.cons (.var 3) (.cons (.var 4) .nil))) .nil)) .nil) (.cons (.call i_covers ⟨0, ["cell", "stroke"], [1, 0]⟩ .nil (.cons (.tup (.cons (.var 3) (.cons (.var 4) .nil))) (.cons (.var 2) .nil))) .nil))) (.cons (.lst false (.cons (.var 5) (.cons (.var 5) .nil))) .nil)) .nil))) (.cons (.ret (.bl false)) .nil) .nil) .nil))) .nil)) .nil))) (.cons (.asg (.name 6) (.tup (.cons (.tup (.cons (.tup (.cons (.int 0) (.cons (.int 0) .nil))) (.cons (.tup (.cons (.int 2) (.cons (.int 0) .nil))) (.cons (.tup (.cons (.int 0) (.cons (.int 2) .nil))) .nil)))) (.cons (.int 1) (.cons (.tup (.cons (.int 0) (.cons (.int 0) (.cons (.int 2) (.cons (.int 2) .nil))))) .nil))))) (.cons (.ret (.call i__law_same ⟨2, [], [0, 1]⟩ (.cons (.lst false (.cons (.call i_covers ⟨2, [], [0, 1]⟩ (.cons (.var 6) (.cons (.tup (.cons (.int 0) (.cons (.int 0) .nil))) .nil)) .nil) (.cons (.call i_covers ⟨2, [], [0, 1]⟩ (.cons (.var 6) (.cons (.tup (.cons (.int 0) (.cons (.int 1) .nil))) .nil)) .nil) (.cons (.call i_covers ⟨2, [], [0, 1]⟩ (.cons (.var 6) (.cons (.tup (.cons (.int 1) (.cons (.int 0) .nil))) .nil)) .nil) (.cons (.call i_covers ⟨2, [], [0, 1]⟩ (.cons (.tup (.cons (.tup (.cons (.tup (.cons (.int 2) (.cons (.int 2) .nil))) (.cons (.tup (.cons (.int 2) (.cons (.int 0) .nil))) (.cons (.tup (.cons (.int 0) (.cons (.int 2) .nil))) .nil)))) (.cons (.int 1) (.cons (.tup (.cons (.int 0) (.cons (.int 0) (.cons (.int 2) (.cons (.int 2) .nil))))) .nil)))) (.cons (.tup (.cons (.int 0) (.cons (.int 1) .nil))) .nil)) .nil) .nil))))) (.cons (.lst false (.cons (.bl true) (.cons (.bl false) (.cons (.bl false) (.cons (.bl true) .nil))))) .nil)) .nil)) .nil)))
def d__law_right : Df := ⟨topS 42, ["pool", "lap", "stroke", "r", "c", "due", "slope"], 1, c__law_right⟩
def c_law : CB :=
  (.cons (.loop (.name 1) (.rng (.cons (.callB .max (.cons (.int 1) (.cons (.callB .min (.cons (.callB .len (.cons (.var 0) .nil)) (.cons (.int 3) .nil))) .nil))) .nil)) (.cons (.asg (.name 2) (.call i__law_pool ⟨2, [], [0, 1]⟩ (.cons (.var 0) (.cons (.var 1) .nil)) .nil)) (.cons (.ifs (.nt (.tv (.callB .all (.cons (.comp false [("again", 3)] (.call i__law_right ⟨1, [], [0]⟩ (.cons (.var 2) .nil) .nil) (.name 3) (.rng (.cons (.int 4) .nil)) .none) .nil)))) (.cons (.ret (.bl false)) .nil) .nil) .nil))) (.cons (.ret (.bl true)) .nil))
def d_law : Df := ⟨topS 43, ["script", "lap", "pool", "again"], 1, c_law⟩
def f_is_whole : FnE := ⟨⟨["value"], [⟨1, [], [0]⟩], C_is_whole⟩, "is_whole"⟩
def f_is_between : FnE := ⟨⟨["value", "least", "most"], [⟨3, [], [0, 1, 2]⟩], C_is_between⟩, "is_between"⟩
def f_is_up_to : FnE := ⟨⟨["value", "most"], [⟨2, [], [0, 1]⟩], C_is_up_to⟩, "is_up_to"⟩
def f_is_tuple_of : FnE := ⟨⟨["value", "many"], [⟨2, [], [0, 1]⟩], C_is_tuple_of⟩, "is_tuple_of"⟩
def f_is_pair : FnE := ⟨⟨["value"], [⟨1, [], [0]⟩], C_is_pair⟩, "is_pair"⟩
def f_is_cell : FnE := ⟨⟨["width", "height", "value"], [⟨3, [], [0, 1, 2]⟩], C_is_cell⟩, "is_cell"⟩
def f_is_box : FnE := ⟨⟨["value", "least", "most"], [⟨3, [], [0, 1, 2]⟩], C_is_box⟩, "is_box"⟩
def f_is_point : FnE := ⟨⟨["value"], [⟨1, [], [0]⟩], C_is_point⟩, "is_point"⟩
def f_is_shape : FnE := ⟨⟨["value"], [⟨1, [], [0]⟩], C_is_shape⟩, "is_shape"⟩
def f_is_stroke : FnE := ⟨⟨["value"], [⟨1, [], [0]⟩], C_is_stroke⟩, "is_stroke"⟩
def f_turn_at : FnE := ⟨⟨["one", "two", "spot"], [⟨3, [], [0, 1, 2]⟩], C_turn_at⟩, "turn_at"⟩
def f_is_in_corners : FnE := ⟨⟨["corners", "spot"], [⟨2, [], [0, 1]⟩], C_is_in_corners⟩, "is_in_corners"⟩
def f_range_in : FnE := ⟨⟨["stroke", "width", "first", "last"], [⟨4, [], [0, 1, 2, 3]⟩], C_range_in⟩, "range_in"⟩
def f_cells_in : FnE := ⟨⟨["stroke", "width", "first", "last"], [⟨4, [], [0, 1, 2, 3]⟩], C_cells_in⟩, "cells_in"⟩
def f_covers_by : FnE := ⟨⟨["stroke", "row", "column"], [⟨3, [], [0, 1, 2]⟩], C_covers_by⟩, "covers_by"⟩
def f_check_stroke : FnE := ⟨⟨["stroke"], [⟨1, [], [0]⟩], C_check_stroke⟩, "check_stroke"⟩
def f_check_spot : FnE := ⟨⟨["cell"], [⟨1, [], [0]⟩], C_check_spot⟩, "check_spot"⟩
def f_covers : FnE := ⟨⟨["stroke", "cell"], [⟨0, ["cell", "stroke"], [1, 0]⟩, ⟨2, [], [0, 1]⟩], C_covers⟩, "covers"⟩
def f__law_pool : FnE := ⟨⟨["script", "lap"], [⟨2, [], [0, 1]⟩], C__law_pool⟩, "_law_pool"⟩
def f__law_below : FnE := ⟨⟨["pool", "many"], [⟨2, [], [0, 1]⟩], C__law_below⟩, "_law_below"⟩
def f__law_one : FnE := ⟨⟨["pool", "some"], [⟨2, [], [0, 1]⟩], C__law_one⟩, "_law_one"⟩
def f__law_same_b : FnE := ⟨⟨["told", "due"], [⟨2, [], [0, 1]⟩], fun _ => stuck⟩, "_law_same"⟩
def f__law_same_0 : FnE := ⟨⟨["told", "due"], [⟨2, [], [0, 1]⟩], C__law_same_0⟩, "_law_same"⟩
def f__law_same : FnE := ⟨⟨["told", "due"], [⟨2, [], [0, 1]⟩], C__law_same⟩, "_law_same"⟩
def f__law_boxed : FnE := ⟨⟨["one", "two"], [⟨2, [], [0, 1]⟩], C__law_boxed⟩, "_law_boxed"⟩
def f__law_in_box : FnE := ⟨⟨["box", "cell"], [⟨2, [], [0, 1]⟩], C__law_in_box⟩, "_law_in_box"⟩
def f__law_in_triangle : FnE := ⟨⟨["shape", "cell"], [⟨2, [], [0, 1]⟩], C__law_in_triangle⟩, "_law_in_triangle"⟩
def f__law_covers : FnE := ⟨⟨["stroke", "cell"], [⟨2, [], [0, 1]⟩], C__law_covers⟩, "_law_covers"⟩
def f__law_stroke : FnE := ⟨⟨["pool"], [⟨1, [], [0]⟩], C__law_stroke⟩, "_law_stroke"⟩
def f__law_right : FnE := ⟨⟨["pool"], [⟨1, [], [0]⟩], C__law_right⟩, "_law_right"⟩
def f_law : FnE := ⟨⟨["script"], [], C_law⟩, "law"⟩
def T : Nat → Option FnE := fun k => ([f_is_whole, f_is_between, f_is_up_to, f_is_tuple_of, f_is_pair, f_is_cell, f_is_box, f_is_point, f_is_shape, f_is_stroke, f_turn_at, f_is_in_corners, f_range_in, f_cells_in, f_covers_by, f_check_stroke, f_check_spot, f_covers, f__law_pool, f__law_below, f__law_one, f__law_same_b, f__law_same_0, f__law_same, f__law_boxed, f__law_in_box, f__law_in_triangle, f__law_covers, f__law_stroke, f__law_right, f_law] : List FnE)[k]?
def g (n : Nat) : Sg := ⟨T, lv, n, G⟩
section
variable {n : Nat} {S : Stt} {env : En} {es ks : CL} {Q : PV → Stt → Prop} {E : Exc → Stt → Prop}
theorem x_glob_0 : (dE (g n) (.glob 0) env).run S Q E = Q (.int 4) S := rfl
theorem x_glob_1 : (dE (g n) (.glob 1) env).run S Q E = Q (.int 99999) S := rfl
theorem x_glob_2 : (dE (g n) (.glob 2) env).run S Q E = Q (.int 3) S := rfl
theorem x_glob_3 : (dE (g n) (.glob 3) env).run S Q E = Q (.int 3) S := rfl
theorem x_glob_4 : (dE (g n) (.glob 4) env).run S Q E = Q (.int 7) S := rfl
theorem x_glob_5 : (dE (g n) (.glob 5) env).run S Q E = Q (.int 24) S := rfl
theorem x_call_is_whole_0 : (dE (g n) (.call 0 ⟨1, [], [0]⟩ es ks) env).run S Q E = (dL (g n) es env).run S (fun xs S => (dL (g n) ks env).run S (fun ys S => (callFn f_is_whole.toFn ⟨1, [], [0]⟩ xs ys).run S Q E) E) E := rfl
theorem x_cf_is_whole_0 {x0 : PV} : (callFn f_is_whole.toFn ⟨1, [], [0]⟩ [x0] []).run S Q E = (C_is_whole [x0]).run S Q E := propext ⟨fun q => q.2, fun q => ⟨⟨rfl, rfl, rfl⟩, q⟩⟩
theorem x_call_is_between_0 : (dE (g n) (.call 1 ⟨3, [], [0, 1, 2]⟩ es ks) env).run S Q E = (dL (g n) es env).run S (fun xs S => (dL (g n) ks env).run S (fun ys S => (callFn f_is_between.toFn ⟨3, [], [0, 1, 2]⟩ xs ys).run S Q E) E) E := rfl
theorem x_cf_is_between_0 {x0 x1 x2 : PV} : (callFn f_is_between.toFn ⟨3, [], [0, 1, 2]⟩ [x0, x1, x2] []).run S Q E = (C_is_between [x0, x1, x2]).run S Q E := propext ⟨fun q => q.2, fun q => ⟨⟨rfl, rfl, rfl⟩, q⟩⟩
theorem x_call_is_up_to_0 : (dE (g n) (.call 2 ⟨2, [], [0, 1]⟩ es ks) env).run S Q E = (dL (g n) es env).run S (fun xs S => (dL (g n) ks env).run S (fun ys S => (callFn f_is_up_to.toFn ⟨2, [], [0, 1]⟩ xs ys).run S Q E) E) E := rfl
theorem x_cf_is_up_to_0 {x0 x1 : PV} : (callFn f_is_up_to.toFn ⟨2, [], [0, 1]⟩ [x0, x1] []).run S Q E = (C_is_up_to [x0, x1]).run S Q E := propext ⟨fun q => q.2, fun q => ⟨⟨rfl, rfl, rfl⟩, q⟩⟩
theorem x_call_is_tuple_of_0 : (dE (g n) (.call 3 ⟨2, [], [0, 1]⟩ es ks) env).run S Q E = (dL (g n) es env).run S (fun xs S => (dL (g n) ks env).run S (fun ys S => (callFn f_is_tuple_of.toFn ⟨2, [], [0, 1]⟩ xs ys).run S Q E) E) E := rfl
theorem x_cf_is_tuple_of_0 {x0 x1 : PV} : (callFn f_is_tuple_of.toFn ⟨2, [], [0, 1]⟩ [x0, x1] []).run S Q E = (C_is_tuple_of [x0, x1]).run S Q E := propext ⟨fun q => q.2, fun q => ⟨⟨rfl, rfl, rfl⟩, q⟩⟩
theorem x_call_is_pair_0 : (dE (g n) (.call 4 ⟨1, [], [0]⟩ es ks) env).run S Q E = (dL (g n) es env).run S (fun xs S => (dL (g n) ks env).run S (fun ys S => (callFn f_is_pair.toFn ⟨1, [], [0]⟩ xs ys).run S Q E) E) E := rfl
theorem x_cf_is_pair_0 {x0 : PV} : (callFn f_is_pair.toFn ⟨1, [], [0]⟩ [x0] []).run S Q E = (C_is_pair [x0]).run S Q E := propext ⟨fun q => q.2, fun q => ⟨⟨rfl, rfl, rfl⟩, q⟩⟩
theorem x_call_is_cell_0 : (dE (g n) (.call 5 ⟨3, [], [0, 1, 2]⟩ es ks) env).run S Q E = (dL (g n) es env).run S (fun xs S => (dL (g n) ks env).run S (fun ys S => (callFn f_is_cell.toFn ⟨3, [], [0, 1, 2]⟩ xs ys).run S Q E) E) E := rfl
theorem x_cf_is_cell_0 {x0 x1 x2 : PV} : (callFn f_is_cell.toFn ⟨3, [], [0, 1, 2]⟩ [x0, x1, x2] []).run S Q E = (C_is_cell [x0, x1, x2]).run S Q E := propext ⟨fun q => q.2, fun q => ⟨⟨rfl, rfl, rfl⟩, q⟩⟩
theorem x_call_is_box_0 : (dE (g n) (.call 6 ⟨3, [], [0, 1, 2]⟩ es ks) env).run S Q E = (dL (g n) es env).run S (fun xs S => (dL (g n) ks env).run S (fun ys S => (callFn f_is_box.toFn ⟨3, [], [0, 1, 2]⟩ xs ys).run S Q E) E) E := rfl
theorem x_cf_is_box_0 {x0 x1 x2 : PV} : (callFn f_is_box.toFn ⟨3, [], [0, 1, 2]⟩ [x0, x1, x2] []).run S Q E = (C_is_box [x0, x1, x2]).run S Q E := propext ⟨fun q => q.2, fun q => ⟨⟨rfl, rfl, rfl⟩, q⟩⟩
theorem x_call_is_point_0 : (dE (g n) (.call 7 ⟨1, [], [0]⟩ es ks) env).run S Q E = (dL (g n) es env).run S (fun xs S => (dL (g n) ks env).run S (fun ys S => (callFn f_is_point.toFn ⟨1, [], [0]⟩ xs ys).run S Q E) E) E := rfl
theorem x_cf_is_point_0 {x0 : PV} : (callFn f_is_point.toFn ⟨1, [], [0]⟩ [x0] []).run S Q E = (C_is_point [x0]).run S Q E := propext ⟨fun q => q.2, fun q => ⟨⟨rfl, rfl, rfl⟩, q⟩⟩
theorem x_call_is_shape_0 : (dE (g n) (.call 8 ⟨1, [], [0]⟩ es ks) env).run S Q E = (dL (g n) es env).run S (fun xs S => (dL (g n) ks env).run S (fun ys S => (callFn f_is_shape.toFn ⟨1, [], [0]⟩ xs ys).run S Q E) E) E := rfl
theorem x_cf_is_shape_0 {x0 : PV} : (callFn f_is_shape.toFn ⟨1, [], [0]⟩ [x0] []).run S Q E = (C_is_shape [x0]).run S Q E := propext ⟨fun q => q.2, fun q => ⟨⟨rfl, rfl, rfl⟩, q⟩⟩
theorem x_call_is_stroke_0 : (dE (g n) (.call 9 ⟨1, [], [0]⟩ es ks) env).run S Q E = (dL (g n) es env).run S (fun xs S => (dL (g n) ks env).run S (fun ys S => (callFn f_is_stroke.toFn ⟨1, [], [0]⟩ xs ys).run S Q E) E) E := rfl
theorem x_cf_is_stroke_0 {x0 : PV} : (callFn f_is_stroke.toFn ⟨1, [], [0]⟩ [x0] []).run S Q E = (C_is_stroke [x0]).run S Q E := propext ⟨fun q => q.2, fun q => ⟨⟨rfl, rfl, rfl⟩, q⟩⟩
theorem x_call_turn_at_0 : (dE (g n) (.call 10 ⟨3, [], [0, 1, 2]⟩ es ks) env).run S Q E = (dL (g n) es env).run S (fun xs S => (dL (g n) ks env).run S (fun ys S => (callFn f_turn_at.toFn ⟨3, [], [0, 1, 2]⟩ xs ys).run S Q E) E) E := rfl
theorem x_cf_turn_at_0 {x0 x1 x2 : PV} : (callFn f_turn_at.toFn ⟨3, [], [0, 1, 2]⟩ [x0, x1, x2] []).run S Q E = (C_turn_at [x0, x1, x2]).run S Q E := propext ⟨fun q => q.2, fun q => ⟨⟨rfl, rfl, rfl⟩, q⟩⟩
theorem x_call_is_in_corners_0 : (dE (g n) (.call 11 ⟨2, [], [0, 1]⟩ es ks) env).run S Q E = (dL (g n) es env).run S (fun xs S => (dL (g n) ks env).run S (fun ys S => (callFn f_is_in_corners.toFn ⟨2, [], [0, 1]⟩ xs ys).run S Q E) E) E := rfl
theorem x_cf_is_in_corners_0 {x0 x1 : PV} : (callFn f_is_in_corners.toFn ⟨2, [], [0, 1]⟩ [x0, x1] []).run S Q E = (C_is_in_corners [x0, x1]).run S Q E := propext ⟨fun q => q.2, fun q => ⟨⟨rfl, rfl, rfl⟩, q⟩⟩
theorem x_call_range_in_0 : (dE (g n) (.call 12 ⟨4, [], [0, 1, 2, 3]⟩ es ks) env).run S Q E = (dL (g n) es env).run S (fun xs S => (dL (g n) ks env).run S (fun ys S => (callFn f_range_in.toFn ⟨4, [], [0, 1, 2, 3]⟩ xs ys).run S Q E) E) E := rfl
theorem x_cf_range_in_0 {x0 x1 x2 x3 : PV} : (callFn f_range_in.toFn ⟨4, [], [0, 1, 2, 3]⟩ [x0, x1, x2, x3] []).run S Q E = (C_range_in [x0, x1, x2, x3]).run S Q E := propext ⟨fun q => q.2, fun q => ⟨⟨rfl, rfl, rfl⟩, q⟩⟩
theorem x_call_cells_in_0 : (dE (g n) (.call 13 ⟨4, [], [0, 1, 2, 3]⟩ es ks) env).run S Q E = (dL (g n) es env).run S (fun xs S => (dL (g n) ks env).run S (fun ys S => (callFn f_cells_in.toFn ⟨4, [], [0, 1, 2, 3]⟩ xs ys).run S Q E) E) E := rfl
theorem x_cf_cells_in_0 {x0 x1 x2 x3 : PV} : (callFn f_cells_in.toFn ⟨4, [], [0, 1, 2, 3]⟩ [x0, x1, x2, x3] []).run S Q E = (C_cells_in [x0, x1, x2, x3]).run S Q E := propext ⟨fun q => q.2, fun q => ⟨⟨rfl, rfl, rfl⟩, q⟩⟩
theorem x_call_covers_by_0 : (dE (g n) (.call 14 ⟨3, [], [0, 1, 2]⟩ es ks) env).run S Q E = (dL (g n) es env).run S (fun xs S => (dL (g n) ks env).run S (fun ys S => (callFn f_covers_by.toFn ⟨3, [], [0, 1, 2]⟩ xs ys).run S Q E) E) E := rfl
theorem x_cf_covers_by_0 {x0 x1 x2 : PV} : (callFn f_covers_by.toFn ⟨3, [], [0, 1, 2]⟩ [x0, x1, x2] []).run S Q E = (C_covers_by [x0, x1, x2]).run S Q E := propext ⟨fun q => q.2, fun q => ⟨⟨rfl, rfl, rfl⟩, q⟩⟩
theorem x_call_check_stroke_0 : (dE (g n) (.call 15 ⟨1, [], [0]⟩ es ks) env).run S Q E = (dL (g n) es env).run S (fun xs S => (dL (g n) ks env).run S (fun ys S => (callFn f_check_stroke.toFn ⟨1, [], [0]⟩ xs ys).run S Q E) E) E := rfl
theorem x_cf_check_stroke_0 {x0 : PV} : (callFn f_check_stroke.toFn ⟨1, [], [0]⟩ [x0] []).run S Q E = (C_check_stroke [x0]).run S Q E := propext ⟨fun q => q.2, fun q => ⟨⟨rfl, rfl, rfl⟩, q⟩⟩
theorem x_call_check_spot_0 : (dE (g n) (.call 16 ⟨1, [], [0]⟩ es ks) env).run S Q E = (dL (g n) es env).run S (fun xs S => (dL (g n) ks env).run S (fun ys S => (callFn f_check_spot.toFn ⟨1, [], [0]⟩ xs ys).run S Q E) E) E := rfl
theorem x_cf_check_spot_0 {x0 : PV} : (callFn f_check_spot.toFn ⟨1, [], [0]⟩ [x0] []).run S Q E = (C_check_spot [x0]).run S Q E := propext ⟨fun q => q.2, fun q => ⟨⟨rfl, rfl, rfl⟩, q⟩⟩
theorem x_call_covers_0 : (dE (g n) (.call 17 ⟨0, ["cell", "stroke"], [1, 0]⟩ es ks) env).run S Q E = (dL (g n) es env).run S (fun xs S => (dL (g n) ks env).run S (fun ys S => (callFn f_covers.toFn ⟨0, ["cell", "stroke"], [1, 0]⟩ xs ys).run S Q E) E) E := rfl
theorem x_cf_covers_0 {y0 y1 : PV} : (callFn f_covers.toFn ⟨0, ["cell", "stroke"], [1, 0]⟩ [] [y0, y1]).run S Q E = (C_covers [y1, y0]).run S Q E := propext ⟨fun q => q.2, fun q => ⟨⟨rfl, rfl, rfl⟩, q⟩⟩
theorem x_call_covers_1 : (dE (g n) (.call 17 ⟨2, [], [0, 1]⟩ es ks) env).run S Q E = (dL (g n) es env).run S (fun xs S => (dL (g n) ks env).run S (fun ys S => (callFn f_covers.toFn ⟨2, [], [0, 1]⟩ xs ys).run S Q E) E) E := rfl
theorem x_cf_covers_1 {x0 x1 : PV} : (callFn f_covers.toFn ⟨2, [], [0, 1]⟩ [x0, x1] []).run S Q E = (C_covers [x0, x1]).run S Q E := propext ⟨fun q => q.2, fun q => ⟨⟨rfl, rfl, rfl⟩, q⟩⟩
theorem x_call__law_pool_0 : (dE (g n) (.call 18 ⟨2, [], [0, 1]⟩ es ks) env).run S Q E = (dL (g n) es env).run S (fun xs S => (dL (g n) ks env).run S (fun ys S => (callFn f__law_pool.toFn ⟨2, [], [0, 1]⟩ xs ys).run S Q E) E) E := rfl
theorem x_cf__law_pool_0 {x0 x1 : PV} : (callFn f__law_pool.toFn ⟨2, [], [0, 1]⟩ [x0, x1] []).run S Q E = (C__law_pool [x0, x1]).run S Q E := propext ⟨fun q => q.2, fun q => ⟨⟨rfl, rfl, rfl⟩, q⟩⟩
theorem x_call__law_below_0 : (dE (g n) (.call 19 ⟨2, [], [0, 1]⟩ es ks) env).run S Q E = (dL (g n) es env).run S (fun xs S => (dL (g n) ks env).run S (fun ys S => (callFn f__law_below.toFn ⟨2, [], [0, 1]⟩ xs ys).run S Q E) E) E := rfl
theorem x_cf__law_below_0 {x0 x1 : PV} : (callFn f__law_below.toFn ⟨2, [], [0, 1]⟩ [x0, x1] []).run S Q E = (C__law_below [x0, x1]).run S Q E := propext ⟨fun q => q.2, fun q => ⟨⟨rfl, rfl, rfl⟩, q⟩⟩
theorem x_call__law_one_0 : (dE (g n) (.call 20 ⟨2, [], [0, 1]⟩ es ks) env).run S Q E = (dL (g n) es env).run S (fun xs S => (dL (g n) ks env).run S (fun ys S => (callFn f__law_one.toFn ⟨2, [], [0, 1]⟩ xs ys).run S Q E) E) E := rfl
theorem x_cf__law_one_0 {x0 x1 : PV} : (callFn f__law_one.toFn ⟨2, [], [0, 1]⟩ [x0, x1] []).run S Q E = (C__law_one [x0, x1]).run S Q E := propext ⟨fun q => q.2, fun q => ⟨⟨rfl, rfl, rfl⟩, q⟩⟩
theorem x_call__law_same_0_0 : (dE (g n) (.call 22 ⟨2, [], [0, 1]⟩ es ks) env).run S Q E = (dL (g n) es env).run S (fun xs S => (dL (g n) ks env).run S (fun ys S => (callFn f__law_same_0.toFn ⟨2, [], [0, 1]⟩ xs ys).run S Q E) E) E := rfl
theorem x_cf__law_same_0_0 {x0 x1 : PV} : (callFn f__law_same_0.toFn ⟨2, [], [0, 1]⟩ [x0, x1] []).run S Q E = (C__law_same_0 [x0, x1]).run S Q E := propext ⟨fun q => q.2, fun q => ⟨⟨rfl, rfl, rfl⟩, q⟩⟩
theorem x_call__law_same_0 : (dE (g n) (.call 23 ⟨2, [], [0, 1]⟩ es ks) env).run S Q E = (dL (g n) es env).run S (fun xs S => (dL (g n) ks env).run S (fun ys S => (callFn f__law_same.toFn ⟨2, [], [0, 1]⟩ xs ys).run S Q E) E) E := rfl
theorem x_cf__law_same_0 {x0 x1 : PV} : (callFn f__law_same.toFn ⟨2, [], [0, 1]⟩ [x0, x1] []).run S Q E = (C__law_same [x0, x1]).run S Q E := propext ⟨fun q => q.2, fun q => ⟨⟨rfl, rfl, rfl⟩, q⟩⟩
theorem x_call__law_boxed_0 : (dE (g n) (.call 24 ⟨2, [], [0, 1]⟩ es ks) env).run S Q E = (dL (g n) es env).run S (fun xs S => (dL (g n) ks env).run S (fun ys S => (callFn f__law_boxed.toFn ⟨2, [], [0, 1]⟩ xs ys).run S Q E) E) E := rfl
theorem x_cf__law_boxed_0 {x0 x1 : PV} : (callFn f__law_boxed.toFn ⟨2, [], [0, 1]⟩ [x0, x1] []).run S Q E = (C__law_boxed [x0, x1]).run S Q E := propext ⟨fun q => q.2, fun q => ⟨⟨rfl, rfl, rfl⟩, q⟩⟩
theorem x_call__law_in_box_0 : (dE (g n) (.call 25 ⟨2, [], [0, 1]⟩ es ks) env).run S Q E = (dL (g n) es env).run S (fun xs S => (dL (g n) ks env).run S (fun ys S => (callFn f__law_in_box.toFn ⟨2, [], [0, 1]⟩ xs ys).run S Q E) E) E := rfl
theorem x_cf__law_in_box_0 {x0 x1 : PV} : (callFn f__law_in_box.toFn ⟨2, [], [0, 1]⟩ [x0, x1] []).run S Q E = (C__law_in_box [x0, x1]).run S Q E := propext ⟨fun q => q.2, fun q => ⟨⟨rfl, rfl, rfl⟩, q⟩⟩
theorem x_call__law_in_triangle_0 : (dE (g n) (.call 26 ⟨2, [], [0, 1]⟩ es ks) env).run S Q E = (dL (g n) es env).run S (fun xs S => (dL (g n) ks env).run S (fun ys S => (callFn f__law_in_triangle.toFn ⟨2, [], [0, 1]⟩ xs ys).run S Q E) E) E := rfl
theorem x_cf__law_in_triangle_0 {x0 x1 : PV} : (callFn f__law_in_triangle.toFn ⟨2, [], [0, 1]⟩ [x0, x1] []).run S Q E = (C__law_in_triangle [x0, x1]).run S Q E := propext ⟨fun q => q.2, fun q => ⟨⟨rfl, rfl, rfl⟩, q⟩⟩
theorem x_call__law_covers_0 : (dE (g n) (.call 27 ⟨2, [], [0, 1]⟩ es ks) env).run S Q E = (dL (g n) es env).run S (fun xs S => (dL (g n) ks env).run S (fun ys S => (callFn f__law_covers.toFn ⟨2, [], [0, 1]⟩ xs ys).run S Q E) E) E := rfl
theorem x_cf__law_covers_0 {x0 x1 : PV} : (callFn f__law_covers.toFn ⟨2, [], [0, 1]⟩ [x0, x1] []).run S Q E = (C__law_covers [x0, x1]).run S Q E := propext ⟨fun q => q.2, fun q => ⟨⟨rfl, rfl, rfl⟩, q⟩⟩
theorem x_call__law_stroke_0 : (dE (g n) (.call 28 ⟨1, [], [0]⟩ es ks) env).run S Q E = (dL (g n) es env).run S (fun xs S => (dL (g n) ks env).run S (fun ys S => (callFn f__law_stroke.toFn ⟨1, [], [0]⟩ xs ys).run S Q E) E) E := rfl
theorem x_cf__law_stroke_0 {x0 : PV} : (callFn f__law_stroke.toFn ⟨1, [], [0]⟩ [x0] []).run S Q E = (C__law_stroke [x0]).run S Q E := propext ⟨fun q => q.2, fun q => ⟨⟨rfl, rfl, rfl⟩, q⟩⟩
theorem x_call__law_right_0 : (dE (g n) (.call 29 ⟨1, [], [0]⟩ es ks) env).run S Q E = (dL (g n) es env).run S (fun xs S => (dL (g n) ks env).run S (fun ys S => (callFn f__law_right.toFn ⟨1, [], [0]⟩ xs ys).run S Q E) E) E := rfl
theorem x_cf__law_right_0 {x0 : PV} : (callFn f__law_right.toFn ⟨1, [], [0]⟩ [x0] []).run S Q E = (C__law_right [x0]).run S Q E := propext ⟨fun q => q.2, fun q => ⟨⟨rfl, rfl, rfl⟩, q⟩⟩
end
theorem chk_is_whole : chkDf (g 0) d_is_whole = true := by decide +kernel
theorem chk_is_between : chkDf (g 1) d_is_between = true := by decide +kernel
theorem chk_is_up_to : chkDf (g 2) d_is_up_to = true := by decide +kernel
theorem chk_is_tuple_of : chkDf (g 0) d_is_tuple_of = true := by decide +kernel
theorem chk_is_pair : chkDf (g 1) d_is_pair = true := by decide +kernel
theorem chk_is_cell : chkDf (g 3) d_is_cell = true := by decide +kernel
theorem chk_is_box : chkDf (g 2) d_is_box = true := by decide +kernel
theorem chk_is_point : chkDf (g 2) d_is_point = true := by decide +kernel
theorem chk_is_shape : chkDf (g 3) d_is_shape = true := by decide +kernel
theorem chk_is_stroke : chkDf (g 4) d_is_stroke = true := by decide +kernel
theorem chk_turn_at : chkDf (g 0) d_turn_at = true := by decide +kernel
theorem chk_is_in_corners : chkDf (g 1) d_is_in_corners = true := by decide +kernel
theorem chk_range_in : chkDf (g 0) d_range_in = true := by decide +kernel
theorem chk_cells_in : chkDf (g 2) d_cells_in = true := by decide +kernel
theorem chk_covers_by : chkDf (g 3) d_covers_by = true := by decide +kernel
theorem chk_check_stroke : chkDf (g 5) d_check_stroke = true := by decide +kernel
theorem chk_check_spot : chkDf (g 4) d_check_spot = true := by decide +kernel
theorem chk_covers : chkDf (g 6) d_covers = true := by decide +kernel
theorem chk__law_pool : chkDf (g 0) d__law_pool = true := by decide +kernel
theorem chk__law_below : chkDf (g 0) d__law_below = true := by decide +kernel
theorem chk__law_one : chkDf (g 1) d__law_one = true := by decide +kernel
theorem chk__law_same_0 : chkDf (g 0) d__law_same_0 = true := by decide +kernel
theorem chk__law_same : chkDf (g 1) d__law_same = true := by decide +kernel
theorem chk__law_boxed : chkDf (g 0) d__law_boxed = true := by decide +kernel
theorem chk__law_in_box : chkDf (g 0) d__law_in_box = true := by decide +kernel
theorem chk__law_in_triangle : chkDf (g 0) d__law_in_triangle = true := by decide +kernel
theorem chk__law_covers : chkDf (g 1) d__law_covers = true := by decide +kernel
theorem chk__law_stroke : chkDf (g 2) d__law_stroke = true := by decide +kernel
theorem chk__law_right : chkDf (g 7) d__law_right = true := by decide +kernel
theorem chk_law : chkDf (g 8) d_law = true := by decide +kernel
end Dp.L

namespace Dp.L
open PySem PySem.Spec L2 Dp
open PyProof.Rows hiding St
theorem le_onStk {x : PV} {f : Stk → M PV} {n : M PV} (h : ∀ s : Stk, s.ok → x = s.pv → M.le (f s) n) : M.le (onStk x f) n := fun S Q E ⟨s, a, b, q⟩ => h s a b S Q E q
theorem le_onShp {x : PV} {f : Shp → M PV} {n : M PV} (h : ∀ s : Shp, s.ok → x = s.pv → M.le (f s) n) : M.le (onShp x f) n := fun S Q E ⟨s, a, b, q⟩ => h s a b S Q E q
theorem mulA {i j : Int} (h : -10000000 ≤ i ∧ i ≤ 10000000) : CMulA i j := .inl (.inl ⟨by omega, by omega⟩)
theorem mulB {i j : Int} (h : -10000000 ≤ j ∧ j ≤ 10000000) : CMulA i j := .inl (.inr ⟨by omega, by omega⟩)
theorem ibeq {a b : Int} : (a == b) = decide (a = b) := rfl
theorem le_is_whole {i : Int} : M.le (C_is_whole [.int i]) (d_is_whole.den (g 0) [.int i]) := by
  intro S Q E q
  rw [den_eq (body := c_is_whole) (env := [some (.int i)]) rfl rfl]
  unfold c_is_whole
  simp [↓r_ret, ↓r_guard, ↓r_ofO, ↓r_noexc, ↓r_any, ↓k_set0, ↓k_setS, ↓k_wipe0, ↓k_wipeS, ↓k_app0, ↓k_appS, ↓k_cat0, ↓k_catS, ↓r_get0, ↓r_getS, ↓r_var, ↓r_int, ↓r_str, ↓r_bl, ↓r_non, ↓r_bty, ↓r_bin, ↓r_neg, ↓r_nt, ↓r_cmp, ↓r_chn, ↓r_tv, ↓r_b1, ↓r_and, ↓r_or, ↓r_ife, ↓r_tup, ↓r_lst, ↓r_own, ↓r_ix, ↓r_sl, ↓r_callB, ↓r_callT, ↓r_meth, ↓r_comp, ↓r_compO, ↓r_compF, ↓r_cm0, ↓r_cmS, ↓r_l0, ↓r_lc, ↓r_ls, ↓r_comp2, ↓r_compI, ↓r_compF2, ↓r_tnt, ↓r_tb1, ↓r_tand, ↓r_tor, ↓r_tcmp, ↓r_tchn, ↓r_ttv, ↓r_c0, ↓r_c1, ↓r_trb, ↓r_trn, ↓r_tri, ↓r_trt, ↓r_trl, ↓r_o0, ↓r_o1, ↓r_prt, ↓r_gn, ↓r_gt, ↓r_gl, ↓r_gs, ↓r_g0, ↓r_gc, ↓r_iv, ↓r_ir, ↓r_srt, ↓r_srl, ↓r_src, ↓r_rg1, ↓r_rg2, ↓r_ex, ↓r_asg, ↓r_setc, ↓r_par2, ↓r_asg2, ↓r_par3, ↓r_asg3, ↓r_rt, ↓r_rtN, ↓r_if, ↓r_loop, ↓r_turn, ↓r_for0, ↓r_forS, ↓r_fnx, ↓r_fct, ↓r_fbk, ↓r_frt, ↓r_pass, ↓r_brk, ↓r_cont, ↓r_doc, ↓r_never, ↓r_b0, ↓r_bc, ↓r_bf, ↓r_snx, ↓r_srr, ↓r_sbk, ↓r_sct, ↓r_runB, ↓r_ert, ↓r_enx, ↓r_add, ↓r_addT, ↓r_addL, ↓r_addS, ↓r_sub, ↓r_mul, ↓r_mod, ↓r_fdiv, ↓r_pow, ↓r_vneg, ↓r_vnot, ↓r_lt, ↓r_le, ↓r_gt', ↓r_ge, ↓r_eqI, ↓r_neI, ↓r_eqB, ↓r_neB, ↓r_eqL, ↓r_eqT, ↓r_eqS, ↓r_inL, ↓r_inT, ↓r_isN, ↓r_notN, ↓r_ixT0, ↓r_ixL0, ↓r_ixT1, ↓r_ixL1, ↓r_ixT2, ↓r_ixL2, ↓r_ixT3, ↓r_ixL3, ↓r_ixT3m, ↓r_ixC, ↓r_lenT, ↓r_lenL, ↓r_lenC, ↓r_isiI, ↓r_isiB, ↓r_isiN, ↓r_isiS, ↓r_isiT, ↓r_isiL, ↓r_abs, ↓r_min2, ↓r_min3, ↓r_max2, ↓r_max3, ↓r_minL, ↓r_maxL, ↓r_sumL, ↓r_allL, ↓r_anyL, ↓r_divm, ↓r_Tint, ↓r_Ttup, ↓r_Ttup', ↓r_Tlst, ↓r_Tlst', ↓r_slC, ↓r_slL, ↓r_slT, ↓r_ints0, ↓r_intsS, ↓r_bls0, ↓r_blsS, ↓r_ixR, ↓r_setR0, ↓r_setR1, ↓r_setR2, ↓r_frz0, ↓r_frzS, ↓r_isTR, ↓r_appR, ↓x_glob_0, ↓x_glob_1, ↓x_glob_2, ↓x_glob_3, ↓x_glob_4, ↓x_glob_5, ↓x_call_is_whole_0, ↓x_cf_is_whole_0, ↓x_call_is_between_0, ↓x_cf_is_between_0, ↓x_call_is_up_to_0, ↓x_cf_is_up_to_0, ↓x_call_is_tuple_of_0, ↓x_cf_is_tuple_of_0, ↓x_call_is_pair_0, ↓x_cf_is_pair_0, ↓x_call_is_cell_0, ↓x_cf_is_cell_0, ↓x_call_is_box_0, ↓x_cf_is_box_0, ↓x_call_is_point_0, ↓x_cf_is_point_0, ↓x_call_is_shape_0, ↓x_cf_is_shape_0, ↓x_call_is_stroke_0, ↓x_cf_is_stroke_0, ↓x_call_turn_at_0, ↓x_cf_turn_at_0, ↓x_call_is_in_corners_0, ↓x_cf_is_in_corners_0, ↓x_call_range_in_0, ↓x_cf_range_in_0, ↓x_call_cells_in_0, ↓x_cf_cells_in_0, ↓x_call_covers_by_0, ↓x_cf_covers_by_0, ↓x_call_check_stroke_0, ↓x_cf_check_stroke_0, ↓x_call_check_spot_0, ↓x_cf_check_spot_0, ↓x_call_covers_0, ↓x_cf_covers_0, ↓x_call_covers_1, ↓x_cf_covers_1, ↓x_call__law_pool_0, ↓x_cf__law_pool_0, ↓x_call__law_below_0, ↓x_cf__law_below_0, ↓x_call__law_one_0, ↓x_cf__law_one_0, ↓x_call__law_same_0_0, ↓x_cf__law_same_0_0, ↓x_call__law_same_0, ↓x_cf__law_same_0, ↓x_call__law_boxed_0, ↓x_cf__law_boxed_0, ↓x_call__law_in_box_0, ↓x_cf__law_in_box_0, ↓x_call__law_in_triangle_0, ↓x_cf__law_in_triangle_0, ↓x_call__law_covers_0, ↓x_cf__law_covers_0, ↓x_call__law_stroke_0, ↓x_cf__law_stroke_0, ↓x_call__law_right_0, ↓x_cf__law_right_0, ↓x_onStk, ↓x_onShp, ↓x_stk0, ↓x_is_whole, ↓x_is_between, ↓x_is_up_to, ↓x_is_tuple_of, ↓x_is_pair, ↓x_is_cell, ↓x_is_box, ↓x_is_point, ↓x_is_shape, ↓x_is_stroke, ↓x_turn_at, ↓x_is_in_corners, ↓x_range_in, ↓x_cells_in, ↓x_covers_by, ↓x_check_stroke, ↓x_check_spot, ↓x_covers, ↓x__law_below, ↓x__law_one, ↓x__law_stroke, ↓x__law_right, ↓x__law_pool, ↓x__law_same_0, ↓x__law_same2, ↓x__law_same4, ↓x__law_boxed, ↓x__law_in_box, ↓x__law_in_triangle, ↓x__law_covers, isiNames, isiB]
  exact q
theorem le_is_between {i a b : Int} : M.le (C_is_between [.int i, .int a, .int b]) (d_is_between.den (g 1) [.int i, .int a, .int b]) := by
  refine le_guard fun h S Q E q => ?_
  rw [den_eq (body := c_is_between) (env := [some (.int i), some (.int a), some (.int b)]) rfl rfl]
  unfold c_is_between
  simp [↓r_ret, ↓r_guard, ↓r_ofO, ↓r_noexc, ↓r_any, ↓k_set0, ↓k_setS, ↓k_wipe0, ↓k_wipeS, ↓k_app0, ↓k_appS, ↓k_cat0, ↓k_catS, ↓r_get0, ↓r_getS, ↓r_var, ↓r_int, ↓r_str, ↓r_bl, ↓r_non, ↓r_bty, ↓r_bin, ↓r_neg, ↓r_nt, ↓r_cmp, ↓r_chn, ↓r_tv, ↓r_b1, ↓r_and, ↓r_or, ↓r_ife, ↓r_tup, ↓r_lst, ↓r_own, ↓r_ix, ↓r_sl, ↓r_callB, ↓r_callT, ↓r_meth, ↓r_comp, ↓r_compO, ↓r_compF, ↓r_cm0, ↓r_cmS, ↓r_l0, ↓r_lc, ↓r_ls, ↓r_comp2, ↓r_compI, ↓r_compF2, ↓r_tnt, ↓r_tb1, ↓r_tand, ↓r_tor, ↓r_tcmp, ↓r_tchn, ↓r_ttv, ↓r_c0, ↓r_c1, ↓r_trb, ↓r_trn, ↓r_tri, ↓r_trt, ↓r_trl, ↓r_o0, ↓r_o1, ↓r_prt, ↓r_gn, ↓r_gt, ↓r_gl, ↓r_gs, ↓r_g0, ↓r_gc, ↓r_iv, ↓r_ir, ↓r_srt, ↓r_srl, ↓r_src, ↓r_rg1, ↓r_rg2, ↓r_ex, ↓r_asg, ↓r_setc, ↓r_par2, ↓r_asg2, ↓r_par3, ↓r_asg3, ↓r_rt, ↓r_rtN, ↓r_if, ↓r_loop, ↓r_turn, ↓r_for0, ↓r_forS, ↓r_fnx, ↓r_fct, ↓r_fbk, ↓r_frt, ↓r_pass, ↓r_brk, ↓r_cont, ↓r_doc, ↓r_never, ↓r_b0, ↓r_bc, ↓r_bf, ↓r_snx, ↓r_srr, ↓r_sbk, ↓r_sct, ↓r_runB, ↓r_ert, ↓r_enx, ↓r_add, ↓r_addT, ↓r_addL, ↓r_addS, ↓r_sub, ↓r_mul, ↓r_mod, ↓r_fdiv, ↓r_pow, ↓r_vneg, ↓r_vnot, ↓r_lt, ↓r_le, ↓r_gt', ↓r_ge, ↓r_eqI, ↓r_neI, ↓r_eqB, ↓r_neB, ↓r_eqL, ↓r_eqT, ↓r_eqS, ↓r_inL, ↓r_inT, ↓r_isN, ↓r_notN, ↓r_ixT0, ↓r_ixL0, ↓r_ixT1, ↓r_ixL1, ↓r_ixT2, ↓r_ixL2, ↓r_ixT3, ↓r_ixL3, ↓r_ixT3m, ↓r_ixC, ↓r_lenT, ↓r_lenL, ↓r_lenC, ↓r_isiI, ↓r_isiB, ↓r_isiN, ↓r_isiS, ↓r_isiT, ↓r_isiL, ↓r_abs, ↓r_min2, ↓r_min3, ↓r_max2, ↓r_max3, ↓r_minL, ↓r_maxL, ↓r_sumL, ↓r_allL, ↓r_anyL, ↓r_divm, ↓r_Tint, ↓r_Ttup, ↓r_Ttup', ↓r_Tlst, ↓r_Tlst', ↓r_slC, ↓r_slL, ↓r_slT, ↓r_ints0, ↓r_intsS, ↓r_bls0, ↓r_blsS, ↓r_ixR, ↓r_setR0, ↓r_setR1, ↓r_setR2, ↓r_frz0, ↓r_frzS, ↓r_isTR, ↓r_appR, ↓x_glob_0, ↓x_glob_1, ↓x_glob_2, ↓x_glob_3, ↓x_glob_4, ↓x_glob_5, ↓x_call_is_whole_0, ↓x_cf_is_whole_0, ↓x_call_is_between_0, ↓x_cf_is_between_0, ↓x_call_is_up_to_0, ↓x_cf_is_up_to_0, ↓x_call_is_tuple_of_0, ↓x_cf_is_tuple_of_0, ↓x_call_is_pair_0, ↓x_cf_is_pair_0, ↓x_call_is_cell_0, ↓x_cf_is_cell_0, ↓x_call_is_box_0, ↓x_cf_is_box_0, ↓x_call_is_point_0, ↓x_cf_is_point_0, ↓x_call_is_shape_0, ↓x_cf_is_shape_0, ↓x_call_is_stroke_0, ↓x_cf_is_stroke_0, ↓x_call_turn_at_0, ↓x_cf_turn_at_0, ↓x_call_is_in_corners_0, ↓x_cf_is_in_corners_0, ↓x_call_range_in_0, ↓x_cf_range_in_0, ↓x_call_cells_in_0, ↓x_cf_cells_in_0, ↓x_call_covers_by_0, ↓x_cf_covers_by_0, ↓x_call_check_stroke_0, ↓x_cf_check_stroke_0, ↓x_call_check_spot_0, ↓x_cf_check_spot_0, ↓x_call_covers_0, ↓x_cf_covers_0, ↓x_call_covers_1, ↓x_cf_covers_1, ↓x_call__law_pool_0, ↓x_cf__law_pool_0, ↓x_call__law_below_0, ↓x_cf__law_below_0, ↓x_call__law_one_0, ↓x_cf__law_one_0, ↓x_call__law_same_0_0, ↓x_cf__law_same_0_0, ↓x_call__law_same_0, ↓x_cf__law_same_0, ↓x_call__law_boxed_0, ↓x_cf__law_boxed_0, ↓x_call__law_in_box_0, ↓x_cf__law_in_box_0, ↓x_call__law_in_triangle_0, ↓x_cf__law_in_triangle_0, ↓x_call__law_covers_0, ↓x_cf__law_covers_0, ↓x_call__law_stroke_0, ↓x_cf__law_stroke_0, ↓x_call__law_right_0, ↓x_cf__law_right_0, ↓x_onStk, ↓x_onShp, ↓x_stk0, ↓x_is_whole, ↓x_is_between, ↓x_is_up_to, ↓x_is_tuple_of, ↓x_is_pair, ↓x_is_cell, ↓x_is_box, ↓x_is_point, ↓x_is_shape, ↓x_is_stroke, ↓x_turn_at, ↓x_is_in_corners, ↓x_range_in, ↓x_cells_in, ↓x_covers_by, ↓x_check_stroke, ↓x_check_spot, ↓x_covers, ↓x__law_below, ↓x__law_one, ↓x__law_stroke, ↓x__law_right, ↓x__law_pool, ↓x__law_same_0, ↓x__law_same2, ↓x__law_same4, ↓x__law_boxed, ↓x__law_in_box, ↓x__law_in_triangle, ↓x__law_covers, h]
  exact q
theorem le_is_up_to {i b : Int} : M.le (C_is_up_to [.int i, .int b]) (d_is_up_to.den (g 2) [.int i, .int b]) := by
  refine le_guard fun h S Q E q => ?_
  rw [den_eq (body := c_is_up_to) (env := [some (.int i), some (.int b)]) rfl rfl]
  unfold c_is_up_to
  simp [↓r_ret, ↓r_guard, ↓r_ofO, ↓r_noexc, ↓r_any, ↓k_set0, ↓k_setS, ↓k_wipe0, ↓k_wipeS, ↓k_app0, ↓k_appS, ↓k_cat0, ↓k_catS, ↓r_get0, ↓r_getS, ↓r_var, ↓r_int, ↓r_str, ↓r_bl, ↓r_non, ↓r_bty, ↓r_bin, ↓r_neg, ↓r_nt, ↓r_cmp, ↓r_chn, ↓r_tv, ↓r_b1, ↓r_and, ↓r_or, ↓r_ife, ↓r_tup, ↓r_lst, ↓r_own, ↓r_ix, ↓r_sl, ↓r_callB, ↓r_callT, ↓r_meth, ↓r_comp, ↓r_compO, ↓r_compF, ↓r_cm0, ↓r_cmS, ↓r_l0, ↓r_lc, ↓r_ls, ↓r_comp2, ↓r_compI, ↓r_compF2, ↓r_tnt, ↓r_tb1, ↓r_tand, ↓r_tor, ↓r_tcmp, ↓r_tchn, ↓r_ttv, ↓r_c0, ↓r_c1, ↓r_trb, ↓r_trn, ↓r_tri, ↓r_trt, ↓r_trl, ↓r_o0, ↓r_o1, ↓r_prt, ↓r_gn, ↓r_gt, ↓r_gl, ↓r_gs, ↓r_g0, ↓r_gc, ↓r_iv, ↓r_ir, ↓r_srt, ↓r_srl, ↓r_src, ↓r_rg1, ↓r_rg2, ↓r_ex, ↓r_asg, ↓r_setc, ↓r_par2, ↓r_asg2, ↓r_par3, ↓r_asg3, ↓r_rt, ↓r_rtN, ↓r_if, ↓r_loop, ↓r_turn, ↓r_for0, ↓r_forS, ↓r_fnx, ↓r_fct, ↓r_fbk, ↓r_frt, ↓r_pass, ↓r_brk, ↓r_cont, ↓r_doc, ↓r_never, ↓r_b0, ↓r_bc, ↓r_bf, ↓r_snx, ↓r_srr, ↓r_sbk, ↓r_sct, ↓r_runB, ↓r_ert, ↓r_enx, ↓r_add, ↓r_addT, ↓r_addL, ↓r_addS, ↓r_sub, ↓r_mul, ↓r_mod, ↓r_fdiv, ↓r_pow, ↓r_vneg, ↓r_vnot, ↓r_lt, ↓r_le, ↓r_gt', ↓r_ge, ↓r_eqI, ↓r_neI, ↓r_eqB, ↓r_neB, ↓r_eqL, ↓r_eqT, ↓r_eqS, ↓r_inL, ↓r_inT, ↓r_isN, ↓r_notN, ↓r_ixT0, ↓r_ixL0, ↓r_ixT1, ↓r_ixL1, ↓r_ixT2, ↓r_ixL2, ↓r_ixT3, ↓r_ixL3, ↓r_ixT3m, ↓r_ixC, ↓r_lenT, ↓r_lenL, ↓r_lenC, ↓r_isiI, ↓r_isiB, ↓r_isiN, ↓r_isiS, ↓r_isiT, ↓r_isiL, ↓r_abs, ↓r_min2, ↓r_min3, ↓r_max2, ↓r_max3, ↓r_minL, ↓r_maxL, ↓r_sumL, ↓r_allL, ↓r_anyL, ↓r_divm, ↓r_Tint, ↓r_Ttup, ↓r_Ttup', ↓r_Tlst, ↓r_Tlst', ↓r_slC, ↓r_slL, ↓r_slT, ↓r_ints0, ↓r_intsS, ↓r_bls0, ↓r_blsS, ↓r_ixR, ↓r_setR0, ↓r_setR1, ↓r_setR2, ↓r_frz0, ↓r_frzS, ↓r_isTR, ↓r_appR, ↓x_glob_0, ↓x_glob_1, ↓x_glob_2, ↓x_glob_3, ↓x_glob_4, ↓x_glob_5, ↓x_call_is_whole_0, ↓x_cf_is_whole_0, ↓x_call_is_between_0, ↓x_cf_is_between_0, ↓x_call_is_up_to_0, ↓x_cf_is_up_to_0, ↓x_call_is_tuple_of_0, ↓x_cf_is_tuple_of_0, ↓x_call_is_pair_0, ↓x_cf_is_pair_0, ↓x_call_is_cell_0, ↓x_cf_is_cell_0, ↓x_call_is_box_0, ↓x_cf_is_box_0, ↓x_call_is_point_0, ↓x_cf_is_point_0, ↓x_call_is_shape_0, ↓x_cf_is_shape_0, ↓x_call_is_stroke_0, ↓x_cf_is_stroke_0, ↓x_call_turn_at_0, ↓x_cf_turn_at_0, ↓x_call_is_in_corners_0, ↓x_cf_is_in_corners_0, ↓x_call_range_in_0, ↓x_cf_range_in_0, ↓x_call_cells_in_0, ↓x_cf_cells_in_0, ↓x_call_covers_by_0, ↓x_cf_covers_by_0, ↓x_call_check_stroke_0, ↓x_cf_check_stroke_0, ↓x_call_check_spot_0, ↓x_cf_check_spot_0, ↓x_call_covers_0, ↓x_cf_covers_0, ↓x_call_covers_1, ↓x_cf_covers_1, ↓x_call__law_pool_0, ↓x_cf__law_pool_0, ↓x_call__law_below_0, ↓x_cf__law_below_0, ↓x_call__law_one_0, ↓x_cf__law_one_0, ↓x_call__law_same_0_0, ↓x_cf__law_same_0_0, ↓x_call__law_same_0, ↓x_cf__law_same_0, ↓x_call__law_boxed_0, ↓x_cf__law_boxed_0, ↓x_call__law_in_box_0, ↓x_cf__law_in_box_0, ↓x_call__law_in_triangle_0, ↓x_cf__law_in_triangle_0, ↓x_call__law_covers_0, ↓x_cf__law_covers_0, ↓x_call__law_stroke_0, ↓x_cf__law_stroke_0, ↓x_call__law_right_0, ↓x_cf__law_right_0, ↓x_onStk, ↓x_onShp, ↓x_stk0, ↓x_is_whole, ↓x_is_between, ↓x_is_up_to, ↓x_is_tuple_of, ↓x_is_pair, ↓x_is_cell, ↓x_is_box, ↓x_is_point, ↓x_is_shape, ↓x_is_stroke, ↓x_turn_at, ↓x_is_in_corners, ↓x_range_in, ↓x_cells_in, ↓x_covers_by, ↓x_check_stroke, ↓x_check_spot, ↓x_covers, ↓x__law_below, ↓x__law_one, ↓x__law_stroke, ↓x__law_right, ↓x__law_pool, ↓x__law_same_0, ↓x__law_same2, ↓x__law_same4, ↓x__law_boxed, ↓x__law_in_box, ↓x__law_in_triangle, ↓x__law_covers, h]
  exact q
theorem le_is_tuple_of {xs : List PV} {n : Int} : M.le (C_is_tuple_of [.tup xs, .int n]) (d_is_tuple_of.den (g 0) [.tup xs, .int n]) := by
  intro S Q E q
  rw [den_eq (body := c_is_tuple_of) (env := [some (.tup xs), some (.int n)]) rfl rfl]
  unfold c_is_tuple_of
  simp [↓r_ret, ↓r_guard, ↓r_ofO, ↓r_noexc, ↓r_any, ↓k_set0, ↓k_setS, ↓k_wipe0, ↓k_wipeS, ↓k_app0, ↓k_appS, ↓k_cat0, ↓k_catS, ↓r_get0, ↓r_getS, ↓r_var, ↓r_int, ↓r_str, ↓r_bl, ↓r_non, ↓r_bty, ↓r_bin, ↓r_neg, ↓r_nt, ↓r_cmp, ↓r_chn, ↓r_tv, ↓r_b1, ↓r_and, ↓r_or, ↓r_ife, ↓r_tup, ↓r_lst, ↓r_own, ↓r_ix, ↓r_sl, ↓r_callB, ↓r_callT, ↓r_meth, ↓r_comp, ↓r_compO, ↓r_compF, ↓r_cm0, ↓r_cmS, ↓r_l0, ↓r_lc, ↓r_ls, ↓r_comp2, ↓r_compI, ↓r_compF2, ↓r_tnt, ↓r_tb1, ↓r_tand, ↓r_tor, ↓r_tcmp, ↓r_tchn, ↓r_ttv, ↓r_c0, ↓r_c1, ↓r_trb, ↓r_trn, ↓r_tri, ↓r_trt, ↓r_trl, ↓r_o0, ↓r_o1, ↓r_prt, ↓r_gn, ↓r_gt, ↓r_gl, ↓r_gs, ↓r_g0, ↓r_gc, ↓r_iv, ↓r_ir, ↓r_srt, ↓r_srl, ↓r_src, ↓r_rg1, ↓r_rg2, ↓r_ex, ↓r_asg, ↓r_setc, ↓r_par2, ↓r_asg2, ↓r_par3, ↓r_asg3, ↓r_rt, ↓r_rtN, ↓r_if, ↓r_loop, ↓r_turn, ↓r_for0, ↓r_forS, ↓r_fnx, ↓r_fct, ↓r_fbk, ↓r_frt, ↓r_pass, ↓r_brk, ↓r_cont, ↓r_doc, ↓r_never, ↓r_b0, ↓r_bc, ↓r_bf, ↓r_snx, ↓r_srr, ↓r_sbk, ↓r_sct, ↓r_runB, ↓r_ert, ↓r_enx, ↓r_add, ↓r_addT, ↓r_addL, ↓r_addS, ↓r_sub, ↓r_mul, ↓r_mod, ↓r_fdiv, ↓r_pow, ↓r_vneg, ↓r_vnot, ↓r_lt, ↓r_le, ↓r_gt', ↓r_ge, ↓r_eqI, ↓r_neI, ↓r_eqB, ↓r_neB, ↓r_eqL, ↓r_eqT, ↓r_eqS, ↓r_inL, ↓r_inT, ↓r_isN, ↓r_notN, ↓r_ixT0, ↓r_ixL0, ↓r_ixT1, ↓r_ixL1, ↓r_ixT2, ↓r_ixL2, ↓r_ixT3, ↓r_ixL3, ↓r_ixT3m, ↓r_ixC, ↓r_lenT, ↓r_lenL, ↓r_lenC, ↓r_isiI, ↓r_isiB, ↓r_isiN, ↓r_isiS, ↓r_isiT, ↓r_isiL, ↓r_abs, ↓r_min2, ↓r_min3, ↓r_max2, ↓r_max3, ↓r_minL, ↓r_maxL, ↓r_sumL, ↓r_allL, ↓r_anyL, ↓r_divm, ↓r_Tint, ↓r_Ttup, ↓r_Ttup', ↓r_Tlst, ↓r_Tlst', ↓r_slC, ↓r_slL, ↓r_slT, ↓r_ints0, ↓r_intsS, ↓r_bls0, ↓r_blsS, ↓r_ixR, ↓r_setR0, ↓r_setR1, ↓r_setR2, ↓r_frz0, ↓r_frzS, ↓r_isTR, ↓r_appR, ↓x_glob_0, ↓x_glob_1, ↓x_glob_2, ↓x_glob_3, ↓x_glob_4, ↓x_glob_5, ↓x_call_is_whole_0, ↓x_cf_is_whole_0, ↓x_call_is_between_0, ↓x_cf_is_between_0, ↓x_call_is_up_to_0, ↓x_cf_is_up_to_0, ↓x_call_is_tuple_of_0, ↓x_cf_is_tuple_of_0, ↓x_call_is_pair_0, ↓x_cf_is_pair_0, ↓x_call_is_cell_0, ↓x_cf_is_cell_0, ↓x_call_is_box_0, ↓x_cf_is_box_0, ↓x_call_is_point_0, ↓x_cf_is_point_0, ↓x_call_is_shape_0, ↓x_cf_is_shape_0, ↓x_call_is_stroke_0, ↓x_cf_is_stroke_0, ↓x_call_turn_at_0, ↓x_cf_turn_at_0, ↓x_call_is_in_corners_0, ↓x_cf_is_in_corners_0, ↓x_call_range_in_0, ↓x_cf_range_in_0, ↓x_call_cells_in_0, ↓x_cf_cells_in_0, ↓x_call_covers_by_0, ↓x_cf_covers_by_0, ↓x_call_check_stroke_0, ↓x_cf_check_stroke_0, ↓x_call_check_spot_0, ↓x_cf_check_spot_0, ↓x_call_covers_0, ↓x_cf_covers_0, ↓x_call_covers_1, ↓x_cf_covers_1, ↓x_call__law_pool_0, ↓x_cf__law_pool_0, ↓x_call__law_below_0, ↓x_cf__law_below_0, ↓x_call__law_one_0, ↓x_cf__law_one_0, ↓x_call__law_same_0_0, ↓x_cf__law_same_0_0, ↓x_call__law_same_0, ↓x_cf__law_same_0, ↓x_call__law_boxed_0, ↓x_cf__law_boxed_0, ↓x_call__law_in_box_0, ↓x_cf__law_in_box_0, ↓x_call__law_in_triangle_0, ↓x_cf__law_in_triangle_0, ↓x_call__law_covers_0, ↓x_cf__law_covers_0, ↓x_call__law_stroke_0, ↓x_cf__law_stroke_0, ↓x_call__law_right_0, ↓x_cf__law_right_0, ↓x_onStk, ↓x_onShp, ↓x_stk0, ↓x_is_whole, ↓x_is_between, ↓x_is_up_to, ↓x_is_tuple_of, ↓x_is_pair, ↓x_is_cell, ↓x_is_box, ↓x_is_point, ↓x_is_shape, ↓x_is_stroke, ↓x_turn_at, ↓x_is_in_corners, ↓x_range_in, ↓x_cells_in, ↓x_covers_by, ↓x_check_stroke, ↓x_check_spot, ↓x_covers, ↓x__law_below, ↓x__law_one, ↓x__law_stroke, ↓x__law_right, ↓x__law_pool, ↓x__law_same_0, ↓x__law_same2, ↓x__law_same4, ↓x__law_boxed, ↓x__law_in_box, ↓x__law_in_triangle, ↓x__law_covers, isiNames, isiB]
  exact q
theorem le_is_pair {xs : List PV} : M.le (C_is_pair [.tup xs]) (d_is_pair.den (g 1) [.tup xs]) := by
  intro S Q E q
  rw [den_eq (body := c_is_pair) (env := [some (.tup xs)]) rfl rfl]
  unfold c_is_pair
  simp [↓r_ret, ↓r_guard, ↓r_ofO, ↓r_noexc, ↓r_any, ↓k_set0, ↓k_setS, ↓k_wipe0, ↓k_wipeS, ↓k_app0, ↓k_appS, ↓k_cat0, ↓k_catS, ↓r_get0, ↓r_getS, ↓r_var, ↓r_int, ↓r_str, ↓r_bl, ↓r_non, ↓r_bty, ↓r_bin, ↓r_neg, ↓r_nt, ↓r_cmp, ↓r_chn, ↓r_tv, ↓r_b1, ↓r_and, ↓r_or, ↓r_ife, ↓r_tup, ↓r_lst, ↓r_own, ↓r_ix, ↓r_sl, ↓r_callB, ↓r_callT, ↓r_meth, ↓r_comp, ↓r_compO, ↓r_compF, ↓r_cm0, ↓r_cmS, ↓r_l0, ↓r_lc, ↓r_ls, ↓r_comp2, ↓r_compI, ↓r_compF2, ↓r_tnt, ↓r_tb1, ↓r_tand, ↓r_tor, ↓r_tcmp, ↓r_tchn, ↓r_ttv, ↓r_c0, ↓r_c1, ↓r_trb, ↓r_trn, ↓r_tri, ↓r_trt, ↓r_trl, ↓r_o0, ↓r_o1, ↓r_prt, ↓r_gn, ↓r_gt, ↓r_gl, ↓r_gs, ↓r_g0, ↓r_gc, ↓r_iv, ↓r_ir, ↓r_srt, ↓r_srl, ↓r_src, ↓r_rg1, ↓r_rg2, ↓r_ex, ↓r_asg, ↓r_setc, ↓r_par2, ↓r_asg2, ↓r_par3, ↓r_asg3, ↓r_rt, ↓r_rtN, ↓r_if, ↓r_loop, ↓r_turn, ↓r_for0, ↓r_forS, ↓r_fnx, ↓r_fct, ↓r_fbk, ↓r_frt, ↓r_pass, ↓r_brk, ↓r_cont, ↓r_doc, ↓r_never, ↓r_b0, ↓r_bc, ↓r_bf, ↓r_snx, ↓r_srr, ↓r_sbk, ↓r_sct, ↓r_runB, ↓r_ert, ↓r_enx, ↓r_add, ↓r_addT, ↓r_addL, ↓r_addS, ↓r_sub, ↓r_mul, ↓r_mod, ↓r_fdiv, ↓r_pow, ↓r_vneg, ↓r_vnot, ↓r_lt, ↓r_le, ↓r_gt', ↓r_ge, ↓r_eqI, ↓r_neI, ↓r_eqB, ↓r_neB, ↓r_eqL, ↓r_eqT, ↓r_eqS, ↓r_inL, ↓r_inT, ↓r_isN, ↓r_notN, ↓r_ixT0, ↓r_ixL0, ↓r_ixT1, ↓r_ixL1, ↓r_ixT2, ↓r_ixL2, ↓r_ixT3, ↓r_ixL3, ↓r_ixT3m, ↓r_ixC, ↓r_lenT, ↓r_lenL, ↓r_lenC, ↓r_isiI, ↓r_isiB, ↓r_isiN, ↓r_isiS, ↓r_isiT, ↓r_isiL, ↓r_abs, ↓r_min2, ↓r_min3, ↓r_max2, ↓r_max3, ↓r_minL, ↓r_maxL, ↓r_sumL, ↓r_allL, ↓r_anyL, ↓r_divm, ↓r_Tint, ↓r_Ttup, ↓r_Ttup', ↓r_Tlst, ↓r_Tlst', ↓r_slC, ↓r_slL, ↓r_slT, ↓r_ints0, ↓r_intsS, ↓r_bls0, ↓r_blsS, ↓r_ixR, ↓r_setR0, ↓r_setR1, ↓r_setR2, ↓r_frz0, ↓r_frzS, ↓r_isTR, ↓r_appR, ↓x_glob_0, ↓x_glob_1, ↓x_glob_2, ↓x_glob_3, ↓x_glob_4, ↓x_glob_5, ↓x_call_is_whole_0, ↓x_cf_is_whole_0, ↓x_call_is_between_0, ↓x_cf_is_between_0, ↓x_call_is_up_to_0, ↓x_cf_is_up_to_0, ↓x_call_is_tuple_of_0, ↓x_cf_is_tuple_of_0, ↓x_call_is_pair_0, ↓x_cf_is_pair_0, ↓x_call_is_cell_0, ↓x_cf_is_cell_0, ↓x_call_is_box_0, ↓x_cf_is_box_0, ↓x_call_is_point_0, ↓x_cf_is_point_0, ↓x_call_is_shape_0, ↓x_cf_is_shape_0, ↓x_call_is_stroke_0, ↓x_cf_is_stroke_0, ↓x_call_turn_at_0, ↓x_cf_turn_at_0, ↓x_call_is_in_corners_0, ↓x_cf_is_in_corners_0, ↓x_call_range_in_0, ↓x_cf_range_in_0, ↓x_call_cells_in_0, ↓x_cf_cells_in_0, ↓x_call_covers_by_0, ↓x_cf_covers_by_0, ↓x_call_check_stroke_0, ↓x_cf_check_stroke_0, ↓x_call_check_spot_0, ↓x_cf_check_spot_0, ↓x_call_covers_0, ↓x_cf_covers_0, ↓x_call_covers_1, ↓x_cf_covers_1, ↓x_call__law_pool_0, ↓x_cf__law_pool_0, ↓x_call__law_below_0, ↓x_cf__law_below_0, ↓x_call__law_one_0, ↓x_cf__law_one_0, ↓x_call__law_same_0_0, ↓x_cf__law_same_0_0, ↓x_call__law_same_0, ↓x_cf__law_same_0, ↓x_call__law_boxed_0, ↓x_cf__law_boxed_0, ↓x_call__law_in_box_0, ↓x_cf__law_in_box_0, ↓x_call__law_in_triangle_0, ↓x_cf__law_in_triangle_0, ↓x_call__law_covers_0, ↓x_cf__law_covers_0, ↓x_call__law_stroke_0, ↓x_cf__law_stroke_0, ↓x_call__law_right_0, ↓x_cf__law_right_0, ↓x_onStk, ↓x_onShp, ↓x_stk0, ↓x_is_whole, ↓x_is_between, ↓x_is_up_to, ↓x_is_tuple_of, ↓x_is_pair, ↓x_is_cell, ↓x_is_box, ↓x_is_point, ↓x_is_shape, ↓x_is_stroke, ↓x_turn_at, ↓x_is_in_corners, ↓x_range_in, ↓x_cells_in, ↓x_covers_by, ↓x_check_stroke, ↓x_check_spot, ↓x_covers, ↓x__law_below, ↓x__law_one, ↓x__law_stroke, ↓x__law_right, ↓x__law_pool, ↓x__law_same_0, ↓x__law_same2, ↓x__law_same4, ↓x__law_boxed, ↓x__law_in_box, ↓x__law_in_triangle, ↓x__law_covers, isiNames, isiB]
  exact q
theorem le_is_cell {w v a b : Int} : M.le (C_is_cell [.int w, .int v, .tup [.int a, .int b]]) (d_is_cell.den (g 3) [.int w, .int v, .tup [.int a, .int b]]) := by
  refine le_guard fun h S Q E q => ?_
  rw [den_eq (body := c_is_cell) (env := [some (.int w), some (.int v), some (.tup [.int a, .int b])]) rfl rfl]
  unfold c_is_cell
  simp [↓r_ret, ↓r_guard, ↓r_ofO, ↓r_noexc, ↓r_any, ↓k_set0, ↓k_setS, ↓k_wipe0, ↓k_wipeS, ↓k_app0, ↓k_appS, ↓k_cat0, ↓k_catS, ↓r_get0, ↓r_getS, ↓r_var, ↓r_int, ↓r_str, ↓r_bl, ↓r_non, ↓r_bty, ↓r_bin, ↓r_neg, ↓r_nt, ↓r_cmp, ↓r_chn, ↓r_tv, ↓r_b1, ↓r_and, ↓r_or, ↓r_ife, ↓r_tup, ↓r_lst, ↓r_own, ↓r_ix, ↓r_sl, ↓r_callB, ↓r_callT, ↓r_meth, ↓r_comp, ↓r_compO, ↓r_compF, ↓r_cm0, ↓r_cmS, ↓r_l0, ↓r_lc, ↓r_ls, ↓r_comp2, ↓r_compI, ↓r_compF2, ↓r_tnt, ↓r_tb1, ↓r_tand, ↓r_tor, ↓r_tcmp, ↓r_tchn, ↓r_ttv, ↓r_c0, ↓r_c1, ↓r_trb, ↓r_trn, ↓r_tri, ↓r_trt, ↓r_trl, ↓r_o0, ↓r_o1, ↓r_prt, ↓r_gn, ↓r_gt, ↓r_gl, ↓r_gs, ↓r_g0, ↓r_gc, ↓r_iv, ↓r_ir, ↓r_srt, ↓r_srl, ↓r_src, ↓r_rg1, ↓r_rg2, ↓r_ex, ↓r_asg, ↓r_setc, ↓r_par2, ↓r_asg2, ↓r_par3, ↓r_asg3, ↓r_rt, ↓r_rtN, ↓r_if, ↓r_loop, ↓r_turn, ↓r_for0, ↓r_forS, ↓r_fnx, ↓r_fct, ↓r_fbk, ↓r_frt, ↓r_pass, ↓r_brk, ↓r_cont, ↓r_doc, ↓r_never, ↓r_b0, ↓r_bc, ↓r_bf, ↓r_snx, ↓r_srr, ↓r_sbk, ↓r_sct, ↓r_runB, ↓r_ert, ↓r_enx, ↓r_add, ↓r_addT, ↓r_addL, ↓r_addS, ↓r_sub, ↓r_mul, ↓r_mod, ↓r_fdiv, ↓r_pow, ↓r_vneg, ↓r_vnot, ↓r_lt, ↓r_le, ↓r_gt', ↓r_ge, ↓r_eqI, ↓r_neI, ↓r_eqB, ↓r_neB, ↓r_eqL, ↓r_eqT, ↓r_eqS, ↓r_inL, ↓r_inT, ↓r_isN, ↓r_notN, ↓r_ixT0, ↓r_ixL0, ↓r_ixT1, ↓r_ixL1, ↓r_ixT2, ↓r_ixL2, ↓r_ixT3, ↓r_ixL3, ↓r_ixT3m, ↓r_ixC, ↓r_lenT, ↓r_lenL, ↓r_lenC, ↓r_isiI, ↓r_isiB, ↓r_isiN, ↓r_isiS, ↓r_isiT, ↓r_isiL, ↓r_abs, ↓r_min2, ↓r_min3, ↓r_max2, ↓r_max3, ↓r_minL, ↓r_maxL, ↓r_sumL, ↓r_allL, ↓r_anyL, ↓r_divm, ↓r_Tint, ↓r_Ttup, ↓r_Ttup', ↓r_Tlst, ↓r_Tlst', ↓r_slC, ↓r_slL, ↓r_slT, ↓r_ints0, ↓r_intsS, ↓r_bls0, ↓r_blsS, ↓r_ixR, ↓r_setR0, ↓r_setR1, ↓r_setR2, ↓r_frz0, ↓r_frzS, ↓r_isTR, ↓r_appR, ↓x_glob_0, ↓x_glob_1, ↓x_glob_2, ↓x_glob_3, ↓x_glob_4, ↓x_glob_5, ↓x_call_is_whole_0, ↓x_cf_is_whole_0, ↓x_call_is_between_0, ↓x_cf_is_between_0, ↓x_call_is_up_to_0, ↓x_cf_is_up_to_0, ↓x_call_is_tuple_of_0, ↓x_cf_is_tuple_of_0, ↓x_call_is_pair_0, ↓x_cf_is_pair_0, ↓x_call_is_cell_0, ↓x_cf_is_cell_0, ↓x_call_is_box_0, ↓x_cf_is_box_0, ↓x_call_is_point_0, ↓x_cf_is_point_0, ↓x_call_is_shape_0, ↓x_cf_is_shape_0, ↓x_call_is_stroke_0, ↓x_cf_is_stroke_0, ↓x_call_turn_at_0, ↓x_cf_turn_at_0, ↓x_call_is_in_corners_0, ↓x_cf_is_in_corners_0, ↓x_call_range_in_0, ↓x_cf_range_in_0, ↓x_call_cells_in_0, ↓x_cf_cells_in_0, ↓x_call_covers_by_0, ↓x_cf_covers_by_0, ↓x_call_check_stroke_0, ↓x_cf_check_stroke_0, ↓x_call_check_spot_0, ↓x_cf_check_spot_0, ↓x_call_covers_0, ↓x_cf_covers_0, ↓x_call_covers_1, ↓x_cf_covers_1, ↓x_call__law_pool_0, ↓x_cf__law_pool_0, ↓x_call__law_below_0, ↓x_cf__law_below_0, ↓x_call__law_one_0, ↓x_cf__law_one_0, ↓x_call__law_same_0_0, ↓x_cf__law_same_0_0, ↓x_call__law_same_0, ↓x_cf__law_same_0, ↓x_call__law_boxed_0, ↓x_cf__law_boxed_0, ↓x_call__law_in_box_0, ↓x_cf__law_in_box_0, ↓x_call__law_in_triangle_0, ↓x_cf__law_in_triangle_0, ↓x_call__law_covers_0, ↓x_cf__law_covers_0, ↓x_call__law_stroke_0, ↓x_cf__law_stroke_0, ↓x_call__law_right_0, ↓x_cf__law_right_0, ↓x_onStk, ↓x_onShp, ↓x_stk0, ↓x_is_whole, ↓x_is_between, ↓x_is_up_to, ↓x_is_tuple_of, ↓x_is_pair, ↓x_is_cell, ↓x_is_box, ↓x_is_point, ↓x_is_shape, ↓x_is_stroke, ↓x_turn_at, ↓x_is_in_corners, ↓x_range_in, ↓x_cells_in, ↓x_covers_by, ↓x_check_stroke, ↓x_check_spot, ↓x_covers, ↓x__law_below, ↓x__law_one, ↓x__law_stroke, ↓x__law_right, ↓x__law_pool, ↓x__law_same_0, ↓x__law_same2, ↓x__law_same4, ↓x__law_boxed, ↓x__law_in_box, ↓x__law_in_triangle, ↓x__law_covers, h]
  exact q
theorem le_is_box {a b c d l m : Int} : M.le (C_is_box [.tup [.int a, .int b, .int c, .int d], .int l, .int m]) (d_is_box.den (g 2) [.tup [.int a, .int b, .int c, .int d], .int l, .int m]) := by
  refine le_guard fun h S Q E q => ?_
  rw [den_eq (body := c_is_box) (env := [some (.tup [.int a, .int b, .int c, .int d]), some (.int l), some (.int m), none]) rfl rfl]
  unfold c_is_box
  simp [↓r_ret, ↓r_guard, ↓r_ofO, ↓r_noexc, ↓r_any, ↓k_set0, ↓k_setS, ↓k_wipe0, ↓k_wipeS, ↓k_app0, ↓k_appS, ↓k_cat0, ↓k_catS, ↓r_get0, ↓r_getS, ↓r_var, ↓r_int, ↓r_str, ↓r_bl, ↓r_non, ↓r_bty, ↓r_bin, ↓r_neg, ↓r_nt, ↓r_cmp, ↓r_chn, ↓r_tv, ↓r_b1, ↓r_and, ↓r_or, ↓r_ife, ↓r_tup, ↓r_lst, ↓r_own, ↓r_ix, ↓r_sl, ↓r_callB, ↓r_callT, ↓r_meth, ↓r_comp, ↓r_compO, ↓r_compF, ↓r_cm0, ↓r_cmS, ↓r_l0, ↓r_lc, ↓r_ls, ↓r_comp2, ↓r_compI, ↓r_compF2, ↓r_tnt, ↓r_tb1, ↓r_tand, ↓r_tor, ↓r_tcmp, ↓r_tchn, ↓r_ttv, ↓r_c0, ↓r_c1, ↓r_trb, ↓r_trn, ↓r_tri, ↓r_trt, ↓r_trl, ↓r_o0, ↓r_o1, ↓r_prt, ↓r_gn, ↓r_gt, ↓r_gl, ↓r_gs, ↓r_g0, ↓r_gc, ↓r_iv, ↓r_ir, ↓r_srt, ↓r_srl, ↓r_src, ↓r_rg1, ↓r_rg2, ↓r_ex, ↓r_asg, ↓r_setc, ↓r_par2, ↓r_asg2, ↓r_par3, ↓r_asg3, ↓r_rt, ↓r_rtN, ↓r_if, ↓r_loop, ↓r_turn, ↓r_for0, ↓r_forS, ↓r_fnx, ↓r_fct, ↓r_fbk, ↓r_frt, ↓r_pass, ↓r_brk, ↓r_cont, ↓r_doc, ↓r_never, ↓r_b0, ↓r_bc, ↓r_bf, ↓r_snx, ↓r_srr, ↓r_sbk, ↓r_sct, ↓r_runB, ↓r_ert, ↓r_enx, ↓r_add, ↓r_addT, ↓r_addL, ↓r_addS, ↓r_sub, ↓r_mul, ↓r_mod, ↓r_fdiv, ↓r_pow, ↓r_vneg, ↓r_vnot, ↓r_lt, ↓r_le, ↓r_gt', ↓r_ge, ↓r_eqI, ↓r_neI, ↓r_eqB, ↓r_neB, ↓r_eqL, ↓r_eqT, ↓r_eqS, ↓r_inL, ↓r_inT, ↓r_isN, ↓r_notN, ↓r_ixT0, ↓r_ixL0, ↓r_ixT1, ↓r_ixL1, ↓r_ixT2, ↓r_ixL2, ↓r_ixT3, ↓r_ixL3, ↓r_ixT3m, ↓r_ixC, ↓r_lenT, ↓r_lenL, ↓r_lenC, ↓r_isiI, ↓r_isiB, ↓r_isiN, ↓r_isiS, ↓r_isiT, ↓r_isiL, ↓r_abs, ↓r_min2, ↓r_min3, ↓r_max2, ↓r_max3, ↓r_minL, ↓r_maxL, ↓r_sumL, ↓r_allL, ↓r_anyL, ↓r_divm, ↓r_Tint, ↓r_Ttup, ↓r_Ttup', ↓r_Tlst, ↓r_Tlst', ↓r_slC, ↓r_slL, ↓r_slT, ↓r_ints0, ↓r_intsS, ↓r_bls0, ↓r_blsS, ↓r_ixR, ↓r_setR0, ↓r_setR1, ↓r_setR2, ↓r_frz0, ↓r_frzS, ↓r_isTR, ↓r_appR, ↓x_glob_0, ↓x_glob_1, ↓x_glob_2, ↓x_glob_3, ↓x_glob_4, ↓x_glob_5, ↓x_call_is_whole_0, ↓x_cf_is_whole_0, ↓x_call_is_between_0, ↓x_cf_is_between_0, ↓x_call_is_up_to_0, ↓x_cf_is_up_to_0, ↓x_call_is_tuple_of_0, ↓x_cf_is_tuple_of_0, ↓x_call_is_pair_0, ↓x_cf_is_pair_0, ↓x_call_is_cell_0, ↓x_cf_is_cell_0, ↓x_call_is_box_0, ↓x_cf_is_box_0, ↓x_call_is_point_0, ↓x_cf_is_point_0, ↓x_call_is_shape_0, ↓x_cf_is_shape_0, ↓x_call_is_stroke_0, ↓x_cf_is_stroke_0, ↓x_call_turn_at_0, ↓x_cf_turn_at_0, ↓x_call_is_in_corners_0, ↓x_cf_is_in_corners_0, ↓x_call_range_in_0, ↓x_cf_range_in_0, ↓x_call_cells_in_0, ↓x_cf_cells_in_0, ↓x_call_covers_by_0, ↓x_cf_covers_by_0, ↓x_call_check_stroke_0, ↓x_cf_check_stroke_0, ↓x_call_check_spot_0, ↓x_cf_check_spot_0, ↓x_call_covers_0, ↓x_cf_covers_0, ↓x_call_covers_1, ↓x_cf_covers_1, ↓x_call__law_pool_0, ↓x_cf__law_pool_0, ↓x_call__law_below_0, ↓x_cf__law_below_0, ↓x_call__law_one_0, ↓x_cf__law_one_0, ↓x_call__law_same_0_0, ↓x_cf__law_same_0_0, ↓x_call__law_same_0, ↓x_cf__law_same_0, ↓x_call__law_boxed_0, ↓x_cf__law_boxed_0, ↓x_call__law_in_box_0, ↓x_cf__law_in_box_0, ↓x_call__law_in_triangle_0, ↓x_cf__law_in_triangle_0, ↓x_call__law_covers_0, ↓x_cf__law_covers_0, ↓x_call__law_stroke_0, ↓x_cf__law_stroke_0, ↓x_call__law_right_0, ↓x_cf__law_right_0, ↓x_onStk, ↓x_onShp, ↓x_stk0, ↓x_is_whole, ↓x_is_between, ↓x_is_up_to, ↓x_is_tuple_of, ↓x_is_pair, ↓x_is_cell, ↓x_is_box, ↓x_is_point, ↓x_is_shape, ↓x_is_stroke, ↓x_turn_at, ↓x_is_in_corners, ↓x_range_in, ↓x_cells_in, ↓x_covers_by, ↓x_check_stroke, ↓x_check_spot, ↓x_covers, ↓x__law_below, ↓x__law_one, ↓x__law_stroke, ↓x__law_right, ↓x__law_pool, ↓x__law_same_0, ↓x__law_same2, ↓x__law_same4, ↓x__law_boxed, ↓x__law_in_box, ↓x__law_in_triangle, ↓x__law_covers, h, sizeLine]
  exact q
theorem le_is_point {a b : Int} : M.le (C_is_point [.tup [.int a, .int b]]) (d_is_point.den (g 2) [.tup [.int a, .int b]]) := by
  refine le_guard fun h S Q E q => ?_
  rw [den_eq (body := c_is_point) (env := [some (.tup [.int a, .int b]), none]) rfl rfl]
  unfold c_is_point
  simp [↓r_ret, ↓r_guard, ↓r_ofO, ↓r_noexc, ↓r_any, ↓k_set0, ↓k_setS, ↓k_wipe0, ↓k_wipeS, ↓k_app0, ↓k_appS, ↓k_cat0, ↓k_catS, ↓r_get0, ↓r_getS, ↓r_var, ↓r_int, ↓r_str, ↓r_bl, ↓r_non, ↓r_bty, ↓r_bin, ↓r_neg, ↓r_nt, ↓r_cmp, ↓r_chn, ↓r_tv, ↓r_b1, ↓r_and, ↓r_or, ↓r_ife, ↓r_tup, ↓r_lst, ↓r_own, ↓r_ix, ↓r_sl, ↓r_callB, ↓r_callT, ↓r_meth, ↓r_comp, ↓r_compO, ↓r_compF, ↓r_cm0, ↓r_cmS, ↓r_l0, ↓r_lc, ↓r_ls, ↓r_comp2, ↓r_compI, ↓r_compF2, ↓r_tnt, ↓r_tb1, ↓r_tand, ↓r_tor, ↓r_tcmp, ↓r_tchn, ↓r_ttv, ↓r_c0, ↓r_c1, ↓r_trb, ↓r_trn, ↓r_tri, ↓r_trt, ↓r_trl, ↓r_o0, ↓r_o1, ↓r_prt, ↓r_gn, ↓r_gt, ↓r_gl, ↓r_gs, ↓r_g0, ↓r_gc, ↓r_iv, ↓r_ir, ↓r_srt, ↓r_srl, ↓r_src, ↓r_rg1, ↓r_rg2, ↓r_ex, ↓r_asg, ↓r_setc, ↓r_par2, ↓r_asg2, ↓r_par3, ↓r_asg3, ↓r_rt, ↓r_rtN, ↓r_if, ↓r_loop, ↓r_turn, ↓r_for0, ↓r_forS, ↓r_fnx, ↓r_fct, ↓r_fbk, ↓r_frt, ↓r_pass, ↓r_brk, ↓r_cont, ↓r_doc, ↓r_never, ↓r_b0, ↓r_bc, ↓r_bf, ↓r_snx, ↓r_srr, ↓r_sbk, ↓r_sct, ↓r_runB, ↓r_ert, ↓r_enx, ↓r_add, ↓r_addT, ↓r_addL, ↓r_addS, ↓r_sub, ↓r_mul, ↓r_mod, ↓r_fdiv, ↓r_pow, ↓r_vneg, ↓r_vnot, ↓r_lt, ↓r_le, ↓r_gt', ↓r_ge, ↓r_eqI, ↓r_neI, ↓r_eqB, ↓r_neB, ↓r_eqL, ↓r_eqT, ↓r_eqS, ↓r_inL, ↓r_inT, ↓r_isN, ↓r_notN, ↓r_ixT0, ↓r_ixL0, ↓r_ixT1, ↓r_ixL1, ↓r_ixT2, ↓r_ixL2, ↓r_ixT3, ↓r_ixL3, ↓r_ixT3m, ↓r_ixC, ↓r_lenT, ↓r_lenL, ↓r_lenC, ↓r_isiI, ↓r_isiB, ↓r_isiN, ↓r_isiS, ↓r_isiT, ↓r_isiL, ↓r_abs, ↓r_min2, ↓r_min3, ↓r_max2, ↓r_max3, ↓r_minL, ↓r_maxL, ↓r_sumL, ↓r_allL, ↓r_anyL, ↓r_divm, ↓r_Tint, ↓r_Ttup, ↓r_Ttup', ↓r_Tlst, ↓r_Tlst', ↓r_slC, ↓r_slL, ↓r_slT, ↓r_ints0, ↓r_intsS, ↓r_bls0, ↓r_blsS, ↓r_ixR, ↓r_setR0, ↓r_setR1, ↓r_setR2, ↓r_frz0, ↓r_frzS, ↓r_isTR, ↓r_appR, ↓x_glob_0, ↓x_glob_1, ↓x_glob_2, ↓x_glob_3, ↓x_glob_4, ↓x_glob_5, ↓x_call_is_whole_0, ↓x_cf_is_whole_0, ↓x_call_is_between_0, ↓x_cf_is_between_0, ↓x_call_is_up_to_0, ↓x_cf_is_up_to_0, ↓x_call_is_tuple_of_0, ↓x_cf_is_tuple_of_0, ↓x_call_is_pair_0, ↓x_cf_is_pair_0, ↓x_call_is_cell_0, ↓x_cf_is_cell_0, ↓x_call_is_box_0, ↓x_cf_is_box_0, ↓x_call_is_point_0, ↓x_cf_is_point_0, ↓x_call_is_shape_0, ↓x_cf_is_shape_0, ↓x_call_is_stroke_0, ↓x_cf_is_stroke_0, ↓x_call_turn_at_0, ↓x_cf_turn_at_0, ↓x_call_is_in_corners_0, ↓x_cf_is_in_corners_0, ↓x_call_range_in_0, ↓x_cf_range_in_0, ↓x_call_cells_in_0, ↓x_cf_cells_in_0, ↓x_call_covers_by_0, ↓x_cf_covers_by_0, ↓x_call_check_stroke_0, ↓x_cf_check_stroke_0, ↓x_call_check_spot_0, ↓x_cf_check_spot_0, ↓x_call_covers_0, ↓x_cf_covers_0, ↓x_call_covers_1, ↓x_cf_covers_1, ↓x_call__law_pool_0, ↓x_cf__law_pool_0, ↓x_call__law_below_0, ↓x_cf__law_below_0, ↓x_call__law_one_0, ↓x_cf__law_one_0, ↓x_call__law_same_0_0, ↓x_cf__law_same_0_0, ↓x_call__law_same_0, ↓x_cf__law_same_0, ↓x_call__law_boxed_0, ↓x_cf__law_boxed_0, ↓x_call__law_in_box_0, ↓x_cf__law_in_box_0, ↓x_call__law_in_triangle_0, ↓x_cf__law_in_triangle_0, ↓x_call__law_covers_0, ↓x_cf__law_covers_0, ↓x_call__law_stroke_0, ↓x_cf__law_stroke_0, ↓x_call__law_right_0, ↓x_cf__law_right_0, ↓x_onStk, ↓x_onShp, ↓x_stk0, ↓x_is_whole, ↓x_is_between, ↓x_is_up_to, ↓x_is_tuple_of, ↓x_is_pair, ↓x_is_cell, ↓x_is_box, ↓x_is_point, ↓x_is_shape, ↓x_is_stroke, ↓x_turn_at, ↓x_is_in_corners, ↓x_range_in, ↓x_cells_in, ↓x_covers_by, ↓x_check_stroke, ↓x_check_spot, ↓x_covers, ↓x__law_below, ↓x__law_one, ↓x__law_stroke, ↓x__law_right, ↓x__law_pool, ↓x__law_same_0, ↓x__law_same2, ↓x__law_same4, ↓x__law_boxed, ↓x__law_in_box, ↓x__law_in_triangle, ↓x__law_covers, h, sizeLine]
  exact q
theorem le_is_shape {x : PV} : M.le (C_is_shape [x]) (d_is_shape.den (g 3) [x]) := by
  refine le_onShp fun s h e => ?_
  subst e
  intro S Q E q
  cases s with
  | box a b c d =>
    simp only [Shp.ok] at h
    have h2 : ((-99999 ≤ a ∧ a ≤ 99999) ∧ (-99999 ≤ b ∧ b ≤ 99999) ∧ (-99999 ≤ c ∧ c ≤ 99999) ∧ (-99999 ≤ d ∧ d ≤ 99999) ∧ a ≤ c ∧ b ≤ d) := by omega
    rw [den_eq (body := c_is_shape) (env := [some (.tup [.int a, .int b, .int c, .int d]), none]) rfl rfl]
    unfold c_is_shape
    simp [↓r_ret, ↓r_guard, ↓r_ofO, ↓r_noexc, ↓r_any, ↓k_set0, ↓k_setS, ↓k_wipe0, ↓k_wipeS, ↓k_app0, ↓k_appS, ↓k_cat0, ↓k_catS, ↓r_get0, ↓r_getS, ↓r_var, ↓r_int, ↓r_str, ↓r_bl, ↓r_non, ↓r_bty, ↓r_bin, ↓r_neg, ↓r_nt, ↓r_cmp, ↓r_chn, ↓r_tv, ↓r_b1, ↓r_and, ↓r_or, ↓r_ife, ↓r_tup, ↓r_lst, ↓r_own, ↓r_ix, ↓r_sl, ↓r_callB, ↓r_callT, ↓r_meth, ↓r_comp, ↓r_compO, ↓r_compF, ↓r_cm0, ↓r_cmS, ↓r_l0, ↓r_lc, ↓r_ls, ↓r_comp2, ↓r_compI, ↓r_compF2, ↓r_tnt, ↓r_tb1, ↓r_tand, ↓r_tor, ↓r_tcmp, ↓r_tchn, ↓r_ttv, ↓r_c0, ↓r_c1, ↓r_trb, ↓r_trn, ↓r_tri, ↓r_trt, ↓r_trl, ↓r_o0, ↓r_o1, ↓r_prt, ↓r_gn, ↓r_gt, ↓r_gl, ↓r_gs, ↓r_g0, ↓r_gc, ↓r_iv, ↓r_ir, ↓r_srt, ↓r_srl, ↓r_src, ↓r_rg1, ↓r_rg2, ↓r_ex, ↓r_asg, ↓r_setc, ↓r_par2, ↓r_asg2, ↓r_par3, ↓r_asg3, ↓r_rt, ↓r_rtN, ↓r_if, ↓r_loop, ↓r_turn, ↓r_for0, ↓r_forS, ↓r_fnx, ↓r_fct, ↓r_fbk, ↓r_frt, ↓r_pass, ↓r_brk, ↓r_cont, ↓r_doc, ↓r_never, ↓r_b0, ↓r_bc, ↓r_bf, ↓r_snx, ↓r_srr, ↓r_sbk, ↓r_sct, ↓r_runB, ↓r_ert, ↓r_enx, ↓r_add, ↓r_addT, ↓r_addL, ↓r_addS, ↓r_sub, ↓r_mul, ↓r_mod, ↓r_fdiv, ↓r_pow, ↓r_vneg, ↓r_vnot, ↓r_lt, ↓r_le, ↓r_gt', ↓r_ge, ↓r_eqI, ↓r_neI, ↓r_eqB, ↓r_neB, ↓r_eqL, ↓r_eqT, ↓r_eqS, ↓r_inL, ↓r_inT, ↓r_isN, ↓r_notN, ↓r_ixT0, ↓r_ixL0, ↓r_ixT1, ↓r_ixL1, ↓r_ixT2, ↓r_ixL2, ↓r_ixT3, ↓r_ixL3, ↓r_ixT3m, ↓r_ixC, ↓r_lenT, ↓r_lenL, ↓r_lenC, ↓r_isiI, ↓r_isiB, ↓r_isiN, ↓r_isiS, ↓r_isiT, ↓r_isiL, ↓r_abs, ↓r_min2, ↓r_min3, ↓r_max2, ↓r_max3, ↓r_minL, ↓r_maxL, ↓r_sumL, ↓r_allL, ↓r_anyL, ↓r_divm, ↓r_Tint, ↓r_Ttup, ↓r_Ttup', ↓r_Tlst, ↓r_Tlst', ↓r_slC, ↓r_slL, ↓r_slT, ↓r_ints0, ↓r_intsS, ↓r_bls0, ↓r_blsS, ↓r_ixR, ↓r_setR0, ↓r_setR1, ↓r_setR2, ↓r_frz0, ↓r_frzS, ↓r_isTR, ↓r_appR, ↓x_glob_0, ↓x_glob_1, ↓x_glob_2, ↓x_glob_3, ↓x_glob_4, ↓x_glob_5, ↓x_call_is_whole_0, ↓x_cf_is_whole_0, ↓x_call_is_between_0, ↓x_cf_is_between_0, ↓x_call_is_up_to_0, ↓x_cf_is_up_to_0, ↓x_call_is_tuple_of_0, ↓x_cf_is_tuple_of_0, ↓x_call_is_pair_0, ↓x_cf_is_pair_0, ↓x_call_is_cell_0, ↓x_cf_is_cell_0, ↓x_call_is_box_0, ↓x_cf_is_box_0, ↓x_call_is_point_0, ↓x_cf_is_point_0, ↓x_call_is_shape_0, ↓x_cf_is_shape_0, ↓x_call_is_stroke_0, ↓x_cf_is_stroke_0, ↓x_call_turn_at_0, ↓x_cf_turn_at_0, ↓x_call_is_in_corners_0, ↓x_cf_is_in_corners_0, ↓x_call_range_in_0, ↓x_cf_range_in_0, ↓x_call_cells_in_0, ↓x_cf_cells_in_0, ↓x_call_covers_by_0, ↓x_cf_covers_by_0, ↓x_call_check_stroke_0, ↓x_cf_check_stroke_0, ↓x_call_check_spot_0, ↓x_cf_check_spot_0, ↓x_call_covers_0, ↓x_cf_covers_0, ↓x_call_covers_1, ↓x_cf_covers_1, ↓x_call__law_pool_0, ↓x_cf__law_pool_0, ↓x_call__law_below_0, ↓x_cf__law_below_0, ↓x_call__law_one_0, ↓x_cf__law_one_0, ↓x_call__law_same_0_0, ↓x_cf__law_same_0_0, ↓x_call__law_same_0, ↓x_cf__law_same_0, ↓x_call__law_boxed_0, ↓x_cf__law_boxed_0, ↓x_call__law_in_box_0, ↓x_cf__law_in_box_0, ↓x_call__law_in_triangle_0, ↓x_cf__law_in_triangle_0, ↓x_call__law_covers_0, ↓x_cf__law_covers_0, ↓x_call__law_stroke_0, ↓x_cf__law_stroke_0, ↓x_call__law_right_0, ↓x_cf__law_right_0, ↓x_onStk, ↓x_onShp, ↓x_stk0, ↓x_is_whole, ↓x_is_between, ↓x_is_up_to, ↓x_is_tuple_of, ↓x_is_pair, ↓x_is_cell, ↓x_is_box, ↓x_is_point, ↓x_is_shape, ↓x_is_stroke, ↓x_turn_at, ↓x_is_in_corners, ↓x_range_in, ↓x_cells_in, ↓x_covers_by, ↓x_check_stroke, ↓x_check_spot, ↓x_covers, ↓x__law_below, ↓x__law_one, ↓x__law_stroke, ↓x__law_right, ↓x__law_pool, ↓x__law_same_0, ↓x__law_same2, ↓x__law_same4, ↓x__law_boxed, ↓x__law_in_box, ↓x__law_in_triangle, ↓x__law_covers, h2, sizeLine]
    exact q
  | tri a b c d e f =>
    simp only [Shp.ok] at h
    rw [den_eq (body := c_is_shape) (env := [some (.tup [pt a b, pt c d, pt e f]), none]) rfl rfl]
    unfold c_is_shape
    simp [↓r_ret, ↓r_guard, ↓r_ofO, ↓r_noexc, ↓r_any, ↓k_set0, ↓k_setS, ↓k_wipe0, ↓k_wipeS, ↓k_app0, ↓k_appS, ↓k_cat0, ↓k_catS, ↓r_get0, ↓r_getS, ↓r_var, ↓r_int, ↓r_str, ↓r_bl, ↓r_non, ↓r_bty, ↓r_bin, ↓r_neg, ↓r_nt, ↓r_cmp, ↓r_chn, ↓r_tv, ↓r_b1, ↓r_and, ↓r_or, ↓r_ife, ↓r_tup, ↓r_lst, ↓r_own, ↓r_ix, ↓r_sl, ↓r_callB, ↓r_callT, ↓r_meth, ↓r_comp, ↓r_compO, ↓r_compF, ↓r_cm0, ↓r_cmS, ↓r_l0, ↓r_lc, ↓r_ls, ↓r_comp2, ↓r_compI, ↓r_compF2, ↓r_tnt, ↓r_tb1, ↓r_tand, ↓r_tor, ↓r_tcmp, ↓r_tchn, ↓r_ttv, ↓r_c0, ↓r_c1, ↓r_trb, ↓r_trn, ↓r_tri, ↓r_trt, ↓r_trl, ↓r_o0, ↓r_o1, ↓r_prt, ↓r_gn, ↓r_gt, ↓r_gl, ↓r_gs, ↓r_g0, ↓r_gc, ↓r_iv, ↓r_ir, ↓r_srt, ↓r_srl, ↓r_src, ↓r_rg1, ↓r_rg2, ↓r_ex, ↓r_asg, ↓r_setc, ↓r_par2, ↓r_asg2, ↓r_par3, ↓r_asg3, ↓r_rt, ↓r_rtN, ↓r_if, ↓r_loop, ↓r_turn, ↓r_for0, ↓r_forS, ↓r_fnx, ↓r_fct, ↓r_fbk, ↓r_frt, ↓r_pass, ↓r_brk, ↓r_cont, ↓r_doc, ↓r_never, ↓r_b0, ↓r_bc, ↓r_bf, ↓r_snx, ↓r_srr, ↓r_sbk, ↓r_sct, ↓r_runB, ↓r_ert, ↓r_enx, ↓r_add, ↓r_addT, ↓r_addL, ↓r_addS, ↓r_sub, ↓r_mul, ↓r_mod, ↓r_fdiv, ↓r_pow, ↓r_vneg, ↓r_vnot, ↓r_lt, ↓r_le, ↓r_gt', ↓r_ge, ↓r_eqI, ↓r_neI, ↓r_eqB, ↓r_neB, ↓r_eqL, ↓r_eqT, ↓r_eqS, ↓r_inL, ↓r_inT, ↓r_isN, ↓r_notN, ↓r_ixT0, ↓r_ixL0, ↓r_ixT1, ↓r_ixL1, ↓r_ixT2, ↓r_ixL2, ↓r_ixT3, ↓r_ixL3, ↓r_ixT3m, ↓r_ixC, ↓r_lenT, ↓r_lenL, ↓r_lenC, ↓r_isiI, ↓r_isiB, ↓r_isiN, ↓r_isiS, ↓r_isiT, ↓r_isiL, ↓r_abs, ↓r_min2, ↓r_min3, ↓r_max2, ↓r_max3, ↓r_minL, ↓r_maxL, ↓r_sumL, ↓r_allL, ↓r_anyL, ↓r_divm, ↓r_Tint, ↓r_Ttup, ↓r_Ttup', ↓r_Tlst, ↓r_Tlst', ↓r_slC, ↓r_slL, ↓r_slT, ↓r_ints0, ↓r_intsS, ↓r_bls0, ↓r_blsS, ↓r_ixR, ↓r_setR0, ↓r_setR1, ↓r_setR2, ↓r_frz0, ↓r_frzS, ↓r_isTR, ↓r_appR, ↓x_glob_0, ↓x_glob_1, ↓x_glob_2, ↓x_glob_3, ↓x_glob_4, ↓x_glob_5, ↓x_call_is_whole_0, ↓x_cf_is_whole_0, ↓x_call_is_between_0, ↓x_cf_is_between_0, ↓x_call_is_up_to_0, ↓x_cf_is_up_to_0, ↓x_call_is_tuple_of_0, ↓x_cf_is_tuple_of_0, ↓x_call_is_pair_0, ↓x_cf_is_pair_0, ↓x_call_is_cell_0, ↓x_cf_is_cell_0, ↓x_call_is_box_0, ↓x_cf_is_box_0, ↓x_call_is_point_0, ↓x_cf_is_point_0, ↓x_call_is_shape_0, ↓x_cf_is_shape_0, ↓x_call_is_stroke_0, ↓x_cf_is_stroke_0, ↓x_call_turn_at_0, ↓x_cf_turn_at_0, ↓x_call_is_in_corners_0, ↓x_cf_is_in_corners_0, ↓x_call_range_in_0, ↓x_cf_range_in_0, ↓x_call_cells_in_0, ↓x_cf_cells_in_0, ↓x_call_covers_by_0, ↓x_cf_covers_by_0, ↓x_call_check_stroke_0, ↓x_cf_check_stroke_0, ↓x_call_check_spot_0, ↓x_cf_check_spot_0, ↓x_call_covers_0, ↓x_cf_covers_0, ↓x_call_covers_1, ↓x_cf_covers_1, ↓x_call__law_pool_0, ↓x_cf__law_pool_0, ↓x_call__law_below_0, ↓x_cf__law_below_0, ↓x_call__law_one_0, ↓x_cf__law_one_0, ↓x_call__law_same_0_0, ↓x_cf__law_same_0_0, ↓x_call__law_same_0, ↓x_cf__law_same_0, ↓x_call__law_boxed_0, ↓x_cf__law_boxed_0, ↓x_call__law_in_box_0, ↓x_cf__law_in_box_0, ↓x_call__law_in_triangle_0, ↓x_cf__law_in_triangle_0, ↓x_call__law_covers_0, ↓x_cf__law_covers_0, ↓x_call__law_stroke_0, ↓x_cf__law_stroke_0, ↓x_call__law_right_0, ↓x_cf__law_right_0, ↓x_onStk, ↓x_onShp, ↓x_stk0, ↓x_is_whole, ↓x_is_between, ↓x_is_up_to, ↓x_is_tuple_of, ↓x_is_pair, ↓x_is_cell, ↓x_is_box, ↓x_is_point, ↓x_is_shape, ↓x_is_stroke, ↓x_turn_at, ↓x_is_in_corners, ↓x_range_in, ↓x_cells_in, ↓x_covers_by, ↓x_check_stroke, ↓x_check_spot, ↓x_covers, ↓x__law_below, ↓x__law_one, ↓x__law_stroke, ↓x__law_right, ↓x__law_pool, ↓x__law_same_0, ↓x__law_same2, ↓x__law_same4, ↓x__law_boxed, ↓x__law_in_box, ↓x__law_in_triangle, ↓x__law_covers, h, sizeLine]
    exact q
theorem le_is_stroke {x : PV} : M.le (C_is_stroke [x]) (d_is_stroke.den (g 4) [x]) := by
  refine le_onStk fun s h e => ?_
  subst e
  intro S Q E q
  have h' := h
  simp only [Stk.ok] at h
  have h2 : ((0 ≤ s.l ∧ s.l ≤ 24) ∧ (0 ≤ s.t ∧ s.t ≤ 24) ∧ (0 ≤ s.r ∧ s.r ≤ 24) ∧ (0 ≤ s.u ∧ s.u ≤ 24) ∧ s.l ≤ s.r ∧ s.t ≤ s.u) := by omega
  rw [den_eq (body := c_is_stroke) (env := [some (.tup [s.sh.pv, .int s.ink, .tup [.int s.l, .int s.t, .int s.r, .int s.u]])]) rfl rfl]
  unfold c_is_stroke
  simp [↓r_ret, ↓r_guard, ↓r_ofO, ↓r_noexc, ↓r_any, ↓k_set0, ↓k_setS, ↓k_wipe0, ↓k_wipeS, ↓k_app0, ↓k_appS, ↓k_cat0, ↓k_catS, ↓r_get0, ↓r_getS, ↓r_var, ↓r_int, ↓r_str, ↓r_bl, ↓r_non, ↓r_bty, ↓r_bin, ↓r_neg, ↓r_nt, ↓r_cmp, ↓r_chn, ↓r_tv, ↓r_b1, ↓r_and, ↓r_or, ↓r_ife, ↓r_tup, ↓r_lst, ↓r_own, ↓r_ix, ↓r_sl, ↓r_callB, ↓r_callT, ↓r_meth, ↓r_comp, ↓r_compO, ↓r_compF, ↓r_cm0, ↓r_cmS, ↓r_l0, ↓r_lc, ↓r_ls, ↓r_comp2, ↓r_compI, ↓r_compF2, ↓r_tnt, ↓r_tb1, ↓r_tand, ↓r_tor, ↓r_tcmp, ↓r_tchn, ↓r_ttv, ↓r_c0, ↓r_c1, ↓r_trb, ↓r_trn, ↓r_tri, ↓r_trt, ↓r_trl, ↓r_o0, ↓r_o1, ↓r_prt, ↓r_gn, ↓r_gt, ↓r_gl, ↓r_gs, ↓r_g0, ↓r_gc, ↓r_iv, ↓r_ir, ↓r_srt, ↓r_srl, ↓r_src, ↓r_rg1, ↓r_rg2, ↓r_ex, ↓r_asg, ↓r_setc, ↓r_par2, ↓r_asg2, ↓r_par3, ↓r_asg3, ↓r_rt, ↓r_rtN, ↓r_if, ↓r_loop, ↓r_turn, ↓r_for0, ↓r_forS, ↓r_fnx, ↓r_fct, ↓r_fbk, ↓r_frt, ↓r_pass, ↓r_brk, ↓r_cont, ↓r_doc, ↓r_never, ↓r_b0, ↓r_bc, ↓r_bf, ↓r_snx, ↓r_srr, ↓r_sbk, ↓r_sct, ↓r_runB, ↓r_ert, ↓r_enx, ↓r_add, ↓r_addT, ↓r_addL, ↓r_addS, ↓r_sub, ↓r_mul, ↓r_mod, ↓r_fdiv, ↓r_pow, ↓r_vneg, ↓r_vnot, ↓r_lt, ↓r_le, ↓r_gt', ↓r_ge, ↓r_eqI, ↓r_neI, ↓r_eqB, ↓r_neB, ↓r_eqL, ↓r_eqT, ↓r_eqS, ↓r_inL, ↓r_inT, ↓r_isN, ↓r_notN, ↓r_ixT0, ↓r_ixL0, ↓r_ixT1, ↓r_ixL1, ↓r_ixT2, ↓r_ixL2, ↓r_ixT3, ↓r_ixL3, ↓r_ixT3m, ↓r_ixC, ↓r_lenT, ↓r_lenL, ↓r_lenC, ↓r_isiI, ↓r_isiB, ↓r_isiN, ↓r_isiS, ↓r_isiT, ↓r_isiL, ↓r_abs, ↓r_min2, ↓r_min3, ↓r_max2, ↓r_max3, ↓r_minL, ↓r_maxL, ↓r_sumL, ↓r_allL, ↓r_anyL, ↓r_divm, ↓r_Tint, ↓r_Ttup, ↓r_Ttup', ↓r_Tlst, ↓r_Tlst', ↓r_slC, ↓r_slL, ↓r_slT, ↓r_ints0, ↓r_intsS, ↓r_bls0, ↓r_blsS, ↓r_ixR, ↓r_setR0, ↓r_setR1, ↓r_setR2, ↓r_frz0, ↓r_frzS, ↓r_isTR, ↓r_appR, ↓x_glob_0, ↓x_glob_1, ↓x_glob_2, ↓x_glob_3, ↓x_glob_4, ↓x_glob_5, ↓x_call_is_whole_0, ↓x_cf_is_whole_0, ↓x_call_is_between_0, ↓x_cf_is_between_0, ↓x_call_is_up_to_0, ↓x_cf_is_up_to_0, ↓x_call_is_tuple_of_0, ↓x_cf_is_tuple_of_0, ↓x_call_is_pair_0, ↓x_cf_is_pair_0, ↓x_call_is_cell_0, ↓x_cf_is_cell_0, ↓x_call_is_box_0, ↓x_cf_is_box_0, ↓x_call_is_point_0, ↓x_cf_is_point_0, ↓x_call_is_shape_0, ↓x_cf_is_shape_0, ↓x_call_is_stroke_0, ↓x_cf_is_stroke_0, ↓x_call_turn_at_0, ↓x_cf_turn_at_0, ↓x_call_is_in_corners_0, ↓x_cf_is_in_corners_0, ↓x_call_range_in_0, ↓x_cf_range_in_0, ↓x_call_cells_in_0, ↓x_cf_cells_in_0, ↓x_call_covers_by_0, ↓x_cf_covers_by_0, ↓x_call_check_stroke_0, ↓x_cf_check_stroke_0, ↓x_call_check_spot_0, ↓x_cf_check_spot_0, ↓x_call_covers_0, ↓x_cf_covers_0, ↓x_call_covers_1, ↓x_cf_covers_1, ↓x_call__law_pool_0, ↓x_cf__law_pool_0, ↓x_call__law_below_0, ↓x_cf__law_below_0, ↓x_call__law_one_0, ↓x_cf__law_one_0, ↓x_call__law_same_0_0, ↓x_cf__law_same_0_0, ↓x_call__law_same_0, ↓x_cf__law_same_0, ↓x_call__law_boxed_0, ↓x_cf__law_boxed_0, ↓x_call__law_in_box_0, ↓x_cf__law_in_box_0, ↓x_call__law_in_triangle_0, ↓x_cf__law_in_triangle_0, ↓x_call__law_covers_0, ↓x_cf__law_covers_0, ↓x_call__law_stroke_0, ↓x_cf__law_stroke_0, ↓x_call__law_right_0, ↓x_cf__law_right_0, ↓x_onStk, ↓x_onShp, ↓x_stk0, ↓x_is_whole, ↓x_is_between, ↓x_is_up_to, ↓x_is_tuple_of, ↓x_is_pair, ↓x_is_cell, ↓x_is_box, ↓x_is_point, ↓x_is_shape, ↓x_is_stroke, ↓x_turn_at, ↓x_is_in_corners, ↓x_range_in, ↓x_cells_in, ↓x_covers_by, ↓x_check_stroke, ↓x_check_spot, ↓x_covers, ↓x__law_below, ↓x__law_one, ↓x__law_stroke, ↓x__law_right, ↓x__law_pool, ↓x__law_same_0, ↓x__law_same2, ↓x__law_same4, ↓x__law_boxed, ↓x__law_in_box, ↓x__law_in_triangle, ↓x__law_covers, h2, h.1, h.2.1, sizeLine]
  exact q
theorem le_check_stroke {x : PV} : M.le (C_check_stroke [x]) (d_check_stroke.den (g 5) [x]) := by
  refine le_onStk fun s h e => ?_
  subst e
  intro S Q E q
  rw [den_eq (body := c_check_stroke) (env := [some (s.pv)]) rfl rfl]
  unfold c_check_stroke
  simp [↓r_ret, ↓r_guard, ↓r_ofO, ↓r_noexc, ↓r_any, ↓k_set0, ↓k_setS, ↓k_wipe0, ↓k_wipeS, ↓k_app0, ↓k_appS, ↓k_cat0, ↓k_catS, ↓r_get0, ↓r_getS, ↓r_var, ↓r_int, ↓r_str, ↓r_bl, ↓r_non, ↓r_bty, ↓r_bin, ↓r_neg, ↓r_nt, ↓r_cmp, ↓r_chn, ↓r_tv, ↓r_b1, ↓r_and, ↓r_or, ↓r_ife, ↓r_tup, ↓r_lst, ↓r_own, ↓r_ix, ↓r_sl, ↓r_callB, ↓r_callT, ↓r_meth, ↓r_comp, ↓r_compO, ↓r_compF, ↓r_cm0, ↓r_cmS, ↓r_l0, ↓r_lc, ↓r_ls, ↓r_comp2, ↓r_compI, ↓r_compF2, ↓r_tnt, ↓r_tb1, ↓r_tand, ↓r_tor, ↓r_tcmp, ↓r_tchn, ↓r_ttv, ↓r_c0, ↓r_c1, ↓r_trb, ↓r_trn, ↓r_tri, ↓r_trt, ↓r_trl, ↓r_o0, ↓r_o1, ↓r_prt, ↓r_gn, ↓r_gt, ↓r_gl, ↓r_gs, ↓r_g0, ↓r_gc, ↓r_iv, ↓r_ir, ↓r_srt, ↓r_srl, ↓r_src, ↓r_rg1, ↓r_rg2, ↓r_ex, ↓r_asg, ↓r_setc, ↓r_par2, ↓r_asg2, ↓r_par3, ↓r_asg3, ↓r_rt, ↓r_rtN, ↓r_if, ↓r_loop, ↓r_turn, ↓r_for0, ↓r_forS, ↓r_fnx, ↓r_fct, ↓r_fbk, ↓r_frt, ↓r_pass, ↓r_brk, ↓r_cont, ↓r_doc, ↓r_never, ↓r_b0, ↓r_bc, ↓r_bf, ↓r_snx, ↓r_srr, ↓r_sbk, ↓r_sct, ↓r_runB, ↓r_ert, ↓r_enx, ↓r_add, ↓r_addT, ↓r_addL, ↓r_addS, ↓r_sub, ↓r_mul, ↓r_mod, ↓r_fdiv, ↓r_pow, ↓r_vneg, ↓r_vnot, ↓r_lt, ↓r_le, ↓r_gt', ↓r_ge, ↓r_eqI, ↓r_neI, ↓r_eqB, ↓r_neB, ↓r_eqL, ↓r_eqT, ↓r_eqS, ↓r_inL, ↓r_inT, ↓r_isN, ↓r_notN, ↓r_ixT0, ↓r_ixL0, ↓r_ixT1, ↓r_ixL1, ↓r_ixT2, ↓r_ixL2, ↓r_ixT3, ↓r_ixL3, ↓r_ixT3m, ↓r_ixC, ↓r_lenT, ↓r_lenL, ↓r_lenC, ↓r_isiI, ↓r_isiB, ↓r_isiN, ↓r_isiS, ↓r_isiT, ↓r_isiL, ↓r_abs, ↓r_min2, ↓r_min3, ↓r_max2, ↓r_max3, ↓r_minL, ↓r_maxL, ↓r_sumL, ↓r_allL, ↓r_anyL, ↓r_divm, ↓r_Tint, ↓r_Ttup, ↓r_Ttup', ↓r_Tlst, ↓r_Tlst', ↓r_slC, ↓r_slL, ↓r_slT, ↓r_ints0, ↓r_intsS, ↓r_bls0, ↓r_blsS, ↓r_ixR, ↓r_setR0, ↓r_setR1, ↓r_setR2, ↓r_frz0, ↓r_frzS, ↓r_isTR, ↓r_appR, ↓x_glob_0, ↓x_glob_1, ↓x_glob_2, ↓x_glob_3, ↓x_glob_4, ↓x_glob_5, ↓x_call_is_whole_0, ↓x_cf_is_whole_0, ↓x_call_is_between_0, ↓x_cf_is_between_0, ↓x_call_is_up_to_0, ↓x_cf_is_up_to_0, ↓x_call_is_tuple_of_0, ↓x_cf_is_tuple_of_0, ↓x_call_is_pair_0, ↓x_cf_is_pair_0, ↓x_call_is_cell_0, ↓x_cf_is_cell_0, ↓x_call_is_box_0, ↓x_cf_is_box_0, ↓x_call_is_point_0, ↓x_cf_is_point_0, ↓x_call_is_shape_0, ↓x_cf_is_shape_0, ↓x_call_is_stroke_0, ↓x_cf_is_stroke_0, ↓x_call_turn_at_0, ↓x_cf_turn_at_0, ↓x_call_is_in_corners_0, ↓x_cf_is_in_corners_0, ↓x_call_range_in_0, ↓x_cf_range_in_0, ↓x_call_cells_in_0, ↓x_cf_cells_in_0, ↓x_call_covers_by_0, ↓x_cf_covers_by_0, ↓x_call_check_stroke_0, ↓x_cf_check_stroke_0, ↓x_call_check_spot_0, ↓x_cf_check_spot_0, ↓x_call_covers_0, ↓x_cf_covers_0, ↓x_call_covers_1, ↓x_cf_covers_1, ↓x_call__law_pool_0, ↓x_cf__law_pool_0, ↓x_call__law_below_0, ↓x_cf__law_below_0, ↓x_call__law_one_0, ↓x_cf__law_one_0, ↓x_call__law_same_0_0, ↓x_cf__law_same_0_0, ↓x_call__law_same_0, ↓x_cf__law_same_0, ↓x_call__law_boxed_0, ↓x_cf__law_boxed_0, ↓x_call__law_in_box_0, ↓x_cf__law_in_box_0, ↓x_call__law_in_triangle_0, ↓x_cf__law_in_triangle_0, ↓x_call__law_covers_0, ↓x_cf__law_covers_0, ↓x_call__law_stroke_0, ↓x_cf__law_stroke_0, ↓x_call__law_right_0, ↓x_cf__law_right_0, ↓x_onStk, ↓x_onShp, ↓x_stk0, ↓x_is_whole, ↓x_is_between, ↓x_is_up_to, ↓x_is_tuple_of, ↓x_is_pair, ↓x_is_cell, ↓x_is_box, ↓x_is_point, ↓x_is_shape, ↓x_is_stroke, ↓x_turn_at, ↓x_is_in_corners, ↓x_range_in, ↓x_cells_in, ↓x_covers_by, ↓x_check_stroke, ↓x_check_spot, ↓x_covers, ↓x__law_below, ↓x__law_one, ↓x__law_stroke, ↓x__law_right, ↓x__law_pool, ↓x__law_same_0, ↓x__law_same2, ↓x__law_same4, ↓x__law_boxed, ↓x__law_in_box, ↓x__law_in_triangle, ↓x__law_covers, h]
  exact q
theorem le_check_spot {a b : Int} : M.le (C_check_spot [.tup [.int a, .int b]]) (d_check_spot.den (g 4) [.tup [.int a, .int b]]) := by
  refine le_guard fun h S Q E q => ?_
  rw [den_eq (body := c_check_spot) (env := [some (.tup [.int a, .int b])]) rfl rfl]
  unfold c_check_spot
  simp [↓r_ret, ↓r_guard, ↓r_ofO, ↓r_noexc, ↓r_any, ↓k_set0, ↓k_setS, ↓k_wipe0, ↓k_wipeS, ↓k_app0, ↓k_appS, ↓k_cat0, ↓k_catS, ↓r_get0, ↓r_getS, ↓r_var, ↓r_int, ↓r_str, ↓r_bl, ↓r_non, ↓r_bty, ↓r_bin, ↓r_neg, ↓r_nt, ↓r_cmp, ↓r_chn, ↓r_tv, ↓r_b1, ↓r_and, ↓r_or, ↓r_ife, ↓r_tup, ↓r_lst, ↓r_own, ↓r_ix, ↓r_sl, ↓r_callB, ↓r_callT, ↓r_meth, ↓r_comp, ↓r_compO, ↓r_compF, ↓r_cm0, ↓r_cmS, ↓r_l0, ↓r_lc, ↓r_ls, ↓r_comp2, ↓r_compI, ↓r_compF2, ↓r_tnt, ↓r_tb1, ↓r_tand, ↓r_tor, ↓r_tcmp, ↓r_tchn, ↓r_ttv, ↓r_c0, ↓r_c1, ↓r_trb, ↓r_trn, ↓r_tri, ↓r_trt, ↓r_trl, ↓r_o0, ↓r_o1, ↓r_prt, ↓r_gn, ↓r_gt, ↓r_gl, ↓r_gs, ↓r_g0, ↓r_gc, ↓r_iv, ↓r_ir, ↓r_srt, ↓r_srl, ↓r_src, ↓r_rg1, ↓r_rg2, ↓r_ex, ↓r_asg, ↓r_setc, ↓r_par2, ↓r_asg2, ↓r_par3, ↓r_asg3, ↓r_rt, ↓r_rtN, ↓r_if, ↓r_loop, ↓r_turn, ↓r_for0, ↓r_forS, ↓r_fnx, ↓r_fct, ↓r_fbk, ↓r_frt, ↓r_pass, ↓r_brk, ↓r_cont, ↓r_doc, ↓r_never, ↓r_b0, ↓r_bc, ↓r_bf, ↓r_snx, ↓r_srr, ↓r_sbk, ↓r_sct, ↓r_runB, ↓r_ert, ↓r_enx, ↓r_add, ↓r_addT, ↓r_addL, ↓r_addS, ↓r_sub, ↓r_mul, ↓r_mod, ↓r_fdiv, ↓r_pow, ↓r_vneg, ↓r_vnot, ↓r_lt, ↓r_le, ↓r_gt', ↓r_ge, ↓r_eqI, ↓r_neI, ↓r_eqB, ↓r_neB, ↓r_eqL, ↓r_eqT, ↓r_eqS, ↓r_inL, ↓r_inT, ↓r_isN, ↓r_notN, ↓r_ixT0, ↓r_ixL0, ↓r_ixT1, ↓r_ixL1, ↓r_ixT2, ↓r_ixL2, ↓r_ixT3, ↓r_ixL3, ↓r_ixT3m, ↓r_ixC, ↓r_lenT, ↓r_lenL, ↓r_lenC, ↓r_isiI, ↓r_isiB, ↓r_isiN, ↓r_isiS, ↓r_isiT, ↓r_isiL, ↓r_abs, ↓r_min2, ↓r_min3, ↓r_max2, ↓r_max3, ↓r_minL, ↓r_maxL, ↓r_sumL, ↓r_allL, ↓r_anyL, ↓r_divm, ↓r_Tint, ↓r_Ttup, ↓r_Ttup', ↓r_Tlst, ↓r_Tlst', ↓r_slC, ↓r_slL, ↓r_slT, ↓r_ints0, ↓r_intsS, ↓r_bls0, ↓r_blsS, ↓r_ixR, ↓r_setR0, ↓r_setR1, ↓r_setR2, ↓r_frz0, ↓r_frzS, ↓r_isTR, ↓r_appR, ↓x_glob_0, ↓x_glob_1, ↓x_glob_2, ↓x_glob_3, ↓x_glob_4, ↓x_glob_5, ↓x_call_is_whole_0, ↓x_cf_is_whole_0, ↓x_call_is_between_0, ↓x_cf_is_between_0, ↓x_call_is_up_to_0, ↓x_cf_is_up_to_0, ↓x_call_is_tuple_of_0, ↓x_cf_is_tuple_of_0, ↓x_call_is_pair_0, ↓x_cf_is_pair_0, ↓x_call_is_cell_0, ↓x_cf_is_cell_0, ↓x_call_is_box_0, ↓x_cf_is_box_0, ↓x_call_is_point_0, ↓x_cf_is_point_0, ↓x_call_is_shape_0, ↓x_cf_is_shape_0, ↓x_call_is_stroke_0, ↓x_cf_is_stroke_0, ↓x_call_turn_at_0, ↓x_cf_turn_at_0, ↓x_call_is_in_corners_0, ↓x_cf_is_in_corners_0, ↓x_call_range_in_0, ↓x_cf_range_in_0, ↓x_call_cells_in_0, ↓x_cf_cells_in_0, ↓x_call_covers_by_0, ↓x_cf_covers_by_0, ↓x_call_check_stroke_0, ↓x_cf_check_stroke_0, ↓x_call_check_spot_0, ↓x_cf_check_spot_0, ↓x_call_covers_0, ↓x_cf_covers_0, ↓x_call_covers_1, ↓x_cf_covers_1, ↓x_call__law_pool_0, ↓x_cf__law_pool_0, ↓x_call__law_below_0, ↓x_cf__law_below_0, ↓x_call__law_one_0, ↓x_cf__law_one_0, ↓x_call__law_same_0_0, ↓x_cf__law_same_0_0, ↓x_call__law_same_0, ↓x_cf__law_same_0, ↓x_call__law_boxed_0, ↓x_cf__law_boxed_0, ↓x_call__law_in_box_0, ↓x_cf__law_in_box_0, ↓x_call__law_in_triangle_0, ↓x_cf__law_in_triangle_0, ↓x_call__law_covers_0, ↓x_cf__law_covers_0, ↓x_call__law_stroke_0, ↓x_cf__law_stroke_0, ↓x_call__law_right_0, ↓x_cf__law_right_0, ↓x_onStk, ↓x_onShp, ↓x_stk0, ↓x_is_whole, ↓x_is_between, ↓x_is_up_to, ↓x_is_tuple_of, ↓x_is_pair, ↓x_is_cell, ↓x_is_box, ↓x_is_point, ↓x_is_shape, ↓x_is_stroke, ↓x_turn_at, ↓x_is_in_corners, ↓x_range_in, ↓x_cells_in, ↓x_covers_by, ↓x_check_stroke, ↓x_check_spot, ↓x_covers, ↓x__law_below, ↓x__law_one, ↓x__law_stroke, ↓x__law_right, ↓x__law_pool, ↓x__law_same_0, ↓x__law_same2, ↓x__law_same4, ↓x__law_boxed, ↓x__law_in_box, ↓x__law_in_triangle, ↓x__law_covers, h]
  first | exact q | exact ⟨by omega, q⟩
theorem le_covers {x : PV} {r k : Int} : M.le (C_covers [x, .tup [.int r, .int k]]) (d_covers.den (g 6) [x, .tup [.int r, .int k]]) := by
  refine le_guard fun h => le_onStk fun s hs e => ?_
  subst e
  intro S Q E q
  rw [den_eq (body := c_covers) (env := [some (s.pv), some (.tup [.int r, .int k])]) rfl rfl]
  unfold c_covers
  simp [↓r_ret, ↓r_guard, ↓r_ofO, ↓r_noexc, ↓r_any, ↓k_set0, ↓k_setS, ↓k_wipe0, ↓k_wipeS, ↓k_app0, ↓k_appS, ↓k_cat0, ↓k_catS, ↓r_get0, ↓r_getS, ↓r_var, ↓r_int, ↓r_str, ↓r_bl, ↓r_non, ↓r_bty, ↓r_bin, ↓r_neg, ↓r_nt, ↓r_cmp, ↓r_chn, ↓r_tv, ↓r_b1, ↓r_and, ↓r_or, ↓r_ife, ↓r_tup, ↓r_lst, ↓r_own, ↓r_ix, ↓r_sl, ↓r_callB, ↓r_callT, ↓r_meth, ↓r_comp, ↓r_compO, ↓r_compF, ↓r_cm0, ↓r_cmS, ↓r_l0, ↓r_lc, ↓r_ls, ↓r_comp2, ↓r_compI, ↓r_compF2, ↓r_tnt, ↓r_tb1, ↓r_tand, ↓r_tor, ↓r_tcmp, ↓r_tchn, ↓r_ttv, ↓r_c0, ↓r_c1, ↓r_trb, ↓r_trn, ↓r_tri, ↓r_trt, ↓r_trl, ↓r_o0, ↓r_o1, ↓r_prt, ↓r_gn, ↓r_gt, ↓r_gl, ↓r_gs, ↓r_g0, ↓r_gc, ↓r_iv, ↓r_ir, ↓r_srt, ↓r_srl, ↓r_src, ↓r_rg1, ↓r_rg2, ↓r_ex, ↓r_asg, ↓r_setc, ↓r_par2, ↓r_asg2, ↓r_par3, ↓r_asg3, ↓r_rt, ↓r_rtN, ↓r_if, ↓r_loop, ↓r_turn, ↓r_for0, ↓r_forS, ↓r_fnx, ↓r_fct, ↓r_fbk, ↓r_frt, ↓r_pass, ↓r_brk, ↓r_cont, ↓r_doc, ↓r_never, ↓r_b0, ↓r_bc, ↓r_bf, ↓r_snx, ↓r_srr, ↓r_sbk, ↓r_sct, ↓r_runB, ↓r_ert, ↓r_enx, ↓r_add, ↓r_addT, ↓r_addL, ↓r_addS, ↓r_sub, ↓r_mul, ↓r_mod, ↓r_fdiv, ↓r_pow, ↓r_vneg, ↓r_vnot, ↓r_lt, ↓r_le, ↓r_gt', ↓r_ge, ↓r_eqI, ↓r_neI, ↓r_eqB, ↓r_neB, ↓r_eqL, ↓r_eqT, ↓r_eqS, ↓r_inL, ↓r_inT, ↓r_isN, ↓r_notN, ↓r_ixT0, ↓r_ixL0, ↓r_ixT1, ↓r_ixL1, ↓r_ixT2, ↓r_ixL2, ↓r_ixT3, ↓r_ixL3, ↓r_ixT3m, ↓r_ixC, ↓r_lenT, ↓r_lenL, ↓r_lenC, ↓r_isiI, ↓r_isiB, ↓r_isiN, ↓r_isiS, ↓r_isiT, ↓r_isiL, ↓r_abs, ↓r_min2, ↓r_min3, ↓r_max2, ↓r_max3, ↓r_minL, ↓r_maxL, ↓r_sumL, ↓r_allL, ↓r_anyL, ↓r_divm, ↓r_Tint, ↓r_Ttup, ↓r_Ttup', ↓r_Tlst, ↓r_Tlst', ↓r_slC, ↓r_slL, ↓r_slT, ↓r_ints0, ↓r_intsS, ↓r_bls0, ↓r_blsS, ↓r_ixR, ↓r_setR0, ↓r_setR1, ↓r_setR2, ↓r_frz0, ↓r_frzS, ↓r_isTR, ↓r_appR, ↓x_glob_0, ↓x_glob_1, ↓x_glob_2, ↓x_glob_3, ↓x_glob_4, ↓x_glob_5, ↓x_call_is_whole_0, ↓x_cf_is_whole_0, ↓x_call_is_between_0, ↓x_cf_is_between_0, ↓x_call_is_up_to_0, ↓x_cf_is_up_to_0, ↓x_call_is_tuple_of_0, ↓x_cf_is_tuple_of_0, ↓x_call_is_pair_0, ↓x_cf_is_pair_0, ↓x_call_is_cell_0, ↓x_cf_is_cell_0, ↓x_call_is_box_0, ↓x_cf_is_box_0, ↓x_call_is_point_0, ↓x_cf_is_point_0, ↓x_call_is_shape_0, ↓x_cf_is_shape_0, ↓x_call_is_stroke_0, ↓x_cf_is_stroke_0, ↓x_call_turn_at_0, ↓x_cf_turn_at_0, ↓x_call_is_in_corners_0, ↓x_cf_is_in_corners_0, ↓x_call_range_in_0, ↓x_cf_range_in_0, ↓x_call_cells_in_0, ↓x_cf_cells_in_0, ↓x_call_covers_by_0, ↓x_cf_covers_by_0, ↓x_call_check_stroke_0, ↓x_cf_check_stroke_0, ↓x_call_check_spot_0, ↓x_cf_check_spot_0, ↓x_call_covers_0, ↓x_cf_covers_0, ↓x_call_covers_1, ↓x_cf_covers_1, ↓x_call__law_pool_0, ↓x_cf__law_pool_0, ↓x_call__law_below_0, ↓x_cf__law_below_0, ↓x_call__law_one_0, ↓x_cf__law_one_0, ↓x_call__law_same_0_0, ↓x_cf__law_same_0_0, ↓x_call__law_same_0, ↓x_cf__law_same_0, ↓x_call__law_boxed_0, ↓x_cf__law_boxed_0, ↓x_call__law_in_box_0, ↓x_cf__law_in_box_0, ↓x_call__law_in_triangle_0, ↓x_cf__law_in_triangle_0, ↓x_call__law_covers_0, ↓x_cf__law_covers_0, ↓x_call__law_stroke_0, ↓x_cf__law_stroke_0, ↓x_call__law_right_0, ↓x_cf__law_right_0, ↓x_onStk, ↓x_onShp, ↓x_stk0, ↓x_is_whole, ↓x_is_between, ↓x_is_up_to, ↓x_is_tuple_of, ↓x_is_pair, ↓x_is_cell, ↓x_is_box, ↓x_is_point, ↓x_is_shape, ↓x_is_stroke, ↓x_turn_at, ↓x_is_in_corners, ↓x_range_in, ↓x_cells_in, ↓x_covers_by, ↓x_check_stroke, ↓x_check_spot, ↓x_covers, ↓x__law_below, ↓x__law_one, ↓x__law_stroke, ↓x__law_right, ↓x__law_pool, ↓x__law_same_0, ↓x__law_same2, ↓x__law_same4, ↓x__law_boxed, ↓x__law_in_box, ↓x__law_in_triangle, ↓x__law_covers, h, hs]
  exact q
theorem le_turn_at {a b c d e f : Int} : M.le (C_turn_at [.tup [.int a, .int b], .tup [.int c, .int d], .tup [.int e, .int f]]) (d_turn_at.den (g 0) [.tup [.int a, .int b], .tup [.int c, .int d], .tup [.int e, .int f]]) := by
  refine le_guard fun h S Q E q => ?_
  simp only [sm] at h
  have m1 : CMulA (c - a) (f - b) := mulA (by omega)
  have m2 : CMulA (d - b) (e - a) := mulA (by omega)
  rw [den_eq (body := c_turn_at) (env := [some (.tup [.int a, .int b]), some (.tup [.int c, .int d]), some (.tup [.int e, .int f]), none, none, none, none]) rfl rfl]
  unfold c_turn_at
  simp [↓r_ret, ↓r_guard, ↓r_ofO, ↓r_noexc, ↓r_any, ↓k_set0, ↓k_setS, ↓k_wipe0, ↓k_wipeS, ↓k_app0, ↓k_appS, ↓k_cat0, ↓k_catS, ↓r_get0, ↓r_getS, ↓r_var, ↓r_int, ↓r_str, ↓r_bl, ↓r_non, ↓r_bty, ↓r_bin, ↓r_neg, ↓r_nt, ↓r_cmp, ↓r_chn, ↓r_tv, ↓r_b1, ↓r_and, ↓r_or, ↓r_ife, ↓r_tup, ↓r_lst, ↓r_own, ↓r_ix, ↓r_sl, ↓r_callB, ↓r_callT, ↓r_meth, ↓r_comp, ↓r_compO, ↓r_compF, ↓r_cm0, ↓r_cmS, ↓r_l0, ↓r_lc, ↓r_ls, ↓r_comp2, ↓r_compI, ↓r_compF2, ↓r_tnt, ↓r_tb1, ↓r_tand, ↓r_tor, ↓r_tcmp, ↓r_tchn, ↓r_ttv, ↓r_c0, ↓r_c1, ↓r_trb, ↓r_trn, ↓r_tri, ↓r_trt, ↓r_trl, ↓r_o0, ↓r_o1, ↓r_prt, ↓r_gn, ↓r_gt, ↓r_gl, ↓r_gs, ↓r_g0, ↓r_gc, ↓r_iv, ↓r_ir, ↓r_srt, ↓r_srl, ↓r_src, ↓r_rg1, ↓r_rg2, ↓r_ex, ↓r_asg, ↓r_setc, ↓r_par2, ↓r_asg2, ↓r_par3, ↓r_asg3, ↓r_rt, ↓r_rtN, ↓r_if, ↓r_loop, ↓r_turn, ↓r_for0, ↓r_forS, ↓r_fnx, ↓r_fct, ↓r_fbk, ↓r_frt, ↓r_pass, ↓r_brk, ↓r_cont, ↓r_doc, ↓r_never, ↓r_b0, ↓r_bc, ↓r_bf, ↓r_snx, ↓r_srr, ↓r_sbk, ↓r_sct, ↓r_runB, ↓r_ert, ↓r_enx, ↓r_add, ↓r_addT, ↓r_addL, ↓r_addS, ↓r_sub, ↓r_mul, ↓r_mod, ↓r_fdiv, ↓r_pow, ↓r_vneg, ↓r_vnot, ↓r_lt, ↓r_le, ↓r_gt', ↓r_ge, ↓r_eqI, ↓r_neI, ↓r_eqB, ↓r_neB, ↓r_eqL, ↓r_eqT, ↓r_eqS, ↓r_inL, ↓r_inT, ↓r_isN, ↓r_notN, ↓r_ixT0, ↓r_ixL0, ↓r_ixT1, ↓r_ixL1, ↓r_ixT2, ↓r_ixL2, ↓r_ixT3, ↓r_ixL3, ↓r_ixT3m, ↓r_ixC, ↓r_lenT, ↓r_lenL, ↓r_lenC, ↓r_isiI, ↓r_isiB, ↓r_isiN, ↓r_isiS, ↓r_isiT, ↓r_isiL, ↓r_abs, ↓r_min2, ↓r_min3, ↓r_max2, ↓r_max3, ↓r_minL, ↓r_maxL, ↓r_sumL, ↓r_allL, ↓r_anyL, ↓r_divm, ↓r_Tint, ↓r_Ttup, ↓r_Ttup', ↓r_Tlst, ↓r_Tlst', ↓r_slC, ↓r_slL, ↓r_slT, ↓r_ints0, ↓r_intsS, ↓r_bls0, ↓r_blsS, ↓r_ixR, ↓r_setR0, ↓r_setR1, ↓r_setR2, ↓r_frz0, ↓r_frzS, ↓r_isTR, ↓r_appR, ↓x_glob_0, ↓x_glob_1, ↓x_glob_2, ↓x_glob_3, ↓x_glob_4, ↓x_glob_5, ↓x_call_is_whole_0, ↓x_cf_is_whole_0, ↓x_call_is_between_0, ↓x_cf_is_between_0, ↓x_call_is_up_to_0, ↓x_cf_is_up_to_0, ↓x_call_is_tuple_of_0, ↓x_cf_is_tuple_of_0, ↓x_call_is_pair_0, ↓x_cf_is_pair_0, ↓x_call_is_cell_0, ↓x_cf_is_cell_0, ↓x_call_is_box_0, ↓x_cf_is_box_0, ↓x_call_is_point_0, ↓x_cf_is_point_0, ↓x_call_is_shape_0, ↓x_cf_is_shape_0, ↓x_call_is_stroke_0, ↓x_cf_is_stroke_0, ↓x_call_turn_at_0, ↓x_cf_turn_at_0, ↓x_call_is_in_corners_0, ↓x_cf_is_in_corners_0, ↓x_call_range_in_0, ↓x_cf_range_in_0, ↓x_call_cells_in_0, ↓x_cf_cells_in_0, ↓x_call_covers_by_0, ↓x_cf_covers_by_0, ↓x_call_check_stroke_0, ↓x_cf_check_stroke_0, ↓x_call_check_spot_0, ↓x_cf_check_spot_0, ↓x_call_covers_0, ↓x_cf_covers_0, ↓x_call_covers_1, ↓x_cf_covers_1, ↓x_call__law_pool_0, ↓x_cf__law_pool_0, ↓x_call__law_below_0, ↓x_cf__law_below_0, ↓x_call__law_one_0, ↓x_cf__law_one_0, ↓x_call__law_same_0_0, ↓x_cf__law_same_0_0, ↓x_call__law_same_0, ↓x_cf__law_same_0, ↓x_call__law_boxed_0, ↓x_cf__law_boxed_0, ↓x_call__law_in_box_0, ↓x_cf__law_in_box_0, ↓x_call__law_in_triangle_0, ↓x_cf__law_in_triangle_0, ↓x_call__law_covers_0, ↓x_cf__law_covers_0, ↓x_call__law_stroke_0, ↓x_cf__law_stroke_0, ↓x_call__law_right_0, ↓x_cf__law_right_0, ↓x_onStk, ↓x_onShp, ↓x_stk0, ↓x_is_whole, ↓x_is_between, ↓x_is_up_to, ↓x_is_tuple_of, ↓x_is_pair, ↓x_is_cell, ↓x_is_box, ↓x_is_point, ↓x_is_shape, ↓x_is_stroke, ↓x_turn_at, ↓x_is_in_corners, ↓x_range_in, ↓x_cells_in, ↓x_covers_by, ↓x_check_stroke, ↓x_check_spot, ↓x_covers, ↓x__law_below, ↓x__law_one, ↓x__law_stroke, ↓x__law_right, ↓x__law_pool, ↓x__law_same_0, ↓x__law_same2, ↓x__law_same4, ↓x__law_boxed, ↓x__law_in_box, ↓x__law_in_triangle, ↓x__law_covers, m1, m2, sizeLine]
  have q : Q (.int (turnAt a b c d e f)) S := q
  revert q
  unfold turnAt sgn
  generalize (c - a) * (f - b) = p
  generalize (d - b) * (e - a) = q
  by_cases h1 : p - q = 0 <;> by_cases h2 : d - b = 0 <;> by_cases h3 : c - a = 0 <;> by_cases h4 : a < c <;> by_cases h5 : d - b < 0 <;> by_cases h6 : q < p <;> simp [h1, h2, h3, h4, h5, h6] <;> omega
theorem le_is_in_corners {a b c d e f x y : Int} : M.le (C_is_in_corners [.lst [.tup [.int a, .int b], .tup [.int c, .int d], .tup [.int e, .int f]], .tup [.int x, .int y]]) (d_is_in_corners.den (g 1) [.lst [.tup [.int a, .int b], .tup [.int c, .int d], .tup [.int e, .int f]], .tup [.int x, .int y]]) := by
  refine le_guard fun h S Q E q => ?_
  have h' := h
  simp only [sm] at h
  have m1 : CMulA (c - a) (f - b) := mulA (by omega)
  have m2 : CMulA (d - b) (e - a) := mulA (by omega)
  have q : Q (.bl (inTri a b c d e f x y)) S := q
  rw [den_eq (body := c_is_in_corners) (env := [some (.lst [.tup [.int a, .int b], .tup [.int c, .int d], .tup [.int e, .int f]]), some (.tup [.int x, .int y]), none, none, none, none, none, none]) rfl rfl]
  unfold c_is_in_corners
  simp [↓r_ret, ↓r_guard, ↓r_ofO, ↓r_noexc, ↓r_any, ↓k_set0, ↓k_setS, ↓k_wipe0, ↓k_wipeS, ↓k_app0, ↓k_appS, ↓k_cat0, ↓k_catS, ↓r_get0, ↓r_getS, ↓r_var, ↓r_int, ↓r_str, ↓r_bl, ↓r_non, ↓r_bty, ↓r_bin, ↓r_neg, ↓r_nt, ↓r_cmp, ↓r_chn, ↓r_tv, ↓r_b1, ↓r_and, ↓r_or, ↓r_ife, ↓r_tup, ↓r_lst, ↓r_own, ↓r_ix, ↓r_sl, ↓r_callB, ↓r_callT, ↓r_meth, ↓r_comp, ↓r_compO, ↓r_compF, ↓r_cm0, ↓r_cmS, ↓r_l0, ↓r_lc, ↓r_ls, ↓r_comp2, ↓r_compI, ↓r_compF2, ↓r_tnt, ↓r_tb1, ↓r_tand, ↓r_tor, ↓r_tcmp, ↓r_tchn, ↓r_ttv, ↓r_c0, ↓r_c1, ↓r_trb, ↓r_trn, ↓r_tri, ↓r_trt, ↓r_trl, ↓r_o0, ↓r_o1, ↓r_prt, ↓r_gn, ↓r_gt, ↓r_gl, ↓r_gs, ↓r_g0, ↓r_gc, ↓r_iv, ↓r_ir, ↓r_srt, ↓r_srl, ↓r_src, ↓r_rg1, ↓r_rg2, ↓r_ex, ↓r_asg, ↓r_setc, ↓r_par2, ↓r_asg2, ↓r_par3, ↓r_asg3, ↓r_rt, ↓r_rtN, ↓r_if, ↓r_loop, ↓r_turn, ↓r_for0, ↓r_forS, ↓r_fnx, ↓r_fct, ↓r_fbk, ↓r_frt, ↓r_pass, ↓r_brk, ↓r_cont, ↓r_doc, ↓r_never, ↓r_b0, ↓r_bc, ↓r_bf, ↓r_snx, ↓r_srr, ↓r_sbk, ↓r_sct, ↓r_runB, ↓r_ert, ↓r_enx, ↓r_add, ↓r_addT, ↓r_addL, ↓r_addS, ↓r_sub, ↓r_mul, ↓r_mod, ↓r_fdiv, ↓r_pow, ↓r_vneg, ↓r_vnot, ↓r_lt, ↓r_le, ↓r_gt', ↓r_ge, ↓r_eqI, ↓r_neI, ↓r_eqB, ↓r_neB, ↓r_eqL, ↓r_eqT, ↓r_eqS, ↓r_inL, ↓r_inT, ↓r_isN, ↓r_notN, ↓r_ixT0, ↓r_ixL0, ↓r_ixT1, ↓r_ixL1, ↓r_ixT2, ↓r_ixL2, ↓r_ixT3, ↓r_ixL3, ↓r_ixT3m, ↓r_ixC, ↓r_lenT, ↓r_lenL, ↓r_lenC, ↓r_isiI, ↓r_isiB, ↓r_isiN, ↓r_isiS, ↓r_isiT, ↓r_isiL, ↓r_abs, ↓r_min2, ↓r_min3, ↓r_max2, ↓r_max3, ↓r_minL, ↓r_maxL, ↓r_sumL, ↓r_allL, ↓r_anyL, ↓r_divm, ↓r_Tint, ↓r_Ttup, ↓r_Ttup', ↓r_Tlst, ↓r_Tlst', ↓r_slC, ↓r_slL, ↓r_slT, ↓r_ints0, ↓r_intsS, ↓r_bls0, ↓r_blsS, ↓r_ixR, ↓r_setR0, ↓r_setR1, ↓r_setR2, ↓r_frz0, ↓r_frzS, ↓r_isTR, ↓r_appR, ↓x_glob_0, ↓x_glob_1, ↓x_glob_2, ↓x_glob_3, ↓x_glob_4, ↓x_glob_5, ↓x_call_is_whole_0, ↓x_cf_is_whole_0, ↓x_call_is_between_0, ↓x_cf_is_between_0, ↓x_call_is_up_to_0, ↓x_cf_is_up_to_0, ↓x_call_is_tuple_of_0, ↓x_cf_is_tuple_of_0, ↓x_call_is_pair_0, ↓x_cf_is_pair_0, ↓x_call_is_cell_0, ↓x_cf_is_cell_0, ↓x_call_is_box_0, ↓x_cf_is_box_0, ↓x_call_is_point_0, ↓x_cf_is_point_0, ↓x_call_is_shape_0, ↓x_cf_is_shape_0, ↓x_call_is_stroke_0, ↓x_cf_is_stroke_0, ↓x_call_turn_at_0, ↓x_cf_turn_at_0, ↓x_call_is_in_corners_0, ↓x_cf_is_in_corners_0, ↓x_call_range_in_0, ↓x_cf_range_in_0, ↓x_call_cells_in_0, ↓x_cf_cells_in_0, ↓x_call_covers_by_0, ↓x_cf_covers_by_0, ↓x_call_check_stroke_0, ↓x_cf_check_stroke_0, ↓x_call_check_spot_0, ↓x_cf_check_spot_0, ↓x_call_covers_0, ↓x_cf_covers_0, ↓x_call_covers_1, ↓x_cf_covers_1, ↓x_call__law_pool_0, ↓x_cf__law_pool_0, ↓x_call__law_below_0, ↓x_cf__law_below_0, ↓x_call__law_one_0, ↓x_cf__law_one_0, ↓x_call__law_same_0_0, ↓x_cf__law_same_0_0, ↓x_call__law_same_0, ↓x_cf__law_same_0, ↓x_call__law_boxed_0, ↓x_cf__law_boxed_0, ↓x_call__law_in_box_0, ↓x_cf__law_in_box_0, ↓x_call__law_in_triangle_0, ↓x_cf__law_in_triangle_0, ↓x_call__law_covers_0, ↓x_cf__law_covers_0, ↓x_call__law_stroke_0, ↓x_cf__law_stroke_0, ↓x_call__law_right_0, ↓x_cf__law_right_0, ↓x_onStk, ↓x_onShp, ↓x_stk0, ↓x_is_whole, ↓x_is_between, ↓x_is_up_to, ↓x_is_tuple_of, ↓x_is_pair, ↓x_is_cell, ↓x_is_box, ↓x_is_point, ↓x_is_shape, ↓x_is_stroke, ↓x_turn_at, ↓x_is_in_corners, ↓x_range_in, ↓x_cells_in, ↓x_covers_by, ↓x_check_stroke, ↓x_check_spot, ↓x_covers, ↓x__law_below, ↓x__law_one, ↓x__law_stroke, ↓x__law_right, ↓x__law_pool, ↓x__law_same_0, ↓x__law_same2, ↓x__law_same4, ↓x__law_boxed, ↓x__law_in_box, ↓x__law_in_triangle, ↓x__law_covers, m1, m2, h', lenTs, sizeLine, fine2, PV.fine, PV.fineL, PV.eqv, PV.eqvL]
  revert q
  unfold inTri areaOf
  generalize turnAt a b c d x y = t1
  generalize turnAt c d e f x y = t2
  generalize turnAt e f a b x y = t3
  generalize (c - a) * (f - b) = p
  generalize (d - b) * (e - a) = q
  by_cases h1 : p - q = 0
  · have h2 : ¬ q < p := by omega
    simp [h1, h2]
  · by_cases h2 : q < p
    · have h3 : 0 < p - q := by omega
      simp [h1, h2, h3, ibeq, Bool.and_assoc]
    · have h3 : ¬ 0 < p - q := by omega
      simp [h1, h2, h3, ibeq, Bool.and_assoc]
end Dp.L

namespace Dp.L
open PySem PySem.Spec L2 Dp
open PyProof.Rows hiding St
theorem le_range_in {x : PV} {w f l : Int} : M.le (C_range_in [x, .int w, .int f, .int l]) (d_range_in.den (g 0) [x, .int w, .int f, .int l]) := by
  refine le_onStk fun s h e => ?_
  intro S Q E q
  rw [den_eq (body := c_range_in) (env := [some (x), some (.int w), some (.int f), some (.int l), none, none, none, none, none, none, none, none, none, none, none]) rfl rfl]
  unfold c_range_in
  subst e
  cases s with | mk sh ink l' t r u =>
  cases sh with
  | box a b c d =>
    simp only [Stk.pv, Shp.pv]
    simp [↓r_ret, ↓r_guard, ↓r_ofO, ↓r_noexc, ↓r_any, ↓k_set0, ↓k_setS, ↓k_wipe0, ↓k_wipeS, ↓k_app0, ↓k_appS, ↓k_cat0, ↓k_catS, ↓r_get0, ↓r_getS, ↓r_var, ↓r_int, ↓r_str, ↓r_bl, ↓r_non, ↓r_bty, ↓r_bin, ↓r_neg, ↓r_nt, ↓r_cmp, ↓r_chn, ↓r_tv, ↓r_b1, ↓r_and, ↓r_or, ↓r_ife, ↓r_tup, ↓r_lst, ↓r_own, ↓r_ix, ↓r_sl, ↓r_callB, ↓r_callT, ↓r_meth, ↓r_comp, ↓r_compO, ↓r_compF, ↓r_cm0, ↓r_cmS, ↓r_l0, ↓r_lc, ↓r_ls, ↓r_comp2, ↓r_compI, ↓r_compF2, ↓r_tnt, ↓r_tb1, ↓r_tand, ↓r_tor, ↓r_tcmp, ↓r_tchn, ↓r_ttv, ↓r_c0, ↓r_c1, ↓r_trb, ↓r_trn, ↓r_tri, ↓r_trt, ↓r_trl, ↓r_o0, ↓r_o1, ↓r_prt, ↓r_gn, ↓r_gt, ↓r_gl, ↓r_gs, ↓r_g0, ↓r_gc, ↓r_iv, ↓r_ir, ↓r_srt, ↓r_srl, ↓r_src, ↓r_rg1, ↓r_rg2, ↓r_ex, ↓r_asg, ↓r_setc, ↓r_par2, ↓r_asg2, ↓r_par3, ↓r_asg3, ↓r_rt, ↓r_rtN, ↓r_if, ↓r_loop, ↓r_turn, ↓r_for0, ↓r_forS, ↓r_fnx, ↓r_fct, ↓r_fbk, ↓r_frt, ↓r_pass, ↓r_brk, ↓r_cont, ↓r_doc, ↓r_never, ↓r_b0, ↓r_bc, ↓r_bf, ↓r_snx, ↓r_srr, ↓r_sbk, ↓r_sct, ↓r_runB, ↓r_ert, ↓r_enx, ↓r_add, ↓r_addT, ↓r_addL, ↓r_addS, ↓r_sub, ↓r_mul, ↓r_mod, ↓r_fdiv, ↓r_pow, ↓r_vneg, ↓r_vnot, ↓r_lt, ↓r_le, ↓r_gt', ↓r_ge, ↓r_eqI, ↓r_neI, ↓r_eqB, ↓r_neB, ↓r_eqL, ↓r_eqT, ↓r_eqS, ↓r_inL, ↓r_inT, ↓r_isN, ↓r_notN, ↓r_ixT0, ↓r_ixL0, ↓r_ixT1, ↓r_ixL1, ↓r_ixT2, ↓r_ixL2, ↓r_ixT3, ↓r_ixL3, ↓r_ixT3m, ↓r_ixC, ↓r_lenT, ↓r_lenL, ↓r_lenC, ↓r_isiI, ↓r_isiB, ↓r_isiN, ↓r_isiS, ↓r_isiT, ↓r_isiL, ↓r_abs, ↓r_min2, ↓r_min3, ↓r_max2, ↓r_max3, ↓r_minL, ↓r_maxL, ↓r_sumL, ↓r_allL, ↓r_anyL, ↓r_divm, ↓r_Tint, ↓r_Ttup, ↓r_Ttup', ↓r_Tlst, ↓r_Tlst', ↓r_slC, ↓r_slL, ↓r_slT, ↓r_ints0, ↓r_intsS, ↓r_bls0, ↓r_blsS, ↓r_ixR, ↓r_setR0, ↓r_setR1, ↓r_setR2, ↓r_frz0, ↓r_frzS, ↓r_isTR, ↓r_appR, ↓x_glob_0, ↓x_glob_1, ↓x_glob_2, ↓x_glob_3, ↓x_glob_4, ↓x_glob_5, ↓x_call_is_whole_0, ↓x_cf_is_whole_0, ↓x_call_is_between_0, ↓x_cf_is_between_0, ↓x_call_is_up_to_0, ↓x_cf_is_up_to_0, ↓x_call_is_tuple_of_0, ↓x_cf_is_tuple_of_0, ↓x_call_is_pair_0, ↓x_cf_is_pair_0, ↓x_call_is_cell_0, ↓x_cf_is_cell_0, ↓x_call_is_box_0, ↓x_cf_is_box_0, ↓x_call_is_point_0, ↓x_cf_is_point_0, ↓x_call_is_shape_0, ↓x_cf_is_shape_0, ↓x_call_is_stroke_0, ↓x_cf_is_stroke_0, ↓x_call_turn_at_0, ↓x_cf_turn_at_0, ↓x_call_is_in_corners_0, ↓x_cf_is_in_corners_0, ↓x_call_range_in_0, ↓x_cf_range_in_0, ↓x_call_cells_in_0, ↓x_cf_cells_in_0, ↓x_call_covers_by_0, ↓x_cf_covers_by_0, ↓x_call_check_stroke_0, ↓x_cf_check_stroke_0, ↓x_call_check_spot_0, ↓x_cf_check_spot_0, ↓x_call_covers_0, ↓x_cf_covers_0, ↓x_call_covers_1, ↓x_cf_covers_1, ↓x_call__law_pool_0, ↓x_cf__law_pool_0, ↓x_call__law_below_0, ↓x_cf__law_below_0, ↓x_call__law_one_0, ↓x_cf__law_one_0, ↓x_call__law_same_0_0, ↓x_cf__law_same_0_0, ↓x_call__law_same_0, ↓x_cf__law_same_0, ↓x_call__law_boxed_0, ↓x_cf__law_boxed_0, ↓x_call__law_in_box_0, ↓x_cf__law_in_box_0, ↓x_call__law_in_triangle_0, ↓x_cf__law_in_triangle_0, ↓x_call__law_covers_0, ↓x_cf__law_covers_0, ↓x_call__law_stroke_0, ↓x_cf__law_stroke_0, ↓x_call__law_right_0, ↓x_cf__law_right_0, ↓x_onStk, ↓x_onShp, ↓x_stk0, ↓x_is_whole, ↓x_is_between, ↓x_is_up_to, ↓x_is_tuple_of, ↓x_is_pair, ↓x_is_cell, ↓x_is_box, ↓x_is_point, ↓x_is_shape, ↓x_is_stroke, ↓x_turn_at, ↓x_is_in_corners, ↓x_range_in, ↓x_cells_in, ↓x_covers_by, ↓x_check_stroke, ↓x_check_spot, ↓x_covers, ↓x__law_below, ↓x__law_one, ↓x__law_stroke, ↓x__law_right, ↓x__law_pool, ↓x__law_same_0, ↓x__law_same2, ↓x__law_same4, ↓x__law_boxed, ↓x__law_in_box, ↓x__law_in_triangle, ↓x__law_covers, lenTs, sizeLine]
    simp [minL, maxL]
    have q : Q (.tup [.tup [.int (max f (max t (min b d))), .int (min l (min u (max b d)))], .tup [.int (max 0 (max l' (min a c))), .int (min w (min r (max a c)))]]) S := q
    exact q
  | tri a b c d e f' =>
    simp only [Stk.pv, Shp.pv]
    simp [↓r_ret, ↓r_guard, ↓r_ofO, ↓r_noexc, ↓r_any, ↓k_set0, ↓k_setS, ↓k_wipe0, ↓k_wipeS, ↓k_app0, ↓k_appS, ↓k_cat0, ↓k_catS, ↓r_get0, ↓r_getS, ↓r_var, ↓r_int, ↓r_str, ↓r_bl, ↓r_non, ↓r_bty, ↓r_bin, ↓r_neg, ↓r_nt, ↓r_cmp, ↓r_chn, ↓r_tv, ↓r_b1, ↓r_and, ↓r_or, ↓r_ife, ↓r_tup, ↓r_lst, ↓r_own, ↓r_ix, ↓r_sl, ↓r_callB, ↓r_callT, ↓r_meth, ↓r_comp, ↓r_compO, ↓r_compF, ↓r_cm0, ↓r_cmS, ↓r_l0, ↓r_lc, ↓r_ls, ↓r_comp2, ↓r_compI, ↓r_compF2, ↓r_tnt, ↓r_tb1, ↓r_tand, ↓r_tor, ↓r_tcmp, ↓r_tchn, ↓r_ttv, ↓r_c0, ↓r_c1, ↓r_trb, ↓r_trn, ↓r_tri, ↓r_trt, ↓r_trl, ↓r_o0, ↓r_o1, ↓r_prt, ↓r_gn, ↓r_gt, ↓r_gl, ↓r_gs, ↓r_g0, ↓r_gc, ↓r_iv, ↓r_ir, ↓r_srt, ↓r_srl, ↓r_src, ↓r_rg1, ↓r_rg2, ↓r_ex, ↓r_asg, ↓r_setc, ↓r_par2, ↓r_asg2, ↓r_par3, ↓r_asg3, ↓r_rt, ↓r_rtN, ↓r_if, ↓r_loop, ↓r_turn, ↓r_for0, ↓r_forS, ↓r_fnx, ↓r_fct, ↓r_fbk, ↓r_frt, ↓r_pass, ↓r_brk, ↓r_cont, ↓r_doc, ↓r_never, ↓r_b0, ↓r_bc, ↓r_bf, ↓r_snx, ↓r_srr, ↓r_sbk, ↓r_sct, ↓r_runB, ↓r_ert, ↓r_enx, ↓r_add, ↓r_addT, ↓r_addL, ↓r_addS, ↓r_sub, ↓r_mul, ↓r_mod, ↓r_fdiv, ↓r_pow, ↓r_vneg, ↓r_vnot, ↓r_lt, ↓r_le, ↓r_gt', ↓r_ge, ↓r_eqI, ↓r_neI, ↓r_eqB, ↓r_neB, ↓r_eqL, ↓r_eqT, ↓r_eqS, ↓r_inL, ↓r_inT, ↓r_isN, ↓r_notN, ↓r_ixT0, ↓r_ixL0, ↓r_ixT1, ↓r_ixL1, ↓r_ixT2, ↓r_ixL2, ↓r_ixT3, ↓r_ixL3, ↓r_ixT3m, ↓r_ixC, ↓r_lenT, ↓r_lenL, ↓r_lenC, ↓r_isiI, ↓r_isiB, ↓r_isiN, ↓r_isiS, ↓r_isiT, ↓r_isiL, ↓r_abs, ↓r_min2, ↓r_min3, ↓r_max2, ↓r_max3, ↓r_minL, ↓r_maxL, ↓r_sumL, ↓r_allL, ↓r_anyL, ↓r_divm, ↓r_Tint, ↓r_Ttup, ↓r_Ttup', ↓r_Tlst, ↓r_Tlst', ↓r_slC, ↓r_slL, ↓r_slT, ↓r_ints0, ↓r_intsS, ↓r_bls0, ↓r_blsS, ↓r_ixR, ↓r_setR0, ↓r_setR1, ↓r_setR2, ↓r_frz0, ↓r_frzS, ↓r_isTR, ↓r_appR, ↓x_glob_0, ↓x_glob_1, ↓x_glob_2, ↓x_glob_3, ↓x_glob_4, ↓x_glob_5, ↓x_call_is_whole_0, ↓x_cf_is_whole_0, ↓x_call_is_between_0, ↓x_cf_is_between_0, ↓x_call_is_up_to_0, ↓x_cf_is_up_to_0, ↓x_call_is_tuple_of_0, ↓x_cf_is_tuple_of_0, ↓x_call_is_pair_0, ↓x_cf_is_pair_0, ↓x_call_is_cell_0, ↓x_cf_is_cell_0, ↓x_call_is_box_0, ↓x_cf_is_box_0, ↓x_call_is_point_0, ↓x_cf_is_point_0, ↓x_call_is_shape_0, ↓x_cf_is_shape_0, ↓x_call_is_stroke_0, ↓x_cf_is_stroke_0, ↓x_call_turn_at_0, ↓x_cf_turn_at_0, ↓x_call_is_in_corners_0, ↓x_cf_is_in_corners_0, ↓x_call_range_in_0, ↓x_cf_range_in_0, ↓x_call_cells_in_0, ↓x_cf_cells_in_0, ↓x_call_covers_by_0, ↓x_cf_covers_by_0, ↓x_call_check_stroke_0, ↓x_cf_check_stroke_0, ↓x_call_check_spot_0, ↓x_cf_check_spot_0, ↓x_call_covers_0, ↓x_cf_covers_0, ↓x_call_covers_1, ↓x_cf_covers_1, ↓x_call__law_pool_0, ↓x_cf__law_pool_0, ↓x_call__law_below_0, ↓x_cf__law_below_0, ↓x_call__law_one_0, ↓x_cf__law_one_0, ↓x_call__law_same_0_0, ↓x_cf__law_same_0_0, ↓x_call__law_same_0, ↓x_cf__law_same_0, ↓x_call__law_boxed_0, ↓x_cf__law_boxed_0, ↓x_call__law_in_box_0, ↓x_cf__law_in_box_0, ↓x_call__law_in_triangle_0, ↓x_cf__law_in_triangle_0, ↓x_call__law_covers_0, ↓x_cf__law_covers_0, ↓x_call__law_stroke_0, ↓x_cf__law_stroke_0, ↓x_call__law_right_0, ↓x_cf__law_right_0, ↓x_onStk, ↓x_onShp, ↓x_stk0, ↓x_is_whole, ↓x_is_between, ↓x_is_up_to, ↓x_is_tuple_of, ↓x_is_pair, ↓x_is_cell, ↓x_is_box, ↓x_is_point, ↓x_is_shape, ↓x_is_stroke, ↓x_turn_at, ↓x_is_in_corners, ↓x_range_in, ↓x_cells_in, ↓x_covers_by, ↓x_check_stroke, ↓x_check_spot, ↓x_covers, ↓x__law_below, ↓x__law_one, ↓x__law_stroke, ↓x__law_right, ↓x__law_pool, ↓x__law_same_0, ↓x__law_same2, ↓x__law_same4, ↓x__law_boxed, ↓x__law_in_box, ↓x__law_in_triangle, ↓x__law_covers, lenTs, sizeLine]
    simp [minL, maxL]
    have q : Q (.tup [.tup [.int (max f (max t (min b (min d f')))), .int (min l (min u (max b (max d f'))))], .tup [.int (max 0 (max l' (min a (min c e)))), .int (min w (min r (max a (max c e))))]]) S := q
    exact q
end Dp.L

namespace Dp.L
open PySem PySem.Spec L2 Dp
open PyProof.Rows hiding St
theorem rng_iv {a b : Int} : rngItems a (b - a).toNat = (iv a b).map .int := by
  unfold rngItems iv; rw [List.map_map]; rfl
def prs (s : Stk) (w f l : Int) : List (Int × Int) := (iv (s.r0 f) (s.r1 l)).flatMap fun r => (iv s.c0 (s.c1 w)).map fun k => (r, k)
theorem iv_mem {a b i : Int} : i ∈ iv a b ↔ a ≤ i ∧ i < b := by
  unfold iv
  rw [List.mem_map]
  constructor
  · rintro ⟨n, h, rfl⟩
    rw [List.mem_range] at h
    omega
  · intro h
    exact ⟨(i - a).toNat, by rw [List.mem_range]; omega, by omega⟩
theorem iv_len {a b : Int} (h : 0 ≤ a) (h2 : b ≤ 24) : (iv a b).length ≤ 24 := by
  unfold iv; rw [List.length_map, List.length_range]; omega
theorem r0_nn {s : Stk} {f : Int} (h : 0 ≤ f) : 0 ≤ s.r0 f := by unfold Stk.r0; omega
theorem c0_nn {s : Stk} : 0 ≤ s.c0 := by unfold Stk.c0; omega
theorem r1_le {s : Stk} {l : Int} (h : l ≤ 24) : s.r1 l ≤ 24 := by unfold Stk.r1; omega
theorem c1_le {s : Stk} {l : Int} (h : l ≤ 24) : s.c1 l ≤ 24 := by unfold Stk.c1; omega
theorem len_prs {xs ys : List Int} : (xs.flatMap fun r => ys.map fun k => (r, k)).length = xs.length * ys.length := by
  induction xs with
  | nil => simp
  | cons x xs ih => rw [List.flatMap_cons, List.length_append, ih, List.length_map, List.length_cons, Nat.succ_mul]; omega
theorem prs_len {s : Stk} {w f l : Int} (h : 0 ≤ f) (h2 : l ≤ 24) (h3 : w ≤ 24) : (prs s w f l).length ≤ 576 := by
  unfold prs; rw [len_prs]
  exact Nat.mul_le_mul (iv_len (r0_nn h) (r1_le h2)) (iv_len c0_nn (c1_le h3))
theorem prs_map {s : Stk} {w f l : Int} : (prs s w f l).map cellPV = (iv (s.r0 f) (s.r1 l)).flatMap fun r => (iv s.c0 (s.c1 w)).flatMap fun k => [PV.tup [.int r, .int k]] := by
  unfold prs
  rw [List.map_flatMap]
  congr 1; funext r
  rw [flat_single, List.map_map]; rfl
theorem prs_mem {s : Stk} {w f l : Int} (h : 0 ≤ f) (h2 : l ≤ 24) (h3 : w ≤ 24) {p : Int × Int} (hp : p ∈ prs s w f l) : (0 ≤ p.1 ∧ p.1 < 24) ∧ (0 ≤ p.2 ∧ p.2 < 24) := by
  unfold prs at hp
  rw [List.mem_flatMap] at hp
  obtain ⟨r, hr, hp⟩ := hp
  rw [List.mem_map] at hp
  obtain ⟨k, hk, rfl⟩ := hp
  rw [iv_mem] at hr hk
  have := r0_nn (s := s) h
  have := r1_le (s := s) h2
  have := c0_nn (s := s)
  have := c1_le (s := s) h3
  exact ⟨⟨by omega, by omega⟩, ⟨by omega, by omega⟩⟩
theorem flat_if {ι : Type} {c : ι → Bool} {f : ι → PV} : ∀ {ys : List ι}, (ys.flatMap fun p => if c p then [f p] else []) = (ys.filter c).map f
  | [] => rfl
  | y :: ys => by
    rw [List.flatMap_cons, flat_if, List.filter_cons]
    cases c y <;> rfl
theorem cell_fine {n : Nat} {ps : List (Int × Int)} : PV.fineL (n + 1) (ps.map cellPV) = true := by
  rw [fineL_all]
  intro x hx
  rw [List.mem_map] at hx
  obtain ⟨p, _, rfl⟩ := hx
  simp [cellPV, PV.fine, PV.fineL]
theorem cell_in {ps : List (Int × Int)} {r k : Int} : ((ps.map cellPV).any fun y => PV.eqv y (.tup [.int r, .int k])) = ps.contains (r, k) := by
  induction ps with
  | nil => rfl
  | cons p ps ih =>
    rw [List.map_cons, List.any_cons, ih, List.contains_cons]
    congr 1
    unfold cellPV
    simp only [PV.eqv, PV.eqvL]
    cases p with | mk a b =>
    rw [Bool.eq_iff_iff, Bool.and_eq_true, Bool.and_eq_true, beq_iff_eq, beq_iff_eq, beq_iff_eq, Prod.mk.injEq]
    constructor
    · rintro ⟨h1, h2, _⟩; exact ⟨h1.symm, h2.symm⟩
    · rintro ⟨h1, h2⟩; exact ⟨h1.symm, h2.symm, rfl⟩
theorem Shp.bd {s : Shp} (h : s.ok) : (-99999 ≤ s.mnx ∧ s.mnx ≤ 99999) ∧ (-99999 ≤ s.mxx ∧ s.mxx ≤ 99999) ∧ (-99999 ≤ s.mny ∧ s.mny ≤ 99999) ∧ (-99999 ≤ s.mxy ∧ s.mxy ≤ 99999) := by
  cases s <;> simp only [Shp.ok] at h <;> simp only [Shp.mnx, Shp.mxx, Shp.mny, Shp.mxy] <;> omega
theorem bounds {s : Stk} (h : s.ok) {w f l : Int} (hf : 0 ≤ f ∧ f ≤ 24) (hl : 0 ≤ l ∧ l ≤ 24) (hw : 0 ≤ w ∧ w ≤ 24) : (inRng (s.r0 f) ∧ inRng (s.r1 l)) ∧ (inRng s.c0 ∧ inRng (s.c1 w)) := by
  have := Shp.bd h.1
  have h2 := h.2
  unfold inRng Stk.r0 Stk.r1 Stk.c0 Stk.c1
  omega
theorem le_cells_in {x : PV} {w f l : Int} : M.le (C_cells_in [x, .int w, .int f, .int l]) (d_cells_in.den (g 2) [x, .int w, .int f, .int l]) := by
  refine le_guard fun h => le_onStk fun s hs e => ?_
  intro S Q E q
  have q : Q (.lst ((s.cells w f l).map cellPV)) S := q
  have B := bounds hs h.1 h.2.1 h.2.2
  have hB1 := B.1
  have hB2 := B.2
  have hlen := prs_len (s := s) h.1.1 h.2.1.2 h.2.2.2
  rw [den_eq (body := c_cells_in) (env := [some (x), some (.int w), some (.int f), some (.int l), none, none, none, none, none, none, none, none]) rfl rfl]
  unfold c_cells_in
  subst e
  simp [↓r_ret, ↓r_guard, ↓r_ofO, ↓r_noexc, ↓r_any, ↓k_set0, ↓k_setS, ↓k_wipe0, ↓k_wipeS, ↓k_app0, ↓k_appS, ↓k_cat0, ↓k_catS, ↓r_get0, ↓r_getS, ↓r_var, ↓r_int, ↓r_str, ↓r_bl, ↓r_non, ↓r_bty, ↓r_bin, ↓r_neg, ↓r_nt, ↓r_cmp, ↓r_chn, ↓r_tv, ↓r_b1, ↓r_and, ↓r_or, ↓r_ife, ↓r_tup, ↓r_lst, ↓r_own, ↓r_ix, ↓r_sl, ↓r_callB, ↓r_callT, ↓r_meth, ↓r_comp, ↓r_compO, ↓r_compF, ↓r_cm0, ↓r_cmS, ↓r_l0, ↓r_lc, ↓r_ls, ↓r_comp2, ↓r_compI, ↓r_compF2, ↓r_tnt, ↓r_tb1, ↓r_tand, ↓r_tor, ↓r_tcmp, ↓r_tchn, ↓r_ttv, ↓r_c0, ↓r_c1, ↓r_trb, ↓r_trn, ↓r_tri, ↓r_trt, ↓r_trl, ↓r_o0, ↓r_o1, ↓r_prt, ↓r_gn, ↓r_gt, ↓r_gl, ↓r_gs, ↓r_g0, ↓r_gc, ↓r_iv, ↓r_ir, ↓r_srt, ↓r_srl, ↓r_src, ↓r_rg1, ↓r_rg2, ↓r_ex, ↓r_asg, ↓r_setc, ↓r_par2, ↓r_asg2, ↓r_par3, ↓r_asg3, ↓r_rt, ↓r_rtN, ↓r_if, ↓r_loop, ↓r_turn, ↓r_for0, ↓r_forS, ↓r_fnx, ↓r_fct, ↓r_fbk, ↓r_frt, ↓r_pass, ↓r_brk, ↓r_cont, ↓r_doc, ↓r_never, ↓r_b0, ↓r_bc, ↓r_bf, ↓r_snx, ↓r_srr, ↓r_sbk, ↓r_sct, ↓r_runB, ↓r_ert, ↓r_enx, ↓r_add, ↓r_addT, ↓r_addL, ↓r_addS, ↓r_sub, ↓r_mul, ↓r_mod, ↓r_fdiv, ↓r_pow, ↓r_vneg, ↓r_vnot, ↓r_lt, ↓r_le, ↓r_gt', ↓r_ge, ↓r_eqI, ↓r_neI, ↓r_eqB, ↓r_neB, ↓r_eqL, ↓r_eqT, ↓r_eqS, ↓r_inL, ↓r_inT, ↓r_isN, ↓r_notN, ↓r_ixT0, ↓r_ixL0, ↓r_ixT1, ↓r_ixL1, ↓r_ixT2, ↓r_ixL2, ↓r_ixT3, ↓r_ixL3, ↓r_ixT3m, ↓r_ixC, ↓r_lenT, ↓r_lenL, ↓r_lenC, ↓r_isiI, ↓r_isiB, ↓r_isiN, ↓r_isiS, ↓r_isiT, ↓r_isiL, ↓r_abs, ↓r_min2, ↓r_min3, ↓r_max2, ↓r_max3, ↓r_minL, ↓r_maxL, ↓r_sumL, ↓r_allL, ↓r_anyL, ↓r_divm, ↓r_Tint, ↓r_Ttup, ↓r_Ttup', ↓r_Tlst, ↓r_Tlst', ↓r_slC, ↓r_slL, ↓r_slT, ↓r_ints0, ↓r_intsS, ↓r_bls0, ↓r_blsS, ↓r_ixR, ↓r_setR0, ↓r_setR1, ↓r_setR2, ↓r_frz0, ↓r_frzS, ↓r_isTR, ↓r_appR, ↓x_glob_0, ↓x_glob_1, ↓x_glob_2, ↓x_glob_3, ↓x_glob_4, ↓x_glob_5, ↓x_call_is_whole_0, ↓x_cf_is_whole_0, ↓x_call_is_between_0, ↓x_cf_is_between_0, ↓x_call_is_up_to_0, ↓x_cf_is_up_to_0, ↓x_call_is_tuple_of_0, ↓x_cf_is_tuple_of_0, ↓x_call_is_pair_0, ↓x_cf_is_pair_0, ↓x_call_is_cell_0, ↓x_cf_is_cell_0, ↓x_call_is_box_0, ↓x_cf_is_box_0, ↓x_call_is_point_0, ↓x_cf_is_point_0, ↓x_call_is_shape_0, ↓x_cf_is_shape_0, ↓x_call_is_stroke_0, ↓x_cf_is_stroke_0, ↓x_call_turn_at_0, ↓x_cf_turn_at_0, ↓x_call_is_in_corners_0, ↓x_cf_is_in_corners_0, ↓x_call_range_in_0, ↓x_cf_range_in_0, ↓x_call_cells_in_0, ↓x_cf_cells_in_0, ↓x_call_covers_by_0, ↓x_cf_covers_by_0, ↓x_call_check_stroke_0, ↓x_cf_check_stroke_0, ↓x_call_check_spot_0, ↓x_cf_check_spot_0, ↓x_call_covers_0, ↓x_cf_covers_0, ↓x_call_covers_1, ↓x_cf_covers_1, ↓x_call__law_pool_0, ↓x_cf__law_pool_0, ↓x_call__law_below_0, ↓x_cf__law_below_0, ↓x_call__law_one_0, ↓x_cf__law_one_0, ↓x_call__law_same_0_0, ↓x_cf__law_same_0_0, ↓x_call__law_same_0, ↓x_cf__law_same_0, ↓x_call__law_boxed_0, ↓x_cf__law_boxed_0, ↓x_call__law_in_box_0, ↓x_cf__law_in_box_0, ↓x_call__law_in_triangle_0, ↓x_cf__law_in_triangle_0, ↓x_call__law_covers_0, ↓x_cf__law_covers_0, ↓x_call__law_stroke_0, ↓x_cf__law_stroke_0, ↓x_call__law_right_0, ↓x_cf__law_right_0, ↓x_onStk, ↓x_onShp, ↓x_stk0, ↓x_is_whole, ↓x_is_between, ↓x_is_up_to, ↓x_is_tuple_of, ↓x_is_pair, ↓x_is_cell, ↓x_is_box, ↓x_is_point, ↓x_is_shape, ↓x_is_stroke, ↓x_turn_at, ↓x_is_in_corners, ↓x_range_in, ↓x_cells_in, ↓x_covers_by, ↓x_check_stroke, ↓x_check_spot, ↓x_covers, ↓x__law_below, ↓x__law_one, ↓x__law_stroke, ↓x__law_right, ↓x__law_pool, ↓x__law_same_0, ↓x__law_same2, ↓x__law_same4, ↓x__law_boxed, ↓x__law_in_box, ↓x__law_in_triangle, ↓x__law_covers, hs, lenTs, rng_iv, lenL]
  refine ⟨hB1, ?_⟩
  refine compM_pure (h := .int) (f := fun r => (iv s.c0 (s.c1 w)).flatMap fun k => [PV.tup [.int r, .int k]]) (ys := iv (s.r0 f) (s.r1 l)) ?_ ?_ S _ E ?_
  · intro r hr acc hacc S Q E q
    simp [↓r_ret, ↓r_guard, ↓r_ofO, ↓r_noexc, ↓r_any, ↓k_set0, ↓k_setS, ↓k_wipe0, ↓k_wipeS, ↓k_app0, ↓k_appS, ↓k_cat0, ↓k_catS, ↓r_get0, ↓r_getS, ↓r_var, ↓r_int, ↓r_str, ↓r_bl, ↓r_non, ↓r_bty, ↓r_bin, ↓r_neg, ↓r_nt, ↓r_cmp, ↓r_chn, ↓r_tv, ↓r_b1, ↓r_and, ↓r_or, ↓r_ife, ↓r_tup, ↓r_lst, ↓r_own, ↓r_ix, ↓r_sl, ↓r_callB, ↓r_callT, ↓r_meth, ↓r_comp, ↓r_compO, ↓r_compF, ↓r_cm0, ↓r_cmS, ↓r_l0, ↓r_lc, ↓r_ls, ↓r_comp2, ↓r_compI, ↓r_compF2, ↓r_tnt, ↓r_tb1, ↓r_tand, ↓r_tor, ↓r_tcmp, ↓r_tchn, ↓r_ttv, ↓r_c0, ↓r_c1, ↓r_trb, ↓r_trn, ↓r_tri, ↓r_trt, ↓r_trl, ↓r_o0, ↓r_o1, ↓r_prt, ↓r_gn, ↓r_gt, ↓r_gl, ↓r_gs, ↓r_g0, ↓r_gc, ↓r_iv, ↓r_ir, ↓r_srt, ↓r_srl, ↓r_src, ↓r_rg1, ↓r_rg2, ↓r_ex, ↓r_asg, ↓r_setc, ↓r_par2, ↓r_asg2, ↓r_par3, ↓r_asg3, ↓r_rt, ↓r_rtN, ↓r_if, ↓r_loop, ↓r_turn, ↓r_for0, ↓r_forS, ↓r_fnx, ↓r_fct, ↓r_fbk, ↓r_frt, ↓r_pass, ↓r_brk, ↓r_cont, ↓r_doc, ↓r_never, ↓r_b0, ↓r_bc, ↓r_bf, ↓r_snx, ↓r_srr, ↓r_sbk, ↓r_sct, ↓r_runB, ↓r_ert, ↓r_enx, ↓r_add, ↓r_addT, ↓r_addL, ↓r_addS, ↓r_sub, ↓r_mul, ↓r_mod, ↓r_fdiv, ↓r_pow, ↓r_vneg, ↓r_vnot, ↓r_lt, ↓r_le, ↓r_gt', ↓r_ge, ↓r_eqI, ↓r_neI, ↓r_eqB, ↓r_neB, ↓r_eqL, ↓r_eqT, ↓r_eqS, ↓r_inL, ↓r_inT, ↓r_isN, ↓r_notN, ↓r_ixT0, ↓r_ixL0, ↓r_ixT1, ↓r_ixL1, ↓r_ixT2, ↓r_ixL2, ↓r_ixT3, ↓r_ixL3, ↓r_ixT3m, ↓r_ixC, ↓r_lenT, ↓r_lenL, ↓r_lenC, ↓r_isiI, ↓r_isiB, ↓r_isiN, ↓r_isiS, ↓r_isiT, ↓r_isiL, ↓r_abs, ↓r_min2, ↓r_min3, ↓r_max2, ↓r_max3, ↓r_minL, ↓r_maxL, ↓r_sumL, ↓r_allL, ↓r_anyL, ↓r_divm, ↓r_Tint, ↓r_Ttup, ↓r_Ttup', ↓r_Tlst, ↓r_Tlst', ↓r_slC, ↓r_slL, ↓r_slT, ↓r_ints0, ↓r_intsS, ↓r_bls0, ↓r_blsS, ↓r_ixR, ↓r_setR0, ↓r_setR1, ↓r_setR2, ↓r_frz0, ↓r_frzS, ↓r_isTR, ↓r_appR, ↓x_glob_0, ↓x_glob_1, ↓x_glob_2, ↓x_glob_3, ↓x_glob_4, ↓x_glob_5, ↓x_call_is_whole_0, ↓x_cf_is_whole_0, ↓x_call_is_between_0, ↓x_cf_is_between_0, ↓x_call_is_up_to_0, ↓x_cf_is_up_to_0, ↓x_call_is_tuple_of_0, ↓x_cf_is_tuple_of_0, ↓x_call_is_pair_0, ↓x_cf_is_pair_0, ↓x_call_is_cell_0, ↓x_cf_is_cell_0, ↓x_call_is_box_0, ↓x_cf_is_box_0, ↓x_call_is_point_0, ↓x_cf_is_point_0, ↓x_call_is_shape_0, ↓x_cf_is_shape_0, ↓x_call_is_stroke_0, ↓x_cf_is_stroke_0, ↓x_call_turn_at_0, ↓x_cf_turn_at_0, ↓x_call_is_in_corners_0, ↓x_cf_is_in_corners_0, ↓x_call_range_in_0, ↓x_cf_range_in_0, ↓x_call_cells_in_0, ↓x_cf_cells_in_0, ↓x_call_covers_by_0, ↓x_cf_covers_by_0, ↓x_call_check_stroke_0, ↓x_cf_check_stroke_0, ↓x_call_check_spot_0, ↓x_cf_check_spot_0, ↓x_call_covers_0, ↓x_cf_covers_0, ↓x_call_covers_1, ↓x_cf_covers_1, ↓x_call__law_pool_0, ↓x_cf__law_pool_0, ↓x_call__law_below_0, ↓x_cf__law_below_0, ↓x_call__law_one_0, ↓x_cf__law_one_0, ↓x_call__law_same_0_0, ↓x_cf__law_same_0_0, ↓x_call__law_same_0, ↓x_cf__law_same_0, ↓x_call__law_boxed_0, ↓x_cf__law_boxed_0, ↓x_call__law_in_box_0, ↓x_cf__law_in_box_0, ↓x_call__law_in_triangle_0, ↓x_cf__law_in_triangle_0, ↓x_call__law_covers_0, ↓x_cf__law_covers_0, ↓x_call__law_stroke_0, ↓x_cf__law_stroke_0, ↓x_call__law_right_0, ↓x_cf__law_right_0, ↓x_onStk, ↓x_onShp, ↓x_stk0, ↓x_is_whole, ↓x_is_between, ↓x_is_up_to, ↓x_is_tuple_of, ↓x_is_pair, ↓x_is_cell, ↓x_is_box, ↓x_is_point, ↓x_is_shape, ↓x_is_stroke, ↓x_turn_at, ↓x_is_in_corners, ↓x_range_in, ↓x_cells_in, ↓x_covers_by, ↓x_check_stroke, ↓x_check_spot, ↓x_covers, ↓x__law_below, ↓x__law_one, ↓x__law_stroke, ↓x__law_right, ↓x__law_pool, ↓x__law_same_0, ↓x__law_same2, ↓x__law_same4, ↓x__law_boxed, ↓x__law_in_box, ↓x__law_in_triangle, ↓x__law_covers, hs, lenTs, rng_iv, lenL]
    refine ⟨hB2, ?_⟩
    refine compM_pure (h := .int) (f := fun k => [PV.tup [.int r, .int k]]) (ys := iv s.c0 (s.c1 w)) ?_ ?_ S _ _ q
    · intro k hk acc hacc S Q E q
      have q : Q (acc ++ [PV.tup [.int r, .int k]]) S := q
      simp at hacc
      simp [↓r_ret, ↓r_guard, ↓r_ofO, ↓r_noexc, ↓r_any, ↓k_set0, ↓k_setS, ↓k_wipe0, ↓k_wipeS, ↓k_app0, ↓k_appS, ↓k_cat0, ↓k_catS, ↓r_get0, ↓r_getS, ↓r_var, ↓r_int, ↓r_str, ↓r_bl, ↓r_non, ↓r_bty, ↓r_bin, ↓r_neg, ↓r_nt, ↓r_cmp, ↓r_chn, ↓r_tv, ↓r_b1, ↓r_and, ↓r_or, ↓r_ife, ↓r_tup, ↓r_lst, ↓r_own, ↓r_ix, ↓r_sl, ↓r_callB, ↓r_callT, ↓r_meth, ↓r_comp, ↓r_compO, ↓r_compF, ↓r_cm0, ↓r_cmS, ↓r_l0, ↓r_lc, ↓r_ls, ↓r_comp2, ↓r_compI, ↓r_compF2, ↓r_tnt, ↓r_tb1, ↓r_tand, ↓r_tor, ↓r_tcmp, ↓r_tchn, ↓r_ttv, ↓r_c0, ↓r_c1, ↓r_trb, ↓r_trn, ↓r_tri, ↓r_trt, ↓r_trl, ↓r_o0, ↓r_o1, ↓r_prt, ↓r_gn, ↓r_gt, ↓r_gl, ↓r_gs, ↓r_g0, ↓r_gc, ↓r_iv, ↓r_ir, ↓r_srt, ↓r_srl, ↓r_src, ↓r_rg1, ↓r_rg2, ↓r_ex, ↓r_asg, ↓r_setc, ↓r_par2, ↓r_asg2, ↓r_par3, ↓r_asg3, ↓r_rt, ↓r_rtN, ↓r_if, ↓r_loop, ↓r_turn, ↓r_for0, ↓r_forS, ↓r_fnx, ↓r_fct, ↓r_fbk, ↓r_frt, ↓r_pass, ↓r_brk, ↓r_cont, ↓r_doc, ↓r_never, ↓r_b0, ↓r_bc, ↓r_bf, ↓r_snx, ↓r_srr, ↓r_sbk, ↓r_sct, ↓r_runB, ↓r_ert, ↓r_enx, ↓r_add, ↓r_addT, ↓r_addL, ↓r_addS, ↓r_sub, ↓r_mul, ↓r_mod, ↓r_fdiv, ↓r_pow, ↓r_vneg, ↓r_vnot, ↓r_lt, ↓r_le, ↓r_gt', ↓r_ge, ↓r_eqI, ↓r_neI, ↓r_eqB, ↓r_neB, ↓r_eqL, ↓r_eqT, ↓r_eqS, ↓r_inL, ↓r_inT, ↓r_isN, ↓r_notN, ↓r_ixT0, ↓r_ixL0, ↓r_ixT1, ↓r_ixL1, ↓r_ixT2, ↓r_ixL2, ↓r_ixT3, ↓r_ixL3, ↓r_ixT3m, ↓r_ixC, ↓r_lenT, ↓r_lenL, ↓r_lenC, ↓r_isiI, ↓r_isiB, ↓r_isiN, ↓r_isiS, ↓r_isiT, ↓r_isiL, ↓r_abs, ↓r_min2, ↓r_min3, ↓r_max2, ↓r_max3, ↓r_minL, ↓r_maxL, ↓r_sumL, ↓r_allL, ↓r_anyL, ↓r_divm, ↓r_Tint, ↓r_Ttup, ↓r_Ttup', ↓r_Tlst, ↓r_Tlst', ↓r_slC, ↓r_slL, ↓r_slT, ↓r_ints0, ↓r_intsS, ↓r_bls0, ↓r_blsS, ↓r_ixR, ↓r_setR0, ↓r_setR1, ↓r_setR2, ↓r_frz0, ↓r_frzS, ↓r_isTR, ↓r_appR, ↓x_glob_0, ↓x_glob_1, ↓x_glob_2, ↓x_glob_3, ↓x_glob_4, ↓x_glob_5, ↓x_call_is_whole_0, ↓x_cf_is_whole_0, ↓x_call_is_between_0, ↓x_cf_is_between_0, ↓x_call_is_up_to_0, ↓x_cf_is_up_to_0, ↓x_call_is_tuple_of_0, ↓x_cf_is_tuple_of_0, ↓x_call_is_pair_0, ↓x_cf_is_pair_0, ↓x_call_is_cell_0, ↓x_cf_is_cell_0, ↓x_call_is_box_0, ↓x_cf_is_box_0, ↓x_call_is_point_0, ↓x_cf_is_point_0, ↓x_call_is_shape_0, ↓x_cf_is_shape_0, ↓x_call_is_stroke_0, ↓x_cf_is_stroke_0, ↓x_call_turn_at_0, ↓x_cf_turn_at_0, ↓x_call_is_in_corners_0, ↓x_cf_is_in_corners_0, ↓x_call_range_in_0, ↓x_cf_range_in_0, ↓x_call_cells_in_0, ↓x_cf_cells_in_0, ↓x_call_covers_by_0, ↓x_cf_covers_by_0, ↓x_call_check_stroke_0, ↓x_cf_check_stroke_0, ↓x_call_check_spot_0, ↓x_cf_check_spot_0, ↓x_call_covers_0, ↓x_cf_covers_0, ↓x_call_covers_1, ↓x_cf_covers_1, ↓x_call__law_pool_0, ↓x_cf__law_pool_0, ↓x_call__law_below_0, ↓x_cf__law_below_0, ↓x_call__law_one_0, ↓x_cf__law_one_0, ↓x_call__law_same_0_0, ↓x_cf__law_same_0_0, ↓x_call__law_same_0, ↓x_cf__law_same_0, ↓x_call__law_boxed_0, ↓x_cf__law_boxed_0, ↓x_call__law_in_box_0, ↓x_cf__law_in_box_0, ↓x_call__law_in_triangle_0, ↓x_cf__law_in_triangle_0, ↓x_call__law_covers_0, ↓x_cf__law_covers_0, ↓x_call__law_stroke_0, ↓x_cf__law_stroke_0, ↓x_call__law_right_0, ↓x_cf__law_right_0, ↓x_onStk, ↓x_onShp, ↓x_stk0, ↓x_is_whole, ↓x_is_between, ↓x_is_up_to, ↓x_is_tuple_of, ↓x_is_pair, ↓x_is_cell, ↓x_is_box, ↓x_is_point, ↓x_is_shape, ↓x_is_stroke, ↓x_turn_at, ↓x_is_in_corners, ↓x_range_in, ↓x_cells_in, ↓x_covers_by, ↓x_check_stroke, ↓x_check_spot, ↓x_covers, ↓x__law_below, ↓x__law_one, ↓x__law_stroke, ↓x__law_right, ↓x__law_pool, ↓x__law_same_0, ↓x__law_same2, ↓x__law_same4, ↓x__law_boxed, ↓x__law_in_box, ↓x__law_in_triangle, ↓x__law_covers, sizeLine] at hacc ⊢
      exact ⟨by omega, q⟩
    · exact hacc
  · rw [← prs_map, List.length_nil, List.length_map]
    unfold sizeLine; omega
  · rw [← prs_map]
    have q : Q (.lst (((prs s w f l).filter fun p => s.sh.has p.1 p.2).map cellPV)) S := q
    cases s with | mk sh ink l' t r u =>
    cases sh with
    | box a b c d =>
      simp [↓r_ret, ↓r_guard, ↓r_ofO, ↓r_noexc, ↓r_any, ↓k_set0, ↓k_setS, ↓k_wipe0, ↓k_wipeS, ↓k_app0, ↓k_appS, ↓k_cat0, ↓k_catS, ↓r_get0, ↓r_getS, ↓r_var, ↓r_int, ↓r_str, ↓r_bl, ↓r_non, ↓r_bty, ↓r_bin, ↓r_neg, ↓r_nt, ↓r_cmp, ↓r_chn, ↓r_tv, ↓r_b1, ↓r_and, ↓r_or, ↓r_ife, ↓r_tup, ↓r_lst, ↓r_own, ↓r_ix, ↓r_sl, ↓r_callB, ↓r_callT, ↓r_meth, ↓r_comp, ↓r_compO, ↓r_compF, ↓r_cm0, ↓r_cmS, ↓r_l0, ↓r_lc, ↓r_ls, ↓r_comp2, ↓r_compI, ↓r_compF2, ↓r_tnt, ↓r_tb1, ↓r_tand, ↓r_tor, ↓r_tcmp, ↓r_tchn, ↓r_ttv, ↓r_c0, ↓r_c1, ↓r_trb, ↓r_trn, ↓r_tri, ↓r_trt, ↓r_trl, ↓r_o0, ↓r_o1, ↓r_prt, ↓r_gn, ↓r_gt, ↓r_gl, ↓r_gs, ↓r_g0, ↓r_gc, ↓r_iv, ↓r_ir, ↓r_srt, ↓r_srl, ↓r_src, ↓r_rg1, ↓r_rg2, ↓r_ex, ↓r_asg, ↓r_setc, ↓r_par2, ↓r_asg2, ↓r_par3, ↓r_asg3, ↓r_rt, ↓r_rtN, ↓r_if, ↓r_loop, ↓r_turn, ↓r_for0, ↓r_forS, ↓r_fnx, ↓r_fct, ↓r_fbk, ↓r_frt, ↓r_pass, ↓r_brk, ↓r_cont, ↓r_doc, ↓r_never, ↓r_b0, ↓r_bc, ↓r_bf, ↓r_snx, ↓r_srr, ↓r_sbk, ↓r_sct, ↓r_runB, ↓r_ert, ↓r_enx, ↓r_add, ↓r_addT, ↓r_addL, ↓r_addS, ↓r_sub, ↓r_mul, ↓r_mod, ↓r_fdiv, ↓r_pow, ↓r_vneg, ↓r_vnot, ↓r_lt, ↓r_le, ↓r_gt', ↓r_ge, ↓r_eqI, ↓r_neI, ↓r_eqB, ↓r_neB, ↓r_eqL, ↓r_eqT, ↓r_eqS, ↓r_inL, ↓r_inT, ↓r_isN, ↓r_notN, ↓r_ixT0, ↓r_ixL0, ↓r_ixT1, ↓r_ixL1, ↓r_ixT2, ↓r_ixL2, ↓r_ixT3, ↓r_ixL3, ↓r_ixT3m, ↓r_ixC, ↓r_lenT, ↓r_lenL, ↓r_lenC, ↓r_isiI, ↓r_isiB, ↓r_isiN, ↓r_isiS, ↓r_isiT, ↓r_isiL, ↓r_abs, ↓r_min2, ↓r_min3, ↓r_max2, ↓r_max3, ↓r_minL, ↓r_maxL, ↓r_sumL, ↓r_allL, ↓r_anyL, ↓r_divm, ↓r_Tint, ↓r_Ttup, ↓r_Ttup', ↓r_Tlst, ↓r_Tlst', ↓r_slC, ↓r_slL, ↓r_slT, ↓r_ints0, ↓r_intsS, ↓r_bls0, ↓r_blsS, ↓r_ixR, ↓r_setR0, ↓r_setR1, ↓r_setR2, ↓r_frz0, ↓r_frzS, ↓r_isTR, ↓r_appR, ↓x_glob_0, ↓x_glob_1, ↓x_glob_2, ↓x_glob_3, ↓x_glob_4, ↓x_glob_5, ↓x_call_is_whole_0, ↓x_cf_is_whole_0, ↓x_call_is_between_0, ↓x_cf_is_between_0, ↓x_call_is_up_to_0, ↓x_cf_is_up_to_0, ↓x_call_is_tuple_of_0, ↓x_cf_is_tuple_of_0, ↓x_call_is_pair_0, ↓x_cf_is_pair_0, ↓x_call_is_cell_0, ↓x_cf_is_cell_0, ↓x_call_is_box_0, ↓x_cf_is_box_0, ↓x_call_is_point_0, ↓x_cf_is_point_0, ↓x_call_is_shape_0, ↓x_cf_is_shape_0, ↓x_call_is_stroke_0, ↓x_cf_is_stroke_0, ↓x_call_turn_at_0, ↓x_cf_turn_at_0, ↓x_call_is_in_corners_0, ↓x_cf_is_in_corners_0, ↓x_call_range_in_0, ↓x_cf_range_in_0, ↓x_call_cells_in_0, ↓x_cf_cells_in_0, ↓x_call_covers_by_0, ↓x_cf_covers_by_0, ↓x_call_check_stroke_0, ↓x_cf_check_stroke_0, ↓x_call_check_spot_0, ↓x_cf_check_spot_0, ↓x_call_covers_0, ↓x_cf_covers_0, ↓x_call_covers_1, ↓x_cf_covers_1, ↓x_call__law_pool_0, ↓x_cf__law_pool_0, ↓x_call__law_below_0, ↓x_cf__law_below_0, ↓x_call__law_one_0, ↓x_cf__law_one_0, ↓x_call__law_same_0_0, ↓x_cf__law_same_0_0, ↓x_call__law_same_0, ↓x_cf__law_same_0, ↓x_call__law_boxed_0, ↓x_cf__law_boxed_0, ↓x_call__law_in_box_0, ↓x_cf__law_in_box_0, ↓x_call__law_in_triangle_0, ↓x_cf__law_in_triangle_0, ↓x_call__law_covers_0, ↓x_cf__law_covers_0, ↓x_call__law_stroke_0, ↓x_cf__law_stroke_0, ↓x_call__law_right_0, ↓x_cf__law_right_0, ↓x_onStk, ↓x_onShp, ↓x_stk0, ↓x_is_whole, ↓x_is_between, ↓x_is_up_to, ↓x_is_tuple_of, ↓x_is_pair, ↓x_is_cell, ↓x_is_box, ↓x_is_point, ↓x_is_shape, ↓x_is_stroke, ↓x_turn_at, ↓x_is_in_corners, ↓x_range_in, ↓x_cells_in, ↓x_covers_by, ↓x_check_stroke, ↓x_check_spot, ↓x_covers, ↓x__law_below, ↓x__law_one, ↓x__law_stroke, ↓x__law_right, ↓x__law_pool, ↓x__law_same_0, ↓x__law_same2, ↓x__law_same4, ↓x__law_boxed, ↓x__law_in_box, ↓x__law_in_triangle, ↓x__law_covers, Shp.pv]
      rw [show ∀ ps : List (Int × Int), List.filter (fun p => (Stk.mk (.box a b c d) ink l' t r u).sh.has p.1 p.2) ps = ps from fun ps => List.filter_eq_self.mpr (fun _ _ => rfl)] at q
      exact q
    | tri a b c d e f' =>
      have hs' : (-99999 ≤ a ∧ a ≤ 99999) ∧ (-99999 ≤ b ∧ b ≤ 99999) ∧ (-99999 ≤ c ∧ c ≤ 99999) ∧ (-99999 ≤ d ∧ d ≤ 99999) ∧ (-99999 ≤ e ∧ e ≤ 99999) ∧ (-99999 ≤ f' ∧ f' ≤ 99999) := hs.1
      have hm : ∀ z, CMulA 2 z := fun z => mulA (by omega)
      simp [↓r_ret, ↓r_guard, ↓r_ofO, ↓r_noexc, ↓r_any, ↓k_set0, ↓k_setS, ↓k_wipe0, ↓k_wipeS, ↓k_app0, ↓k_appS, ↓k_cat0, ↓k_catS, ↓r_get0, ↓r_getS, ↓r_var, ↓r_int, ↓r_str, ↓r_bl, ↓r_non, ↓r_bty, ↓r_bin, ↓r_neg, ↓r_nt, ↓r_cmp, ↓r_chn, ↓r_tv, ↓r_b1, ↓r_and, ↓r_or, ↓r_ife, ↓r_tup, ↓r_lst, ↓r_own, ↓r_ix, ↓r_sl, ↓r_callB, ↓r_callT, ↓r_meth, ↓r_comp, ↓r_compO, ↓r_compF, ↓r_cm0, ↓r_cmS, ↓r_l0, ↓r_lc, ↓r_ls, ↓r_comp2, ↓r_compI, ↓r_compF2, ↓r_tnt, ↓r_tb1, ↓r_tand, ↓r_tor, ↓r_tcmp, ↓r_tchn, ↓r_ttv, ↓r_c0, ↓r_c1, ↓r_trb, ↓r_trn, ↓r_tri, ↓r_trt, ↓r_trl, ↓r_o0, ↓r_o1, ↓r_prt, ↓r_gn, ↓r_gt, ↓r_gl, ↓r_gs, ↓r_g0, ↓r_gc, ↓r_iv, ↓r_ir, ↓r_srt, ↓r_srl, ↓r_src, ↓r_rg1, ↓r_rg2, ↓r_ex, ↓r_asg, ↓r_setc, ↓r_par2, ↓r_asg2, ↓r_par3, ↓r_asg3, ↓r_rt, ↓r_rtN, ↓r_if, ↓r_loop, ↓r_turn, ↓r_for0, ↓r_forS, ↓r_fnx, ↓r_fct, ↓r_fbk, ↓r_frt, ↓r_pass, ↓r_brk, ↓r_cont, ↓r_doc, ↓r_never, ↓r_b0, ↓r_bc, ↓r_bf, ↓r_snx, ↓r_srr, ↓r_sbk, ↓r_sct, ↓r_runB, ↓r_ert, ↓r_enx, ↓r_add, ↓r_addT, ↓r_addL, ↓r_addS, ↓r_sub, ↓r_mul, ↓r_mod, ↓r_fdiv, ↓r_pow, ↓r_vneg, ↓r_vnot, ↓r_lt, ↓r_le, ↓r_gt', ↓r_ge, ↓r_eqI, ↓r_neI, ↓r_eqB, ↓r_neB, ↓r_eqL, ↓r_eqT, ↓r_eqS, ↓r_inL, ↓r_inT, ↓r_isN, ↓r_notN, ↓r_ixT0, ↓r_ixL0, ↓r_ixT1, ↓r_ixL1, ↓r_ixT2, ↓r_ixL2, ↓r_ixT3, ↓r_ixL3, ↓r_ixT3m, ↓r_ixC, ↓r_lenT, ↓r_lenL, ↓r_lenC, ↓r_isiI, ↓r_isiB, ↓r_isiN, ↓r_isiS, ↓r_isiT, ↓r_isiL, ↓r_abs, ↓r_min2, ↓r_min3, ↓r_max2, ↓r_max3, ↓r_minL, ↓r_maxL, ↓r_sumL, ↓r_allL, ↓r_anyL, ↓r_divm, ↓r_Tint, ↓r_Ttup, ↓r_Ttup', ↓r_Tlst, ↓r_Tlst', ↓r_slC, ↓r_slL, ↓r_slT, ↓r_ints0, ↓r_intsS, ↓r_bls0, ↓r_blsS, ↓r_ixR, ↓r_setR0, ↓r_setR1, ↓r_setR2, ↓r_frz0, ↓r_frzS, ↓r_isTR, ↓r_appR, ↓x_glob_0, ↓x_glob_1, ↓x_glob_2, ↓x_glob_3, ↓x_glob_4, ↓x_glob_5, ↓x_call_is_whole_0, ↓x_cf_is_whole_0, ↓x_call_is_between_0, ↓x_cf_is_between_0, ↓x_call_is_up_to_0, ↓x_cf_is_up_to_0, ↓x_call_is_tuple_of_0, ↓x_cf_is_tuple_of_0, ↓x_call_is_pair_0, ↓x_cf_is_pair_0, ↓x_call_is_cell_0, ↓x_cf_is_cell_0, ↓x_call_is_box_0, ↓x_cf_is_box_0, ↓x_call_is_point_0, ↓x_cf_is_point_0, ↓x_call_is_shape_0, ↓x_cf_is_shape_0, ↓x_call_is_stroke_0, ↓x_cf_is_stroke_0, ↓x_call_turn_at_0, ↓x_cf_turn_at_0, ↓x_call_is_in_corners_0, ↓x_cf_is_in_corners_0, ↓x_call_range_in_0, ↓x_cf_range_in_0, ↓x_call_cells_in_0, ↓x_cf_cells_in_0, ↓x_call_covers_by_0, ↓x_cf_covers_by_0, ↓x_call_check_stroke_0, ↓x_cf_check_stroke_0, ↓x_call_check_spot_0, ↓x_cf_check_spot_0, ↓x_call_covers_0, ↓x_cf_covers_0, ↓x_call_covers_1, ↓x_cf_covers_1, ↓x_call__law_pool_0, ↓x_cf__law_pool_0, ↓x_call__law_below_0, ↓x_cf__law_below_0, ↓x_call__law_one_0, ↓x_cf__law_one_0, ↓x_call__law_same_0_0, ↓x_cf__law_same_0_0, ↓x_call__law_same_0, ↓x_cf__law_same_0, ↓x_call__law_boxed_0, ↓x_cf__law_boxed_0, ↓x_call__law_in_box_0, ↓x_cf__law_in_box_0, ↓x_call__law_in_triangle_0, ↓x_cf__law_in_triangle_0, ↓x_call__law_covers_0, ↓x_cf__law_covers_0, ↓x_call__law_stroke_0, ↓x_cf__law_stroke_0, ↓x_call__law_right_0, ↓x_cf__law_right_0, ↓x_onStk, ↓x_onShp, ↓x_stk0, ↓x_is_whole, ↓x_is_between, ↓x_is_up_to, ↓x_is_tuple_of, ↓x_is_pair, ↓x_is_cell, ↓x_is_box, ↓x_is_point, ↓x_is_shape, ↓x_is_stroke, ↓x_turn_at, ↓x_is_in_corners, ↓x_range_in, ↓x_cells_in, ↓x_covers_by, ↓x_check_stroke, ↓x_check_spot, ↓x_covers, ↓x__law_below, ↓x__law_one, ↓x__law_stroke, ↓x__law_right, ↓x__law_pool, ↓x__law_same_0, ↓x__law_same2, ↓x__law_same4, ↓x__law_boxed, ↓x__law_in_box, ↓x__law_in_triangle, ↓x__law_covers, Shp.pv, lenTs, hm, sizeLine]
      generalize hps : prs _ w f l = ps at *
      refine compM_pure (h := cellPV) (f := fun p => if (Shp.tri a b c d e f').has p.1 p.2 then [cellPV p] else []) (ys := ps) ?_ ?_ S _ E ?_
      · intro p hp acc hacc S Q E q
        have hp' : (0 ≤ p.1 ∧ p.1 < 24) ∧ (0 ≤ p.2 ∧ p.2 < 24) := by
          rw [← hps] at hp
          exact prs_mem h.1.1 h.2.1.2 h.2.2.2 hp
        have hsm : sm (2 * a) ∧ sm (2 * b) ∧ sm (2 * c) ∧ sm (2 * d) ∧ sm (2 * e) ∧ sm (2 * f') ∧ sm (2 * p.2 + 1) ∧ sm (2 * p.1 + 1) := by
          unfold sm; omega
        have q : Q (acc ++ if (Shp.tri a b c d e f').has p.1 p.2 then [cellPV p] else []) S := q
        unfold cellPV at q ⊢
        unfold Shp.has at q hacc
        simp [↓r_ret, ↓r_guard, ↓r_ofO, ↓r_noexc, ↓r_any, ↓k_set0, ↓k_setS, ↓k_wipe0, ↓k_wipeS, ↓k_app0, ↓k_appS, ↓k_cat0, ↓k_catS, ↓r_get0, ↓r_getS, ↓r_var, ↓r_int, ↓r_str, ↓r_bl, ↓r_non, ↓r_bty, ↓r_bin, ↓r_neg, ↓r_nt, ↓r_cmp, ↓r_chn, ↓r_tv, ↓r_b1, ↓r_and, ↓r_or, ↓r_ife, ↓r_tup, ↓r_lst, ↓r_own, ↓r_ix, ↓r_sl, ↓r_callB, ↓r_callT, ↓r_meth, ↓r_comp, ↓r_compO, ↓r_compF, ↓r_cm0, ↓r_cmS, ↓r_l0, ↓r_lc, ↓r_ls, ↓r_comp2, ↓r_compI, ↓r_compF2, ↓r_tnt, ↓r_tb1, ↓r_tand, ↓r_tor, ↓r_tcmp, ↓r_tchn, ↓r_ttv, ↓r_c0, ↓r_c1, ↓r_trb, ↓r_trn, ↓r_tri, ↓r_trt, ↓r_trl, ↓r_o0, ↓r_o1, ↓r_prt, ↓r_gn, ↓r_gt, ↓r_gl, ↓r_gs, ↓r_g0, ↓r_gc, ↓r_iv, ↓r_ir, ↓r_srt, ↓r_srl, ↓r_src, ↓r_rg1, ↓r_rg2, ↓r_ex, ↓r_asg, ↓r_setc, ↓r_par2, ↓r_asg2, ↓r_par3, ↓r_asg3, ↓r_rt, ↓r_rtN, ↓r_if, ↓r_loop, ↓r_turn, ↓r_for0, ↓r_forS, ↓r_fnx, ↓r_fct, ↓r_fbk, ↓r_frt, ↓r_pass, ↓r_brk, ↓r_cont, ↓r_doc, ↓r_never, ↓r_b0, ↓r_bc, ↓r_bf, ↓r_snx, ↓r_srr, ↓r_sbk, ↓r_sct, ↓r_runB, ↓r_ert, ↓r_enx, ↓r_add, ↓r_addT, ↓r_addL, ↓r_addS, ↓r_sub, ↓r_mul, ↓r_mod, ↓r_fdiv, ↓r_pow, ↓r_vneg, ↓r_vnot, ↓r_lt, ↓r_le, ↓r_gt', ↓r_ge, ↓r_eqI, ↓r_neI, ↓r_eqB, ↓r_neB, ↓r_eqL, ↓r_eqT, ↓r_eqS, ↓r_inL, ↓r_inT, ↓r_isN, ↓r_notN, ↓r_ixT0, ↓r_ixL0, ↓r_ixT1, ↓r_ixL1, ↓r_ixT2, ↓r_ixL2, ↓r_ixT3, ↓r_ixL3, ↓r_ixT3m, ↓r_ixC, ↓r_lenT, ↓r_lenL, ↓r_lenC, ↓r_isiI, ↓r_isiB, ↓r_isiN, ↓r_isiS, ↓r_isiT, ↓r_isiL, ↓r_abs, ↓r_min2, ↓r_min3, ↓r_max2, ↓r_max3, ↓r_minL, ↓r_maxL, ↓r_sumL, ↓r_allL, ↓r_anyL, ↓r_divm, ↓r_Tint, ↓r_Ttup, ↓r_Ttup', ↓r_Tlst, ↓r_Tlst', ↓r_slC, ↓r_slL, ↓r_slT, ↓r_ints0, ↓r_intsS, ↓r_bls0, ↓r_blsS, ↓r_ixR, ↓r_setR0, ↓r_setR1, ↓r_setR2, ↓r_frz0, ↓r_frzS, ↓r_isTR, ↓r_appR, ↓x_glob_0, ↓x_glob_1, ↓x_glob_2, ↓x_glob_3, ↓x_glob_4, ↓x_glob_5, ↓x_call_is_whole_0, ↓x_cf_is_whole_0, ↓x_call_is_between_0, ↓x_cf_is_between_0, ↓x_call_is_up_to_0, ↓x_cf_is_up_to_0, ↓x_call_is_tuple_of_0, ↓x_cf_is_tuple_of_0, ↓x_call_is_pair_0, ↓x_cf_is_pair_0, ↓x_call_is_cell_0, ↓x_cf_is_cell_0, ↓x_call_is_box_0, ↓x_cf_is_box_0, ↓x_call_is_point_0, ↓x_cf_is_point_0, ↓x_call_is_shape_0, ↓x_cf_is_shape_0, ↓x_call_is_stroke_0, ↓x_cf_is_stroke_0, ↓x_call_turn_at_0, ↓x_cf_turn_at_0, ↓x_call_is_in_corners_0, ↓x_cf_is_in_corners_0, ↓x_call_range_in_0, ↓x_cf_range_in_0, ↓x_call_cells_in_0, ↓x_cf_cells_in_0, ↓x_call_covers_by_0, ↓x_cf_covers_by_0, ↓x_call_check_stroke_0, ↓x_cf_check_stroke_0, ↓x_call_check_spot_0, ↓x_cf_check_spot_0, ↓x_call_covers_0, ↓x_cf_covers_0, ↓x_call_covers_1, ↓x_cf_covers_1, ↓x_call__law_pool_0, ↓x_cf__law_pool_0, ↓x_call__law_below_0, ↓x_cf__law_below_0, ↓x_call__law_one_0, ↓x_cf__law_one_0, ↓x_call__law_same_0_0, ↓x_cf__law_same_0_0, ↓x_call__law_same_0, ↓x_cf__law_same_0, ↓x_call__law_boxed_0, ↓x_cf__law_boxed_0, ↓x_call__law_in_box_0, ↓x_cf__law_in_box_0, ↓x_call__law_in_triangle_0, ↓x_cf__law_in_triangle_0, ↓x_call__law_covers_0, ↓x_cf__law_covers_0, ↓x_call__law_stroke_0, ↓x_cf__law_stroke_0, ↓x_call__law_right_0, ↓x_cf__law_right_0, ↓x_onStk, ↓x_onShp, ↓x_stk0, ↓x_is_whole, ↓x_is_between, ↓x_is_up_to, ↓x_is_tuple_of, ↓x_is_pair, ↓x_is_cell, ↓x_is_box, ↓x_is_point, ↓x_is_shape, ↓x_is_stroke, ↓x_turn_at, ↓x_is_in_corners, ↓x_range_in, ↓x_cells_in, ↓x_covers_by, ↓x_check_stroke, ↓x_check_spot, ↓x_covers, ↓x__law_below, ↓x__law_one, ↓x__law_stroke, ↓x__law_right, ↓x__law_pool, ↓x__law_same_0, ↓x__law_same2, ↓x__law_same4, ↓x__law_boxed, ↓x__law_in_box, ↓x__law_in_triangle, ↓x__law_covers, lenTs, hm, sizeLine, hsm] at hacc ⊢
        by_cases hi : inTri (2 * a) (2 * b) (2 * c) (2 * d) (2 * e) (2 * f') (2 * p.2 + 1) (2 * p.1 + 1) = true
        · simp [hi] at q hacc ⊢
          exact ⟨by omega, q⟩
        · simp [hi] at q ⊢
          exact q
      · rw [flat_if, List.length_nil, List.length_map]
        have := List.length_filter_le (fun p => (Shp.tri a b c d e f').has p.1 p.2) ps
        unfold sizeLine; omega
      · rw [flat_if]
        exact q
theorem le_covers_by {x : PV} {r k : Int} : M.le (C_covers_by [x, .int r, .int k]) (d_covers_by.den (g 3) [x, .int r, .int k]) := by
  refine le_guard fun h => le_onStk fun s hs e => ?_
  intro S Q E q
  have q : Q (.bl (s.cov r k)) S := q
  rw [den_eq (body := c_covers_by) (env := [some (x), some (.int r), some (.int k)]) rfl rfl]
  unfold c_covers_by
  subst e
  simp [↓r_ret, ↓r_guard, ↓r_ofO, ↓r_noexc, ↓r_any, ↓k_set0, ↓k_setS, ↓k_wipe0, ↓k_wipeS, ↓k_app0, ↓k_appS, ↓k_cat0, ↓k_catS, ↓r_get0, ↓r_getS, ↓r_var, ↓r_int, ↓r_str, ↓r_bl, ↓r_non, ↓r_bty, ↓r_bin, ↓r_neg, ↓r_nt, ↓r_cmp, ↓r_chn, ↓r_tv, ↓r_b1, ↓r_and, ↓r_or, ↓r_ife, ↓r_tup, ↓r_lst, ↓r_own, ↓r_ix, ↓r_sl, ↓r_callB, ↓r_callT, ↓r_meth, ↓r_comp, ↓r_compO, ↓r_compF, ↓r_cm0, ↓r_cmS, ↓r_l0, ↓r_lc, ↓r_ls, ↓r_comp2, ↓r_compI, ↓r_compF2, ↓r_tnt, ↓r_tb1, ↓r_tand, ↓r_tor, ↓r_tcmp, ↓r_tchn, ↓r_ttv, ↓r_c0, ↓r_c1, ↓r_trb, ↓r_trn, ↓r_tri, ↓r_trt, ↓r_trl, ↓r_o0, ↓r_o1, ↓r_prt, ↓r_gn, ↓r_gt, ↓r_gl, ↓r_gs, ↓r_g0, ↓r_gc, ↓r_iv, ↓r_ir, ↓r_srt, ↓r_srl, ↓r_src, ↓r_rg1, ↓r_rg2, ↓r_ex, ↓r_asg, ↓r_setc, ↓r_par2, ↓r_asg2, ↓r_par3, ↓r_asg3, ↓r_rt, ↓r_rtN, ↓r_if, ↓r_loop, ↓r_turn, ↓r_for0, ↓r_forS, ↓r_fnx, ↓r_fct, ↓r_fbk, ↓r_frt, ↓r_pass, ↓r_brk, ↓r_cont, ↓r_doc, ↓r_never, ↓r_b0, ↓r_bc, ↓r_bf, ↓r_snx, ↓r_srr, ↓r_sbk, ↓r_sct, ↓r_runB, ↓r_ert, ↓r_enx, ↓r_add, ↓r_addT, ↓r_addL, ↓r_addS, ↓r_sub, ↓r_mul, ↓r_mod, ↓r_fdiv, ↓r_pow, ↓r_vneg, ↓r_vnot, ↓r_lt, ↓r_le, ↓r_gt', ↓r_ge, ↓r_eqI, ↓r_neI, ↓r_eqB, ↓r_neB, ↓r_eqL, ↓r_eqT, ↓r_eqS, ↓r_inL, ↓r_inT, ↓r_isN, ↓r_notN, ↓r_ixT0, ↓r_ixL0, ↓r_ixT1, ↓r_ixL1, ↓r_ixT2, ↓r_ixL2, ↓r_ixT3, ↓r_ixL3, ↓r_ixT3m, ↓r_ixC, ↓r_lenT, ↓r_lenL, ↓r_lenC, ↓r_isiI, ↓r_isiB, ↓r_isiN, ↓r_isiS, ↓r_isiT, ↓r_isiL, ↓r_abs, ↓r_min2, ↓r_min3, ↓r_max2, ↓r_max3, ↓r_minL, ↓r_maxL, ↓r_sumL, ↓r_allL, ↓r_anyL, ↓r_divm, ↓r_Tint, ↓r_Ttup, ↓r_Ttup', ↓r_Tlst, ↓r_Tlst', ↓r_slC, ↓r_slL, ↓r_slT, ↓r_ints0, ↓r_intsS, ↓r_bls0, ↓r_blsS, ↓r_ixR, ↓r_setR0, ↓r_setR1, ↓r_setR2, ↓r_frz0, ↓r_frzS, ↓r_isTR, ↓r_appR, ↓x_glob_0, ↓x_glob_1, ↓x_glob_2, ↓x_glob_3, ↓x_glob_4, ↓x_glob_5, ↓x_call_is_whole_0, ↓x_cf_is_whole_0, ↓x_call_is_between_0, ↓x_cf_is_between_0, ↓x_call_is_up_to_0, ↓x_cf_is_up_to_0, ↓x_call_is_tuple_of_0, ↓x_cf_is_tuple_of_0, ↓x_call_is_pair_0, ↓x_cf_is_pair_0, ↓x_call_is_cell_0, ↓x_cf_is_cell_0, ↓x_call_is_box_0, ↓x_cf_is_box_0, ↓x_call_is_point_0, ↓x_cf_is_point_0, ↓x_call_is_shape_0, ↓x_cf_is_shape_0, ↓x_call_is_stroke_0, ↓x_cf_is_stroke_0, ↓x_call_turn_at_0, ↓x_cf_turn_at_0, ↓x_call_is_in_corners_0, ↓x_cf_is_in_corners_0, ↓x_call_range_in_0, ↓x_cf_range_in_0, ↓x_call_cells_in_0, ↓x_cf_cells_in_0, ↓x_call_covers_by_0, ↓x_cf_covers_by_0, ↓x_call_check_stroke_0, ↓x_cf_check_stroke_0, ↓x_call_check_spot_0, ↓x_cf_check_spot_0, ↓x_call_covers_0, ↓x_cf_covers_0, ↓x_call_covers_1, ↓x_cf_covers_1, ↓x_call__law_pool_0, ↓x_cf__law_pool_0, ↓x_call__law_below_0, ↓x_cf__law_below_0, ↓x_call__law_one_0, ↓x_cf__law_one_0, ↓x_call__law_same_0_0, ↓x_cf__law_same_0_0, ↓x_call__law_same_0, ↓x_cf__law_same_0, ↓x_call__law_boxed_0, ↓x_cf__law_boxed_0, ↓x_call__law_in_box_0, ↓x_cf__law_in_box_0, ↓x_call__law_in_triangle_0, ↓x_cf__law_in_triangle_0, ↓x_call__law_covers_0, ↓x_cf__law_covers_0, ↓x_call__law_stroke_0, ↓x_cf__law_stroke_0, ↓x_call__law_right_0, ↓x_cf__law_right_0, ↓x_onStk, ↓x_onShp, ↓x_stk0, ↓x_is_whole, ↓x_is_between, ↓x_is_up_to, ↓x_is_tuple_of, ↓x_is_pair, ↓x_is_cell, ↓x_is_box, ↓x_is_point, ↓x_is_shape, ↓x_is_stroke, ↓x_turn_at, ↓x_is_in_corners, ↓x_range_in, ↓x_cells_in, ↓x_covers_by, ↓x_check_stroke, ↓x_check_spot, ↓x_covers, ↓x__law_below, ↓x__law_one, ↓x__law_stroke, ↓x__law_right, ↓x__law_pool, ↓x__law_same_0, ↓x__law_same2, ↓x__law_same4, ↓x__law_boxed, ↓x__law_in_box, ↓x__law_in_triangle, ↓x__law_covers, hs, sizeLine]
  refine ⟨by omega, ⟨by simp [PV.fine, PV.fineL], ?_⟩, ?_⟩
  · simp only [PV.fine]; exact cell_fine
  · rw [← List.any_map, cell_in]; exact q
end Dp.L

namespace Dp.L
open PySem PySem.Spec L2 Dp
open PyProof.Rows hiding St
theorem le__law_same_0 {a b : Bool} : M.le (C__law_same_0 [.bl a, .bl b]) (d__law_same_0.den (g 0) [.bl a, .bl b]) := by
  intro S Q E q
  have q : Q (.bl (a == b)) S := q
  rw [den_eq (body := c__law_same_0) (env := [some (.bl a), some (.bl b), none, none]) rfl rfl]
  unfold c__law_same_0
  simp [↓r_ret, ↓r_guard, ↓r_ofO, ↓r_noexc, ↓r_any, ↓k_set0, ↓k_setS, ↓k_wipe0, ↓k_wipeS, ↓k_app0, ↓k_appS, ↓k_cat0, ↓k_catS, ↓r_get0, ↓r_getS, ↓r_var, ↓r_int, ↓r_str, ↓r_bl, ↓r_non, ↓r_bty, ↓r_bin, ↓r_neg, ↓r_nt, ↓r_cmp, ↓r_chn, ↓r_tv, ↓r_b1, ↓r_and, ↓r_or, ↓r_ife, ↓r_tup, ↓r_lst, ↓r_own, ↓r_ix, ↓r_sl, ↓r_callB, ↓r_callT, ↓r_meth, ↓r_comp, ↓r_compO, ↓r_compF, ↓r_cm0, ↓r_cmS, ↓r_l0, ↓r_lc, ↓r_ls, ↓r_comp2, ↓r_compI, ↓r_compF2, ↓r_tnt, ↓r_tb1, ↓r_tand, ↓r_tor, ↓r_tcmp, ↓r_tchn, ↓r_ttv, ↓r_c0, ↓r_c1, ↓r_trb, ↓r_trn, ↓r_tri, ↓r_trt, ↓r_trl, ↓r_o0, ↓r_o1, ↓r_prt, ↓r_gn, ↓r_gt, ↓r_gl, ↓r_gs, ↓r_g0, ↓r_gc, ↓r_iv, ↓r_ir, ↓r_srt, ↓r_srl, ↓r_src, ↓r_rg1, ↓r_rg2, ↓r_ex, ↓r_asg, ↓r_setc, ↓r_par2, ↓r_asg2, ↓r_par3, ↓r_asg3, ↓r_rt, ↓r_rtN, ↓r_if, ↓r_loop, ↓r_turn, ↓r_for0, ↓r_forS, ↓r_fnx, ↓r_fct, ↓r_fbk, ↓r_frt, ↓r_pass, ↓r_brk, ↓r_cont, ↓r_doc, ↓r_never, ↓r_b0, ↓r_bc, ↓r_bf, ↓r_snx, ↓r_srr, ↓r_sbk, ↓r_sct, ↓r_runB, ↓r_ert, ↓r_enx, ↓r_add, ↓r_addT, ↓r_addL, ↓r_addS, ↓r_sub, ↓r_mul, ↓r_mod, ↓r_fdiv, ↓r_pow, ↓r_vneg, ↓r_vnot, ↓r_lt, ↓r_le, ↓r_gt', ↓r_ge, ↓r_eqI, ↓r_neI, ↓r_eqB, ↓r_neB, ↓r_eqL, ↓r_eqT, ↓r_eqS, ↓r_inL, ↓r_inT, ↓r_isN, ↓r_notN, ↓r_ixT0, ↓r_ixL0, ↓r_ixT1, ↓r_ixL1, ↓r_ixT2, ↓r_ixL2, ↓r_ixT3, ↓r_ixL3, ↓r_ixT3m, ↓r_ixC, ↓r_lenT, ↓r_lenL, ↓r_lenC, ↓r_isiI, ↓r_isiB, ↓r_isiN, ↓r_isiS, ↓r_isiT, ↓r_isiL, ↓r_abs, ↓r_min2, ↓r_min3, ↓r_max2, ↓r_max3, ↓r_minL, ↓r_maxL, ↓r_sumL, ↓r_allL, ↓r_anyL, ↓r_divm, ↓r_Tint, ↓r_Ttup, ↓r_Ttup', ↓r_Tlst, ↓r_Tlst', ↓r_slC, ↓r_slL, ↓r_slT, ↓r_ints0, ↓r_intsS, ↓r_bls0, ↓r_blsS, ↓r_ixR, ↓r_setR0, ↓r_setR1, ↓r_setR2, ↓r_frz0, ↓r_frzS, ↓r_isTR, ↓r_appR, ↓x_glob_0, ↓x_glob_1, ↓x_glob_2, ↓x_glob_3, ↓x_glob_4, ↓x_glob_5, ↓x_call_is_whole_0, ↓x_cf_is_whole_0, ↓x_call_is_between_0, ↓x_cf_is_between_0, ↓x_call_is_up_to_0, ↓x_cf_is_up_to_0, ↓x_call_is_tuple_of_0, ↓x_cf_is_tuple_of_0, ↓x_call_is_pair_0, ↓x_cf_is_pair_0, ↓x_call_is_cell_0, ↓x_cf_is_cell_0, ↓x_call_is_box_0, ↓x_cf_is_box_0, ↓x_call_is_point_0, ↓x_cf_is_point_0, ↓x_call_is_shape_0, ↓x_cf_is_shape_0, ↓x_call_is_stroke_0, ↓x_cf_is_stroke_0, ↓x_call_turn_at_0, ↓x_cf_turn_at_0, ↓x_call_is_in_corners_0, ↓x_cf_is_in_corners_0, ↓x_call_range_in_0, ↓x_cf_range_in_0, ↓x_call_cells_in_0, ↓x_cf_cells_in_0, ↓x_call_covers_by_0, ↓x_cf_covers_by_0, ↓x_call_check_stroke_0, ↓x_cf_check_stroke_0, ↓x_call_check_spot_0, ↓x_cf_check_spot_0, ↓x_call_covers_0, ↓x_cf_covers_0, ↓x_call_covers_1, ↓x_cf_covers_1, ↓x_call__law_pool_0, ↓x_cf__law_pool_0, ↓x_call__law_below_0, ↓x_cf__law_below_0, ↓x_call__law_one_0, ↓x_cf__law_one_0, ↓x_call__law_same_0_0, ↓x_cf__law_same_0_0, ↓x_call__law_same_0, ↓x_cf__law_same_0, ↓x_call__law_boxed_0, ↓x_cf__law_boxed_0, ↓x_call__law_in_box_0, ↓x_cf__law_in_box_0, ↓x_call__law_in_triangle_0, ↓x_cf__law_in_triangle_0, ↓x_call__law_covers_0, ↓x_cf__law_covers_0, ↓x_call__law_stroke_0, ↓x_cf__law_stroke_0, ↓x_call__law_right_0, ↓x_cf__law_right_0, ↓x_onStk, ↓x_onShp, ↓x_stk0, ↓x_is_whole, ↓x_is_between, ↓x_is_up_to, ↓x_is_tuple_of, ↓x_is_pair, ↓x_is_cell, ↓x_is_box, ↓x_is_point, ↓x_is_shape, ↓x_is_stroke, ↓x_turn_at, ↓x_is_in_corners, ↓x_range_in, ↓x_cells_in, ↓x_covers_by, ↓x_check_stroke, ↓x_check_spot, ↓x_covers, ↓x__law_below, ↓x__law_one, ↓x__law_stroke, ↓x__law_right, ↓x__law_pool, ↓x__law_same_0, ↓x__law_same2, ↓x__law_same4, ↓x__law_boxed, ↓x__law_in_box, ↓x__law_in_triangle, ↓x__law_covers, isiNames, isiB, isNon]
  exact q
theorem le__law_same2 {a b c d : Bool} : M.le (C__law_same [.lst [.bl a, .bl b], .lst [.bl c, .bl d]]) (d__law_same.den (g 1) [.lst [.bl a, .bl b], .lst [.bl c, .bl d]]) := by
  refine le_guard fun h S Q E q => ?_
  have q : Q (.bl true) S := q
  show (runB (dB (g 1) c__law_same [some (.lst [.bl a, .bl b]), some (.lst [.bl c, .bl d]), none, none])).run _ _ _
  unfold c__law_same
  obtain ⟨rfl, rfl⟩ := h
  simp [↓r_ret, ↓r_guard, ↓r_ofO, ↓r_noexc, ↓r_any, ↓k_set0, ↓k_setS, ↓k_wipe0, ↓k_wipeS, ↓k_app0, ↓k_appS, ↓k_cat0, ↓k_catS, ↓r_get0, ↓r_getS, ↓r_var, ↓r_int, ↓r_str, ↓r_bl, ↓r_non, ↓r_bty, ↓r_bin, ↓r_neg, ↓r_nt, ↓r_cmp, ↓r_chn, ↓r_tv, ↓r_b1, ↓r_and, ↓r_or, ↓r_ife, ↓r_tup, ↓r_lst, ↓r_own, ↓r_ix, ↓r_sl, ↓r_callB, ↓r_callT, ↓r_meth, ↓r_comp, ↓r_compO, ↓r_compF, ↓r_cm0, ↓r_cmS, ↓r_l0, ↓r_lc, ↓r_ls, ↓r_comp2, ↓r_compI, ↓r_compF2, ↓r_tnt, ↓r_tb1, ↓r_tand, ↓r_tor, ↓r_tcmp, ↓r_tchn, ↓r_ttv, ↓r_c0, ↓r_c1, ↓r_trb, ↓r_trn, ↓r_tri, ↓r_trt, ↓r_trl, ↓r_o0, ↓r_o1, ↓r_prt, ↓r_gn, ↓r_gt, ↓r_gl, ↓r_gs, ↓r_g0, ↓r_gc, ↓r_iv, ↓r_ir, ↓r_srt, ↓r_srl, ↓r_src, ↓r_rg1, ↓r_rg2, ↓r_ex, ↓r_asg, ↓r_setc, ↓r_par2, ↓r_asg2, ↓r_par3, ↓r_asg3, ↓r_rt, ↓r_rtN, ↓r_if, ↓r_loop, ↓r_turn, ↓r_for0, ↓r_forS, ↓r_fnx, ↓r_fct, ↓r_fbk, ↓r_frt, ↓r_pass, ↓r_brk, ↓r_cont, ↓r_doc, ↓r_never, ↓r_b0, ↓r_bc, ↓r_bf, ↓r_snx, ↓r_srr, ↓r_sbk, ↓r_sct, ↓r_runB, ↓r_ert, ↓r_enx, ↓r_add, ↓r_addT, ↓r_addL, ↓r_addS, ↓r_sub, ↓r_mul, ↓r_mod, ↓r_fdiv, ↓r_pow, ↓r_vneg, ↓r_vnot, ↓r_lt, ↓r_le, ↓r_gt', ↓r_ge, ↓r_eqI, ↓r_neI, ↓r_eqB, ↓r_neB, ↓r_eqL, ↓r_eqT, ↓r_eqS, ↓r_inL, ↓r_inT, ↓r_isN, ↓r_notN, ↓r_ixT0, ↓r_ixL0, ↓r_ixT1, ↓r_ixL1, ↓r_ixT2, ↓r_ixL2, ↓r_ixT3, ↓r_ixL3, ↓r_ixT3m, ↓r_ixC, ↓r_lenT, ↓r_lenL, ↓r_lenC, ↓r_isiI, ↓r_isiB, ↓r_isiN, ↓r_isiS, ↓r_isiT, ↓r_isiL, ↓r_abs, ↓r_min2, ↓r_min3, ↓r_max2, ↓r_max3, ↓r_minL, ↓r_maxL, ↓r_sumL, ↓r_allL, ↓r_anyL, ↓r_divm, ↓r_Tint, ↓r_Ttup, ↓r_Ttup', ↓r_Tlst, ↓r_Tlst', ↓r_slC, ↓r_slL, ↓r_slT, ↓r_ints0, ↓r_intsS, ↓r_bls0, ↓r_blsS, ↓r_ixR, ↓r_setR0, ↓r_setR1, ↓r_setR2, ↓r_frz0, ↓r_frzS, ↓r_isTR, ↓r_appR, ↓x_glob_0, ↓x_glob_1, ↓x_glob_2, ↓x_glob_3, ↓x_glob_4, ↓x_glob_5, ↓x_call_is_whole_0, ↓x_cf_is_whole_0, ↓x_call_is_between_0, ↓x_cf_is_between_0, ↓x_call_is_up_to_0, ↓x_cf_is_up_to_0, ↓x_call_is_tuple_of_0, ↓x_cf_is_tuple_of_0, ↓x_call_is_pair_0, ↓x_cf_is_pair_0, ↓x_call_is_cell_0, ↓x_cf_is_cell_0, ↓x_call_is_box_0, ↓x_cf_is_box_0, ↓x_call_is_point_0, ↓x_cf_is_point_0, ↓x_call_is_shape_0, ↓x_cf_is_shape_0, ↓x_call_is_stroke_0, ↓x_cf_is_stroke_0, ↓x_call_turn_at_0, ↓x_cf_turn_at_0, ↓x_call_is_in_corners_0, ↓x_cf_is_in_corners_0, ↓x_call_range_in_0, ↓x_cf_range_in_0, ↓x_call_cells_in_0, ↓x_cf_cells_in_0, ↓x_call_covers_by_0, ↓x_cf_covers_by_0, ↓x_call_check_stroke_0, ↓x_cf_check_stroke_0, ↓x_call_check_spot_0, ↓x_cf_check_spot_0, ↓x_call_covers_0, ↓x_cf_covers_0, ↓x_call_covers_1, ↓x_cf_covers_1, ↓x_call__law_pool_0, ↓x_cf__law_pool_0, ↓x_call__law_below_0, ↓x_cf__law_below_0, ↓x_call__law_one_0, ↓x_cf__law_one_0, ↓x_call__law_same_0_0, ↓x_cf__law_same_0_0, ↓x_call__law_same_0, ↓x_cf__law_same_0, ↓x_call__law_boxed_0, ↓x_cf__law_boxed_0, ↓x_call__law_in_box_0, ↓x_cf__law_in_box_0, ↓x_call__law_in_triangle_0, ↓x_cf__law_in_triangle_0, ↓x_call__law_covers_0, ↓x_cf__law_covers_0, ↓x_call__law_stroke_0, ↓x_cf__law_stroke_0, ↓x_call__law_right_0, ↓x_cf__law_right_0, ↓x_onStk, ↓x_onShp, ↓x_stk0, ↓x_is_whole, ↓x_is_between, ↓x_is_up_to, ↓x_is_tuple_of, ↓x_is_pair, ↓x_is_cell, ↓x_is_box, ↓x_is_point, ↓x_is_shape, ↓x_is_stroke, ↓x_turn_at, ↓x_is_in_corners, ↓x_range_in, ↓x_cells_in, ↓x_covers_by, ↓x_check_stroke, ↓x_check_spot, ↓x_covers, ↓x__law_below, ↓x__law_one, ↓x__law_stroke, ↓x__law_right, ↓x__law_pool, ↓x__law_same_0, ↓x__law_same2, ↓x__law_same4, ↓x__law_boxed, ↓x__law_in_box, ↓x__law_in_triangle, ↓x__law_covers, isiNames, isiB, isNon, sizeLine, lenL, rng2, inRng]
  exact q
theorem le__law_same4 {a b c d a' b' c' d' : Bool} : M.le (C__law_same [.lst [.bl a, .bl b, .bl a', .bl b'], .lst [.bl c, .bl d, .bl c', .bl d']]) (d__law_same.den (g 1) [.lst [.bl a, .bl b, .bl a', .bl b'], .lst [.bl c, .bl d, .bl c', .bl d']]) := by
  refine le_guard fun h S Q E q => ?_
  have q : Q (.bl true) S := q
  show (runB (dB (g 1) c__law_same [some (.lst [.bl a, .bl b, .bl a', .bl b']), some (.lst [.bl c, .bl d, .bl c', .bl d']), none, none])).run _ _ _
  unfold c__law_same
  obtain ⟨rfl, rfl, rfl, rfl⟩ := h
  simp [↓r_ret, ↓r_guard, ↓r_ofO, ↓r_noexc, ↓r_any, ↓k_set0, ↓k_setS, ↓k_wipe0, ↓k_wipeS, ↓k_app0, ↓k_appS, ↓k_cat0, ↓k_catS, ↓r_get0, ↓r_getS, ↓r_var, ↓r_int, ↓r_str, ↓r_bl, ↓r_non, ↓r_bty, ↓r_bin, ↓r_neg, ↓r_nt, ↓r_cmp, ↓r_chn, ↓r_tv, ↓r_b1, ↓r_and, ↓r_or, ↓r_ife, ↓r_tup, ↓r_lst, ↓r_own, ↓r_ix, ↓r_sl, ↓r_callB, ↓r_callT, ↓r_meth, ↓r_comp, ↓r_compO, ↓r_compF, ↓r_cm0, ↓r_cmS, ↓r_l0, ↓r_lc, ↓r_ls, ↓r_comp2, ↓r_compI, ↓r_compF2, ↓r_tnt, ↓r_tb1, ↓r_tand, ↓r_tor, ↓r_tcmp, ↓r_tchn, ↓r_ttv, ↓r_c0, ↓r_c1, ↓r_trb, ↓r_trn, ↓r_tri, ↓r_trt, ↓r_trl, ↓r_o0, ↓r_o1, ↓r_prt, ↓r_gn, ↓r_gt, ↓r_gl, ↓r_gs, ↓r_g0, ↓r_gc, ↓r_iv, ↓r_ir, ↓r_srt, ↓r_srl, ↓r_src, ↓r_rg1, ↓r_rg2, ↓r_ex, ↓r_asg, ↓r_setc, ↓r_par2, ↓r_asg2, ↓r_par3, ↓r_asg3, ↓r_rt, ↓r_rtN, ↓r_if, ↓r_loop, ↓r_turn, ↓r_for0, ↓r_forS, ↓r_fnx, ↓r_fct, ↓r_fbk, ↓r_frt, ↓r_pass, ↓r_brk, ↓r_cont, ↓r_doc, ↓r_never, ↓r_b0, ↓r_bc, ↓r_bf, ↓r_snx, ↓r_srr, ↓r_sbk, ↓r_sct, ↓r_runB, ↓r_ert, ↓r_enx, ↓r_add, ↓r_addT, ↓r_addL, ↓r_addS, ↓r_sub, ↓r_mul, ↓r_mod, ↓r_fdiv, ↓r_pow, ↓r_vneg, ↓r_vnot, ↓r_lt, ↓r_le, ↓r_gt', ↓r_ge, ↓r_eqI, ↓r_neI, ↓r_eqB, ↓r_neB, ↓r_eqL, ↓r_eqT, ↓r_eqS, ↓r_inL, ↓r_inT, ↓r_isN, ↓r_notN, ↓r_ixT0, ↓r_ixL0, ↓r_ixT1, ↓r_ixL1, ↓r_ixT2, ↓r_ixL2, ↓r_ixT3, ↓r_ixL3, ↓r_ixT3m, ↓r_ixC, ↓r_lenT, ↓r_lenL, ↓r_lenC, ↓r_isiI, ↓r_isiB, ↓r_isiN, ↓r_isiS, ↓r_isiT, ↓r_isiL, ↓r_abs, ↓r_min2, ↓r_min3, ↓r_max2, ↓r_max3, ↓r_minL, ↓r_maxL, ↓r_sumL, ↓r_allL, ↓r_anyL, ↓r_divm, ↓r_Tint, ↓r_Ttup, ↓r_Ttup', ↓r_Tlst, ↓r_Tlst', ↓r_slC, ↓r_slL, ↓r_slT, ↓r_ints0, ↓r_intsS, ↓r_bls0, ↓r_blsS, ↓r_ixR, ↓r_setR0, ↓r_setR1, ↓r_setR2, ↓r_frz0, ↓r_frzS, ↓r_isTR, ↓r_appR, ↓x_glob_0, ↓x_glob_1, ↓x_glob_2, ↓x_glob_3, ↓x_glob_4, ↓x_glob_5, ↓x_call_is_whole_0, ↓x_cf_is_whole_0, ↓x_call_is_between_0, ↓x_cf_is_between_0, ↓x_call_is_up_to_0, ↓x_cf_is_up_to_0, ↓x_call_is_tuple_of_0, ↓x_cf_is_tuple_of_0, ↓x_call_is_pair_0, ↓x_cf_is_pair_0, ↓x_call_is_cell_0, ↓x_cf_is_cell_0, ↓x_call_is_box_0, ↓x_cf_is_box_0, ↓x_call_is_point_0, ↓x_cf_is_point_0, ↓x_call_is_shape_0, ↓x_cf_is_shape_0, ↓x_call_is_stroke_0, ↓x_cf_is_stroke_0, ↓x_call_turn_at_0, ↓x_cf_turn_at_0, ↓x_call_is_in_corners_0, ↓x_cf_is_in_corners_0, ↓x_call_range_in_0, ↓x_cf_range_in_0, ↓x_call_cells_in_0, ↓x_cf_cells_in_0, ↓x_call_covers_by_0, ↓x_cf_covers_by_0, ↓x_call_check_stroke_0, ↓x_cf_check_stroke_0, ↓x_call_check_spot_0, ↓x_cf_check_spot_0, ↓x_call_covers_0, ↓x_cf_covers_0, ↓x_call_covers_1, ↓x_cf_covers_1, ↓x_call__law_pool_0, ↓x_cf__law_pool_0, ↓x_call__law_below_0, ↓x_cf__law_below_0, ↓x_call__law_one_0, ↓x_cf__law_one_0, ↓x_call__law_same_0_0, ↓x_cf__law_same_0_0, ↓x_call__law_same_0, ↓x_cf__law_same_0, ↓x_call__law_boxed_0, ↓x_cf__law_boxed_0, ↓x_call__law_in_box_0, ↓x_cf__law_in_box_0, ↓x_call__law_in_triangle_0, ↓x_cf__law_in_triangle_0, ↓x_call__law_covers_0, ↓x_cf__law_covers_0, ↓x_call__law_stroke_0, ↓x_cf__law_stroke_0, ↓x_call__law_right_0, ↓x_cf__law_right_0, ↓x_onStk, ↓x_onShp, ↓x_stk0, ↓x_is_whole, ↓x_is_between, ↓x_is_up_to, ↓x_is_tuple_of, ↓x_is_pair, ↓x_is_cell, ↓x_is_box, ↓x_is_point, ↓x_is_shape, ↓x_is_stroke, ↓x_turn_at, ↓x_is_in_corners, ↓x_range_in, ↓x_cells_in, ↓x_covers_by, ↓x_check_stroke, ↓x_check_spot, ↓x_covers, ↓x__law_below, ↓x__law_one, ↓x__law_stroke, ↓x__law_right, ↓x__law_pool, ↓x__law_same_0, ↓x__law_same2, ↓x__law_same4, ↓x__law_boxed, ↓x__law_in_box, ↓x__law_in_triangle, ↓x__law_covers, isiNames, isiB, isNon, sizeLine, lenL, rng4, inRng]
  exact q
theorem le__law_boxed {a b c d : Int} : M.le (C__law_boxed [.tup [.int a, .int b], .tup [.int c, .int d]]) (d__law_boxed.den (g 0) [.tup [.int a, .int b], .tup [.int c, .int d]]) := by
  intro S Q E q
  rw [den_eq (body := c__law_boxed) (env := [some (.tup [.int a, .int b]), some (.tup [.int c, .int d])]) rfl rfl]
  unfold c__law_boxed
  simp [↓r_ret, ↓r_guard, ↓r_ofO, ↓r_noexc, ↓r_any, ↓k_set0, ↓k_setS, ↓k_wipe0, ↓k_wipeS, ↓k_app0, ↓k_appS, ↓k_cat0, ↓k_catS, ↓r_get0, ↓r_getS, ↓r_var, ↓r_int, ↓r_str, ↓r_bl, ↓r_non, ↓r_bty, ↓r_bin, ↓r_neg, ↓r_nt, ↓r_cmp, ↓r_chn, ↓r_tv, ↓r_b1, ↓r_and, ↓r_or, ↓r_ife, ↓r_tup, ↓r_lst, ↓r_own, ↓r_ix, ↓r_sl, ↓r_callB, ↓r_callT, ↓r_meth, ↓r_comp, ↓r_compO, ↓r_compF, ↓r_cm0, ↓r_cmS, ↓r_l0, ↓r_lc, ↓r_ls, ↓r_comp2, ↓r_compI, ↓r_compF2, ↓r_tnt, ↓r_tb1, ↓r_tand, ↓r_tor, ↓r_tcmp, ↓r_tchn, ↓r_ttv, ↓r_c0, ↓r_c1, ↓r_trb, ↓r_trn, ↓r_tri, ↓r_trt, ↓r_trl, ↓r_o0, ↓r_o1, ↓r_prt, ↓r_gn, ↓r_gt, ↓r_gl, ↓r_gs, ↓r_g0, ↓r_gc, ↓r_iv, ↓r_ir, ↓r_srt, ↓r_srl, ↓r_src, ↓r_rg1, ↓r_rg2, ↓r_ex, ↓r_asg, ↓r_setc, ↓r_par2, ↓r_asg2, ↓r_par3, ↓r_asg3, ↓r_rt, ↓r_rtN, ↓r_if, ↓r_loop, ↓r_turn, ↓r_for0, ↓r_forS, ↓r_fnx, ↓r_fct, ↓r_fbk, ↓r_frt, ↓r_pass, ↓r_brk, ↓r_cont, ↓r_doc, ↓r_never, ↓r_b0, ↓r_bc, ↓r_bf, ↓r_snx, ↓r_srr, ↓r_sbk, ↓r_sct, ↓r_runB, ↓r_ert, ↓r_enx, ↓r_add, ↓r_addT, ↓r_addL, ↓r_addS, ↓r_sub, ↓r_mul, ↓r_mod, ↓r_fdiv, ↓r_pow, ↓r_vneg, ↓r_vnot, ↓r_lt, ↓r_le, ↓r_gt', ↓r_ge, ↓r_eqI, ↓r_neI, ↓r_eqB, ↓r_neB, ↓r_eqL, ↓r_eqT, ↓r_eqS, ↓r_inL, ↓r_inT, ↓r_isN, ↓r_notN, ↓r_ixT0, ↓r_ixL0, ↓r_ixT1, ↓r_ixL1, ↓r_ixT2, ↓r_ixL2, ↓r_ixT3, ↓r_ixL3, ↓r_ixT3m, ↓r_ixC, ↓r_lenT, ↓r_lenL, ↓r_lenC, ↓r_isiI, ↓r_isiB, ↓r_isiN, ↓r_isiS, ↓r_isiT, ↓r_isiL, ↓r_abs, ↓r_min2, ↓r_min3, ↓r_max2, ↓r_max3, ↓r_minL, ↓r_maxL, ↓r_sumL, ↓r_allL, ↓r_anyL, ↓r_divm, ↓r_Tint, ↓r_Ttup, ↓r_Ttup', ↓r_Tlst, ↓r_Tlst', ↓r_slC, ↓r_slL, ↓r_slT, ↓r_ints0, ↓r_intsS, ↓r_bls0, ↓r_blsS, ↓r_ixR, ↓r_setR0, ↓r_setR1, ↓r_setR2, ↓r_frz0, ↓r_frzS, ↓r_isTR, ↓r_appR, ↓x_glob_0, ↓x_glob_1, ↓x_glob_2, ↓x_glob_3, ↓x_glob_4, ↓x_glob_5, ↓x_call_is_whole_0, ↓x_cf_is_whole_0, ↓x_call_is_between_0, ↓x_cf_is_between_0, ↓x_call_is_up_to_0, ↓x_cf_is_up_to_0, ↓x_call_is_tuple_of_0, ↓x_cf_is_tuple_of_0, ↓x_call_is_pair_0, ↓x_cf_is_pair_0, ↓x_call_is_cell_0, ↓x_cf_is_cell_0, ↓x_call_is_box_0, ↓x_cf_is_box_0, ↓x_call_is_point_0, ↓x_cf_is_point_0, ↓x_call_is_shape_0, ↓x_cf_is_shape_0, ↓x_call_is_stroke_0, ↓x_cf_is_stroke_0, ↓x_call_turn_at_0, ↓x_cf_turn_at_0, ↓x_call_is_in_corners_0, ↓x_cf_is_in_corners_0, ↓x_call_range_in_0, ↓x_cf_range_in_0, ↓x_call_cells_in_0, ↓x_cf_cells_in_0, ↓x_call_covers_by_0, ↓x_cf_covers_by_0, ↓x_call_check_stroke_0, ↓x_cf_check_stroke_0, ↓x_call_check_spot_0, ↓x_cf_check_spot_0, ↓x_call_covers_0, ↓x_cf_covers_0, ↓x_call_covers_1, ↓x_cf_covers_1, ↓x_call__law_pool_0, ↓x_cf__law_pool_0, ↓x_call__law_below_0, ↓x_cf__law_below_0, ↓x_call__law_one_0, ↓x_cf__law_one_0, ↓x_call__law_same_0_0, ↓x_cf__law_same_0_0, ↓x_call__law_same_0, ↓x_cf__law_same_0, ↓x_call__law_boxed_0, ↓x_cf__law_boxed_0, ↓x_call__law_in_box_0, ↓x_cf__law_in_box_0, ↓x_call__law_in_triangle_0, ↓x_cf__law_in_triangle_0, ↓x_call__law_covers_0, ↓x_cf__law_covers_0, ↓x_call__law_stroke_0, ↓x_cf__law_stroke_0, ↓x_call__law_right_0, ↓x_cf__law_right_0, ↓x_onStk, ↓x_onShp, ↓x_stk0, ↓x_is_whole, ↓x_is_between, ↓x_is_up_to, ↓x_is_tuple_of, ↓x_is_pair, ↓x_is_cell, ↓x_is_box, ↓x_is_point, ↓x_is_shape, ↓x_is_stroke, ↓x_turn_at, ↓x_is_in_corners, ↓x_range_in, ↓x_cells_in, ↓x_covers_by, ↓x_check_stroke, ↓x_check_spot, ↓x_covers, ↓x__law_below, ↓x__law_one, ↓x__law_stroke, ↓x__law_right, ↓x__law_pool, ↓x__law_same_0, ↓x__law_same2, ↓x__law_same4, ↓x__law_boxed, ↓x__law_in_box, ↓x__law_in_triangle, ↓x__law_covers, sizeLine]
  exact q
theorem le__law_in_box {l t r u y x : Int} : M.le (C__law_in_box [.tup [.int l, .int t, .int r, .int u], .tup [.int y, .int x]]) (d__law_in_box.den (g 0) [.tup [.int l, .int t, .int r, .int u], .tup [.int y, .int x]]) := by
  intro S Q E q
  have q : Q (.bl (inBox l t r u y x)) S := q
  rw [den_eq (body := c__law_in_box) (env := [some (.tup [.int l, .int t, .int r, .int u]), some (.tup [.int y, .int x])]) rfl rfl]
  unfold c__law_in_box
  simp [↓r_ret, ↓r_guard, ↓r_ofO, ↓r_noexc, ↓r_any, ↓k_set0, ↓k_setS, ↓k_wipe0, ↓k_wipeS, ↓k_app0, ↓k_appS, ↓k_cat0, ↓k_catS, ↓r_get0, ↓r_getS, ↓r_var, ↓r_int, ↓r_str, ↓r_bl, ↓r_non, ↓r_bty, ↓r_bin, ↓r_neg, ↓r_nt, ↓r_cmp, ↓r_chn, ↓r_tv, ↓r_b1, ↓r_and, ↓r_or, ↓r_ife, ↓r_tup, ↓r_lst, ↓r_own, ↓r_ix, ↓r_sl, ↓r_callB, ↓r_callT, ↓r_meth, ↓r_comp, ↓r_compO, ↓r_compF, ↓r_cm0, ↓r_cmS, ↓r_l0, ↓r_lc, ↓r_ls, ↓r_comp2, ↓r_compI, ↓r_compF2, ↓r_tnt, ↓r_tb1, ↓r_tand, ↓r_tor, ↓r_tcmp, ↓r_tchn, ↓r_ttv, ↓r_c0, ↓r_c1, ↓r_trb, ↓r_trn, ↓r_tri, ↓r_trt, ↓r_trl, ↓r_o0, ↓r_o1, ↓r_prt, ↓r_gn, ↓r_gt, ↓r_gl, ↓r_gs, ↓r_g0, ↓r_gc, ↓r_iv, ↓r_ir, ↓r_srt, ↓r_srl, ↓r_src, ↓r_rg1, ↓r_rg2, ↓r_ex, ↓r_asg, ↓r_setc, ↓r_par2, ↓r_asg2, ↓r_par3, ↓r_asg3, ↓r_rt, ↓r_rtN, ↓r_if, ↓r_loop, ↓r_turn, ↓r_for0, ↓r_forS, ↓r_fnx, ↓r_fct, ↓r_fbk, ↓r_frt, ↓r_pass, ↓r_brk, ↓r_cont, ↓r_doc, ↓r_never, ↓r_b0, ↓r_bc, ↓r_bf, ↓r_snx, ↓r_srr, ↓r_sbk, ↓r_sct, ↓r_runB, ↓r_ert, ↓r_enx, ↓r_add, ↓r_addT, ↓r_addL, ↓r_addS, ↓r_sub, ↓r_mul, ↓r_mod, ↓r_fdiv, ↓r_pow, ↓r_vneg, ↓r_vnot, ↓r_lt, ↓r_le, ↓r_gt', ↓r_ge, ↓r_eqI, ↓r_neI, ↓r_eqB, ↓r_neB, ↓r_eqL, ↓r_eqT, ↓r_eqS, ↓r_inL, ↓r_inT, ↓r_isN, ↓r_notN, ↓r_ixT0, ↓r_ixL0, ↓r_ixT1, ↓r_ixL1, ↓r_ixT2, ↓r_ixL2, ↓r_ixT3, ↓r_ixL3, ↓r_ixT3m, ↓r_ixC, ↓r_lenT, ↓r_lenL, ↓r_lenC, ↓r_isiI, ↓r_isiB, ↓r_isiN, ↓r_isiS, ↓r_isiT, ↓r_isiL, ↓r_abs, ↓r_min2, ↓r_min3, ↓r_max2, ↓r_max3, ↓r_minL, ↓r_maxL, ↓r_sumL, ↓r_allL, ↓r_anyL, ↓r_divm, ↓r_Tint, ↓r_Ttup, ↓r_Ttup', ↓r_Tlst, ↓r_Tlst', ↓r_slC, ↓r_slL, ↓r_slT, ↓r_ints0, ↓r_intsS, ↓r_bls0, ↓r_blsS, ↓r_ixR, ↓r_setR0, ↓r_setR1, ↓r_setR2, ↓r_frz0, ↓r_frzS, ↓r_isTR, ↓r_appR, ↓x_glob_0, ↓x_glob_1, ↓x_glob_2, ↓x_glob_3, ↓x_glob_4, ↓x_glob_5, ↓x_call_is_whole_0, ↓x_cf_is_whole_0, ↓x_call_is_between_0, ↓x_cf_is_between_0, ↓x_call_is_up_to_0, ↓x_cf_is_up_to_0, ↓x_call_is_tuple_of_0, ↓x_cf_is_tuple_of_0, ↓x_call_is_pair_0, ↓x_cf_is_pair_0, ↓x_call_is_cell_0, ↓x_cf_is_cell_0, ↓x_call_is_box_0, ↓x_cf_is_box_0, ↓x_call_is_point_0, ↓x_cf_is_point_0, ↓x_call_is_shape_0, ↓x_cf_is_shape_0, ↓x_call_is_stroke_0, ↓x_cf_is_stroke_0, ↓x_call_turn_at_0, ↓x_cf_turn_at_0, ↓x_call_is_in_corners_0, ↓x_cf_is_in_corners_0, ↓x_call_range_in_0, ↓x_cf_range_in_0, ↓x_call_cells_in_0, ↓x_cf_cells_in_0, ↓x_call_covers_by_0, ↓x_cf_covers_by_0, ↓x_call_check_stroke_0, ↓x_cf_check_stroke_0, ↓x_call_check_spot_0, ↓x_cf_check_spot_0, ↓x_call_covers_0, ↓x_cf_covers_0, ↓x_call_covers_1, ↓x_cf_covers_1, ↓x_call__law_pool_0, ↓x_cf__law_pool_0, ↓x_call__law_below_0, ↓x_cf__law_below_0, ↓x_call__law_one_0, ↓x_cf__law_one_0, ↓x_call__law_same_0_0, ↓x_cf__law_same_0_0, ↓x_call__law_same_0, ↓x_cf__law_same_0, ↓x_call__law_boxed_0, ↓x_cf__law_boxed_0, ↓x_call__law_in_box_0, ↓x_cf__law_in_box_0, ↓x_call__law_in_triangle_0, ↓x_cf__law_in_triangle_0, ↓x_call__law_covers_0, ↓x_cf__law_covers_0, ↓x_call__law_stroke_0, ↓x_cf__law_stroke_0, ↓x_call__law_right_0, ↓x_cf__law_right_0, ↓x_onStk, ↓x_onShp, ↓x_stk0, ↓x_is_whole, ↓x_is_between, ↓x_is_up_to, ↓x_is_tuple_of, ↓x_is_pair, ↓x_is_cell, ↓x_is_box, ↓x_is_point, ↓x_is_shape, ↓x_is_stroke, ↓x_turn_at, ↓x_is_in_corners, ↓x_range_in, ↓x_cells_in, ↓x_covers_by, ↓x_check_stroke, ↓x_check_spot, ↓x_covers, ↓x__law_below, ↓x__law_one, ↓x__law_stroke, ↓x__law_right, ↓x__law_pool, ↓x__law_same_0, ↓x__law_same2, ↓x__law_same4, ↓x__law_boxed, ↓x__law_in_box, ↓x__law_in_triangle, ↓x__law_covers, sizeLine]
  revert q
  unfold inBox
  by_cases h1 : l ≤ x <;> by_cases h2 : x < r <;> by_cases h3 : t ≤ y <;> simp [h1, h2, h3]
end Dp.L

namespace Dp.L
open PySem PySem.Spec L2 Dp
open PyProof.Rows hiding St
theorem leaf3 {P : Bool → Prop} {X Y Z X' Y' Z' : Prop} [Decidable X] [Decidable Y] [Decidable Z] [Decidable X'] [Decidable Y'] [Decidable Z'] [Decidable (X ↔ Y)] (hx : X' ↔ X) (hy : Y' ↔ Y) (hz : Z' ↔ Z) :
    P ((decide X' == decide Y') && (decide Y' == decide Z')) → if X ↔ Y then P (decide Y == decide Z) else P (decide X == decide Y) := by
  intro q
  have e1 : decide X' = decide X := decide_eq_decide.mpr hx
  have e2 : decide Y' = decide Y := decide_eq_decide.mpr hy
  have e3 : decide Z' = decide Z := decide_eq_decide.mpr hz
  rw [e1, e2, e3] at q
  by_cases x : X <;> by_cases y : Y <;> by_cases z : Z <;> simpa [x, y, z] using q
theorem le__law_in_triangle {a b c d e f y x : Int} : M.le (C__law_in_triangle [.tup [.tup [.int a, .int b], .tup [.int c, .int d], .tup [.int e, .int f]], .tup [.int y, .int x]]) (d__law_in_triangle.den (g 0) [.tup [.tup [.int a, .int b], .tup [.int c, .int d], .tup [.int e, .int f]], .tup [.int y, .int x]]) := by
  refine le_guard fun h S Q E q => ?_
  have q : Q (.bl (linTri a b c d e f y x)) S := q
  simp only [sm] at h
  have m0 : ∀ z, CMulA 2 z := fun z => mulA (by omega)
  have m1 : ∀ z, CMulA (c - a) z := fun z => mulA (by omega)
  have m2 : ∀ z, CMulA (d - b) z := fun z => mulA (by omega)
  have m3 : ∀ z, CMulA (e - a) z := fun z => mulA (by omega)
  have m4 : ∀ z, CMulA (f - b) z := fun z => mulA (by omega)
  have m5 : ∀ z, CMulA (a - c) z := fun z => mulA (by omega)
  have m6 : ∀ z, CMulA (b - d) z := fun z => mulA (by omega)
  have m7 : ∀ z, CMulA (c - e) z := fun z => mulA (by omega)
  have m8 : ∀ z, CMulA (d - f) z := fun z => mulA (by omega)
  rw [den_eq (body := c__law_in_triangle) (env := [some (.tup [.tup [.int a, .int b], .tup [.int c, .int d], .tup [.int e, .int f]]), some (.tup [.int y, .int x]), none, none, none, none, none, none, none, none, none, none]) rfl rfl]
  unfold c__law_in_triangle
  simp [↓r_ret, ↓r_guard, ↓r_ofO, ↓r_noexc, ↓r_any, ↓k_set0, ↓k_setS, ↓k_wipe0, ↓k_wipeS, ↓k_app0, ↓k_appS, ↓k_cat0, ↓k_catS, ↓r_get0, ↓r_getS, ↓r_var, ↓r_int, ↓r_str, ↓r_bl, ↓r_non, ↓r_bty, ↓r_bin, ↓r_neg, ↓r_nt, ↓r_cmp, ↓r_chn, ↓r_tv, ↓r_b1, ↓r_and, ↓r_or, ↓r_ife, ↓r_tup, ↓r_lst, ↓r_own, ↓r_ix, ↓r_sl, ↓r_callB, ↓r_callT, ↓r_meth, ↓r_comp, ↓r_compO, ↓r_compF, ↓r_cm0, ↓r_cmS, ↓r_l0, ↓r_lc, ↓r_ls, ↓r_comp2, ↓r_compI, ↓r_compF2, ↓r_tnt, ↓r_tb1, ↓r_tand, ↓r_tor, ↓r_tcmp, ↓r_tchn, ↓r_ttv, ↓r_c0, ↓r_c1, ↓r_trb, ↓r_trn, ↓r_tri, ↓r_trt, ↓r_trl, ↓r_o0, ↓r_o1, ↓r_prt, ↓r_gn, ↓r_gt, ↓r_gl, ↓r_gs, ↓r_g0, ↓r_gc, ↓r_iv, ↓r_ir, ↓r_srt, ↓r_srl, ↓r_src, ↓r_rg1, ↓r_rg2, ↓r_ex, ↓r_asg, ↓r_setc, ↓r_par2, ↓r_asg2, ↓r_par3, ↓r_asg3, ↓r_rt, ↓r_rtN, ↓r_if, ↓r_loop, ↓r_turn, ↓r_for0, ↓r_forS, ↓r_fnx, ↓r_fct, ↓r_fbk, ↓r_frt, ↓r_pass, ↓r_brk, ↓r_cont, ↓r_doc, ↓r_never, ↓r_b0, ↓r_bc, ↓r_bf, ↓r_snx, ↓r_srr, ↓r_sbk, ↓r_sct, ↓r_runB, ↓r_ert, ↓r_enx, ↓r_add, ↓r_addT, ↓r_addL, ↓r_addS, ↓r_sub, ↓r_mul, ↓r_mod, ↓r_fdiv, ↓r_pow, ↓r_vneg, ↓r_vnot, ↓r_lt, ↓r_le, ↓r_gt', ↓r_ge, ↓r_eqI, ↓r_neI, ↓r_eqB, ↓r_neB, ↓r_eqL, ↓r_eqT, ↓r_eqS, ↓r_inL, ↓r_inT, ↓r_isN, ↓r_notN, ↓r_ixT0, ↓r_ixL0, ↓r_ixT1, ↓r_ixL1, ↓r_ixT2, ↓r_ixL2, ↓r_ixT3, ↓r_ixL3, ↓r_ixT3m, ↓r_ixC, ↓r_lenT, ↓r_lenL, ↓r_lenC, ↓r_isiI, ↓r_isiB, ↓r_isiN, ↓r_isiS, ↓r_isiT, ↓r_isiL, ↓r_abs, ↓r_min2, ↓r_min3, ↓r_max2, ↓r_max3, ↓r_minL, ↓r_maxL, ↓r_sumL, ↓r_allL, ↓r_anyL, ↓r_divm, ↓r_Tint, ↓r_Ttup, ↓r_Ttup', ↓r_Tlst, ↓r_Tlst', ↓r_slC, ↓r_slL, ↓r_slT, ↓r_ints0, ↓r_intsS, ↓r_bls0, ↓r_blsS, ↓r_ixR, ↓r_setR0, ↓r_setR1, ↓r_setR2, ↓r_frz0, ↓r_frzS, ↓r_isTR, ↓r_appR, ↓x_glob_0, ↓x_glob_1, ↓x_glob_2, ↓x_glob_3, ↓x_glob_4, ↓x_glob_5, ↓x_call_is_whole_0, ↓x_cf_is_whole_0, ↓x_call_is_between_0, ↓x_cf_is_between_0, ↓x_call_is_up_to_0, ↓x_cf_is_up_to_0, ↓x_call_is_tuple_of_0, ↓x_cf_is_tuple_of_0, ↓x_call_is_pair_0, ↓x_cf_is_pair_0, ↓x_call_is_cell_0, ↓x_cf_is_cell_0, ↓x_call_is_box_0, ↓x_cf_is_box_0, ↓x_call_is_point_0, ↓x_cf_is_point_0, ↓x_call_is_shape_0, ↓x_cf_is_shape_0, ↓x_call_is_stroke_0, ↓x_cf_is_stroke_0, ↓x_call_turn_at_0, ↓x_cf_turn_at_0, ↓x_call_is_in_corners_0, ↓x_cf_is_in_corners_0, ↓x_call_range_in_0, ↓x_cf_range_in_0, ↓x_call_cells_in_0, ↓x_cf_cells_in_0, ↓x_call_covers_by_0, ↓x_cf_covers_by_0, ↓x_call_check_stroke_0, ↓x_cf_check_stroke_0, ↓x_call_check_spot_0, ↓x_cf_check_spot_0, ↓x_call_covers_0, ↓x_cf_covers_0, ↓x_call_covers_1, ↓x_cf_covers_1, ↓x_call__law_pool_0, ↓x_cf__law_pool_0, ↓x_call__law_below_0, ↓x_cf__law_below_0, ↓x_call__law_one_0, ↓x_cf__law_one_0, ↓x_call__law_same_0_0, ↓x_cf__law_same_0_0, ↓x_call__law_same_0, ↓x_cf__law_same_0, ↓x_call__law_boxed_0, ↓x_cf__law_boxed_0, ↓x_call__law_in_box_0, ↓x_cf__law_in_box_0, ↓x_call__law_in_triangle_0, ↓x_cf__law_in_triangle_0, ↓x_call__law_covers_0, ↓x_cf__law_covers_0, ↓x_call__law_stroke_0, ↓x_cf__law_stroke_0, ↓x_call__law_right_0, ↓x_cf__law_right_0, ↓x_onStk, ↓x_onShp, ↓x_stk0, ↓x_is_whole, ↓x_is_between, ↓x_is_up_to, ↓x_is_tuple_of, ↓x_is_pair, ↓x_is_cell, ↓x_is_box, ↓x_is_point, ↓x_is_shape, ↓x_is_stroke, ↓x_turn_at, ↓x_is_in_corners, ↓x_range_in, ↓x_cells_in, ↓x_covers_by, ↓x_check_stroke, ↓x_check_spot, ↓x_covers, ↓x__law_below, ↓x__law_one, ↓x__law_stroke, ↓x__law_right, ↓x__law_pool, ↓x__law_same_0, ↓x__law_same2, ↓x__law_same4, ↓x__law_boxed, ↓x__law_in_box, ↓x__law_in_triangle, ↓x__law_covers, sizeLine, lenL, lenTs, rng3, inRng, m0, m1, m2, m3, m4, m5, m6, m7, m8]
  intro p hp
  rw [del_id hp]
  revert q
  unfold linTri lside areaOf
  generalize (e - a) * (2 * y + 1 - 2 * b) = p1
  generalize (f - b) * (2 * x + 1 - 2 * a) = q1
  generalize (a - c) * (2 * y + 1 - 2 * d) = p2
  generalize (b - d) * (2 * x + 1 - 2 * c) = q2
  generalize (c - e) * (2 * y + 1 - 2 * f) = p3
  generalize (d - f) * (2 * x + 1 - 2 * e) = q3
  generalize (c - a) * (f - b) = pa
  generalize (d - b) * (e - a) = qa
  by_cases h1 : p1 - q1 = 0 <;> by_cases h2 : p2 - q2 = 0 <;> by_cases h3 : p3 - q3 = 0 <;> by_cases ha : pa - qa = 0 <;> simp [h1, h2, h3, ha]
  all_goals by_cases g1 : f - b = 0 <;> by_cases g2 : b - d = 0 <;> by_cases g3 : d - f = 0 <;> (try simp only [g1, g2, g3, if_true, if_false])
  all_goals first | (exact id) | refine leaf3 (P := fun b => Q (.bl b) S) ?_ ?_ ?_ <;> omega
end Dp.L

namespace Dp.L
open PySem PySem.Spec L2 Dp
open PyProof.Rows hiding St
def tq (x1 y1 x2 y2 sx sy : Int) : Int := (x2 - x1) * (sy - 2 * y1) - (y2 - y1) * (sx - 2 * x1)
def pq (T dx dy : Int) : Int := if T ≠ 0 then T else if dy ≠ 0 then -dy else dx
def tau (x1 y1 x2 y2 sx sy : Int) : Int := pq (tq x1 y1 x2 y2 sx sy) (x2 - x1) (y2 - y1)
theorem pq_pos {T dx dy : Int} (h : 0 < pq T dx dy) : 0 ≤ T := by
  unfold pq at h; split at h <;> omega
theorem pq_neg {T dx dy : Int} (h : pq T dx dy < 0) : T ≤ 0 := by
  unfold pq at h; split at h <;> omega
theorem pq_zero {T dx dy : Int} (h : pq T dx dy = 0) : T = 0 ∧ dx = 0 ∧ dy = 0 := by
  unfold pq at h; split at h
  · omega
  · split at h <;> omega
theorem pq_rev {T dx dy T' dx' dy' : Int} (h : T' = -T) (h1 : dx' = -dx) (h2 : dy' = -dy) : pq T' dx' dy' = -pq T dx dy := by
  subst h h1 h2
  unfold pq
  by_cases a : T = 0 <;> by_cases b : dy = 0 <;> simp [a, b]
theorem tq_rev {x1 y1 x2 y2 sx sy : Int} : tq x2 y2 x1 y1 sx sy = -tq x1 y1 x2 y2 sx sy := by
  unfold tq; grind
theorem tau_rev {x1 y1 x2 y2 sx sy : Int} : tau x2 y2 x1 y1 sx sy = -tau x1 y1 x2 y2 sx sy := pq_rev tq_rev (by omega) (by omega)
theorem lside_tau {x1 y1 x2 y2 sx sy : Int} : lside x2 y2 x1 y1 sx sy = decide (tau x1 y1 x2 y2 sx sy < 0) := by
  show decide (tau x2 y2 x1 y1 sx sy > 0) = _
  rw [tau_rev]
  exact decide_eq_decide.mpr (by omega)
theorem turn2 {x1 y1 x2 y2 sx sy : Int} : (2 * x2 - 2 * x1) * (sy - 2 * y1) - (2 * y2 - 2 * y1) * (sx - 2 * x1) = 2 * tq x1 y1 x2 y2 sx sy := by
  unfold tq; grind
theorem turn_tau {x1 y1 x2 y2 sx sy : Int} : turnAt (2 * x1) (2 * y1) (2 * x2) (2 * y2) sx sy = if 0 < tau x1 y1 x2 y2 sx sy then 1 else if tau x1 y1 x2 y2 sx sy < 0 then -1 else 0 := by
  unfold turnAt tau
  rw [turn2]
  generalize tq x1 y1 x2 y2 sx sy = T
  simp only []
  unfold sgn pq
  by_cases a : T = 0
  · subst a
    by_cases b : y2 - y1 = 0
    · rw [if_neg (by omega), if_neg (by omega)]
      simp only [b]
      by_cases c : x2 - x1 = 0
      · rw [if_neg (by omega)]; simp [c]
      · rw [if_pos (by omega)]
        simp
        by_cases d : x1 < x2
        · rw [if_pos (by omega), if_pos d]
        · rw [if_neg (by omega), if_neg d, if_pos (by omega)]
    · rw [if_neg (by omega), if_pos (by omega)]
      simp [b]
      by_cases d : 0 < -(y2 - y1)
      · rw [if_pos (by omega), if_pos (by omega)]
      · rw [if_neg (by omega), if_neg (by omega), if_pos (by omega)]
  · rw [if_pos (by omega)]
    simp [a]
    by_cases d : 0 < T
    · rw [if_pos (by omega), if_pos (by omega)]
    · rw [if_neg (by omega), if_neg (by omega), if_pos (by omega)]
theorem area2 {a b c d e f : Int} : areaOf (2 * a) (2 * b) (2 * c) (2 * d) (2 * e) (2 * f) = 4 * areaOf a b c d e f := by
  unfold areaOf; grind
theorem tq_sum {a b c d e f x y : Int} : tq a b c d x y + tq c d e f x y + tq e f a b x y = 2 * areaOf a b c d e f := by
  unfold areaOf tq; grind
theorem three {b1 b2 b3 c1 c2 c3 : Int} (h : b3 * c1 + b1 * c2 + b2 * c3 = 0) (h1 : 0 < b1) (h2 : 0 < b2) (h3 : 0 < b3) (k1 : 0 ≤ c1) (k2 : 0 ≤ c2) (k3 : 0 ≤ c3) : c1 = 0 ∧ c2 = 0 ∧ c3 = 0 := by
  have z1 : 0 ≤ b3 * c1 := Int.mul_nonneg (by omega) k1
  have z2 : 0 ≤ b1 * c2 := Int.mul_nonneg (by omega) k2
  have z3 : 0 ≤ b2 * c3 := Int.mul_nonneg (by omega) k3
  have y1 : b3 * c1 = 0 := by omega
  have y2 : b1 * c2 = 0 := by omega
  have y3 : b2 * c3 = 0 := by omega
  rw [Int.mul_eq_zero] at y1 y2 y3
  omega
theorem threeS {b1 b2 b3 c1 c2 c3 : Int} (h : b3 * c1 + b1 * c2 + b2 * c3 = 0) (hb : (0 < b1 ∧ 0 < b2 ∧ 0 < b3) ∨ (b1 < 0 ∧ b2 < 0 ∧ b3 < 0)) (hc : (0 ≤ c1 ∧ 0 ≤ c2 ∧ 0 ≤ c3) ∨ (c1 ≤ 0 ∧ c2 ≤ 0 ∧ c3 ≤ 0)) : c1 = 0 ∧ c2 = 0 ∧ c3 = 0 := by
  rcases hb with ⟨h1, h2, h3⟩ | ⟨h1, h2, h3⟩ <;> rcases hc with ⟨k1, k2, k3⟩ | ⟨k1, k2, k3⟩
  · exact three h h1 h2 h3 k1 k2 k3
  · have := three (b1 := b1) (b2 := b2) (b3 := b3) (c1 := -c1) (c2 := -c2) (c3 := -c3) (by rw [Int.mul_neg, Int.mul_neg, Int.mul_neg]; omega) h1 h2 h3 (by omega) (by omega) (by omega)
    omega
  · have := three (b1 := -b1) (b2 := -b2) (b3 := -b3) (c1 := c1) (c2 := c2) (c3 := c3) (by rw [Int.neg_mul, Int.neg_mul, Int.neg_mul]; omega) (by omega) (by omega) (by omega) k1 k2 k3
    omega
  · have := three (b1 := -b1) (b2 := -b2) (b3 := -b3) (c1 := -c1) (c2 := -c2) (c3 := -c3) (by rw [Int.neg_mul_neg, Int.neg_mul_neg, Int.neg_mul_neg]; omega) (by omega) (by omega) (by omega) (by omega) (by omega) (by omega)
    omega
theorem combB {a b c d e f x y : Int} : (y - 2 * f) * tq a b c d x y + (y - 2 * b) * tq c d e f x y + (y - 2 * d) * tq e f a b x y = 0 := by
  unfold tq; grind
theorem combA {a b c d e f x y : Int} : (x - 2 * e) * tq a b c d x y + (x - 2 * a) * tq c d e f x y + (x - 2 * c) * tq e f a b x y = 0 := by
  unfold tq; grind
theorem tau_nz {a b c d e f x y : Int} (h : areaOf a b c d e f ≠ 0) : tau a b c d x y ≠ 0 ∧ tau c d e f x y ≠ 0 ∧ tau e f a b x y ≠ 0 := by
  refine ⟨fun z => h ?_, fun z => h ?_, fun z => h ?_⟩
  · obtain ⟨_, h1, h2⟩ := pq_zero z
    unfold areaOf; rw [h1, h2]; simp
  · obtain ⟨_, h1, h2⟩ := pq_zero z
    have e1 : e = c := by omega
    have e2 : f = d := by omega
    subst e1 e2
    unfold areaOf; grind
  · obtain ⟨_, h1, h2⟩ := pq_zero z
    have e1 : e = a := by omega
    have e2 : f = b := by omega
    subst e1 e2
    unfold areaOf; simp
/-- all one way -/
def allOne (a b c d e f x y : Int) : Prop := areaOf a b c d e f ≠ 0 ∧ ((0 < tau a b c d x y ∧ 0 < tau c d e f x y ∧ 0 < tau e f a b x y) ∨ (tau a b c d x y < 0 ∧ tau c d e f x y < 0 ∧ tau e f a b x y < 0))
theorem lin_all {a b c d e f r k : Int} : linTri a b c d e f r k = true ↔ allOne a b c d e f (2 * k + 1) (2 * r + 1) := by
  unfold linTri allOne
  rw [lside_tau (x1 := e) (y1 := f) (x2 := a) (y2 := b), lside_tau (x1 := a) (y1 := b) (x2 := c) (y2 := d), lside_tau (x1 := c) (y1 := d) (x2 := e) (y2 := f)]
  by_cases h : areaOf a b c d e f = 0
  · simp [h]
  · obtain ⟨h1, h2, h3⟩ := tau_nz (x := 2 * k + 1) (y := 2 * r + 1) h
    simp only [Bool.and_eq_true, decide_eq_true_eq, beq_iff_eq, decide_eq_decide]
    constructor
    · rintro ⟨⟨_, p1⟩, p2⟩
      exact ⟨h, by omega⟩
    · rintro ⟨_, p⟩
      exact ⟨⟨h, by omega⟩, by omega⟩
theorem sg {u A : Int} (h : u ≠ 0) : ((if 0 < u then (1 : Int) else if u < 0 then -1 else 0) = if 4 * A > 0 then 1 else -1) ↔ (0 < u ↔ 0 < A) := by
  by_cases a : 0 < u
  · rw [if_pos a]
    by_cases b : 0 < A
    · rw [if_pos (by omega)]; simp [a, b]
    · rw [if_neg (by omega)]; simp [a, b]
  · rw [if_neg a, if_pos (by omega)]
    by_cases b : 0 < A
    · rw [if_pos (by omega)]; simp [a, b]
    · rw [if_neg (by omega)]; simp [a, b]
theorem in_all {a b c d e f r k : Int} : inTri (2 * a) (2 * b) (2 * c) (2 * d) (2 * e) (2 * f) (2 * k + 1) (2 * r + 1) = true ↔ allOne a b c d e f (2 * k + 1) (2 * r + 1) := by
  unfold inTri allOne
  rw [turn_tau, turn_tau, turn_tau, area2]
  have hs := tq_sum (a := a) (b := b) (c := c) (d := d) (e := e) (f := f) (x := 2 * k + 1) (y := 2 * r + 1)
  by_cases h : areaOf a b c d e f = 0
  · simp [h]
  · obtain ⟨h1, h2, h3⟩ := tau_nz (x := 2 * k + 1) (y := 2 * r + 1) h
    have p1 : 0 < tau a b c d (2 * k + 1) (2 * r + 1) → 0 ≤ tq a b c d (2 * k + 1) (2 * r + 1) := pq_pos
    have p2 : 0 < tau c d e f (2 * k + 1) (2 * r + 1) → 0 ≤ tq c d e f (2 * k + 1) (2 * r + 1) := pq_pos
    have p3 : 0 < tau e f a b (2 * k + 1) (2 * r + 1) → 0 ≤ tq e f a b (2 * k + 1) (2 * r + 1) := pq_pos
    have n1 : tau a b c d (2 * k + 1) (2 * r + 1) < 0 → tq a b c d (2 * k + 1) (2 * r + 1) ≤ 0 := pq_neg
    have n2 : tau c d e f (2 * k + 1) (2 * r + 1) < 0 → tq c d e f (2 * k + 1) (2 * r + 1) ≤ 0 := pq_neg
    have n3 : tau e f a b (2 * k + 1) (2 * r + 1) < 0 → tq e f a b (2 * k + 1) (2 * r + 1) ≤ 0 := pq_neg
    generalize tq a b c d (2 * k + 1) (2 * r + 1) = t1 at *
    generalize tq c d e f (2 * k + 1) (2 * r + 1) = t2 at *
    generalize tq e f a b (2 * k + 1) (2 * r + 1) = t3 at *
    generalize tau a b c d (2 * k + 1) (2 * r + 1) = u1 at *
    generalize tau c d e f (2 * k + 1) (2 * r + 1) = u2 at *
    generalize tau e f a b (2 * k + 1) (2 * r + 1) = u3 at *
    generalize areaOf a b c d e f = A at *
    simp only [Bool.and_eq_true, decide_eq_true_eq]
    rw [sg h1, sg h2, sg h3]
    constructor
    · rintro ⟨⟨⟨_, q1⟩, q2⟩, q3⟩
      exact ⟨h, by omega⟩
    · rintro ⟨_, q⟩
      exact ⟨⟨⟨by omega, by omega⟩, by omega⟩, by omega⟩
theorem all_box {a b c d e f r k : Int} (h : allOne a b c d e f (2 * k + 1) (2 * r + 1)) : (min b (min d f) ≤ r ∧ r < max b (max d f)) ∧ (min a (min c e) ≤ k ∧ k < max a (max c e)) := by
  obtain ⟨hA, h⟩ := h
  have hs := tq_sum (a := a) (b := b) (c := c) (d := d) (e := e) (f := f) (x := 2 * k + 1) (y := 2 * r + 1)
  have hc : (0 ≤ tq a b c d (2 * k + 1) (2 * r + 1) ∧ 0 ≤ tq c d e f (2 * k + 1) (2 * r + 1) ∧ 0 ≤ tq e f a b (2 * k + 1) (2 * r + 1)) ∨ (tq a b c d (2 * k + 1) (2 * r + 1) ≤ 0 ∧ tq c d e f (2 * k + 1) (2 * r + 1) ≤ 0 ∧ tq e f a b (2 * k + 1) (2 * r + 1) ≤ 0) := by
    rcases h with ⟨q1, q2, q3⟩ | ⟨q1, q2, q3⟩
    · exact .inl ⟨pq_pos q1, pq_pos q2, pq_pos q3⟩
    · exact .inr ⟨pq_neg q1, pq_neg q2, pq_neg q3⟩
  have nb : ¬ ((0 < 2 * r + 1 - 2 * b ∧ 0 < 2 * r + 1 - 2 * d ∧ 0 < 2 * r + 1 - 2 * f) ∨ (2 * r + 1 - 2 * b < 0 ∧ 2 * r + 1 - 2 * d < 0 ∧ 2 * r + 1 - 2 * f < 0)) := fun z => by
    have := threeS combB z hc
    omega
  have na : ¬ ((0 < 2 * k + 1 - 2 * a ∧ 0 < 2 * k + 1 - 2 * c ∧ 0 < 2 * k + 1 - 2 * e) ∨ (2 * k + 1 - 2 * a < 0 ∧ 2 * k + 1 - 2 * c < 0 ∧ 2 * k + 1 - 2 * e < 0)) := fun z => by
    have := threeS combA z hc
    omega
  omega
theorem cov_mem {s : Stk} {r k : Int} (hr : 0 ≤ r ∧ r ≤ 23) (hk : 0 ≤ k ∧ k ≤ 23) : s.cov r k = true ↔ (s.l ≤ k ∧ k < s.r ∧ s.t ≤ r ∧ r < s.u) ∧ ((s.sh.mny ≤ r ∧ r < s.sh.mxy) ∧ (s.sh.mnx ≤ k ∧ k < s.sh.mxx)) ∧ s.sh.has r k = true := by
  unfold Stk.cov Stk.cells
  rw [List.contains_iff_mem, List.mem_filter]
  have : ((r, k) ∈ (iv (s.r0 r) (s.r1 (r + 1))).flatMap fun r' => (iv s.c0 (s.c1 (k + 1))).map fun k' => (r', k')) ↔ (r ∈ iv (s.r0 r) (s.r1 (r + 1)) ∧ k ∈ iv s.c0 (s.c1 (k + 1))) := by
    rw [List.mem_flatMap]
    constructor
    · rintro ⟨r', h1, h2⟩
      rw [List.mem_map] at h2
      obtain ⟨k', h3, h4⟩ := h2
      cases h4
      exact ⟨h1, h3⟩
    · rintro ⟨h1, h2⟩
      exact ⟨r, h1, by rw [List.mem_map]; exact ⟨k, h2, rfl⟩⟩
  rw [this, iv_mem, iv_mem]
  unfold Stk.r0 Stk.r1 Stk.c0 Stk.c1
  constructor
  · rintro ⟨h1, h2⟩
    exact ⟨by omega, by omega, h2⟩
  · rintro ⟨h1, h2, h3⟩
    exact ⟨by omega, h3⟩
theorem cov_eq {s : Stk} (h : s.ok) {r k : Int} (hr : 0 ≤ r ∧ r ≤ 23) (hk : 0 ≤ k ∧ k ≤ 23) : s.cov r k = (inBox s.l s.t s.r s.u r k && s.sh.lcov r k) := by
  rw [Bool.eq_iff_iff, cov_mem hr hk, Bool.and_eq_true]
  have hb : inBox s.l s.t s.r s.u r k = true ↔ (s.l ≤ k ∧ k < s.r ∧ s.t ≤ r ∧ r < s.u) := by
    unfold inBox; simp [and_assoc]
  rw [hb]
  have hok := h.1
  refine and_congr_right fun _ => ?_
  cases s with | mk sh ink l t r' u =>
  cases sh with
  | box a b c d =>
    simp only [Shp.ok] at hok
    simp only [Shp.mnx, Shp.mxx, Shp.mny, Shp.mxy, Shp.has, Shp.lcov]
    have : inBox a b c d r k = true ↔ (a ≤ k ∧ k < c ∧ b ≤ r ∧ r < d) := by unfold inBox; simp [and_assoc]
    rw [this]
    exact ⟨fun ⟨z, _⟩ => by omega, fun z => ⟨by omega, trivial⟩⟩
  | tri a b c d e f =>
    simp only [Shp.mnx, Shp.mxx, Shp.mny, Shp.mxy, Shp.has, Shp.lcov]
    rw [in_all, lin_all]
    exact ⟨fun z => z.2, fun z => ⟨all_box z, z⟩⟩
end Dp.L

namespace Dp.L
open PySem PySem.Spec L2 Dp
open PyProof.Rows hiding St
theorem le__law_covers {x : PV} {r k : Int} : M.le (C__law_covers [x, .tup [.int r, .int k]]) (d__law_covers.den (g 1) [x, .tup [.int r, .int k]]) := by
  refine le_guard fun h => le_onStk fun s hs e => ?_
  intro S Q E q
  have q : Q (.bl (s.cov r k)) S := q
  rw [cov_eq hs h.1 h.2] at q
  rw [den_eq (body := c__law_covers) (env := [some (x), some (.tup [.int r, .int k]), none, none, none]) rfl rfl]
  unfold c__law_covers
  subst e
  cases s with | mk sh ink l t' r' u =>
  revert q
  cases sh with
  | box a b c d =>
    simp only [Stk.pv, Shp.pv]
    simp [↓r_ret, ↓r_guard, ↓r_ofO, ↓r_noexc, ↓r_any, ↓k_set0, ↓k_setS, ↓k_wipe0, ↓k_wipeS, ↓k_app0, ↓k_appS, ↓k_cat0, ↓k_catS, ↓r_get0, ↓r_getS, ↓r_var, ↓r_int, ↓r_str, ↓r_bl, ↓r_non, ↓r_bty, ↓r_bin, ↓r_neg, ↓r_nt, ↓r_cmp, ↓r_chn, ↓r_tv, ↓r_b1, ↓r_and, ↓r_or, ↓r_ife, ↓r_tup, ↓r_lst, ↓r_own, ↓r_ix, ↓r_sl, ↓r_callB, ↓r_callT, ↓r_meth, ↓r_comp, ↓r_compO, ↓r_compF, ↓r_cm0, ↓r_cmS, ↓r_l0, ↓r_lc, ↓r_ls, ↓r_comp2, ↓r_compI, ↓r_compF2, ↓r_tnt, ↓r_tb1, ↓r_tand, ↓r_tor, ↓r_tcmp, ↓r_tchn, ↓r_ttv, ↓r_c0, ↓r_c1, ↓r_trb, ↓r_trn, ↓r_tri, ↓r_trt, ↓r_trl, ↓r_o0, ↓r_o1, ↓r_prt, ↓r_gn, ↓r_gt, ↓r_gl, ↓r_gs, ↓r_g0, ↓r_gc, ↓r_iv, ↓r_ir, ↓r_srt, ↓r_srl, ↓r_src, ↓r_rg1, ↓r_rg2, ↓r_ex, ↓r_asg, ↓r_setc, ↓r_par2, ↓r_asg2, ↓r_par3, ↓r_asg3, ↓r_rt, ↓r_rtN, ↓r_if, ↓r_loop, ↓r_turn, ↓r_for0, ↓r_forS, ↓r_fnx, ↓r_fct, ↓r_fbk, ↓r_frt, ↓r_pass, ↓r_brk, ↓r_cont, ↓r_doc, ↓r_never, ↓r_b0, ↓r_bc, ↓r_bf, ↓r_snx, ↓r_srr, ↓r_sbk, ↓r_sct, ↓r_runB, ↓r_ert, ↓r_enx, ↓r_add, ↓r_addT, ↓r_addL, ↓r_addS, ↓r_sub, ↓r_mul, ↓r_mod, ↓r_fdiv, ↓r_pow, ↓r_vneg, ↓r_vnot, ↓r_lt, ↓r_le, ↓r_gt', ↓r_ge, ↓r_eqI, ↓r_neI, ↓r_eqB, ↓r_neB, ↓r_eqL, ↓r_eqT, ↓r_eqS, ↓r_inL, ↓r_inT, ↓r_isN, ↓r_notN, ↓r_ixT0, ↓r_ixL0, ↓r_ixT1, ↓r_ixL1, ↓r_ixT2, ↓r_ixL2, ↓r_ixT3, ↓r_ixL3, ↓r_ixT3m, ↓r_ixC, ↓r_lenT, ↓r_lenL, ↓r_lenC, ↓r_isiI, ↓r_isiB, ↓r_isiN, ↓r_isiS, ↓r_isiT, ↓r_isiL, ↓r_abs, ↓r_min2, ↓r_min3, ↓r_max2, ↓r_max3, ↓r_minL, ↓r_maxL, ↓r_sumL, ↓r_allL, ↓r_anyL, ↓r_divm, ↓r_Tint, ↓r_Ttup, ↓r_Ttup', ↓r_Tlst, ↓r_Tlst', ↓r_slC, ↓r_slL, ↓r_slT, ↓r_ints0, ↓r_intsS, ↓r_bls0, ↓r_blsS, ↓r_ixR, ↓r_setR0, ↓r_setR1, ↓r_setR2, ↓r_frz0, ↓r_frzS, ↓r_isTR, ↓r_appR, ↓x_glob_0, ↓x_glob_1, ↓x_glob_2, ↓x_glob_3, ↓x_glob_4, ↓x_glob_5, ↓x_call_is_whole_0, ↓x_cf_is_whole_0, ↓x_call_is_between_0, ↓x_cf_is_between_0, ↓x_call_is_up_to_0, ↓x_cf_is_up_to_0, ↓x_call_is_tuple_of_0, ↓x_cf_is_tuple_of_0, ↓x_call_is_pair_0, ↓x_cf_is_pair_0, ↓x_call_is_cell_0, ↓x_cf_is_cell_0, ↓x_call_is_box_0, ↓x_cf_is_box_0, ↓x_call_is_point_0, ↓x_cf_is_point_0, ↓x_call_is_shape_0, ↓x_cf_is_shape_0, ↓x_call_is_stroke_0, ↓x_cf_is_stroke_0, ↓x_call_turn_at_0, ↓x_cf_turn_at_0, ↓x_call_is_in_corners_0, ↓x_cf_is_in_corners_0, ↓x_call_range_in_0, ↓x_cf_range_in_0, ↓x_call_cells_in_0, ↓x_cf_cells_in_0, ↓x_call_covers_by_0, ↓x_cf_covers_by_0, ↓x_call_check_stroke_0, ↓x_cf_check_stroke_0, ↓x_call_check_spot_0, ↓x_cf_check_spot_0, ↓x_call_covers_0, ↓x_cf_covers_0, ↓x_call_covers_1, ↓x_cf_covers_1, ↓x_call__law_pool_0, ↓x_cf__law_pool_0, ↓x_call__law_below_0, ↓x_cf__law_below_0, ↓x_call__law_one_0, ↓x_cf__law_one_0, ↓x_call__law_same_0_0, ↓x_cf__law_same_0_0, ↓x_call__law_same_0, ↓x_cf__law_same_0, ↓x_call__law_boxed_0, ↓x_cf__law_boxed_0, ↓x_call__law_in_box_0, ↓x_cf__law_in_box_0, ↓x_call__law_in_triangle_0, ↓x_cf__law_in_triangle_0, ↓x_call__law_covers_0, ↓x_cf__law_covers_0, ↓x_call__law_stroke_0, ↓x_cf__law_stroke_0, ↓x_call__law_right_0, ↓x_cf__law_right_0, ↓x_onStk, ↓x_onShp, ↓x_stk0, ↓x_is_whole, ↓x_is_between, ↓x_is_up_to, ↓x_is_tuple_of, ↓x_is_pair, ↓x_is_cell, ↓x_is_box, ↓x_is_point, ↓x_is_shape, ↓x_is_stroke, ↓x_turn_at, ↓x_is_in_corners, ↓x_range_in, ↓x_cells_in, ↓x_covers_by, ↓x_check_stroke, ↓x_check_spot, ↓x_covers, ↓x__law_below, ↓x__law_one, ↓x__law_stroke, ↓x__law_right, ↓x__law_pool, ↓x__law_same_0, ↓x__law_same2, ↓x__law_same4, ↓x__law_boxed, ↓x__law_in_box, ↓x__law_in_triangle, ↓x__law_covers, lenTs, Shp.lcov]
    cases inBox l t' r' u r k <;> simp
  | tri a b c d e f =>
    have hs' : (-99999 ≤ a ∧ a ≤ 99999) ∧ (-99999 ≤ b ∧ b ≤ 99999) ∧ (-99999 ≤ c ∧ c ≤ 99999) ∧ (-99999 ≤ d ∧ d ≤ 99999) ∧ (-99999 ≤ e ∧ e ≤ 99999) ∧ (-99999 ≤ f ∧ f ≤ 99999) := hs.1
    have hsm : sm a ∧ sm b ∧ sm c ∧ sm d ∧ sm e ∧ sm f ∧ sm k ∧ sm r := by unfold sm; omega
    simp only [Stk.pv, Shp.pv]
    simp [↓r_ret, ↓r_guard, ↓r_ofO, ↓r_noexc, ↓r_any, ↓k_set0, ↓k_setS, ↓k_wipe0, ↓k_wipeS, ↓k_app0, ↓k_appS, ↓k_cat0, ↓k_catS, ↓r_get0, ↓r_getS, ↓r_var, ↓r_int, ↓r_str, ↓r_bl, ↓r_non, ↓r_bty, ↓r_bin, ↓r_neg, ↓r_nt, ↓r_cmp, ↓r_chn, ↓r_tv, ↓r_b1, ↓r_and, ↓r_or, ↓r_ife, ↓r_tup, ↓r_lst, ↓r_own, ↓r_ix, ↓r_sl, ↓r_callB, ↓r_callT, ↓r_meth, ↓r_comp, ↓r_compO, ↓r_compF, ↓r_cm0, ↓r_cmS, ↓r_l0, ↓r_lc, ↓r_ls, ↓r_comp2, ↓r_compI, ↓r_compF2, ↓r_tnt, ↓r_tb1, ↓r_tand, ↓r_tor, ↓r_tcmp, ↓r_tchn, ↓r_ttv, ↓r_c0, ↓r_c1, ↓r_trb, ↓r_trn, ↓r_tri, ↓r_trt, ↓r_trl, ↓r_o0, ↓r_o1, ↓r_prt, ↓r_gn, ↓r_gt, ↓r_gl, ↓r_gs, ↓r_g0, ↓r_gc, ↓r_iv, ↓r_ir, ↓r_srt, ↓r_srl, ↓r_src, ↓r_rg1, ↓r_rg2, ↓r_ex, ↓r_asg, ↓r_setc, ↓r_par2, ↓r_asg2, ↓r_par3, ↓r_asg3, ↓r_rt, ↓r_rtN, ↓r_if, ↓r_loop, ↓r_turn, ↓r_for0, ↓r_forS, ↓r_fnx, ↓r_fct, ↓r_fbk, ↓r_frt, ↓r_pass, ↓r_brk, ↓r_cont, ↓r_doc, ↓r_never, ↓r_b0, ↓r_bc, ↓r_bf, ↓r_snx, ↓r_srr, ↓r_sbk, ↓r_sct, ↓r_runB, ↓r_ert, ↓r_enx, ↓r_add, ↓r_addT, ↓r_addL, ↓r_addS, ↓r_sub, ↓r_mul, ↓r_mod, ↓r_fdiv, ↓r_pow, ↓r_vneg, ↓r_vnot, ↓r_lt, ↓r_le, ↓r_gt', ↓r_ge, ↓r_eqI, ↓r_neI, ↓r_eqB, ↓r_neB, ↓r_eqL, ↓r_eqT, ↓r_eqS, ↓r_inL, ↓r_inT, ↓r_isN, ↓r_notN, ↓r_ixT0, ↓r_ixL0, ↓r_ixT1, ↓r_ixL1, ↓r_ixT2, ↓r_ixL2, ↓r_ixT3, ↓r_ixL3, ↓r_ixT3m, ↓r_ixC, ↓r_lenT, ↓r_lenL, ↓r_lenC, ↓r_isiI, ↓r_isiB, ↓r_isiN, ↓r_isiS, ↓r_isiT, ↓r_isiL, ↓r_abs, ↓r_min2, ↓r_min3, ↓r_max2, ↓r_max3, ↓r_minL, ↓r_maxL, ↓r_sumL, ↓r_allL, ↓r_anyL, ↓r_divm, ↓r_Tint, ↓r_Ttup, ↓r_Ttup', ↓r_Tlst, ↓r_Tlst', ↓r_slC, ↓r_slL, ↓r_slT, ↓r_ints0, ↓r_intsS, ↓r_bls0, ↓r_blsS, ↓r_ixR, ↓r_setR0, ↓r_setR1, ↓r_setR2, ↓r_frz0, ↓r_frzS, ↓r_isTR, ↓r_appR, ↓x_glob_0, ↓x_glob_1, ↓x_glob_2, ↓x_glob_3, ↓x_glob_4, ↓x_glob_5, ↓x_call_is_whole_0, ↓x_cf_is_whole_0, ↓x_call_is_between_0, ↓x_cf_is_between_0, ↓x_call_is_up_to_0, ↓x_cf_is_up_to_0, ↓x_call_is_tuple_of_0, ↓x_cf_is_tuple_of_0, ↓x_call_is_pair_0, ↓x_cf_is_pair_0, ↓x_call_is_cell_0, ↓x_cf_is_cell_0, ↓x_call_is_box_0, ↓x_cf_is_box_0, ↓x_call_is_point_0, ↓x_cf_is_point_0, ↓x_call_is_shape_0, ↓x_cf_is_shape_0, ↓x_call_is_stroke_0, ↓x_cf_is_stroke_0, ↓x_call_turn_at_0, ↓x_cf_turn_at_0, ↓x_call_is_in_corners_0, ↓x_cf_is_in_corners_0, ↓x_call_range_in_0, ↓x_cf_range_in_0, ↓x_call_cells_in_0, ↓x_cf_cells_in_0, ↓x_call_covers_by_0, ↓x_cf_covers_by_0, ↓x_call_check_stroke_0, ↓x_cf_check_stroke_0, ↓x_call_check_spot_0, ↓x_cf_check_spot_0, ↓x_call_covers_0, ↓x_cf_covers_0, ↓x_call_covers_1, ↓x_cf_covers_1, ↓x_call__law_pool_0, ↓x_cf__law_pool_0, ↓x_call__law_below_0, ↓x_cf__law_below_0, ↓x_call__law_one_0, ↓x_cf__law_one_0, ↓x_call__law_same_0_0, ↓x_cf__law_same_0_0, ↓x_call__law_same_0, ↓x_cf__law_same_0, ↓x_call__law_boxed_0, ↓x_cf__law_boxed_0, ↓x_call__law_in_box_0, ↓x_cf__law_in_box_0, ↓x_call__law_in_triangle_0, ↓x_cf__law_in_triangle_0, ↓x_call__law_covers_0, ↓x_cf__law_covers_0, ↓x_call__law_stroke_0, ↓x_cf__law_stroke_0, ↓x_call__law_right_0, ↓x_cf__law_right_0, ↓x_onStk, ↓x_onShp, ↓x_stk0, ↓x_is_whole, ↓x_is_between, ↓x_is_up_to, ↓x_is_tuple_of, ↓x_is_pair, ↓x_is_cell, ↓x_is_box, ↓x_is_point, ↓x_is_shape, ↓x_is_stroke, ↓x_turn_at, ↓x_is_in_corners, ↓x_range_in, ↓x_cells_in, ↓x_covers_by, ↓x_check_stroke, ↓x_check_spot, ↓x_covers, ↓x__law_below, ↓x__law_one, ↓x__law_stroke, ↓x__law_right, ↓x__law_pool, ↓x__law_same_0, ↓x__law_same2, ↓x__law_same4, ↓x__law_boxed, ↓x__law_in_box, ↓x__law_in_triangle, ↓x__law_covers, lenTs, Shp.lcov, hsm]
    cases inBox l t' r' u r k <;> simp
theorem le__law_below {a : Addr} {many : Int} : M.le (C__law_below [.ref a, .int many]) (d__law_below.den (g 0) [.ref a, .int many]) := by
  refine le_guard fun h S Q E q => ?_
  obtain ⟨xs, ha, ⟨⟨p, q0, z, e⟩, q⟩⟩ := q
  subst e
  have q : ∀ p' q' z' v : Int, 0 ≤ v → v < many → Q (.int v) (put S a (.lst [.int p', .int q', .int z'])) := fun p' q' z' v h1 h2 => q _ ⟨p', q', z', rfl⟩ v ⟨h1, h2⟩
  rw [den_eq (body := c__law_below) (env := [some (.ref a), some (.int many), none, none]) rfl rfl]
  rw [← put_id ha]
  unfold c__law_below
  have hd : CDivP p many := ⟨h.1, PyProof.noPylong_of_log2 (by
    have : many.natAbs < 2 ^ 9000 := Nat.lt_trans (show many.natAbs < 2 ^ 20 by omega) (Nat.pow_lt_pow_right (by omega) (by omega))
    have := Nat.log2_lt (n := many.natAbs) (k := 9000)
    by_cases h0 : many.natAbs = 0
    · omega
    · exact (this h0).mpr (by assumption))⟩
  have m1 : ∀ z, CMulA z 48677 := fun z => mulB (by omega)
  have m2 : ∀ z, CMulA 3413 z := fun z => mulA (by omega)
  have m3 : ∀ z w : Int, CMulA z (w % 4001 + 17911) := fun z w => mulB (by omega)
  have d1 : ∀ z, CDivW z 367 := fun z => ⟨by omega, by decide⟩
  simp [↓r_ret, ↓r_guard, ↓r_ofO, ↓r_noexc, ↓r_any, ↓k_set0, ↓k_setS, ↓k_wipe0, ↓k_wipeS, ↓k_app0, ↓k_appS, ↓k_cat0, ↓k_catS, ↓r_get0, ↓r_getS, ↓r_var, ↓r_int, ↓r_str, ↓r_bl, ↓r_non, ↓r_bty, ↓r_bin, ↓r_neg, ↓r_nt, ↓r_cmp, ↓r_chn, ↓r_tv, ↓r_b1, ↓r_and, ↓r_or, ↓r_ife, ↓r_tup, ↓r_lst, ↓r_own, ↓r_ix, ↓r_sl, ↓r_callB, ↓r_callT, ↓r_meth, ↓r_comp, ↓r_compO, ↓r_compF, ↓r_cm0, ↓r_cmS, ↓r_l0, ↓r_lc, ↓r_ls, ↓r_comp2, ↓r_compI, ↓r_compF2, ↓r_tnt, ↓r_tb1, ↓r_tand, ↓r_tor, ↓r_tcmp, ↓r_tchn, ↓r_ttv, ↓r_c0, ↓r_c1, ↓r_trb, ↓r_trn, ↓r_tri, ↓r_trt, ↓r_trl, ↓r_o0, ↓r_o1, ↓r_prt, ↓r_gn, ↓r_gt, ↓r_gl, ↓r_gs, ↓r_g0, ↓r_gc, ↓r_iv, ↓r_ir, ↓r_srt, ↓r_srl, ↓r_src, ↓r_rg1, ↓r_rg2, ↓r_ex, ↓r_asg, ↓r_setc, ↓r_par2, ↓r_asg2, ↓r_par3, ↓r_asg3, ↓r_rt, ↓r_rtN, ↓r_if, ↓r_loop, ↓r_turn, ↓r_for0, ↓r_forS, ↓r_fnx, ↓r_fct, ↓r_fbk, ↓r_frt, ↓r_pass, ↓r_brk, ↓r_cont, ↓r_doc, ↓r_never, ↓r_b0, ↓r_bc, ↓r_bf, ↓r_snx, ↓r_srr, ↓r_sbk, ↓r_sct, ↓r_runB, ↓r_ert, ↓r_enx, ↓r_add, ↓r_addT, ↓r_addL, ↓r_addS, ↓r_sub, ↓r_mul, ↓r_mod, ↓r_fdiv, ↓r_pow, ↓r_vneg, ↓r_vnot, ↓r_lt, ↓r_le, ↓r_gt', ↓r_ge, ↓r_eqI, ↓r_neI, ↓r_eqB, ↓r_neB, ↓r_eqL, ↓r_eqT, ↓r_eqS, ↓r_inL, ↓r_inT, ↓r_isN, ↓r_notN, ↓r_ixT0, ↓r_ixL0, ↓r_ixT1, ↓r_ixL1, ↓r_ixT2, ↓r_ixL2, ↓r_ixT3, ↓r_ixL3, ↓r_ixT3m, ↓r_ixC, ↓r_lenT, ↓r_lenL, ↓r_lenC, ↓r_isiI, ↓r_isiB, ↓r_isiN, ↓r_isiS, ↓r_isiT, ↓r_isiL, ↓r_abs, ↓r_min2, ↓r_min3, ↓r_max2, ↓r_max3, ↓r_minL, ↓r_maxL, ↓r_sumL, ↓r_allL, ↓r_anyL, ↓r_divm, ↓r_Tint, ↓r_Ttup, ↓r_Ttup', ↓r_Tlst, ↓r_Tlst', ↓r_slC, ↓r_slL, ↓r_slT, ↓r_ints0, ↓r_intsS, ↓r_bls0, ↓r_blsS, ↓r_ixR, ↓r_setR0, ↓r_setR1, ↓r_setR2, ↓r_frz0, ↓r_frzS, ↓r_isTR, ↓r_appR, ↓x_glob_0, ↓x_glob_1, ↓x_glob_2, ↓x_glob_3, ↓x_glob_4, ↓x_glob_5, ↓x_call_is_whole_0, ↓x_cf_is_whole_0, ↓x_call_is_between_0, ↓x_cf_is_between_0, ↓x_call_is_up_to_0, ↓x_cf_is_up_to_0, ↓x_call_is_tuple_of_0, ↓x_cf_is_tuple_of_0, ↓x_call_is_pair_0, ↓x_cf_is_pair_0, ↓x_call_is_cell_0, ↓x_cf_is_cell_0, ↓x_call_is_box_0, ↓x_cf_is_box_0, ↓x_call_is_point_0, ↓x_cf_is_point_0, ↓x_call_is_shape_0, ↓x_cf_is_shape_0, ↓x_call_is_stroke_0, ↓x_cf_is_stroke_0, ↓x_call_turn_at_0, ↓x_cf_turn_at_0, ↓x_call_is_in_corners_0, ↓x_cf_is_in_corners_0, ↓x_call_range_in_0, ↓x_cf_range_in_0, ↓x_call_cells_in_0, ↓x_cf_cells_in_0, ↓x_call_covers_by_0, ↓x_cf_covers_by_0, ↓x_call_check_stroke_0, ↓x_cf_check_stroke_0, ↓x_call_check_spot_0, ↓x_cf_check_spot_0, ↓x_call_covers_0, ↓x_cf_covers_0, ↓x_call_covers_1, ↓x_cf_covers_1, ↓x_call__law_pool_0, ↓x_cf__law_pool_0, ↓x_call__law_below_0, ↓x_cf__law_below_0, ↓x_call__law_one_0, ↓x_cf__law_one_0, ↓x_call__law_same_0_0, ↓x_cf__law_same_0_0, ↓x_call__law_same_0, ↓x_cf__law_same_0, ↓x_call__law_boxed_0, ↓x_cf__law_boxed_0, ↓x_call__law_in_box_0, ↓x_cf__law_in_box_0, ↓x_call__law_in_triangle_0, ↓x_cf__law_in_triangle_0, ↓x_call__law_covers_0, ↓x_cf__law_covers_0, ↓x_call__law_stroke_0, ↓x_cf__law_stroke_0, ↓x_call__law_right_0, ↓x_cf__law_right_0, ↓x_onStk, ↓x_onShp, ↓x_stk0, ↓x_is_whole, ↓x_is_between, ↓x_is_up_to, ↓x_is_tuple_of, ↓x_is_pair, ↓x_is_cell, ↓x_is_box, ↓x_is_point, ↓x_is_shape, ↓x_is_stroke, ↓x_turn_at, ↓x_is_in_corners, ↓x_range_in, ↓x_cells_in, ↓x_covers_by, ↓x_check_stroke, ↓x_check_spot, ↓x_covers, ↓x__law_below, ↓x__law_one, ↓x__law_stroke, ↓x__law_right, ↓x__law_pool, ↓x__law_same_0, ↓x__law_same2, ↓x__law_same4, ↓x__law_boxed, ↓x__law_in_box, ↓x__law_in_triangle, ↓x__law_covers, lenTs, hd, m1, m2, m3, d1, h.1, r_ixR, put_put]
  split
  · exact q _ _ _ _ (Int.emod_nonneg _ (by omega)) (Int.emod_lt_of_pos _ h.1)
  · exact q _ _ _ _ (Int.emod_nonneg _ (by omega)) (Int.emod_lt_of_pos _ h.1)
theorem le__law_one {a : Addr} {xs : List PV} : M.le (C__law_one [.ref a, .tup xs]) (d__law_one.den (g 1) [.ref a, .tup xs]) := by
  refine le_guard fun h S Q E q => ?_
  obtain ⟨xs', ha, ⟨⟨p, q0, z, e⟩, q⟩⟩ := q
  subst e
  have q : ∀ p' q' z' : Int, ∀ v ∈ xs, Q v (put S a (.lst [.int p', .int q', .int z'])) := fun p' q' z' v h1 => q _ ⟨p', q', z', rfl⟩ v h1
  rw [den_eq (body := c__law_one) (env := [some (.ref a), some (.tup xs)]) rfl rfl]
  rw [← put_id ha]
  unfold c__law_one
  simp [↓r_ret, ↓r_guard, ↓r_ofO, ↓r_noexc, ↓r_any, ↓k_set0, ↓k_setS, ↓k_wipe0, ↓k_wipeS, ↓k_app0, ↓k_appS, ↓k_cat0, ↓k_catS, ↓r_get0, ↓r_getS, ↓r_var, ↓r_int, ↓r_str, ↓r_bl, ↓r_non, ↓r_bty, ↓r_bin, ↓r_neg, ↓r_nt, ↓r_cmp, ↓r_chn, ↓r_tv, ↓r_b1, ↓r_and, ↓r_or, ↓r_ife, ↓r_tup, ↓r_lst, ↓r_own, ↓r_ix, ↓r_sl, ↓r_callB, ↓r_callT, ↓r_meth, ↓r_comp, ↓r_compO, ↓r_compF, ↓r_cm0, ↓r_cmS, ↓r_l0, ↓r_lc, ↓r_ls, ↓r_comp2, ↓r_compI, ↓r_compF2, ↓r_tnt, ↓r_tb1, ↓r_tand, ↓r_tor, ↓r_tcmp, ↓r_tchn, ↓r_ttv, ↓r_c0, ↓r_c1, ↓r_trb, ↓r_trn, ↓r_tri, ↓r_trt, ↓r_trl, ↓r_o0, ↓r_o1, ↓r_prt, ↓r_gn, ↓r_gt, ↓r_gl, ↓r_gs, ↓r_g0, ↓r_gc, ↓r_iv, ↓r_ir, ↓r_srt, ↓r_srl, ↓r_src, ↓r_rg1, ↓r_rg2, ↓r_ex, ↓r_asg, ↓r_setc, ↓r_par2, ↓r_asg2, ↓r_par3, ↓r_asg3, ↓r_rt, ↓r_rtN, ↓r_if, ↓r_loop, ↓r_turn, ↓r_for0, ↓r_forS, ↓r_fnx, ↓r_fct, ↓r_fbk, ↓r_frt, ↓r_pass, ↓r_brk, ↓r_cont, ↓r_doc, ↓r_never, ↓r_b0, ↓r_bc, ↓r_bf, ↓r_snx, ↓r_srr, ↓r_sbk, ↓r_sct, ↓r_runB, ↓r_ert, ↓r_enx, ↓r_add, ↓r_addT, ↓r_addL, ↓r_addS, ↓r_sub, ↓r_mul, ↓r_mod, ↓r_fdiv, ↓r_pow, ↓r_vneg, ↓r_vnot, ↓r_lt, ↓r_le, ↓r_gt', ↓r_ge, ↓r_eqI, ↓r_neI, ↓r_eqB, ↓r_neB, ↓r_eqL, ↓r_eqT, ↓r_eqS, ↓r_inL, ↓r_inT, ↓r_isN, ↓r_notN, ↓r_ixT0, ↓r_ixL0, ↓r_ixT1, ↓r_ixL1, ↓r_ixT2, ↓r_ixL2, ↓r_ixT3, ↓r_ixL3, ↓r_ixT3m, ↓r_ixC, ↓r_lenT, ↓r_lenL, ↓r_lenC, ↓r_isiI, ↓r_isiB, ↓r_isiN, ↓r_isiS, ↓r_isiT, ↓r_isiL, ↓r_abs, ↓r_min2, ↓r_min3, ↓r_max2, ↓r_max3, ↓r_minL, ↓r_maxL, ↓r_sumL, ↓r_allL, ↓r_anyL, ↓r_divm, ↓r_Tint, ↓r_Ttup, ↓r_Ttup', ↓r_Tlst, ↓r_Tlst', ↓r_slC, ↓r_slL, ↓r_slT, ↓r_ints0, ↓r_intsS, ↓r_bls0, ↓r_blsS, ↓r_ixR, ↓r_setR0, ↓r_setR1, ↓r_setR2, ↓r_frz0, ↓r_frzS, ↓r_isTR, ↓r_appR, ↓x_glob_0, ↓x_glob_1, ↓x_glob_2, ↓x_glob_3, ↓x_glob_4, ↓x_glob_5, ↓x_call_is_whole_0, ↓x_cf_is_whole_0, ↓x_call_is_between_0, ↓x_cf_is_between_0, ↓x_call_is_up_to_0, ↓x_cf_is_up_to_0, ↓x_call_is_tuple_of_0, ↓x_cf_is_tuple_of_0, ↓x_call_is_pair_0, ↓x_cf_is_pair_0, ↓x_call_is_cell_0, ↓x_cf_is_cell_0, ↓x_call_is_box_0, ↓x_cf_is_box_0, ↓x_call_is_point_0, ↓x_cf_is_point_0, ↓x_call_is_shape_0, ↓x_cf_is_shape_0, ↓x_call_is_stroke_0, ↓x_cf_is_stroke_0, ↓x_call_turn_at_0, ↓x_cf_turn_at_0, ↓x_call_is_in_corners_0, ↓x_cf_is_in_corners_0, ↓x_call_range_in_0, ↓x_cf_range_in_0, ↓x_call_cells_in_0, ↓x_cf_cells_in_0, ↓x_call_covers_by_0, ↓x_cf_covers_by_0, ↓x_call_check_stroke_0, ↓x_cf_check_stroke_0, ↓x_call_check_spot_0, ↓x_cf_check_spot_0, ↓x_call_covers_0, ↓x_cf_covers_0, ↓x_call_covers_1, ↓x_cf_covers_1, ↓x_call__law_pool_0, ↓x_cf__law_pool_0, ↓x_call__law_below_0, ↓x_cf__law_below_0, ↓x_call__law_one_0, ↓x_cf__law_one_0, ↓x_call__law_same_0_0, ↓x_cf__law_same_0_0, ↓x_call__law_same_0, ↓x_cf__law_same_0, ↓x_call__law_boxed_0, ↓x_cf__law_boxed_0, ↓x_call__law_in_box_0, ↓x_cf__law_in_box_0, ↓x_call__law_in_triangle_0, ↓x_cf__law_in_triangle_0, ↓x_call__law_covers_0, ↓x_cf__law_covers_0, ↓x_call__law_stroke_0, ↓x_cf__law_stroke_0, ↓x_call__law_right_0, ↓x_cf__law_right_0, ↓x_onStk, ↓x_onShp, ↓x_stk0, ↓x_is_whole, ↓x_is_between, ↓x_is_up_to, ↓x_is_tuple_of, ↓x_is_pair, ↓x_is_cell, ↓x_is_box, ↓x_is_point, ↓x_is_shape, ↓x_is_stroke, ↓x_turn_at, ↓x_is_in_corners, ↓x_range_in, ↓x_cells_in, ↓x_covers_by, ↓x_check_stroke, ↓x_check_spot, ↓x_covers, ↓x__law_below, ↓x__law_one, ↓x__law_stroke, ↓x__law_right, ↓x__law_pool, ↓x__law_same_0, ↓x__law_same2, ↓x__law_same4, ↓x__law_boxed, ↓x__law_in_box, ↓x__law_in_triangle, ↓x__law_covers, r_ixT]
  refine ⟨by omega, fun p' q' z' v h1 h2 => ?_⟩
  have hi : ixN xs.length v = some v.toNat := by unfold ixN; rw [if_pos h1, if_pos h2]
  rw [r_at hi]
  have hl : v.toNat < xs.length := by omega
  rw [List.getElem?_eq_getElem hl]
  exact q p' q' z' _ (List.getElem_mem hl)
theorem le__law_pool {ns : List Int} {lap : Int} : M.le (C__law_pool [.loc (ns.map .int), .int lap]) (d__law_pool.den (g 0) [.loc (ns.map .int), .int lap]) := by
  intro S Q E q
  rw [x__law_pool] at q
  obtain ⟨h, q⟩ := q
  rw [den_eq (body := c__law_pool) (env := [some (.loc (ns.map .int)), some (.int lap), none, none, none]) rfl rfl]
  unfold c__law_pool
  have m1 : ∀ z, CMulA z 40699 := fun z => mulB (by omega)
  have m2 : ∀ z, CMulA 12503 z := fun z => mulA (by omega)
  have m3 : ∀ z, CMulA 9013 z := fun z => mulA (by omega)
  have m4 : ∀ z, CMulA z 97 := fun z => mulB (by omega)
  have m5 : ∀ z, CMulA z 31013 := fun z => mulB (by omega)
  have cp : CPow 10 15 := ⟨by omega, by omega, by decide⟩
  have hcut : cutL (ns.map PV.int) none (some 63) = (cutL ns none (some 63)).map .int := by
    unfold cutL; rw [List.map_take, List.map_drop, List.length_map]
  have key : ∀ cell : Int, (runB (dB (g 0) (.cons (.asg (.name 3) (.bin .add (.int 104707) (.bin .mul (.int 9013) (.var 1)))) (.cons (.loop (.name 4) (.val (.sl (.var 0) .none (.some (.int 63)))) (.cons (.asg (.name 3) (.bin .mod (.callT .int (.cons (.bin .add (.bin .add (.bin .mul (.var 3) (.int 40699)) (.bin .mod (.callT .int (.cons (.var 4) .nil)) (.int 2147483587))) (.int 23)) .nil)) (.int 2147483629))) .nil)) (.cons (.asg (.name 3) (.bin .mod (.callT .int (.cons (.bin .add (.bin .add (.bin .mul (.var 3) (.int 97)) (.bin .mul (.bin .mod (.callT .int (.cons (.var 2) .nil)) (.int 2147483587)) (.int 31013))) (.int 7)) .nil)) (.int 2147483629))) (.cons (.ret (.lst true (.cons (.ife (.or (.cmp .lt (.var 2) (.int 0)) (.b1 (.cmp .ge (.var 2) (.bin .pow (.int 10) (.int 15))))) (.callB .abs (.cons (.var 2) .nil)) (.int 0)) (.cons (.var 3) (.cons (.int 0) .nil))))) .nil))))
      [some (.loc (ns.map .int)), some (.int lap), some (.int cell), none, none])).run S Q E := by
    intro cell
    simp [↓r_ret, ↓r_guard, ↓r_ofO, ↓r_noexc, ↓r_any, ↓k_set0, ↓k_setS, ↓k_wipe0, ↓k_wipeS, ↓k_app0, ↓k_appS, ↓k_cat0, ↓k_catS, ↓r_get0, ↓r_getS, ↓r_var, ↓r_int, ↓r_str, ↓r_bl, ↓r_non, ↓r_bty, ↓r_bin, ↓r_neg, ↓r_nt, ↓r_cmp, ↓r_chn, ↓r_tv, ↓r_b1, ↓r_and, ↓r_or, ↓r_ife, ↓r_tup, ↓r_lst, ↓r_own, ↓r_ix, ↓r_sl, ↓r_callB, ↓r_callT, ↓r_meth, ↓r_comp, ↓r_compO, ↓r_compF, ↓r_cm0, ↓r_cmS, ↓r_l0, ↓r_lc, ↓r_ls, ↓r_comp2, ↓r_compI, ↓r_compF2, ↓r_tnt, ↓r_tb1, ↓r_tand, ↓r_tor, ↓r_tcmp, ↓r_tchn, ↓r_ttv, ↓r_c0, ↓r_c1, ↓r_trb, ↓r_trn, ↓r_tri, ↓r_trt, ↓r_trl, ↓r_o0, ↓r_o1, ↓r_prt, ↓r_gn, ↓r_gt, ↓r_gl, ↓r_gs, ↓r_g0, ↓r_gc, ↓r_iv, ↓r_ir, ↓r_srt, ↓r_srl, ↓r_src, ↓r_rg1, ↓r_rg2, ↓r_ex, ↓r_asg, ↓r_setc, ↓r_par2, ↓r_asg2, ↓r_par3, ↓r_asg3, ↓r_rt, ↓r_rtN, ↓r_if, ↓r_loop, ↓r_turn, ↓r_for0, ↓r_forS, ↓r_fnx, ↓r_fct, ↓r_fbk, ↓r_frt, ↓r_pass, ↓r_brk, ↓r_cont, ↓r_doc, ↓r_never, ↓r_b0, ↓r_bc, ↓r_bf, ↓r_snx, ↓r_srr, ↓r_sbk, ↓r_sct, ↓r_runB, ↓r_ert, ↓r_enx, ↓r_add, ↓r_addT, ↓r_addL, ↓r_addS, ↓r_sub, ↓r_mul, ↓r_mod, ↓r_fdiv, ↓r_pow, ↓r_vneg, ↓r_vnot, ↓r_lt, ↓r_le, ↓r_gt', ↓r_ge, ↓r_eqI, ↓r_neI, ↓r_eqB, ↓r_neB, ↓r_eqL, ↓r_eqT, ↓r_eqS, ↓r_inL, ↓r_inT, ↓r_isN, ↓r_notN, ↓r_ixT0, ↓r_ixL0, ↓r_ixT1, ↓r_ixL1, ↓r_ixT2, ↓r_ixL2, ↓r_ixT3, ↓r_ixL3, ↓r_ixT3m, ↓r_ixC, ↓r_lenT, ↓r_lenL, ↓r_lenC, ↓r_isiI, ↓r_isiB, ↓r_isiN, ↓r_isiS, ↓r_isiT, ↓r_isiL, ↓r_abs, ↓r_min2, ↓r_min3, ↓r_max2, ↓r_max3, ↓r_minL, ↓r_maxL, ↓r_sumL, ↓r_allL, ↓r_anyL, ↓r_divm, ↓r_Tint, ↓r_Ttup, ↓r_Ttup', ↓r_Tlst, ↓r_Tlst', ↓r_slC, ↓r_slL, ↓r_slT, ↓r_ints0, ↓r_intsS, ↓r_bls0, ↓r_blsS, ↓r_ixR, ↓r_setR0, ↓r_setR1, ↓r_setR2, ↓r_frz0, ↓r_frzS, ↓r_isTR, ↓r_appR, ↓x_glob_0, ↓x_glob_1, ↓x_glob_2, ↓x_glob_3, ↓x_glob_4, ↓x_glob_5, ↓x_call_is_whole_0, ↓x_cf_is_whole_0, ↓x_call_is_between_0, ↓x_cf_is_between_0, ↓x_call_is_up_to_0, ↓x_cf_is_up_to_0, ↓x_call_is_tuple_of_0, ↓x_cf_is_tuple_of_0, ↓x_call_is_pair_0, ↓x_cf_is_pair_0, ↓x_call_is_cell_0, ↓x_cf_is_cell_0, ↓x_call_is_box_0, ↓x_cf_is_box_0, ↓x_call_is_point_0, ↓x_cf_is_point_0, ↓x_call_is_shape_0, ↓x_cf_is_shape_0, ↓x_call_is_stroke_0, ↓x_cf_is_stroke_0, ↓x_call_turn_at_0, ↓x_cf_turn_at_0, ↓x_call_is_in_corners_0, ↓x_cf_is_in_corners_0, ↓x_call_range_in_0, ↓x_cf_range_in_0, ↓x_call_cells_in_0, ↓x_cf_cells_in_0, ↓x_call_covers_by_0, ↓x_cf_covers_by_0, ↓x_call_check_stroke_0, ↓x_cf_check_stroke_0, ↓x_call_check_spot_0, ↓x_cf_check_spot_0, ↓x_call_covers_0, ↓x_cf_covers_0, ↓x_call_covers_1, ↓x_cf_covers_1, ↓x_call__law_pool_0, ↓x_cf__law_pool_0, ↓x_call__law_below_0, ↓x_cf__law_below_0, ↓x_call__law_one_0, ↓x_cf__law_one_0, ↓x_call__law_same_0_0, ↓x_cf__law_same_0_0, ↓x_call__law_same_0, ↓x_cf__law_same_0, ↓x_call__law_boxed_0, ↓x_cf__law_boxed_0, ↓x_call__law_in_box_0, ↓x_cf__law_in_box_0, ↓x_call__law_in_triangle_0, ↓x_cf__law_in_triangle_0, ↓x_call__law_covers_0, ↓x_cf__law_covers_0, ↓x_call__law_stroke_0, ↓x_cf__law_stroke_0, ↓x_call__law_right_0, ↓x_cf__law_right_0, ↓x_onStk, ↓x_onShp, ↓x_stk0, ↓x_is_whole, ↓x_is_between, ↓x_is_up_to, ↓x_is_tuple_of, ↓x_is_pair, ↓x_is_cell, ↓x_is_box, ↓x_is_point, ↓x_is_shape, ↓x_is_stroke, ↓x_turn_at, ↓x_is_in_corners, ↓x_range_in, ↓x_cells_in, ↓x_covers_by, ↓x_check_stroke, ↓x_check_spot, ↓x_covers, ↓x__law_below, ↓x__law_one, ↓x__law_stroke, ↓x__law_right, ↓x__law_pool, ↓x__law_same_0, ↓x__law_same2, ↓x__law_same4, ↓x__law_boxed, ↓x__law_in_box, ↓x__law_in_triangle, ↓x__law_covers, m3, hcut]
    refine forM_inv (fun env S' => S' = S ∧ ∃ st o, env = [some (.loc (ns.map .int)), some (.int lap), some (.int cell), some (.int st), o]) (h := .int) (ys := cutL ns none (some 63)) ?_ ⟨rfl, _, _, rfl⟩ ?_
    · rintro y _ env S1 Q E ⟨rfl, st, o, rfl⟩ q
      simp [↓r_ret, ↓r_guard, ↓r_ofO, ↓r_noexc, ↓r_any, ↓k_set0, ↓k_setS, ↓k_wipe0, ↓k_wipeS, ↓k_app0, ↓k_appS, ↓k_cat0, ↓k_catS, ↓r_get0, ↓r_getS, ↓r_var, ↓r_int, ↓r_str, ↓r_bl, ↓r_non, ↓r_bty, ↓r_bin, ↓r_neg, ↓r_nt, ↓r_cmp, ↓r_chn, ↓r_tv, ↓r_b1, ↓r_and, ↓r_or, ↓r_ife, ↓r_tup, ↓r_lst, ↓r_own, ↓r_ix, ↓r_sl, ↓r_callB, ↓r_callT, ↓r_meth, ↓r_comp, ↓r_compO, ↓r_compF, ↓r_cm0, ↓r_cmS, ↓r_l0, ↓r_lc, ↓r_ls, ↓r_comp2, ↓r_compI, ↓r_compF2, ↓r_tnt, ↓r_tb1, ↓r_tand, ↓r_tor, ↓r_tcmp, ↓r_tchn, ↓r_ttv, ↓r_c0, ↓r_c1, ↓r_trb, ↓r_trn, ↓r_tri, ↓r_trt, ↓r_trl, ↓r_o0, ↓r_o1, ↓r_prt, ↓r_gn, ↓r_gt, ↓r_gl, ↓r_gs, ↓r_g0, ↓r_gc, ↓r_iv, ↓r_ir, ↓r_srt, ↓r_srl, ↓r_src, ↓r_rg1, ↓r_rg2, ↓r_ex, ↓r_asg, ↓r_setc, ↓r_par2, ↓r_asg2, ↓r_par3, ↓r_asg3, ↓r_rt, ↓r_rtN, ↓r_if, ↓r_loop, ↓r_turn, ↓r_for0, ↓r_forS, ↓r_fnx, ↓r_fct, ↓r_fbk, ↓r_frt, ↓r_pass, ↓r_brk, ↓r_cont, ↓r_doc, ↓r_never, ↓r_b0, ↓r_bc, ↓r_bf, ↓r_snx, ↓r_srr, ↓r_sbk, ↓r_sct, ↓r_runB, ↓r_ert, ↓r_enx, ↓r_add, ↓r_addT, ↓r_addL, ↓r_addS, ↓r_sub, ↓r_mul, ↓r_mod, ↓r_fdiv, ↓r_pow, ↓r_vneg, ↓r_vnot, ↓r_lt, ↓r_le, ↓r_gt', ↓r_ge, ↓r_eqI, ↓r_neI, ↓r_eqB, ↓r_neB, ↓r_eqL, ↓r_eqT, ↓r_eqS, ↓r_inL, ↓r_inT, ↓r_isN, ↓r_notN, ↓r_ixT0, ↓r_ixL0, ↓r_ixT1, ↓r_ixL1, ↓r_ixT2, ↓r_ixL2, ↓r_ixT3, ↓r_ixL3, ↓r_ixT3m, ↓r_ixC, ↓r_lenT, ↓r_lenL, ↓r_lenC, ↓r_isiI, ↓r_isiB, ↓r_isiN, ↓r_isiS, ↓r_isiT, ↓r_isiL, ↓r_abs, ↓r_min2, ↓r_min3, ↓r_max2, ↓r_max3, ↓r_minL, ↓r_maxL, ↓r_sumL, ↓r_allL, ↓r_anyL, ↓r_divm, ↓r_Tint, ↓r_Ttup, ↓r_Ttup', ↓r_Tlst, ↓r_Tlst', ↓r_slC, ↓r_slL, ↓r_slT, ↓r_ints0, ↓r_intsS, ↓r_bls0, ↓r_blsS, ↓r_ixR, ↓r_setR0, ↓r_setR1, ↓r_setR2, ↓r_frz0, ↓r_frzS, ↓r_isTR, ↓r_appR, ↓x_glob_0, ↓x_glob_1, ↓x_glob_2, ↓x_glob_3, ↓x_glob_4, ↓x_glob_5, ↓x_call_is_whole_0, ↓x_cf_is_whole_0, ↓x_call_is_between_0, ↓x_cf_is_between_0, ↓x_call_is_up_to_0, ↓x_cf_is_up_to_0, ↓x_call_is_tuple_of_0, ↓x_cf_is_tuple_of_0, ↓x_call_is_pair_0, ↓x_cf_is_pair_0, ↓x_call_is_cell_0, ↓x_cf_is_cell_0, ↓x_call_is_box_0, ↓x_cf_is_box_0, ↓x_call_is_point_0, ↓x_cf_is_point_0, ↓x_call_is_shape_0, ↓x_cf_is_shape_0, ↓x_call_is_stroke_0, ↓x_cf_is_stroke_0, ↓x_call_turn_at_0, ↓x_cf_turn_at_0, ↓x_call_is_in_corners_0, ↓x_cf_is_in_corners_0, ↓x_call_range_in_0, ↓x_cf_range_in_0, ↓x_call_cells_in_0, ↓x_cf_cells_in_0, ↓x_call_covers_by_0, ↓x_cf_covers_by_0, ↓x_call_check_stroke_0, ↓x_cf_check_stroke_0, ↓x_call_check_spot_0, ↓x_cf_check_spot_0, ↓x_call_covers_0, ↓x_cf_covers_0, ↓x_call_covers_1, ↓x_cf_covers_1, ↓x_call__law_pool_0, ↓x_cf__law_pool_0, ↓x_call__law_below_0, ↓x_cf__law_below_0, ↓x_call__law_one_0, ↓x_cf__law_one_0, ↓x_call__law_same_0_0, ↓x_cf__law_same_0_0, ↓x_call__law_same_0, ↓x_cf__law_same_0, ↓x_call__law_boxed_0, ↓x_cf__law_boxed_0, ↓x_call__law_in_box_0, ↓x_cf__law_in_box_0, ↓x_call__law_in_triangle_0, ↓x_cf__law_in_triangle_0, ↓x_call__law_covers_0, ↓x_cf__law_covers_0, ↓x_call__law_stroke_0, ↓x_cf__law_stroke_0, ↓x_call__law_right_0, ↓x_cf__law_right_0, ↓x_onStk, ↓x_onShp, ↓x_stk0, ↓x_is_whole, ↓x_is_between, ↓x_is_up_to, ↓x_is_tuple_of, ↓x_is_pair, ↓x_is_cell, ↓x_is_box, ↓x_is_point, ↓x_is_shape, ↓x_is_stroke, ↓x_turn_at, ↓x_is_in_corners, ↓x_range_in, ↓x_cells_in, ↓x_covers_by, ↓x_check_stroke, ↓x_check_spot, ↓x_covers, ↓x__law_below, ↓x__law_one, ↓x__law_stroke, ↓x__law_right, ↓x__law_pool, ↓x__law_same_0, ↓x__law_same2, ↓x__law_same4, ↓x__law_boxed, ↓x__law_in_box, ↓x__law_in_triangle, ↓x__law_covers, m1]
      exact q _ _ ⟨rfl, _, _, rfl⟩
    · rintro env S1 ⟨rfl, st, o, rfl⟩
      simp [↓r_ret, ↓r_guard, ↓r_ofO, ↓r_noexc, ↓r_any, ↓k_set0, ↓k_setS, ↓k_wipe0, ↓k_wipeS, ↓k_app0, ↓k_appS, ↓k_cat0, ↓k_catS, ↓r_get0, ↓r_getS, ↓r_var, ↓r_int, ↓r_str, ↓r_bl, ↓r_non, ↓r_bty, ↓r_bin, ↓r_neg, ↓r_nt, ↓r_cmp, ↓r_chn, ↓r_tv, ↓r_b1, ↓r_and, ↓r_or, ↓r_ife, ↓r_tup, ↓r_lst, ↓r_own, ↓r_ix, ↓r_sl, ↓r_callB, ↓r_callT, ↓r_meth, ↓r_comp, ↓r_compO, ↓r_compF, ↓r_cm0, ↓r_cmS, ↓r_l0, ↓r_lc, ↓r_ls, ↓r_comp2, ↓r_compI, ↓r_compF2, ↓r_tnt, ↓r_tb1, ↓r_tand, ↓r_tor, ↓r_tcmp, ↓r_tchn, ↓r_ttv, ↓r_c0, ↓r_c1, ↓r_trb, ↓r_trn, ↓r_tri, ↓r_trt, ↓r_trl, ↓r_o0, ↓r_o1, ↓r_prt, ↓r_gn, ↓r_gt, ↓r_gl, ↓r_gs, ↓r_g0, ↓r_gc, ↓r_iv, ↓r_ir, ↓r_srt, ↓r_srl, ↓r_src, ↓r_rg1, ↓r_rg2, ↓r_ex, ↓r_asg, ↓r_setc, ↓r_par2, ↓r_asg2, ↓r_par3, ↓r_asg3, ↓r_rt, ↓r_rtN, ↓r_if, ↓r_loop, ↓r_turn, ↓r_for0, ↓r_forS, ↓r_fnx, ↓r_fct, ↓r_fbk, ↓r_frt, ↓r_pass, ↓r_brk, ↓r_cont, ↓r_doc, ↓r_never, ↓r_b0, ↓r_bc, ↓r_bf, ↓r_snx, ↓r_srr, ↓r_sbk, ↓r_sct, ↓r_runB, ↓r_ert, ↓r_enx, ↓r_add, ↓r_addT, ↓r_addL, ↓r_addS, ↓r_sub, ↓r_mul, ↓r_mod, ↓r_fdiv, ↓r_pow, ↓r_vneg, ↓r_vnot, ↓r_lt, ↓r_le, ↓r_gt', ↓r_ge, ↓r_eqI, ↓r_neI, ↓r_eqB, ↓r_neB, ↓r_eqL, ↓r_eqT, ↓r_eqS, ↓r_inL, ↓r_inT, ↓r_isN, ↓r_notN, ↓r_ixT0, ↓r_ixL0, ↓r_ixT1, ↓r_ixL1, ↓r_ixT2, ↓r_ixL2, ↓r_ixT3, ↓r_ixL3, ↓r_ixT3m, ↓r_ixC, ↓r_lenT, ↓r_lenL, ↓r_lenC, ↓r_isiI, ↓r_isiB, ↓r_isiN, ↓r_isiS, ↓r_isiT, ↓r_isiL, ↓r_abs, ↓r_min2, ↓r_min3, ↓r_max2, ↓r_max3, ↓r_minL, ↓r_maxL, ↓r_sumL, ↓r_allL, ↓r_anyL, ↓r_divm, ↓r_Tint, ↓r_Ttup, ↓r_Ttup', ↓r_Tlst, ↓r_Tlst', ↓r_slC, ↓r_slL, ↓r_slT, ↓r_ints0, ↓r_intsS, ↓r_bls0, ↓r_blsS, ↓r_ixR, ↓r_setR0, ↓r_setR1, ↓r_setR2, ↓r_frz0, ↓r_frzS, ↓r_isTR, ↓r_appR, ↓x_glob_0, ↓x_glob_1, ↓x_glob_2, ↓x_glob_3, ↓x_glob_4, ↓x_glob_5, ↓x_call_is_whole_0, ↓x_cf_is_whole_0, ↓x_call_is_between_0, ↓x_cf_is_between_0, ↓x_call_is_up_to_0, ↓x_cf_is_up_to_0, ↓x_call_is_tuple_of_0, ↓x_cf_is_tuple_of_0, ↓x_call_is_pair_0, ↓x_cf_is_pair_0, ↓x_call_is_cell_0, ↓x_cf_is_cell_0, ↓x_call_is_box_0, ↓x_cf_is_box_0, ↓x_call_is_point_0, ↓x_cf_is_point_0, ↓x_call_is_shape_0, ↓x_cf_is_shape_0, ↓x_call_is_stroke_0, ↓x_cf_is_stroke_0, ↓x_call_turn_at_0, ↓x_cf_turn_at_0, ↓x_call_is_in_corners_0, ↓x_cf_is_in_corners_0, ↓x_call_range_in_0, ↓x_cf_range_in_0, ↓x_call_cells_in_0, ↓x_cf_cells_in_0, ↓x_call_covers_by_0, ↓x_cf_covers_by_0, ↓x_call_check_stroke_0, ↓x_cf_check_stroke_0, ↓x_call_check_spot_0, ↓x_cf_check_spot_0, ↓x_call_covers_0, ↓x_cf_covers_0, ↓x_call_covers_1, ↓x_cf_covers_1, ↓x_call__law_pool_0, ↓x_cf__law_pool_0, ↓x_call__law_below_0, ↓x_cf__law_below_0, ↓x_call__law_one_0, ↓x_cf__law_one_0, ↓x_call__law_same_0_0, ↓x_cf__law_same_0_0, ↓x_call__law_same_0, ↓x_cf__law_same_0, ↓x_call__law_boxed_0, ↓x_cf__law_boxed_0, ↓x_call__law_in_box_0, ↓x_cf__law_in_box_0, ↓x_call__law_in_triangle_0, ↓x_cf__law_in_triangle_0, ↓x_call__law_covers_0, ↓x_cf__law_covers_0, ↓x_call__law_stroke_0, ↓x_cf__law_stroke_0, ↓x_call__law_right_0, ↓x_cf__law_right_0, ↓x_onStk, ↓x_onShp, ↓x_stk0, ↓x_is_whole, ↓x_is_between, ↓x_is_up_to, ↓x_is_tuple_of, ↓x_is_pair, ↓x_is_cell, ↓x_is_box, ↓x_is_point, ↓x_is_shape, ↓x_is_stroke, ↓x_turn_at, ↓x_is_in_corners, ↓x_range_in, ↓x_cells_in, ↓x_covers_by, ↓x_check_stroke, ↓x_check_spot, ↓x_covers, ↓x__law_below, ↓x__law_one, ↓x__law_stroke, ↓x__law_right, ↓x__law_pool, ↓x__law_same_0, ↓x__law_same2, ↓x__law_same4, ↓x__law_boxed, ↓x__law_in_box, ↓x__law_in_triangle, ↓x__law_covers, m4, m5, cp, sizeLine]
      by_cases c1 : cell < 0
      · simp [c1]; intro p hp; exact q p hp _ _ _
      · by_cases c2 : (1000000000000000 : Int) ≤ cell
        · simp [c1, c2]; intro p hp; exact q p hp _ _ _
        · simp [c1, c2]; intro p hp; exact q p hp _ _ _
  by_cases hl : lap < ns.length
  · have hi : ixN (ns.map PV.int).length lap = some lap.toNat := by unfold ixN; rw [List.length_map, if_pos h.1, if_pos hl]
    have hx : ∀ (S : Stt) Q E, (vIdx (.loc (ns.map PV.int)) (.int lap)).run S Q E = Q (.int (ns[lap.toNat]'(by omega))) S := by
      intro S Q E
      rw [r_ixC, r_at hi, List.getElem?_map, List.getElem?_eq_getElem (by omega)]
      rfl
    rw [r_runB, r_bc, r_asg]
    simp only [↓r_ife, ↓r_tcmp, ↓r_var, ↓r_get0, ↓r_getS, ↓r_callB, ↓r_lc, ↓r_l0, ↓r_lenC, ↓r_lt, ↓r_trb]
    rw [List.length_map, if_pos (by simpa using hl)]
    simp only [↓r_callT, ↓r_lc, ↓r_l0, ↓r_ix, ↓r_var, ↓r_get0, ↓r_getS, ↓hx, ↓r_Tint, ↓r_gn, ↓k_set0, ↓k_setS, ↓r_snx]
    have := key (ns[lap.toNat]'(by omega))
    rw [r_runB] at this
    exact this
  · rw [r_runB, r_bc, r_asg]
    simp only [↓r_ife, ↓r_tcmp, ↓r_var, ↓r_get0, ↓r_getS, ↓r_callB, ↓r_lc, ↓r_l0, ↓r_lenC, ↓r_lt, ↓r_trb]
    rw [List.length_map, if_neg (by simpa using hl)]
    simp only [↓r_bin, ↓r_int, ↓r_var, ↓r_get0, ↓r_getS, ↓r_mul, ↓r_add, ↓r_gn, ↓k_set0, ↓k_setS, ↓r_snx]
    refine ⟨m2 _, ?_⟩
    have := key (12503 * lap + 1237)
    rw [r_runB] at this
    exact this
end Dp.L

namespace Dp.L
open PySem PySem.Spec L2 Dp
open PyProof.Rows hiding St
theorem le__law_stroke {a : Addr} : M.le (C__law_stroke [.ref a]) (d__law_stroke.den (g 2) [.ref a]) := by
  intro S Q E q
  obtain ⟨xs, ha, ⟨⟨p, q0, z, e⟩, q⟩⟩ := q
  subst e
  have q : ∀ p' q' z' : Int, ∀ s : Stk, s.ok → Q s.pv (put S a (.lst [.int p', .int q', .int z'])) := fun p' q' z' v h1 => q _ ⟨p', q', z', rfl⟩ v h1
  rw [den_eq (body := c__law_stroke) (env := [some (.ref a), none, none, none, none, none]) rfl rfl]
  rw [← put_id ha]
  unfold c__law_stroke
  have box : ∀ p' q' z' (x0 y0 x1 y1 ink l t r u : Int), (-99999 ≤ x0 ∧ x0 ≤ x1 ∧ x1 ≤ 99999) → (-99999 ≤ y0 ∧ y0 ≤ y1 ∧ y1 ≤ 99999) → (0 ≤ ink ∧ ink ≤ 7) → (0 ≤ l ∧ l ≤ r ∧ r ≤ 24) → (0 ≤ t ∧ t ≤ u ∧ u ≤ 24) →
      Q (.tup [.tup [.int x0, .int y0, .int x1, .int y1], .int ink, .tup [.int l, .int t, .int r, .int u]]) (put S a (.lst [.int p', .int q', .int z'])) := by
    intro p' q' z' x0 y0 x1 y1 ink l t r u h1 h2 h5 h6 h7
    exact q p' q' z' ⟨.box x0 y0 x1 y1, ink, l, t, r, u⟩ ⟨by simp only [Shp.ok]; omega, h5, h6, h7⟩
  have tri : ∀ p' q' z' (x0 y0 x1 y1 x2 y2 ink l t r u : Int), (-99999 ≤ x0 ∧ x0 ≤ 99999) → (-99999 ≤ y0 ∧ y0 ≤ 99999) → (-99999 ≤ x1 ∧ x1 ≤ 99999) → (-99999 ≤ y1 ∧ y1 ≤ 99999) → (-99999 ≤ x2 ∧ x2 ≤ 99999) → (-99999 ≤ y2 ∧ y2 ≤ 99999) → (0 ≤ ink ∧ ink ≤ 7) → (0 ≤ l ∧ l ≤ r ∧ r ≤ 24) → (0 ≤ t ∧ t ≤ u ∧ u ≤ 24) →
      Q (.tup [.tup [pt x0 y0, pt x1 y1, pt x2 y2], .int ink, .tup [.int l, .int t, .int r, .int u]]) (put S a (.lst [.int p', .int q', .int z'])) := by
    intro p' q' z' x0 y0 x1 y1 x2 y2 ink l t r u h1 h2 h3 h4 h5 h6 h7 h8 h9
    exact q p' q' z' ⟨.tri x0 y0 x1 y1 x2 y2, ink, l, t, r, u⟩ ⟨⟨h1, h2, h3, h4, h5, h6⟩, h7, h8, h9⟩
  simp [↓r_ret, ↓r_guard, ↓r_ofO, ↓r_noexc, ↓r_any, ↓k_set0, ↓k_setS, ↓k_wipe0, ↓k_wipeS, ↓k_app0, ↓k_appS, ↓k_cat0, ↓k_catS, ↓r_get0, ↓r_getS, ↓r_var, ↓r_int, ↓r_str, ↓r_bl, ↓r_non, ↓r_bty, ↓r_bin, ↓r_neg, ↓r_nt, ↓r_cmp, ↓r_chn, ↓r_tv, ↓r_b1, ↓r_and, ↓r_or, ↓r_ife, ↓r_tup, ↓r_lst, ↓r_own, ↓r_ix, ↓r_sl, ↓r_callB, ↓r_callT, ↓r_meth, ↓r_comp, ↓r_compO, ↓r_compF, ↓r_cm0, ↓r_cmS, ↓r_l0, ↓r_lc, ↓r_ls, ↓r_comp2, ↓r_compI, ↓r_compF2, ↓r_tnt, ↓r_tb1, ↓r_tand, ↓r_tor, ↓r_tcmp, ↓r_tchn, ↓r_ttv, ↓r_c0, ↓r_c1, ↓r_trb, ↓r_trn, ↓r_tri, ↓r_trt, ↓r_trl, ↓r_o0, ↓r_o1, ↓r_prt, ↓r_gn, ↓r_gt, ↓r_gl, ↓r_gs, ↓r_g0, ↓r_gc, ↓r_iv, ↓r_ir, ↓r_srt, ↓r_srl, ↓r_src, ↓r_rg1, ↓r_rg2, ↓r_ex, ↓r_asg, ↓r_setc, ↓r_par2, ↓r_asg2, ↓r_par3, ↓r_asg3, ↓r_rt, ↓r_rtN, ↓r_if, ↓r_loop, ↓r_turn, ↓r_for0, ↓r_forS, ↓r_fnx, ↓r_fct, ↓r_fbk, ↓r_frt, ↓r_pass, ↓r_brk, ↓r_cont, ↓r_doc, ↓r_never, ↓r_b0, ↓r_bc, ↓r_bf, ↓r_snx, ↓r_srr, ↓r_sbk, ↓r_sct, ↓r_runB, ↓r_ert, ↓r_enx, ↓r_add, ↓r_addT, ↓r_addL, ↓r_addS, ↓r_sub, ↓r_mul, ↓r_mod, ↓r_fdiv, ↓r_pow, ↓r_vneg, ↓r_vnot, ↓r_lt, ↓r_le, ↓r_gt', ↓r_ge, ↓r_eqI, ↓r_neI, ↓r_eqB, ↓r_neB, ↓r_eqL, ↓r_eqT, ↓r_eqS, ↓r_inL, ↓r_inT, ↓r_isN, ↓r_notN, ↓r_ixT0, ↓r_ixL0, ↓r_ixT1, ↓r_ixL1, ↓r_ixT2, ↓r_ixL2, ↓r_ixT3, ↓r_ixL3, ↓r_ixT3m, ↓r_ixC, ↓r_lenT, ↓r_lenL, ↓r_lenC, ↓r_isiI, ↓r_isiB, ↓r_isiN, ↓r_isiS, ↓r_isiT, ↓r_isiL, ↓r_abs, ↓r_min2, ↓r_min3, ↓r_max2, ↓r_max3, ↓r_minL, ↓r_maxL, ↓r_sumL, ↓r_allL, ↓r_anyL, ↓r_divm, ↓r_Tint, ↓r_Ttup, ↓r_Ttup', ↓r_Tlst, ↓r_Tlst', ↓r_slC, ↓r_slL, ↓r_slT, ↓r_ints0, ↓r_intsS, ↓r_bls0, ↓r_blsS, ↓r_ixR, ↓r_setR0, ↓r_setR1, ↓r_setR2, ↓r_frz0, ↓r_frzS, ↓r_isTR, ↓r_appR, ↓x_glob_0, ↓x_glob_1, ↓x_glob_2, ↓x_glob_3, ↓x_glob_4, ↓x_glob_5, ↓x_call_is_whole_0, ↓x_cf_is_whole_0, ↓x_call_is_between_0, ↓x_cf_is_between_0, ↓x_call_is_up_to_0, ↓x_cf_is_up_to_0, ↓x_call_is_tuple_of_0, ↓x_cf_is_tuple_of_0, ↓x_call_is_pair_0, ↓x_cf_is_pair_0, ↓x_call_is_cell_0, ↓x_cf_is_cell_0, ↓x_call_is_box_0, ↓x_cf_is_box_0, ↓x_call_is_point_0, ↓x_cf_is_point_0, ↓x_call_is_shape_0, ↓x_cf_is_shape_0, ↓x_call_is_stroke_0, ↓x_cf_is_stroke_0, ↓x_call_turn_at_0, ↓x_cf_turn_at_0, ↓x_call_is_in_corners_0, ↓x_cf_is_in_corners_0, ↓x_call_range_in_0, ↓x_cf_range_in_0, ↓x_call_cells_in_0, ↓x_cf_cells_in_0, ↓x_call_covers_by_0, ↓x_cf_covers_by_0, ↓x_call_check_stroke_0, ↓x_cf_check_stroke_0, ↓x_call_check_spot_0, ↓x_cf_check_spot_0, ↓x_call_covers_0, ↓x_cf_covers_0, ↓x_call_covers_1, ↓x_cf_covers_1, ↓x_call__law_pool_0, ↓x_cf__law_pool_0, ↓x_call__law_below_0, ↓x_cf__law_below_0, ↓x_call__law_one_0, ↓x_cf__law_one_0, ↓x_call__law_same_0_0, ↓x_cf__law_same_0_0, ↓x_call__law_same_0, ↓x_cf__law_same_0, ↓x_call__law_boxed_0, ↓x_cf__law_boxed_0, ↓x_call__law_in_box_0, ↓x_cf__law_in_box_0, ↓x_call__law_in_triangle_0, ↓x_cf__law_in_triangle_0, ↓x_call__law_covers_0, ↓x_cf__law_covers_0, ↓x_call__law_stroke_0, ↓x_cf__law_stroke_0, ↓x_call__law_right_0, ↓x_cf__law_right_0, ↓x_onStk, ↓x_onShp, ↓x_stk0, ↓x_is_whole, ↓x_is_between, ↓x_is_up_to, ↓x_is_tuple_of, ↓x_is_pair, ↓x_is_cell, ↓x_is_box, ↓x_is_point, ↓x_is_shape, ↓x_is_stroke, ↓x_turn_at, ↓x_is_in_corners, ↓x_range_in, ↓x_cells_in, ↓x_covers_by, ↓x_check_stroke, ↓x_check_spot, ↓x_covers, ↓x__law_below, ↓x__law_one, ↓x__law_stroke, ↓x__law_right, ↓x__law_pool, ↓x__law_same_0, ↓x__law_same2, ↓x__law_same4, ↓x__law_boxed, ↓x__law_in_box, ↓x__law_in_triangle, ↓x__law_covers, lenTs, lenL, sizeLine, rng3, inRng]
  refine ⟨?_, ?_, ?_, ?_⟩ <;> intros <;> refine ⟨?_, ?_, ?_, ?_⟩ <;> intros <;> split <;>
    first | (apply box <;> omega) | (apply tri <;> omega)
theorem sl_1 {S : Stt} {Q : PV → Stt → Prop} {E : Exc → Stt → Prop} {r k : Int} : (C_covers [.tup [.tup [.tup [.int 0, .int 0], .tup [.int 2, .int 0], .tup [.int 0, .int 2]], .int 1, .tup [.int 0, .int 0, .int 2, .int 2]], .tup [.int r, .int k]]).run S Q E = (((0 ≤ r ∧ r ≤ 23) ∧ (0 ≤ k ∧ k ≤ 23)) ∧ Q (.bl ((⟨.tri 0 0 2 0 0 2, 1, 0, 0, 2, 2⟩ : Stk).cov r k)) S) :=
  x_covers (s := ⟨.tri 0 0 2 0 0 2, 1, 0, 0, 2, 2⟩) (by simp [Stk.ok, Shp.ok])
theorem sl_2 {S : Stt} {Q : PV → Stt → Prop} {E : Exc → Stt → Prop} {r k : Int} : (C_covers [.tup [.tup [.tup [.int 2, .int 2], .tup [.int 2, .int 0], .tup [.int 0, .int 2]], .int 1, .tup [.int 0, .int 0, .int 2, .int 2]], .tup [.int r, .int k]]).run S Q E = (((0 ≤ r ∧ r ≤ 23) ∧ (0 ≤ k ∧ k ≤ 23)) ∧ Q (.bl ((⟨.tri 2 2 2 0 0 2, 1, 0, 0, 2, 2⟩ : Stk).cov r k)) S) :=
  x_covers (s := ⟨.tri 2 2 2 0 0 2, 1, 0, 0, 2, 2⟩) (by simp [Stk.ok, Shp.ok])
theorem le__law_right {a : Addr} : M.le (C__law_right [.ref a]) (d__law_right.den (g 7) [.ref a]) := by
  intro S Q E q
  obtain ⟨xs, ha, ⟨⟨p, q0, z, e⟩, q⟩⟩ := q
  subst e
  have q : ∀ p' q' z' : Int, Q (.bl true) (put S a (.lst [.int p', .int q', .int z'])) := fun p' q' z' => q _ ⟨p', q', z', rfl⟩
  rw [den_eq (body := c__law_right) (env := [some (.ref a), none, none, none, none, none, none]) rfl rfl]
  rw [← put_id ha]
  unfold c__law_right
  have s1 : ((⟨.tri 0 0 2 0 0 2, 1, 0, 0, 2, 2⟩ : Stk).cov 0 0) = true := by decide +kernel
  have s2 : ((⟨.tri 0 0 2 0 0 2, 1, 0, 0, 2, 2⟩ : Stk).cov 0 1) = false := by decide +kernel
  have s3 : ((⟨.tri 0 0 2 0 0 2, 1, 0, 0, 2, 2⟩ : Stk).cov 1 0) = false := by decide +kernel
  have s4 : ((⟨.tri 2 2 2 0 0 2, 1, 0, 0, 2, 2⟩ : Stk).cov 0 1) = true := by decide +kernel
  rw [r_runB, r_bc, r_loop, r_ir]
  simp [↓r_lc, ↓r_l0, ↓r_int, ↓r_rg1, lenL, inRng]
  refine forM_inv (fun env S' => ∃ e1 e2 e3 e4 e5 e6 p q z, env = [some (.ref a), e1, e2, e3, e4, e5, e6] ∧ S' = plst S a p q z) (h := fun i : Nat => PV.int (0 + (i : Int))) (ys := List.range 5) ?_ ⟨_, _, _, _, _, _, _, _, _, rfl, rfl⟩ ?_
  · rintro lap _ env S1 Q E ⟨e1, e2, e3, e4, e5, e6, p, q, z, rfl, rfl⟩ q
    simp [↓r_ret, ↓r_guard, ↓r_ofO, ↓r_noexc, ↓r_any, ↓k_set0, ↓k_setS, ↓k_wipe0, ↓k_wipeS, ↓k_app0, ↓k_appS, ↓k_cat0, ↓k_catS, ↓r_get0, ↓r_getS, ↓r_var, ↓r_int, ↓r_str, ↓r_bl, ↓r_non, ↓r_bty, ↓r_bin, ↓r_neg, ↓r_nt, ↓r_cmp, ↓r_chn, ↓r_tv, ↓r_b1, ↓r_and, ↓r_or, ↓r_ife, ↓r_tup, ↓r_lst, ↓r_own, ↓r_ix, ↓r_sl, ↓r_callB, ↓r_callT, ↓r_meth, ↓r_comp, ↓r_compO, ↓r_compF, ↓r_cm0, ↓r_cmS, ↓r_l0, ↓r_lc, ↓r_ls, ↓r_comp2, ↓r_compI, ↓r_compF2, ↓r_tnt, ↓r_tb1, ↓r_tand, ↓r_tor, ↓r_tcmp, ↓r_tchn, ↓r_ttv, ↓r_c0, ↓r_c1, ↓r_trb, ↓r_trn, ↓r_tri, ↓r_trt, ↓r_trl, ↓r_o0, ↓r_o1, ↓r_prt, ↓r_gn, ↓r_gt, ↓r_gl, ↓r_gs, ↓r_g0, ↓r_gc, ↓r_iv, ↓r_ir, ↓r_srt, ↓r_srl, ↓r_src, ↓r_rg1, ↓r_rg2, ↓r_ex, ↓r_asg, ↓r_setc, ↓r_par2, ↓r_asg2, ↓r_par3, ↓r_asg3, ↓r_rt, ↓r_rtN, ↓r_if, ↓r_loop, ↓r_turn, ↓r_for0, ↓r_forS, ↓r_fnx, ↓r_fct, ↓r_fbk, ↓r_frt, ↓r_pass, ↓r_brk, ↓r_cont, ↓r_doc, ↓r_never, ↓r_b0, ↓r_bc, ↓r_bf, ↓r_snx, ↓r_srr, ↓r_sbk, ↓r_sct, ↓r_runB, ↓r_ert, ↓r_enx, ↓r_add, ↓r_addT, ↓r_addL, ↓r_addS, ↓r_sub, ↓r_mul, ↓r_mod, ↓r_fdiv, ↓r_pow, ↓r_vneg, ↓r_vnot, ↓r_lt, ↓r_le, ↓r_gt', ↓r_ge, ↓r_eqI, ↓r_neI, ↓r_eqB, ↓r_neB, ↓r_eqL, ↓r_eqT, ↓r_eqS, ↓r_inL, ↓r_inT, ↓r_isN, ↓r_notN, ↓r_ixT0, ↓r_ixL0, ↓r_ixT1, ↓r_ixL1, ↓r_ixT2, ↓r_ixL2, ↓r_ixT3, ↓r_ixL3, ↓r_ixT3m, ↓r_ixC, ↓r_lenT, ↓r_lenL, ↓r_lenC, ↓r_isiI, ↓r_isiB, ↓r_isiN, ↓r_isiS, ↓r_isiT, ↓r_isiL, ↓r_abs, ↓r_min2, ↓r_min3, ↓r_max2, ↓r_max3, ↓r_minL, ↓r_maxL, ↓r_sumL, ↓r_allL, ↓r_anyL, ↓r_divm, ↓r_Tint, ↓r_Ttup, ↓r_Ttup', ↓r_Tlst, ↓r_Tlst', ↓r_slC, ↓r_slL, ↓r_slT, ↓r_ints0, ↓r_intsS, ↓r_bls0, ↓r_blsS, ↓r_ixR, ↓r_setR0, ↓r_setR1, ↓r_setR2, ↓r_frz0, ↓r_frzS, ↓r_isTR, ↓r_appR, ↓x_glob_0, ↓x_glob_1, ↓x_glob_2, ↓x_glob_3, ↓x_glob_4, ↓x_glob_5, ↓x_call_is_whole_0, ↓x_cf_is_whole_0, ↓x_call_is_between_0, ↓x_cf_is_between_0, ↓x_call_is_up_to_0, ↓x_cf_is_up_to_0, ↓x_call_is_tuple_of_0, ↓x_cf_is_tuple_of_0, ↓x_call_is_pair_0, ↓x_cf_is_pair_0, ↓x_call_is_cell_0, ↓x_cf_is_cell_0, ↓x_call_is_box_0, ↓x_cf_is_box_0, ↓x_call_is_point_0, ↓x_cf_is_point_0, ↓x_call_is_shape_0, ↓x_cf_is_shape_0, ↓x_call_is_stroke_0, ↓x_cf_is_stroke_0, ↓x_call_turn_at_0, ↓x_cf_turn_at_0, ↓x_call_is_in_corners_0, ↓x_cf_is_in_corners_0, ↓x_call_range_in_0, ↓x_cf_range_in_0, ↓x_call_cells_in_0, ↓x_cf_cells_in_0, ↓x_call_covers_by_0, ↓x_cf_covers_by_0, ↓x_call_check_stroke_0, ↓x_cf_check_stroke_0, ↓x_call_check_spot_0, ↓x_cf_check_spot_0, ↓x_call_covers_0, ↓x_cf_covers_0, ↓x_call_covers_1, ↓x_cf_covers_1, ↓x_call__law_pool_0, ↓x_cf__law_pool_0, ↓x_call__law_below_0, ↓x_cf__law_below_0, ↓x_call__law_one_0, ↓x_cf__law_one_0, ↓x_call__law_same_0_0, ↓x_cf__law_same_0_0, ↓x_call__law_same_0, ↓x_cf__law_same_0, ↓x_call__law_boxed_0, ↓x_cf__law_boxed_0, ↓x_call__law_in_box_0, ↓x_cf__law_in_box_0, ↓x_call__law_in_triangle_0, ↓x_cf__law_in_triangle_0, ↓x_call__law_covers_0, ↓x_cf__law_covers_0, ↓x_call__law_stroke_0, ↓x_cf__law_stroke_0, ↓x_call__law_right_0, ↓x_cf__law_right_0, ↓x_onStk, ↓x_onShp, ↓x_stk0, ↓x_is_whole, ↓x_is_between, ↓x_is_up_to, ↓x_is_tuple_of, ↓x_is_pair, ↓x_is_cell, ↓x_is_box, ↓x_is_point, ↓x_is_shape, ↓x_is_stroke, ↓x_turn_at, ↓x_is_in_corners, ↓x_range_in, ↓x_cells_in, ↓x_covers_by, ↓x_check_stroke, ↓x_check_spot, ↓x_covers, ↓x__law_below, ↓x__law_one, ↓x__law_stroke, ↓x__law_right, ↓x__law_pool, ↓x__law_same_0, ↓x__law_same2, ↓x__law_same4, ↓x__law_boxed, ↓x__law_in_box, ↓x__law_in_triangle, ↓x__law_covers, lenL, inRng]
    intro p1 q1 z1 s hs
    refine forM_inv (fun env S' => ∃ e1 e3 e4 e5 e6, env = [some (.ref a), e1, some s.pv, e3, e4, e5, e6] ∧ S' = plst S a p1 q1 z1) (h := fun i : Nat => PV.int (0 + (i : Int))) (ys := List.range 6) ?_ ⟨_, _, _, _, _, rfl, rfl⟩ ?_
    · rintro r hr env S1 Q E ⟨e1, e3, e4, e5, e6, rfl, rfl⟩ q
      simp [↓r_ret, ↓r_guard, ↓r_ofO, ↓r_noexc, ↓r_any, ↓k_set0, ↓k_setS, ↓k_wipe0, ↓k_wipeS, ↓k_app0, ↓k_appS, ↓k_cat0, ↓k_catS, ↓r_get0, ↓r_getS, ↓r_var, ↓r_int, ↓r_str, ↓r_bl, ↓r_non, ↓r_bty, ↓r_bin, ↓r_neg, ↓r_nt, ↓r_cmp, ↓r_chn, ↓r_tv, ↓r_b1, ↓r_and, ↓r_or, ↓r_ife, ↓r_tup, ↓r_lst, ↓r_own, ↓r_ix, ↓r_sl, ↓r_callB, ↓r_callT, ↓r_meth, ↓r_comp, ↓r_compO, ↓r_compF, ↓r_cm0, ↓r_cmS, ↓r_l0, ↓r_lc, ↓r_ls, ↓r_comp2, ↓r_compI, ↓r_compF2, ↓r_tnt, ↓r_tb1, ↓r_tand, ↓r_tor, ↓r_tcmp, ↓r_tchn, ↓r_ttv, ↓r_c0, ↓r_c1, ↓r_trb, ↓r_trn, ↓r_tri, ↓r_trt, ↓r_trl, ↓r_o0, ↓r_o1, ↓r_prt, ↓r_gn, ↓r_gt, ↓r_gl, ↓r_gs, ↓r_g0, ↓r_gc, ↓r_iv, ↓r_ir, ↓r_srt, ↓r_srl, ↓r_src, ↓r_rg1, ↓r_rg2, ↓r_ex, ↓r_asg, ↓r_setc, ↓r_par2, ↓r_asg2, ↓r_par3, ↓r_asg3, ↓r_rt, ↓r_rtN, ↓r_if, ↓r_loop, ↓r_turn, ↓r_for0, ↓r_forS, ↓r_fnx, ↓r_fct, ↓r_fbk, ↓r_frt, ↓r_pass, ↓r_brk, ↓r_cont, ↓r_doc, ↓r_never, ↓r_b0, ↓r_bc, ↓r_bf, ↓r_snx, ↓r_srr, ↓r_sbk, ↓r_sct, ↓r_runB, ↓r_ert, ↓r_enx, ↓r_add, ↓r_addT, ↓r_addL, ↓r_addS, ↓r_sub, ↓r_mul, ↓r_mod, ↓r_fdiv, ↓r_pow, ↓r_vneg, ↓r_vnot, ↓r_lt, ↓r_le, ↓r_gt', ↓r_ge, ↓r_eqI, ↓r_neI, ↓r_eqB, ↓r_neB, ↓r_eqL, ↓r_eqT, ↓r_eqS, ↓r_inL, ↓r_inT, ↓r_isN, ↓r_notN, ↓r_ixT0, ↓r_ixL0, ↓r_ixT1, ↓r_ixL1, ↓r_ixT2, ↓r_ixL2, ↓r_ixT3, ↓r_ixL3, ↓r_ixT3m, ↓r_ixC, ↓r_lenT, ↓r_lenL, ↓r_lenC, ↓r_isiI, ↓r_isiB, ↓r_isiN, ↓r_isiS, ↓r_isiT, ↓r_isiL, ↓r_abs, ↓r_min2, ↓r_min3, ↓r_max2, ↓r_max3, ↓r_minL, ↓r_maxL, ↓r_sumL, ↓r_allL, ↓r_anyL, ↓r_divm, ↓r_Tint, ↓r_Ttup, ↓r_Ttup', ↓r_Tlst, ↓r_Tlst', ↓r_slC, ↓r_slL, ↓r_slT, ↓r_ints0, ↓r_intsS, ↓r_bls0, ↓r_blsS, ↓r_ixR, ↓r_setR0, ↓r_setR1, ↓r_setR2, ↓r_frz0, ↓r_frzS, ↓r_isTR, ↓r_appR, ↓x_glob_0, ↓x_glob_1, ↓x_glob_2, ↓x_glob_3, ↓x_glob_4, ↓x_glob_5, ↓x_call_is_whole_0, ↓x_cf_is_whole_0, ↓x_call_is_between_0, ↓x_cf_is_between_0, ↓x_call_is_up_to_0, ↓x_cf_is_up_to_0, ↓x_call_is_tuple_of_0, ↓x_cf_is_tuple_of_0, ↓x_call_is_pair_0, ↓x_cf_is_pair_0, ↓x_call_is_cell_0, ↓x_cf_is_cell_0, ↓x_call_is_box_0, ↓x_cf_is_box_0, ↓x_call_is_point_0, ↓x_cf_is_point_0, ↓x_call_is_shape_0, ↓x_cf_is_shape_0, ↓x_call_is_stroke_0, ↓x_cf_is_stroke_0, ↓x_call_turn_at_0, ↓x_cf_turn_at_0, ↓x_call_is_in_corners_0, ↓x_cf_is_in_corners_0, ↓x_call_range_in_0, ↓x_cf_range_in_0, ↓x_call_cells_in_0, ↓x_cf_cells_in_0, ↓x_call_covers_by_0, ↓x_cf_covers_by_0, ↓x_call_check_stroke_0, ↓x_cf_check_stroke_0, ↓x_call_check_spot_0, ↓x_cf_check_spot_0, ↓x_call_covers_0, ↓x_cf_covers_0, ↓x_call_covers_1, ↓x_cf_covers_1, ↓x_call__law_pool_0, ↓x_cf__law_pool_0, ↓x_call__law_below_0, ↓x_cf__law_below_0, ↓x_call__law_one_0, ↓x_cf__law_one_0, ↓x_call__law_same_0_0, ↓x_cf__law_same_0_0, ↓x_call__law_same_0, ↓x_cf__law_same_0, ↓x_call__law_boxed_0, ↓x_cf__law_boxed_0, ↓x_call__law_in_box_0, ↓x_cf__law_in_box_0, ↓x_call__law_in_triangle_0, ↓x_cf__law_in_triangle_0, ↓x_call__law_covers_0, ↓x_cf__law_covers_0, ↓x_call__law_stroke_0, ↓x_cf__law_stroke_0, ↓x_call__law_right_0, ↓x_cf__law_right_0, ↓x_onStk, ↓x_onShp, ↓x_stk0, ↓x_is_whole, ↓x_is_between, ↓x_is_up_to, ↓x_is_tuple_of, ↓x_is_pair, ↓x_is_cell, ↓x_is_box, ↓x_is_point, ↓x_is_shape, ↓x_is_stroke, ↓x_turn_at, ↓x_is_in_corners, ↓x_range_in, ↓x_cells_in, ↓x_covers_by, ↓x_check_stroke, ↓x_check_spot, ↓x_covers, ↓x__law_below, ↓x__law_one, ↓x__law_stroke, ↓x__law_right, ↓x__law_pool, ↓x__law_same_0, ↓x__law_same2, ↓x__law_same4, ↓x__law_boxed, ↓x__law_in_box, ↓x__law_in_triangle, ↓x__law_covers, lenL, inRng]
      refine forM_inv (fun env S' => ∃ e1 e4 e5 e6, env = [some (.ref a), e1, some s.pv, some (.int r), e4, e5, e6] ∧ S' = plst S a p1 q1 z1) (h := fun i : Nat => PV.int (0 + (i : Int))) (ys := List.range 6) ?_ ⟨_, _, _, _, rfl, rfl⟩ ?_
      · rintro c hc env S1 Q E ⟨e1, e4, e5, e6, rfl, rfl⟩ q
        simp at hr hc
        have h1 : ((r : Int) ≤ 23) := by omega
        have h2 : ((c : Int) ≤ 23) := by omega
        simp [↓r_ret, ↓r_guard, ↓r_ofO, ↓r_noexc, ↓r_any, ↓k_set0, ↓k_setS, ↓k_wipe0, ↓k_wipeS, ↓k_app0, ↓k_appS, ↓k_cat0, ↓k_catS, ↓r_get0, ↓r_getS, ↓r_var, ↓r_int, ↓r_str, ↓r_bl, ↓r_non, ↓r_bty, ↓r_bin, ↓r_neg, ↓r_nt, ↓r_cmp, ↓r_chn, ↓r_tv, ↓r_b1, ↓r_and, ↓r_or, ↓r_ife, ↓r_tup, ↓r_lst, ↓r_own, ↓r_ix, ↓r_sl, ↓r_callB, ↓r_callT, ↓r_meth, ↓r_comp, ↓r_compO, ↓r_compF, ↓r_cm0, ↓r_cmS, ↓r_l0, ↓r_lc, ↓r_ls, ↓r_comp2, ↓r_compI, ↓r_compF2, ↓r_tnt, ↓r_tb1, ↓r_tand, ↓r_tor, ↓r_tcmp, ↓r_tchn, ↓r_ttv, ↓r_c0, ↓r_c1, ↓r_trb, ↓r_trn, ↓r_tri, ↓r_trt, ↓r_trl, ↓r_o0, ↓r_o1, ↓r_prt, ↓r_gn, ↓r_gt, ↓r_gl, ↓r_gs, ↓r_g0, ↓r_gc, ↓r_iv, ↓r_ir, ↓r_srt, ↓r_srl, ↓r_src, ↓r_rg1, ↓r_rg2, ↓r_ex, ↓r_asg, ↓r_setc, ↓r_par2, ↓r_asg2, ↓r_par3, ↓r_asg3, ↓r_rt, ↓r_rtN, ↓r_if, ↓r_loop, ↓r_turn, ↓r_for0, ↓r_forS, ↓r_fnx, ↓r_fct, ↓r_fbk, ↓r_frt, ↓r_pass, ↓r_brk, ↓r_cont, ↓r_doc, ↓r_never, ↓r_b0, ↓r_bc, ↓r_bf, ↓r_snx, ↓r_srr, ↓r_sbk, ↓r_sct, ↓r_runB, ↓r_ert, ↓r_enx, ↓r_add, ↓r_addT, ↓r_addL, ↓r_addS, ↓r_sub, ↓r_mul, ↓r_mod, ↓r_fdiv, ↓r_pow, ↓r_vneg, ↓r_vnot, ↓r_lt, ↓r_le, ↓r_gt', ↓r_ge, ↓r_eqI, ↓r_neI, ↓r_eqB, ↓r_neB, ↓r_eqL, ↓r_eqT, ↓r_eqS, ↓r_inL, ↓r_inT, ↓r_isN, ↓r_notN, ↓r_ixT0, ↓r_ixL0, ↓r_ixT1, ↓r_ixL1, ↓r_ixT2, ↓r_ixL2, ↓r_ixT3, ↓r_ixL3, ↓r_ixT3m, ↓r_ixC, ↓r_lenT, ↓r_lenL, ↓r_lenC, ↓r_isiI, ↓r_isiB, ↓r_isiN, ↓r_isiS, ↓r_isiT, ↓r_isiL, ↓r_abs, ↓r_min2, ↓r_min3, ↓r_max2, ↓r_max3, ↓r_minL, ↓r_maxL, ↓r_sumL, ↓r_allL, ↓r_anyL, ↓r_divm, ↓r_Tint, ↓r_Ttup, ↓r_Ttup', ↓r_Tlst, ↓r_Tlst', ↓r_slC, ↓r_slL, ↓r_slT, ↓r_ints0, ↓r_intsS, ↓r_bls0, ↓r_blsS, ↓r_ixR, ↓r_setR0, ↓r_setR1, ↓r_setR2, ↓r_frz0, ↓r_frzS, ↓r_isTR, ↓r_appR, ↓x_glob_0, ↓x_glob_1, ↓x_glob_2, ↓x_glob_3, ↓x_glob_4, ↓x_glob_5, ↓x_call_is_whole_0, ↓x_cf_is_whole_0, ↓x_call_is_between_0, ↓x_cf_is_between_0, ↓x_call_is_up_to_0, ↓x_cf_is_up_to_0, ↓x_call_is_tuple_of_0, ↓x_cf_is_tuple_of_0, ↓x_call_is_pair_0, ↓x_cf_is_pair_0, ↓x_call_is_cell_0, ↓x_cf_is_cell_0, ↓x_call_is_box_0, ↓x_cf_is_box_0, ↓x_call_is_point_0, ↓x_cf_is_point_0, ↓x_call_is_shape_0, ↓x_cf_is_shape_0, ↓x_call_is_stroke_0, ↓x_cf_is_stroke_0, ↓x_call_turn_at_0, ↓x_cf_turn_at_0, ↓x_call_is_in_corners_0, ↓x_cf_is_in_corners_0, ↓x_call_range_in_0, ↓x_cf_range_in_0, ↓x_call_cells_in_0, ↓x_cf_cells_in_0, ↓x_call_covers_by_0, ↓x_cf_covers_by_0, ↓x_call_check_stroke_0, ↓x_cf_check_stroke_0, ↓x_call_check_spot_0, ↓x_cf_check_spot_0, ↓x_call_covers_0, ↓x_cf_covers_0, ↓x_call_covers_1, ↓x_cf_covers_1, ↓x_call__law_pool_0, ↓x_cf__law_pool_0, ↓x_call__law_below_0, ↓x_cf__law_below_0, ↓x_call__law_one_0, ↓x_cf__law_one_0, ↓x_call__law_same_0_0, ↓x_cf__law_same_0_0, ↓x_call__law_same_0, ↓x_cf__law_same_0, ↓x_call__law_boxed_0, ↓x_cf__law_boxed_0, ↓x_call__law_in_box_0, ↓x_cf__law_in_box_0, ↓x_call__law_in_triangle_0, ↓x_cf__law_in_triangle_0, ↓x_call__law_covers_0, ↓x_cf__law_covers_0, ↓x_call__law_stroke_0, ↓x_cf__law_stroke_0, ↓x_call__law_right_0, ↓x_cf__law_right_0, ↓x_onStk, ↓x_onShp, ↓x_stk0, ↓x_is_whole, ↓x_is_between, ↓x_is_up_to, ↓x_is_tuple_of, ↓x_is_pair, ↓x_is_cell, ↓x_is_box, ↓x_is_point, ↓x_is_shape, ↓x_is_stroke, ↓x_turn_at, ↓x_is_in_corners, ↓x_range_in, ↓x_cells_in, ↓x_covers_by, ↓x_check_stroke, ↓x_check_spot, ↓x_covers, ↓x__law_below, ↓x__law_one, ↓x__law_stroke, ↓x__law_right, ↓x__law_pool, ↓x__law_same_0, ↓x__law_same2, ↓x__law_same4, ↓x__law_boxed, ↓x__law_in_box, ↓x__law_in_triangle, ↓x__law_covers, lenL, hs, h1, h2, sizeLine]
        exact q _ _ ⟨_, _, _, _, rfl, rfl⟩
      · rintro env S1 ⟨e1, e4, e5, e6, rfl, rfl⟩
        exact q _ _ ⟨_, _, _, _, _, rfl, rfl⟩
    · rintro env S1 ⟨e1, e3, e4, e5, e6, rfl, rfl⟩
      exact q _ _ ⟨_, _, _, _, _, _, _, _, _, rfl, rfl⟩
  · rintro env S1 ⟨e1, e2, e3, e4, e5, e6, p, q', z, rfl, rfl⟩
    simp [↓r_ret, ↓r_guard, ↓r_ofO, ↓r_noexc, ↓r_any, ↓k_set0, ↓k_setS, ↓k_wipe0, ↓k_wipeS, ↓k_app0, ↓k_appS, ↓k_cat0, ↓k_catS, ↓r_get0, ↓r_getS, ↓r_var, ↓r_int, ↓r_str, ↓r_bl, ↓r_non, ↓r_bty, ↓r_bin, ↓r_neg, ↓r_nt, ↓r_cmp, ↓r_chn, ↓r_tv, ↓r_b1, ↓r_and, ↓r_or, ↓r_ife, ↓r_tup, ↓r_lst, ↓r_own, ↓r_ix, ↓r_sl, ↓r_callB, ↓r_callT, ↓r_meth, ↓r_comp, ↓r_compO, ↓r_compF, ↓r_cm0, ↓r_cmS, ↓r_l0, ↓r_lc, ↓r_ls, ↓r_comp2, ↓r_compI, ↓r_compF2, ↓r_tnt, ↓r_tb1, ↓r_tand, ↓r_tor, ↓r_tcmp, ↓r_tchn, ↓r_ttv, ↓r_c0, ↓r_c1, ↓r_trb, ↓r_trn, ↓r_tri, ↓r_trt, ↓r_trl, ↓r_o0, ↓r_o1, ↓r_prt, ↓r_gn, ↓r_gt, ↓r_gl, ↓r_gs, ↓r_g0, ↓r_gc, ↓r_iv, ↓r_ir, ↓r_srt, ↓r_srl, ↓r_src, ↓r_rg1, ↓r_rg2, ↓r_ex, ↓r_asg, ↓r_setc, ↓r_par2, ↓r_asg2, ↓r_par3, ↓r_asg3, ↓r_rt, ↓r_rtN, ↓r_if, ↓r_loop, ↓r_turn, ↓r_for0, ↓r_forS, ↓r_fnx, ↓r_fct, ↓r_fbk, ↓r_frt, ↓r_pass, ↓r_brk, ↓r_cont, ↓r_doc, ↓r_never, ↓r_b0, ↓r_bc, ↓r_bf, ↓r_snx, ↓r_srr, ↓r_sbk, ↓r_sct, ↓r_runB, ↓r_ert, ↓r_enx, ↓r_add, ↓r_addT, ↓r_addL, ↓r_addS, ↓r_sub, ↓r_mul, ↓r_mod, ↓r_fdiv, ↓r_pow, ↓r_vneg, ↓r_vnot, ↓r_lt, ↓r_le, ↓r_gt', ↓r_ge, ↓r_eqI, ↓r_neI, ↓r_eqB, ↓r_neB, ↓r_eqL, ↓r_eqT, ↓r_eqS, ↓r_inL, ↓r_inT, ↓r_isN, ↓r_notN, ↓r_ixT0, ↓r_ixL0, ↓r_ixT1, ↓r_ixL1, ↓r_ixT2, ↓r_ixL2, ↓r_ixT3, ↓r_ixL3, ↓r_ixT3m, ↓r_ixC, ↓r_lenT, ↓r_lenL, ↓r_lenC, ↓r_isiI, ↓r_isiB, ↓r_isiN, ↓r_isiS, ↓r_isiT, ↓r_isiL, ↓r_abs, ↓r_min2, ↓r_min3, ↓r_max2, ↓r_max3, ↓r_minL, ↓r_maxL, ↓r_sumL, ↓r_allL, ↓r_anyL, ↓r_divm, ↓r_Tint, ↓r_Ttup, ↓r_Ttup', ↓r_Tlst, ↓r_Tlst', ↓r_slC, ↓r_slL, ↓r_slT, ↓r_ints0, ↓r_intsS, ↓r_bls0, ↓r_blsS, ↓r_ixR, ↓r_setR0, ↓r_setR1, ↓r_setR2, ↓r_frz0, ↓r_frzS, ↓r_isTR, ↓r_appR, ↓x_glob_0, ↓x_glob_1, ↓x_glob_2, ↓x_glob_3, ↓x_glob_4, ↓x_glob_5, ↓x_call_is_whole_0, ↓x_cf_is_whole_0, ↓x_call_is_between_0, ↓x_cf_is_between_0, ↓x_call_is_up_to_0, ↓x_cf_is_up_to_0, ↓x_call_is_tuple_of_0, ↓x_cf_is_tuple_of_0, ↓x_call_is_pair_0, ↓x_cf_is_pair_0, ↓x_call_is_cell_0, ↓x_cf_is_cell_0, ↓x_call_is_box_0, ↓x_cf_is_box_0, ↓x_call_is_point_0, ↓x_cf_is_point_0, ↓x_call_is_shape_0, ↓x_cf_is_shape_0, ↓x_call_is_stroke_0, ↓x_cf_is_stroke_0, ↓x_call_turn_at_0, ↓x_cf_turn_at_0, ↓x_call_is_in_corners_0, ↓x_cf_is_in_corners_0, ↓x_call_range_in_0, ↓x_cf_range_in_0, ↓x_call_cells_in_0, ↓x_cf_cells_in_0, ↓x_call_covers_by_0, ↓x_cf_covers_by_0, ↓x_call_check_stroke_0, ↓x_cf_check_stroke_0, ↓x_call_check_spot_0, ↓x_cf_check_spot_0, ↓x_call_covers_0, ↓x_cf_covers_0, ↓x_call_covers_1, ↓x_cf_covers_1, ↓x_call__law_pool_0, ↓x_cf__law_pool_0, ↓x_call__law_below_0, ↓x_cf__law_below_0, ↓x_call__law_one_0, ↓x_cf__law_one_0, ↓x_call__law_same_0_0, ↓x_cf__law_same_0_0, ↓x_call__law_same_0, ↓x_cf__law_same_0, ↓x_call__law_boxed_0, ↓x_cf__law_boxed_0, ↓x_call__law_in_box_0, ↓x_cf__law_in_box_0, ↓x_call__law_in_triangle_0, ↓x_cf__law_in_triangle_0, ↓x_call__law_covers_0, ↓x_cf__law_covers_0, ↓x_call__law_stroke_0, ↓x_cf__law_stroke_0, ↓x_call__law_right_0, ↓x_cf__law_right_0, ↓x_onStk, ↓x_onShp, ↓x_stk0, ↓x_is_whole, ↓x_is_between, ↓x_is_up_to, ↓x_is_tuple_of, ↓x_is_pair, ↓x_is_cell, ↓x_is_box, ↓x_is_point, ↓x_is_shape, ↓x_is_stroke, ↓x_turn_at, ↓x_is_in_corners, ↓x_range_in, ↓x_cells_in, ↓x_covers_by, ↓x_check_stroke, ↓x_check_spot, ↓x_covers, ↓x__law_below, ↓x__law_one, ↓x__law_stroke, ↓x__law_right, ↓x__law_pool, ↓x__law_same_0, ↓x__law_same2, ↓x__law_same4, ↓x__law_boxed, ↓x__law_in_box, ↓x__law_in_triangle, ↓x__law_covers, ↓sl_1, ↓sl_2, lenL, sizeLine, s1, s2, s3, s4]
    exact q _ _ _
theorem le_law {ns : List Int} : M.le (C_law [.loc (ns.map .int)]) (d_law.den (g 8) [.loc (ns.map .int)]) := by
  rintro S Q E ⟨_, q⟩
  rw [den_eq (body := c_law) (env := [some (.loc (ns.map .int)), none, none, none]) rfl rfl]
  unfold c_law
  rw [r_runB, r_bc, r_loop, r_ir]
  simp only [↓r_lc, ↓r_l0, ↓r_int, ↓r_rg1, ↓r_callB, ↓r_var, ↓r_get0, ↓r_lenC, ↓r_min2, ↓r_max2]
  refine ⟨rfl, by unfold inRng; omega, ?_⟩
  refine forM_inv (fun env S' => ∃ e1 e2 e3, env = [some (.loc (ns.map .int)), e1, e2, e3]) (h := fun i : Nat => PV.int (0 + (i : Int))) (ys := List.range (max 1 (min (↑(ns.map PV.int).length) 3 : Int)).toNat) ?_ ⟨_, _, _, rfl⟩ ?_
  · rintro lap hl env S1 Q E ⟨e1, e2, e3, rfl⟩ q
    rw [List.mem_range] at hl
    have h1 : ((lap : Int) ≤ 10) := by omega
    simp [↓r_ret, ↓r_guard, ↓r_ofO, ↓r_noexc, ↓r_any, ↓k_set0, ↓k_setS, ↓k_wipe0, ↓k_wipeS, ↓k_app0, ↓k_appS, ↓k_cat0, ↓k_catS, ↓r_get0, ↓r_getS, ↓r_var, ↓r_int, ↓r_str, ↓r_bl, ↓r_non, ↓r_bty, ↓r_bin, ↓r_neg, ↓r_nt, ↓r_cmp, ↓r_chn, ↓r_tv, ↓r_b1, ↓r_and, ↓r_or, ↓r_ife, ↓r_tup, ↓r_lst, ↓r_own, ↓r_ix, ↓r_sl, ↓r_callB, ↓r_callT, ↓r_meth, ↓r_comp, ↓r_compO, ↓r_compF, ↓r_cm0, ↓r_cmS, ↓r_l0, ↓r_lc, ↓r_ls, ↓r_comp2, ↓r_compI, ↓r_compF2, ↓r_tnt, ↓r_tb1, ↓r_tand, ↓r_tor, ↓r_tcmp, ↓r_tchn, ↓r_ttv, ↓r_c0, ↓r_c1, ↓r_trb, ↓r_trn, ↓r_tri, ↓r_trt, ↓r_trl, ↓r_o0, ↓r_o1, ↓r_prt, ↓r_gn, ↓r_gt, ↓r_gl, ↓r_gs, ↓r_g0, ↓r_gc, ↓r_iv, ↓r_ir, ↓r_srt, ↓r_srl, ↓r_src, ↓r_rg1, ↓r_rg2, ↓r_ex, ↓r_asg, ↓r_setc, ↓r_par2, ↓r_asg2, ↓r_par3, ↓r_asg3, ↓r_rt, ↓r_rtN, ↓r_if, ↓r_loop, ↓r_turn, ↓r_for0, ↓r_forS, ↓r_fnx, ↓r_fct, ↓r_fbk, ↓r_frt, ↓r_pass, ↓r_brk, ↓r_cont, ↓r_doc, ↓r_never, ↓r_b0, ↓r_bc, ↓r_bf, ↓r_snx, ↓r_srr, ↓r_sbk, ↓r_sct, ↓r_runB, ↓r_ert, ↓r_enx, ↓r_add, ↓r_addT, ↓r_addL, ↓r_addS, ↓r_sub, ↓r_mul, ↓r_mod, ↓r_fdiv, ↓r_pow, ↓r_vneg, ↓r_vnot, ↓r_lt, ↓r_le, ↓r_gt', ↓r_ge, ↓r_eqI, ↓r_neI, ↓r_eqB, ↓r_neB, ↓r_eqL, ↓r_eqT, ↓r_eqS, ↓r_inL, ↓r_inT, ↓r_isN, ↓r_notN, ↓r_ixT0, ↓r_ixL0, ↓r_ixT1, ↓r_ixL1, ↓r_ixT2, ↓r_ixL2, ↓r_ixT3, ↓r_ixL3, ↓r_ixT3m, ↓r_ixC, ↓r_lenT, ↓r_lenL, ↓r_lenC, ↓r_isiI, ↓r_isiB, ↓r_isiN, ↓r_isiS, ↓r_isiT, ↓r_isiL, ↓r_abs, ↓r_min2, ↓r_min3, ↓r_max2, ↓r_max3, ↓r_minL, ↓r_maxL, ↓r_sumL, ↓r_allL, ↓r_anyL, ↓r_divm, ↓r_Tint, ↓r_Ttup, ↓r_Ttup', ↓r_Tlst, ↓r_Tlst', ↓r_slC, ↓r_slL, ↓r_slT, ↓r_ints0, ↓r_intsS, ↓r_bls0, ↓r_blsS, ↓r_ixR, ↓r_setR0, ↓r_setR1, ↓r_setR2, ↓r_frz0, ↓r_frzS, ↓r_isTR, ↓r_appR, ↓x_glob_0, ↓x_glob_1, ↓x_glob_2, ↓x_glob_3, ↓x_glob_4, ↓x_glob_5, ↓x_call_is_whole_0, ↓x_cf_is_whole_0, ↓x_call_is_between_0, ↓x_cf_is_between_0, ↓x_call_is_up_to_0, ↓x_cf_is_up_to_0, ↓x_call_is_tuple_of_0, ↓x_cf_is_tuple_of_0, ↓x_call_is_pair_0, ↓x_cf_is_pair_0, ↓x_call_is_cell_0, ↓x_cf_is_cell_0, ↓x_call_is_box_0, ↓x_cf_is_box_0, ↓x_call_is_point_0, ↓x_cf_is_point_0, ↓x_call_is_shape_0, ↓x_cf_is_shape_0, ↓x_call_is_stroke_0, ↓x_cf_is_stroke_0, ↓x_call_turn_at_0, ↓x_cf_turn_at_0, ↓x_call_is_in_corners_0, ↓x_cf_is_in_corners_0, ↓x_call_range_in_0, ↓x_cf_range_in_0, ↓x_call_cells_in_0, ↓x_cf_cells_in_0, ↓x_call_covers_by_0, ↓x_cf_covers_by_0, ↓x_call_check_stroke_0, ↓x_cf_check_stroke_0, ↓x_call_check_spot_0, ↓x_cf_check_spot_0, ↓x_call_covers_0, ↓x_cf_covers_0, ↓x_call_covers_1, ↓x_cf_covers_1, ↓x_call__law_pool_0, ↓x_cf__law_pool_0, ↓x_call__law_below_0, ↓x_cf__law_below_0, ↓x_call__law_one_0, ↓x_cf__law_one_0, ↓x_call__law_same_0_0, ↓x_cf__law_same_0_0, ↓x_call__law_same_0, ↓x_cf__law_same_0, ↓x_call__law_boxed_0, ↓x_cf__law_boxed_0, ↓x_call__law_in_box_0, ↓x_cf__law_in_box_0, ↓x_call__law_in_triangle_0, ↓x_cf__law_in_triangle_0, ↓x_call__law_covers_0, ↓x_cf__law_covers_0, ↓x_call__law_stroke_0, ↓x_cf__law_stroke_0, ↓x_call__law_right_0, ↓x_cf__law_right_0, ↓x_onStk, ↓x_onShp, ↓x_stk0, ↓x_is_whole, ↓x_is_between, ↓x_is_up_to, ↓x_is_tuple_of, ↓x_is_pair, ↓x_is_cell, ↓x_is_box, ↓x_is_point, ↓x_is_shape, ↓x_is_stroke, ↓x_turn_at, ↓x_is_in_corners, ↓x_range_in, ↓x_cells_in, ↓x_covers_by, ↓x_check_stroke, ↓x_check_spot, ↓x_covers, ↓x__law_below, ↓x__law_one, ↓x__law_stroke, ↓x__law_right, ↓x__law_pool, ↓x__law_same_0, ↓x__law_same2, ↓x__law_same4, ↓x__law_boxed, ↓x__law_in_box, ↓x__law_in_triangle, ↓x__law_covers, lenL, inRng, h1, rng4, sizeLine]
    intro b hb p q0 z
    exact q _ _ ⟨_, _, _, rfl⟩
  · rintro env S1 ⟨e1, e2, e3, rfl⟩
    simp [↓r_ret, ↓r_guard, ↓r_ofO, ↓r_noexc, ↓r_any, ↓k_set0, ↓k_setS, ↓k_wipe0, ↓k_wipeS, ↓k_app0, ↓k_appS, ↓k_cat0, ↓k_catS, ↓r_get0, ↓r_getS, ↓r_var, ↓r_int, ↓r_str, ↓r_bl, ↓r_non, ↓r_bty, ↓r_bin, ↓r_neg, ↓r_nt, ↓r_cmp, ↓r_chn, ↓r_tv, ↓r_b1, ↓r_and, ↓r_or, ↓r_ife, ↓r_tup, ↓r_lst, ↓r_own, ↓r_ix, ↓r_sl, ↓r_callB, ↓r_callT, ↓r_meth, ↓r_comp, ↓r_compO, ↓r_compF, ↓r_cm0, ↓r_cmS, ↓r_l0, ↓r_lc, ↓r_ls, ↓r_comp2, ↓r_compI, ↓r_compF2, ↓r_tnt, ↓r_tb1, ↓r_tand, ↓r_tor, ↓r_tcmp, ↓r_tchn, ↓r_ttv, ↓r_c0, ↓r_c1, ↓r_trb, ↓r_trn, ↓r_tri, ↓r_trt, ↓r_trl, ↓r_o0, ↓r_o1, ↓r_prt, ↓r_gn, ↓r_gt, ↓r_gl, ↓r_gs, ↓r_g0, ↓r_gc, ↓r_iv, ↓r_ir, ↓r_srt, ↓r_srl, ↓r_src, ↓r_rg1, ↓r_rg2, ↓r_ex, ↓r_asg, ↓r_setc, ↓r_par2, ↓r_asg2, ↓r_par3, ↓r_asg3, ↓r_rt, ↓r_rtN, ↓r_if, ↓r_loop, ↓r_turn, ↓r_for0, ↓r_forS, ↓r_fnx, ↓r_fct, ↓r_fbk, ↓r_frt, ↓r_pass, ↓r_brk, ↓r_cont, ↓r_doc, ↓r_never, ↓r_b0, ↓r_bc, ↓r_bf, ↓r_snx, ↓r_srr, ↓r_sbk, ↓r_sct, ↓r_runB, ↓r_ert, ↓r_enx, ↓r_add, ↓r_addT, ↓r_addL, ↓r_addS, ↓r_sub, ↓r_mul, ↓r_mod, ↓r_fdiv, ↓r_pow, ↓r_vneg, ↓r_vnot, ↓r_lt, ↓r_le, ↓r_gt', ↓r_ge, ↓r_eqI, ↓r_neI, ↓r_eqB, ↓r_neB, ↓r_eqL, ↓r_eqT, ↓r_eqS, ↓r_inL, ↓r_inT, ↓r_isN, ↓r_notN, ↓r_ixT0, ↓r_ixL0, ↓r_ixT1, ↓r_ixL1, ↓r_ixT2, ↓r_ixL2, ↓r_ixT3, ↓r_ixL3, ↓r_ixT3m, ↓r_ixC, ↓r_lenT, ↓r_lenL, ↓r_lenC, ↓r_isiI, ↓r_isiB, ↓r_isiN, ↓r_isiS, ↓r_isiT, ↓r_isiL, ↓r_abs, ↓r_min2, ↓r_min3, ↓r_max2, ↓r_max3, ↓r_minL, ↓r_maxL, ↓r_sumL, ↓r_allL, ↓r_anyL, ↓r_divm, ↓r_Tint, ↓r_Ttup, ↓r_Ttup', ↓r_Tlst, ↓r_Tlst', ↓r_slC, ↓r_slL, ↓r_slT, ↓r_ints0, ↓r_intsS, ↓r_bls0, ↓r_blsS, ↓r_ixR, ↓r_setR0, ↓r_setR1, ↓r_setR2, ↓r_frz0, ↓r_frzS, ↓r_isTR, ↓r_appR, ↓x_glob_0, ↓x_glob_1, ↓x_glob_2, ↓x_glob_3, ↓x_glob_4, ↓x_glob_5, ↓x_call_is_whole_0, ↓x_cf_is_whole_0, ↓x_call_is_between_0, ↓x_cf_is_between_0, ↓x_call_is_up_to_0, ↓x_cf_is_up_to_0, ↓x_call_is_tuple_of_0, ↓x_cf_is_tuple_of_0, ↓x_call_is_pair_0, ↓x_cf_is_pair_0, ↓x_call_is_cell_0, ↓x_cf_is_cell_0, ↓x_call_is_box_0, ↓x_cf_is_box_0, ↓x_call_is_point_0, ↓x_cf_is_point_0, ↓x_call_is_shape_0, ↓x_cf_is_shape_0, ↓x_call_is_stroke_0, ↓x_cf_is_stroke_0, ↓x_call_turn_at_0, ↓x_cf_turn_at_0, ↓x_call_is_in_corners_0, ↓x_cf_is_in_corners_0, ↓x_call_range_in_0, ↓x_cf_range_in_0, ↓x_call_cells_in_0, ↓x_cf_cells_in_0, ↓x_call_covers_by_0, ↓x_cf_covers_by_0, ↓x_call_check_stroke_0, ↓x_cf_check_stroke_0, ↓x_call_check_spot_0, ↓x_cf_check_spot_0, ↓x_call_covers_0, ↓x_cf_covers_0, ↓x_call_covers_1, ↓x_cf_covers_1, ↓x_call__law_pool_0, ↓x_cf__law_pool_0, ↓x_call__law_below_0, ↓x_cf__law_below_0, ↓x_call__law_one_0, ↓x_cf__law_one_0, ↓x_call__law_same_0_0, ↓x_cf__law_same_0_0, ↓x_call__law_same_0, ↓x_cf__law_same_0, ↓x_call__law_boxed_0, ↓x_cf__law_boxed_0, ↓x_call__law_in_box_0, ↓x_cf__law_in_box_0, ↓x_call__law_in_triangle_0, ↓x_cf__law_in_triangle_0, ↓x_call__law_covers_0, ↓x_cf__law_covers_0, ↓x_call__law_stroke_0, ↓x_cf__law_stroke_0, ↓x_call__law_right_0, ↓x_cf__law_right_0, ↓x_onStk, ↓x_onShp, ↓x_stk0, ↓x_is_whole, ↓x_is_between, ↓x_is_up_to, ↓x_is_tuple_of, ↓x_is_pair, ↓x_is_cell, ↓x_is_box, ↓x_is_point, ↓x_is_shape, ↓x_is_stroke, ↓x_turn_at, ↓x_is_in_corners, ↓x_range_in, ↓x_cells_in, ↓x_covers_by, ↓x_check_stroke, ↓x_check_spot, ↓x_covers, ↓x__law_below, ↓x__law_one, ↓x__law_stroke, ↓x__law_right, ↓x__law_pool, ↓x__law_same_0, ↓x__law_same2, ↓x__law_same4, ↓x__law_boxed, ↓x__law_in_box, ↓x__law_in_triangle, ↓x__law_covers]
    exact q _
end Dp.L

namespace Dp.L
open PySem PySem.Spec L2 Dp
open PyProof.Rows hiding St
theorem hm__law_pool : ∀ args, args.length = d__law_pool.np → M.le (C__law_pool args) (d__law_pool.den (g 0) args) := fun args _ => by
  unfold C__law_pool; split
  · rename_i xs lap
    intro S Q E q
    obtain ⟨ns, rfl⟩ := q.1.1
    exact le__law_pool S Q E q
  · exact le_stuck
theorem hm__law_same : ∀ args, args.length = d__law_same.np → M.le (C__law_same args) (d__law_same.den (g 1) args) := fun args _ => by
  unfold C__law_same; split
  · exact le__law_same2
  · exact le__law_same4
  · exact le_stuck
theorem hm_law : ∀ args, args.length = d_law.np → M.le (C_law args) (d_law.den (g 8) args) := fun args _ => by
  unfold C_law; split
  · rename_i xs
    intro S Q E q
    obtain ⟨ns, rfl⟩ := q.1
    exact le_law S Q E q
  · exact le_stuck

theorem hm_is_whole : ∀ args, args.length = d_is_whole.np → M.le (C_is_whole args) (d_is_whole.den (g 0) args) := fun args _ => by
  unfold C_is_whole; split
  · exact le_is_whole
  · exact le_stuck
theorem hm_is_between : ∀ args, args.length = d_is_between.np → M.le (C_is_between args) (d_is_between.den (g 1) args) := fun args _ => by
  unfold C_is_between; split
  · exact le_is_between
  · exact le_stuck
theorem hm_is_up_to : ∀ args, args.length = d_is_up_to.np → M.le (C_is_up_to args) (d_is_up_to.den (g 2) args) := fun args _ => by
  unfold C_is_up_to; split
  · exact le_is_up_to
  · exact le_stuck
theorem hm_is_tuple_of : ∀ args, args.length = d_is_tuple_of.np → M.le (C_is_tuple_of args) (d_is_tuple_of.den (g 0) args) := fun args _ => by
  unfold C_is_tuple_of; split
  · exact le_is_tuple_of
  · exact le_stuck
theorem hm_is_pair : ∀ args, args.length = d_is_pair.np → M.le (C_is_pair args) (d_is_pair.den (g 1) args) := fun args _ => by
  unfold C_is_pair; split
  · exact le_is_pair
  · exact le_stuck
theorem hm_is_cell : ∀ args, args.length = d_is_cell.np → M.le (C_is_cell args) (d_is_cell.den (g 3) args) := fun args _ => by
  unfold C_is_cell; split
  · exact le_is_cell
  · exact le_stuck
theorem hm_is_box : ∀ args, args.length = d_is_box.np → M.le (C_is_box args) (d_is_box.den (g 2) args) := fun args _ => by
  unfold C_is_box; split
  · exact le_is_box
  · exact le_stuck
theorem hm_is_point : ∀ args, args.length = d_is_point.np → M.le (C_is_point args) (d_is_point.den (g 2) args) := fun args _ => by
  unfold C_is_point; split
  · exact le_is_point
  · exact le_stuck
theorem hm_is_shape : ∀ args, args.length = d_is_shape.np → M.le (C_is_shape args) (d_is_shape.den (g 3) args) := fun args _ => by
  unfold C_is_shape; split
  · exact le_is_shape
  · exact le_stuck
theorem hm_is_stroke : ∀ args, args.length = d_is_stroke.np → M.le (C_is_stroke args) (d_is_stroke.den (g 4) args) := fun args _ => by
  unfold C_is_stroke; split
  · exact le_is_stroke
  · exact le_stuck
theorem hm_turn_at : ∀ args, args.length = d_turn_at.np → M.le (C_turn_at args) (d_turn_at.den (g 0) args) := fun args _ => by
  unfold C_turn_at; split
  · exact le_turn_at
  · exact le_stuck
theorem hm_is_in_corners : ∀ args, args.length = d_is_in_corners.np → M.le (C_is_in_corners args) (d_is_in_corners.den (g 1) args) := fun args _ => by
  unfold C_is_in_corners; split
  · exact le_is_in_corners
  · exact le_stuck
theorem hm_range_in : ∀ args, args.length = d_range_in.np → M.le (C_range_in args) (d_range_in.den (g 0) args) := fun args _ => by
  unfold C_range_in; split
  · exact le_range_in
  · exact le_stuck
theorem hm_cells_in : ∀ args, args.length = d_cells_in.np → M.le (C_cells_in args) (d_cells_in.den (g 2) args) := fun args _ => by
  unfold C_cells_in; split
  · exact le_cells_in
  · exact le_stuck
theorem hm_covers_by : ∀ args, args.length = d_covers_by.np → M.le (C_covers_by args) (d_covers_by.den (g 3) args) := fun args _ => by
  unfold C_covers_by; split
  · exact le_covers_by
  · exact le_stuck
theorem hm_check_stroke : ∀ args, args.length = d_check_stroke.np → M.le (C_check_stroke args) (d_check_stroke.den (g 5) args) := fun args _ => by
  unfold C_check_stroke; split
  · exact le_check_stroke
  · exact le_stuck
theorem hm_check_spot : ∀ args, args.length = d_check_spot.np → M.le (C_check_spot args) (d_check_spot.den (g 4) args) := fun args _ => by
  unfold C_check_spot; split
  · exact le_check_spot
  · exact le_stuck
theorem hm_covers : ∀ args, args.length = d_covers.np → M.le (C_covers args) (d_covers.den (g 6) args) := fun args _ => by
  unfold C_covers; split
  · exact le_covers
  · exact le_stuck
theorem hm__law_below : ∀ args, args.length = d__law_below.np → M.le (C__law_below args) (d__law_below.den (g 0) args) := fun args _ => by
  unfold C__law_below; split
  · exact le__law_below
  · exact le_stuck
theorem hm__law_one : ∀ args, args.length = d__law_one.np → M.le (C__law_one args) (d__law_one.den (g 1) args) := fun args _ => by
  unfold C__law_one; split
  · exact le__law_one
  · exact le_stuck
theorem hm__law_same_0 : ∀ args, args.length = d__law_same_0.np → M.le (C__law_same_0 args) (d__law_same_0.den (g 0) args) := fun args _ => by
  unfold C__law_same_0; split
  · exact le__law_same_0
  · exact le_stuck
theorem hm__law_boxed : ∀ args, args.length = d__law_boxed.np → M.le (C__law_boxed args) (d__law_boxed.den (g 0) args) := fun args _ => by
  unfold C__law_boxed; split
  · exact le__law_boxed
  · exact le_stuck
theorem hm__law_in_box : ∀ args, args.length = d__law_in_box.np → M.le (C__law_in_box args) (d__law_in_box.den (g 0) args) := fun args _ => by
  unfold C__law_in_box; split
  · exact le__law_in_box
  · exact le_stuck
theorem hm__law_in_triangle : ∀ args, args.length = d__law_in_triangle.np → M.le (C__law_in_triangle args) (d__law_in_triangle.den (g 0) args) := fun args _ => by
  unfold C__law_in_triangle; split
  · exact le__law_in_triangle
  · exact le_stuck
theorem hm__law_covers : ∀ args, args.length = d__law_covers.np → M.le (C__law_covers args) (d__law_covers.den (g 1) args) := fun args _ => by
  unfold C__law_covers; split
  · exact le__law_covers
  · exact le_stuck
theorem hm__law_stroke : ∀ args, args.length = d__law_stroke.np → M.le (C__law_stroke args) (d__law_stroke.den (g 2) args) := fun args _ => by
  unfold C__law_stroke; split
  · exact le__law_stroke
  · exact le_stuck
theorem hm__law_right : ∀ args, args.length = d__law_right.np → M.le (C__law_right args) (d__law_right.den (g 7) args) := fun args _ => by
  unfold C__law_right; split
  · exact le__law_right
  · exact le_stuck
section
variable {w : World} {K : PySem.W.Frag} {mg : Str → Option Value} {base : Heap}
theorem bd_is_whole {kV doc pm cdv ct : Value} {an : Option Addr} : ∀ sh ∈ ([⟨1, [], [0]⟩] : List Shape), ∀ (s : Shared) (us ws : List Value), K.In s.heap → us.length = sh.n → ws.length = sh.ks.length → BindsTo s (PySem.W.fnOf "is_whole" "is_whole" (defArgs (topS 5)) (defBody (topS 5)) (defScope (topS 5)) .none kV doc pm an cdv ct) ⟨us, sh.ks.zip ws⟩ ((["value"] : List Str).zip (pick sh.ix (us ++ ws))) := by
  intro sh hsh
  rcases List.mem_singleton.mp hsh with rfl
  exact (fun s us ws _ h1 h2 => match us, ws, h1, h2 with | [x0], [], _, _ => .of_eq rfl)
theorem bd_is_between {kV doc pm cdv ct : Value} {an : Option Addr} : ∀ sh ∈ ([⟨3, [], [0, 1, 2]⟩] : List Shape), ∀ (s : Shared) (us ws : List Value), K.In s.heap → us.length = sh.n → ws.length = sh.ks.length → BindsTo s (PySem.W.fnOf "is_between" "is_between" (defArgs (topS 6)) (defBody (topS 6)) (defScope (topS 6)) .none kV doc pm an cdv ct) ⟨us, sh.ks.zip ws⟩ ((["value", "least", "most"] : List Str).zip (pick sh.ix (us ++ ws))) := by
  intro sh hsh
  rcases List.mem_singleton.mp hsh with rfl
  exact (fun s us ws _ h1 h2 => match us, ws, h1, h2 with | [x0, x1, x2], [], _, _ => .of_eq rfl)
theorem bd_is_up_to {kV doc pm cdv ct : Value} {an : Option Addr} : ∀ sh ∈ ([⟨2, [], [0, 1]⟩] : List Shape), ∀ (s : Shared) (us ws : List Value), K.In s.heap → us.length = sh.n → ws.length = sh.ks.length → BindsTo s (PySem.W.fnOf "is_up_to" "is_up_to" (defArgs (topS 7)) (defBody (topS 7)) (defScope (topS 7)) .none kV doc pm an cdv ct) ⟨us, sh.ks.zip ws⟩ ((["value", "most"] : List Str).zip (pick sh.ix (us ++ ws))) := by
  intro sh hsh
  rcases List.mem_singleton.mp hsh with rfl
  exact (fun s us ws _ h1 h2 => match us, ws, h1, h2 with | [x0, x1], [], _, _ => .of_eq rfl)
theorem bd_is_tuple_of {kV doc pm cdv ct : Value} {an : Option Addr} : ∀ sh ∈ ([⟨2, [], [0, 1]⟩] : List Shape), ∀ (s : Shared) (us ws : List Value), K.In s.heap → us.length = sh.n → ws.length = sh.ks.length → BindsTo s (PySem.W.fnOf "is_tuple_of" "is_tuple_of" (defArgs (topS 8)) (defBody (topS 8)) (defScope (topS 8)) .none kV doc pm an cdv ct) ⟨us, sh.ks.zip ws⟩ ((["value", "many"] : List Str).zip (pick sh.ix (us ++ ws))) := by
  intro sh hsh
  rcases List.mem_singleton.mp hsh with rfl
  exact (fun s us ws _ h1 h2 => match us, ws, h1, h2 with | [x0, x1], [], _, _ => .of_eq rfl)
theorem bd_is_pair {kV doc pm cdv ct : Value} {an : Option Addr} : ∀ sh ∈ ([⟨1, [], [0]⟩] : List Shape), ∀ (s : Shared) (us ws : List Value), K.In s.heap → us.length = sh.n → ws.length = sh.ks.length → BindsTo s (PySem.W.fnOf "is_pair" "is_pair" (defArgs (topS 9)) (defBody (topS 9)) (defScope (topS 9)) .none kV doc pm an cdv ct) ⟨us, sh.ks.zip ws⟩ ((["value"] : List Str).zip (pick sh.ix (us ++ ws))) := by
  intro sh hsh
  rcases List.mem_singleton.mp hsh with rfl
  exact (fun s us ws _ h1 h2 => match us, ws, h1, h2 with | [x0], [], _, _ => .of_eq rfl)
theorem bd_is_cell {kV doc pm cdv ct : Value} {an : Option Addr} : ∀ sh ∈ ([⟨3, [], [0, 1, 2]⟩] : List Shape), ∀ (s : Shared) (us ws : List Value), K.In s.heap → us.length = sh.n → ws.length = sh.ks.length → BindsTo s (PySem.W.fnOf "is_cell" "is_cell" (defArgs (topS 12)) (defBody (topS 12)) (defScope (topS 12)) .none kV doc pm an cdv ct) ⟨us, sh.ks.zip ws⟩ ((["width", "height", "value"] : List Str).zip (pick sh.ix (us ++ ws))) := by
  intro sh hsh
  rcases List.mem_singleton.mp hsh with rfl
  exact (fun s us ws _ h1 h2 => match us, ws, h1, h2 with | [x0, x1, x2], [], _, _ => .of_eq rfl)
theorem bd_is_box {kV doc pm cdv ct : Value} {an : Option Addr} : ∀ sh ∈ ([⟨3, [], [0, 1, 2]⟩] : List Shape), ∀ (s : Shared) (us ws : List Value), K.In s.heap → us.length = sh.n → ws.length = sh.ks.length → BindsTo s (PySem.W.fnOf "is_box" "is_box" (defArgs (topS 19)) (defBody (topS 19)) (defScope (topS 19)) .none kV doc pm an cdv ct) ⟨us, sh.ks.zip ws⟩ ((["value", "least", "most"] : List Str).zip (pick sh.ix (us ++ ws))) := by
  intro sh hsh
  rcases List.mem_singleton.mp hsh with rfl
  exact (fun s us ws _ h1 h2 => match us, ws, h1, h2 with | [x0, x1, x2], [], _, _ => .of_eq rfl)
theorem bd_is_point {kV doc pm cdv ct : Value} {an : Option Addr} : ∀ sh ∈ ([⟨1, [], [0]⟩] : List Shape), ∀ (s : Shared) (us ws : List Value), K.In s.heap → us.length = sh.n → ws.length = sh.ks.length → BindsTo s (PySem.W.fnOf "is_point" "is_point" (defArgs (topS 20)) (defBody (topS 20)) (defScope (topS 20)) .none kV doc pm an cdv ct) ⟨us, sh.ks.zip ws⟩ ((["value"] : List Str).zip (pick sh.ix (us ++ ws))) := by
  intro sh hsh
  rcases List.mem_singleton.mp hsh with rfl
  exact (fun s us ws _ h1 h2 => match us, ws, h1, h2 with | [x0], [], _, _ => .of_eq rfl)
theorem bd_is_shape {kV doc pm cdv ct : Value} {an : Option Addr} : ∀ sh ∈ ([⟨1, [], [0]⟩] : List Shape), ∀ (s : Shared) (us ws : List Value), K.In s.heap → us.length = sh.n → ws.length = sh.ks.length → BindsTo s (PySem.W.fnOf "is_shape" "is_shape" (defArgs (topS 21)) (defBody (topS 21)) (defScope (topS 21)) .none kV doc pm an cdv ct) ⟨us, sh.ks.zip ws⟩ ((["value"] : List Str).zip (pick sh.ix (us ++ ws))) := by
  intro sh hsh
  rcases List.mem_singleton.mp hsh with rfl
  exact (fun s us ws _ h1 h2 => match us, ws, h1, h2 with | [x0], [], _, _ => .of_eq rfl)
theorem bd_is_stroke {kV doc pm cdv ct : Value} {an : Option Addr} : ∀ sh ∈ ([⟨1, [], [0]⟩] : List Shape), ∀ (s : Shared) (us ws : List Value), K.In s.heap → us.length = sh.n → ws.length = sh.ks.length → BindsTo s (PySem.W.fnOf "is_stroke" "is_stroke" (defArgs (topS 22)) (defBody (topS 22)) (defScope (topS 22)) .none kV doc pm an cdv ct) ⟨us, sh.ks.zip ws⟩ ((["value"] : List Str).zip (pick sh.ix (us ++ ws))) := by
  intro sh hsh
  rcases List.mem_singleton.mp hsh with rfl
  exact (fun s us ws _ h1 h2 => match us, ws, h1, h2 with | [x0], [], _, _ => .of_eq rfl)
theorem bd_turn_at {kV doc pm cdv ct : Value} {an : Option Addr} : ∀ sh ∈ ([⟨3, [], [0, 1, 2]⟩] : List Shape), ∀ (s : Shared) (us ws : List Value), K.In s.heap → us.length = sh.n → ws.length = sh.ks.length → BindsTo s (PySem.W.fnOf "turn_at" "turn_at" (defArgs (topS 23)) (defBody (topS 23)) (defScope (topS 23)) .none kV doc pm an cdv ct) ⟨us, sh.ks.zip ws⟩ ((["one", "two", "spot"] : List Str).zip (pick sh.ix (us ++ ws))) := by
  intro sh hsh
  rcases List.mem_singleton.mp hsh with rfl
  exact (fun s us ws _ h1 h2 => match us, ws, h1, h2 with | [x0, x1, x2], [], _, _ => .of_eq rfl)
theorem bd_is_in_corners {kV doc pm cdv ct : Value} {an : Option Addr} : ∀ sh ∈ ([⟨2, [], [0, 1]⟩] : List Shape), ∀ (s : Shared) (us ws : List Value), K.In s.heap → us.length = sh.n → ws.length = sh.ks.length → BindsTo s (PySem.W.fnOf "is_in_corners" "is_in_corners" (defArgs (topS 24)) (defBody (topS 24)) (defScope (topS 24)) .none kV doc pm an cdv ct) ⟨us, sh.ks.zip ws⟩ ((["corners", "spot"] : List Str).zip (pick sh.ix (us ++ ws))) := by
  intro sh hsh
  rcases List.mem_singleton.mp hsh with rfl
  exact (fun s us ws _ h1 h2 => match us, ws, h1, h2 with | [x0, x1], [], _, _ => .of_eq rfl)
theorem bd_range_in {kV doc pm cdv ct : Value} {an : Option Addr} : ∀ sh ∈ ([⟨4, [], [0, 1, 2, 3]⟩] : List Shape), ∀ (s : Shared) (us ws : List Value), K.In s.heap → us.length = sh.n → ws.length = sh.ks.length → BindsTo s (PySem.W.fnOf "range_in" "range_in" (defArgs (topS 25)) (defBody (topS 25)) (defScope (topS 25)) .none kV doc pm an cdv ct) ⟨us, sh.ks.zip ws⟩ ((["stroke", "width", "first", "last"] : List Str).zip (pick sh.ix (us ++ ws))) := by
  intro sh hsh
  rcases List.mem_singleton.mp hsh with rfl
  exact (fun s us ws _ h1 h2 => match us, ws, h1, h2 with | [x0, x1, x2, x3], [], _, _ => .of_eq rfl)
theorem bd_cells_in {kV doc pm cdv ct : Value} {an : Option Addr} : ∀ sh ∈ ([⟨4, [], [0, 1, 2, 3]⟩] : List Shape), ∀ (s : Shared) (us ws : List Value), K.In s.heap → us.length = sh.n → ws.length = sh.ks.length → BindsTo s (PySem.W.fnOf "cells_in" "cells_in" (defArgs (topS 26)) (defBody (topS 26)) (defScope (topS 26)) .none kV doc pm an cdv ct) ⟨us, sh.ks.zip ws⟩ ((["stroke", "width", "first", "last"] : List Str).zip (pick sh.ix (us ++ ws))) := by
  intro sh hsh
  rcases List.mem_singleton.mp hsh with rfl
  exact (fun s us ws _ h1 h2 => match us, ws, h1, h2 with | [x0, x1, x2, x3], [], _, _ => .of_eq rfl)
theorem bd_covers_by {kV doc pm cdv ct : Value} {an : Option Addr} : ∀ sh ∈ ([⟨3, [], [0, 1, 2]⟩] : List Shape), ∀ (s : Shared) (us ws : List Value), K.In s.heap → us.length = sh.n → ws.length = sh.ks.length → BindsTo s (PySem.W.fnOf "covers_by" "covers_by" (defArgs (topS 27)) (defBody (topS 27)) (defScope (topS 27)) .none kV doc pm an cdv ct) ⟨us, sh.ks.zip ws⟩ ((["stroke", "row", "column"] : List Str).zip (pick sh.ix (us ++ ws))) := by
  intro sh hsh
  rcases List.mem_singleton.mp hsh with rfl
  exact (fun s us ws _ h1 h2 => match us, ws, h1, h2 with | [x0, x1, x2], [], _, _ => .of_eq rfl)
theorem bd_check_stroke {kV doc pm cdv ct : Value} {an : Option Addr} : ∀ sh ∈ ([⟨1, [], [0]⟩] : List Shape), ∀ (s : Shared) (us ws : List Value), K.In s.heap → us.length = sh.n → ws.length = sh.ks.length → BindsTo s (PySem.W.fnOf "check_stroke" "check_stroke" (defArgs (topS 29)) (defBody (topS 29)) (defScope (topS 29)) .none kV doc pm an cdv ct) ⟨us, sh.ks.zip ws⟩ ((["stroke"] : List Str).zip (pick sh.ix (us ++ ws))) := by
  intro sh hsh
  rcases List.mem_singleton.mp hsh with rfl
  exact (fun s us ws _ h1 h2 => match us, ws, h1, h2 with | [x0], [], _, _ => .of_eq rfl)
theorem bd_check_spot {kV doc pm cdv ct : Value} {an : Option Addr} : ∀ sh ∈ ([⟨1, [], [0]⟩] : List Shape), ∀ (s : Shared) (us ws : List Value), K.In s.heap → us.length = sh.n → ws.length = sh.ks.length → BindsTo s (PySem.W.fnOf "check_spot" "check_spot" (defArgs (topS 30)) (defBody (topS 30)) (defScope (topS 30)) .none kV doc pm an cdv ct) ⟨us, sh.ks.zip ws⟩ ((["cell"] : List Str).zip (pick sh.ix (us ++ ws))) := by
  intro sh hsh
  rcases List.mem_singleton.mp hsh with rfl
  exact (fun s us ws _ h1 h2 => match us, ws, h1, h2 with | [x0], [], _, _ => .of_eq rfl)
theorem bd_covers {kV doc pm cdv ct : Value} {an : Option Addr} : ∀ sh ∈ ([⟨0, ["cell", "stroke"], [1, 0]⟩, ⟨2, [], [0, 1]⟩] : List Shape), ∀ (s : Shared) (us ws : List Value), K.In s.heap → us.length = sh.n → ws.length = sh.ks.length → BindsTo s (PySem.W.fnOf "covers" "covers" (defArgs (topS 31)) (defBody (topS 31)) (defScope (topS 31)) .none kV doc pm an cdv ct) ⟨us, sh.ks.zip ws⟩ ((["stroke", "cell"] : List Str).zip (pick sh.ix (us ++ ws))) := by
  intro sh hsh
  rcases List.mem_cons.mp hsh with rfl | hsh
  · exact (fun s us ws _ h1 h2 => match us, ws, h1, h2 with | [], [y0, y1], _, _ => .of_eq rfl)
  rcases List.mem_singleton.mp hsh with rfl
  exact (fun s us ws _ h1 h2 => match us, ws, h1, h2 with | [x0, x1], [], _, _ => .of_eq rfl)
theorem bd__law_pool {kV doc pm cdv ct : Value} {an : Option Addr} : ∀ sh ∈ ([⟨2, [], [0, 1]⟩] : List Shape), ∀ (s : Shared) (us ws : List Value), K.In s.heap → us.length = sh.n → ws.length = sh.ks.length → BindsTo s (PySem.W.fnOf "_law_pool" "_law_pool" (defArgs (topS 33)) (defBody (topS 33)) (defScope (topS 33)) .none kV doc pm an cdv ct) ⟨us, sh.ks.zip ws⟩ ((["script", "lap"] : List Str).zip (pick sh.ix (us ++ ws))) := by
  intro sh hsh
  rcases List.mem_singleton.mp hsh with rfl
  exact (fun s us ws _ h1 h2 => match us, ws, h1, h2 with | [x0, x1], [], _, _ => .of_eq rfl)
theorem bd__law_below {kV doc pm cdv ct : Value} {an : Option Addr} : ∀ sh ∈ ([⟨2, [], [0, 1]⟩] : List Shape), ∀ (s : Shared) (us ws : List Value), K.In s.heap → us.length = sh.n → ws.length = sh.ks.length → BindsTo s (PySem.W.fnOf "_law_below" "_law_below" (defArgs (topS 34)) (defBody (topS 34)) (defScope (topS 34)) .none kV doc pm an cdv ct) ⟨us, sh.ks.zip ws⟩ ((["pool", "many"] : List Str).zip (pick sh.ix (us ++ ws))) := by
  intro sh hsh
  rcases List.mem_singleton.mp hsh with rfl
  exact (fun s us ws _ h1 h2 => match us, ws, h1, h2 with | [x0, x1], [], _, _ => .of_eq rfl)
theorem bd__law_one {kV doc pm cdv ct : Value} {an : Option Addr} : ∀ sh ∈ ([⟨2, [], [0, 1]⟩] : List Shape), ∀ (s : Shared) (us ws : List Value), K.In s.heap → us.length = sh.n → ws.length = sh.ks.length → BindsTo s (PySem.W.fnOf "_law_one" "_law_one" (defArgs (topS 35)) (defBody (topS 35)) (defScope (topS 35)) .none kV doc pm an cdv ct) ⟨us, sh.ks.zip ws⟩ ((["pool", "some"] : List Str).zip (pick sh.ix (us ++ ws))) := by
  intro sh hsh
  rcases List.mem_singleton.mp hsh with rfl
  exact (fun s us ws _ h1 h2 => match us, ws, h1, h2 with | [x0, x1], [], _, _ => .of_eq rfl)
theorem bd__law_same {kV doc pm cdv ct : Value} {an : Option Addr} : ∀ sh ∈ ([⟨2, [], [0, 1]⟩] : List Shape), ∀ (s : Shared) (us ws : List Value), K.In s.heap → us.length = sh.n → ws.length = sh.ks.length → BindsTo s (PySem.W.fnOf "_law_same" "_law_same" (defArgs (topS 36)) (defBody (topS 36)) (defScope (topS 36)) .none kV doc pm an cdv ct) ⟨us, sh.ks.zip ws⟩ ((["told", "due"] : List Str).zip (pick sh.ix (us ++ ws))) := by
  intro sh hsh
  rcases List.mem_singleton.mp hsh with rfl
  exact (fun s us ws _ h1 h2 => match us, ws, h1, h2 with | [x0, x1], [], _, _ => .of_eq rfl)
theorem bd__law_boxed {kV doc pm cdv ct : Value} {an : Option Addr} : ∀ sh ∈ ([⟨2, [], [0, 1]⟩] : List Shape), ∀ (s : Shared) (us ws : List Value), K.In s.heap → us.length = sh.n → ws.length = sh.ks.length → BindsTo s (PySem.W.fnOf "_law_boxed" "_law_boxed" (defArgs (topS 37)) (defBody (topS 37)) (defScope (topS 37)) .none kV doc pm an cdv ct) ⟨us, sh.ks.zip ws⟩ ((["one", "two"] : List Str).zip (pick sh.ix (us ++ ws))) := by
  intro sh hsh
  rcases List.mem_singleton.mp hsh with rfl
  exact (fun s us ws _ h1 h2 => match us, ws, h1, h2 with | [x0, x1], [], _, _ => .of_eq rfl)
theorem bd__law_in_box {kV doc pm cdv ct : Value} {an : Option Addr} : ∀ sh ∈ ([⟨2, [], [0, 1]⟩] : List Shape), ∀ (s : Shared) (us ws : List Value), K.In s.heap → us.length = sh.n → ws.length = sh.ks.length → BindsTo s (PySem.W.fnOf "_law_in_box" "_law_in_box" (defArgs (topS 38)) (defBody (topS 38)) (defScope (topS 38)) .none kV doc pm an cdv ct) ⟨us, sh.ks.zip ws⟩ ((["box", "cell"] : List Str).zip (pick sh.ix (us ++ ws))) := by
  intro sh hsh
  rcases List.mem_singleton.mp hsh with rfl
  exact (fun s us ws _ h1 h2 => match us, ws, h1, h2 with | [x0, x1], [], _, _ => .of_eq rfl)
theorem bd__law_in_triangle {kV doc pm cdv ct : Value} {an : Option Addr} : ∀ sh ∈ ([⟨2, [], [0, 1]⟩] : List Shape), ∀ (s : Shared) (us ws : List Value), K.In s.heap → us.length = sh.n → ws.length = sh.ks.length → BindsTo s (PySem.W.fnOf "_law_in_triangle" "_law_in_triangle" (defArgs (topS 39)) (defBody (topS 39)) (defScope (topS 39)) .none kV doc pm an cdv ct) ⟨us, sh.ks.zip ws⟩ ((["shape", "cell"] : List Str).zip (pick sh.ix (us ++ ws))) := by
  intro sh hsh
  rcases List.mem_singleton.mp hsh with rfl
  exact (fun s us ws _ h1 h2 => match us, ws, h1, h2 with | [x0, x1], [], _, _ => .of_eq rfl)
theorem bd__law_covers {kV doc pm cdv ct : Value} {an : Option Addr} : ∀ sh ∈ ([⟨2, [], [0, 1]⟩] : List Shape), ∀ (s : Shared) (us ws : List Value), K.In s.heap → us.length = sh.n → ws.length = sh.ks.length → BindsTo s (PySem.W.fnOf "_law_covers" "_law_covers" (defArgs (topS 40)) (defBody (topS 40)) (defScope (topS 40)) .none kV doc pm an cdv ct) ⟨us, sh.ks.zip ws⟩ ((["stroke", "cell"] : List Str).zip (pick sh.ix (us ++ ws))) := by
  intro sh hsh
  rcases List.mem_singleton.mp hsh with rfl
  exact (fun s us ws _ h1 h2 => match us, ws, h1, h2 with | [x0, x1], [], _, _ => .of_eq rfl)
theorem bd__law_stroke {kV doc pm cdv ct : Value} {an : Option Addr} : ∀ sh ∈ ([⟨1, [], [0]⟩] : List Shape), ∀ (s : Shared) (us ws : List Value), K.In s.heap → us.length = sh.n → ws.length = sh.ks.length → BindsTo s (PySem.W.fnOf "_law_stroke" "_law_stroke" (defArgs (topS 41)) (defBody (topS 41)) (defScope (topS 41)) .none kV doc pm an cdv ct) ⟨us, sh.ks.zip ws⟩ ((["pool"] : List Str).zip (pick sh.ix (us ++ ws))) := by
  intro sh hsh
  rcases List.mem_singleton.mp hsh with rfl
  exact (fun s us ws _ h1 h2 => match us, ws, h1, h2 with | [x0], [], _, _ => .of_eq rfl)
theorem bd__law_right {kV doc pm cdv ct : Value} {an : Option Addr} : ∀ sh ∈ ([⟨1, [], [0]⟩] : List Shape), ∀ (s : Shared) (us ws : List Value), K.In s.heap → us.length = sh.n → ws.length = sh.ks.length → BindsTo s (PySem.W.fnOf "_law_right" "_law_right" (defArgs (topS 42)) (defBody (topS 42)) (defScope (topS 42)) .none kV doc pm an cdv ct) ⟨us, sh.ks.zip ws⟩ ((["pool"] : List Str).zip (pick sh.ix (us ++ ws))) := by
  intro sh hsh
  rcases List.mem_singleton.mp hsh with rfl
  exact (fun s us ws _ h1 h2 => match us, ws, h1, h2 with | [x0], [], _, _ => .of_eq rfl)
theorem bd_law {kV doc pm cdv ct : Value} {an : Option Addr} : ∀ sh ∈ ([] : List Shape), ∀ (s : Shared) (us ws : List Value), K.In s.heap → us.length = sh.n → ws.length = sh.ks.length → BindsTo s (PySem.W.fnOf "law" "law" (defArgs (topS 43)) (defBody (topS 43)) (defScope (topS 43)) .none kV doc pm an cdv ct) ⟨us, sh.ks.zip ws⟩ ((["script"] : List Str).zip (pick sh.ix (us ++ ws))) := by
  intro sh hsh
  simp at hsh
end
theorem all_mk {w : World} {K : PySem.W.Frag} {h : Heap} {mg : Str → Option Value} {fa : Addr} (X : K.In h) (G0 : h.Ns mainGlobals mg) (hfa : mg "law" = some (.ref fa))
    {f0 : Addr} {od0 an0 : Option Addr} {sl0 : Array (Option Value)} {oc0 kV0 dc0 pm0 cd0 ct0 : Value}
    (a0 : PySem.W.nsIn K mainGlobals "is_whole" = some (some (.ref f0))) (l0 : K.lookup f0 = some ⟨oc0, od0, .func (PySem.W.fnOf "is_whole" "is_whole" (defArgs (topS 5)) (defBody (topS 5)) (defScope (topS 5)) .none kV0 dc0 pm0 an0 cd0 ct0), sl0⟩) (c0 : PySem.W.codeIn K cd0 "is_whole" = true) (k0 : PySem.W.keepIn K (.ref f0) = true)
    {f1 : Addr} {od1 an1 : Option Addr} {sl1 : Array (Option Value)} {oc1 kV1 dc1 pm1 cd1 ct1 : Value}
    (a1 : PySem.W.nsIn K mainGlobals "is_between" = some (some (.ref f1))) (l1 : K.lookup f1 = some ⟨oc1, od1, .func (PySem.W.fnOf "is_between" "is_between" (defArgs (topS 6)) (defBody (topS 6)) (defScope (topS 6)) .none kV1 dc1 pm1 an1 cd1 ct1), sl1⟩) (c1 : PySem.W.codeIn K cd1 "is_between" = true) (k1 : PySem.W.keepIn K (.ref f1) = true)
    {f2 : Addr} {od2 an2 : Option Addr} {sl2 : Array (Option Value)} {oc2 kV2 dc2 pm2 cd2 ct2 : Value}
    (a2 : PySem.W.nsIn K mainGlobals "is_up_to" = some (some (.ref f2))) (l2 : K.lookup f2 = some ⟨oc2, od2, .func (PySem.W.fnOf "is_up_to" "is_up_to" (defArgs (topS 7)) (defBody (topS 7)) (defScope (topS 7)) .none kV2 dc2 pm2 an2 cd2 ct2), sl2⟩) (c2 : PySem.W.codeIn K cd2 "is_up_to" = true) (k2 : PySem.W.keepIn K (.ref f2) = true)
    {f3 : Addr} {od3 an3 : Option Addr} {sl3 : Array (Option Value)} {oc3 kV3 dc3 pm3 cd3 ct3 : Value}
    (a3 : PySem.W.nsIn K mainGlobals "is_tuple_of" = some (some (.ref f3))) (l3 : K.lookup f3 = some ⟨oc3, od3, .func (PySem.W.fnOf "is_tuple_of" "is_tuple_of" (defArgs (topS 8)) (defBody (topS 8)) (defScope (topS 8)) .none kV3 dc3 pm3 an3 cd3 ct3), sl3⟩) (c3 : PySem.W.codeIn K cd3 "is_tuple_of" = true) (k3 : PySem.W.keepIn K (.ref f3) = true)
    {f4 : Addr} {od4 an4 : Option Addr} {sl4 : Array (Option Value)} {oc4 kV4 dc4 pm4 cd4 ct4 : Value}
    (a4 : PySem.W.nsIn K mainGlobals "is_pair" = some (some (.ref f4))) (l4 : K.lookup f4 = some ⟨oc4, od4, .func (PySem.W.fnOf "is_pair" "is_pair" (defArgs (topS 9)) (defBody (topS 9)) (defScope (topS 9)) .none kV4 dc4 pm4 an4 cd4 ct4), sl4⟩) (c4 : PySem.W.codeIn K cd4 "is_pair" = true) (k4 : PySem.W.keepIn K (.ref f4) = true)
    {f5 : Addr} {od5 an5 : Option Addr} {sl5 : Array (Option Value)} {oc5 kV5 dc5 pm5 cd5 ct5 : Value}
    (a5 : PySem.W.nsIn K mainGlobals "is_cell" = some (some (.ref f5))) (l5 : K.lookup f5 = some ⟨oc5, od5, .func (PySem.W.fnOf "is_cell" "is_cell" (defArgs (topS 12)) (defBody (topS 12)) (defScope (topS 12)) .none kV5 dc5 pm5 an5 cd5 ct5), sl5⟩) (c5 : PySem.W.codeIn K cd5 "is_cell" = true) (k5 : PySem.W.keepIn K (.ref f5) = true)
    {f6 : Addr} {od6 an6 : Option Addr} {sl6 : Array (Option Value)} {oc6 kV6 dc6 pm6 cd6 ct6 : Value}
    (a6 : PySem.W.nsIn K mainGlobals "is_box" = some (some (.ref f6))) (l6 : K.lookup f6 = some ⟨oc6, od6, .func (PySem.W.fnOf "is_box" "is_box" (defArgs (topS 19)) (defBody (topS 19)) (defScope (topS 19)) .none kV6 dc6 pm6 an6 cd6 ct6), sl6⟩) (c6 : PySem.W.codeIn K cd6 "is_box" = true) (k6 : PySem.W.keepIn K (.ref f6) = true)
    {f7 : Addr} {od7 an7 : Option Addr} {sl7 : Array (Option Value)} {oc7 kV7 dc7 pm7 cd7 ct7 : Value}
    (a7 : PySem.W.nsIn K mainGlobals "is_point" = some (some (.ref f7))) (l7 : K.lookup f7 = some ⟨oc7, od7, .func (PySem.W.fnOf "is_point" "is_point" (defArgs (topS 20)) (defBody (topS 20)) (defScope (topS 20)) .none kV7 dc7 pm7 an7 cd7 ct7), sl7⟩) (c7 : PySem.W.codeIn K cd7 "is_point" = true) (k7 : PySem.W.keepIn K (.ref f7) = true)
    {f8 : Addr} {od8 an8 : Option Addr} {sl8 : Array (Option Value)} {oc8 kV8 dc8 pm8 cd8 ct8 : Value}
    (a8 : PySem.W.nsIn K mainGlobals "is_shape" = some (some (.ref f8))) (l8 : K.lookup f8 = some ⟨oc8, od8, .func (PySem.W.fnOf "is_shape" "is_shape" (defArgs (topS 21)) (defBody (topS 21)) (defScope (topS 21)) .none kV8 dc8 pm8 an8 cd8 ct8), sl8⟩) (c8 : PySem.W.codeIn K cd8 "is_shape" = true) (k8 : PySem.W.keepIn K (.ref f8) = true)
    {f9 : Addr} {od9 an9 : Option Addr} {sl9 : Array (Option Value)} {oc9 kV9 dc9 pm9 cd9 ct9 : Value}
    (a9 : PySem.W.nsIn K mainGlobals "is_stroke" = some (some (.ref f9))) (l9 : K.lookup f9 = some ⟨oc9, od9, .func (PySem.W.fnOf "is_stroke" "is_stroke" (defArgs (topS 22)) (defBody (topS 22)) (defScope (topS 22)) .none kV9 dc9 pm9 an9 cd9 ct9), sl9⟩) (c9 : PySem.W.codeIn K cd9 "is_stroke" = true) (k9 : PySem.W.keepIn K (.ref f9) = true)
    {f10 : Addr} {od10 an10 : Option Addr} {sl10 : Array (Option Value)} {oc10 kV10 dc10 pm10 cd10 ct10 : Value}
    (a10 : PySem.W.nsIn K mainGlobals "turn_at" = some (some (.ref f10))) (l10 : K.lookup f10 = some ⟨oc10, od10, .func (PySem.W.fnOf "turn_at" "turn_at" (defArgs (topS 23)) (defBody (topS 23)) (defScope (topS 23)) .none kV10 dc10 pm10 an10 cd10 ct10), sl10⟩) (c10 : PySem.W.codeIn K cd10 "turn_at" = true) (k10 : PySem.W.keepIn K (.ref f10) = true)
    {f11 : Addr} {od11 an11 : Option Addr} {sl11 : Array (Option Value)} {oc11 kV11 dc11 pm11 cd11 ct11 : Value}
    (a11 : PySem.W.nsIn K mainGlobals "is_in_corners" = some (some (.ref f11))) (l11 : K.lookup f11 = some ⟨oc11, od11, .func (PySem.W.fnOf "is_in_corners" "is_in_corners" (defArgs (topS 24)) (defBody (topS 24)) (defScope (topS 24)) .none kV11 dc11 pm11 an11 cd11 ct11), sl11⟩) (c11 : PySem.W.codeIn K cd11 "is_in_corners" = true) (k11 : PySem.W.keepIn K (.ref f11) = true)
    {f12 : Addr} {od12 an12 : Option Addr} {sl12 : Array (Option Value)} {oc12 kV12 dc12 pm12 cd12 ct12 : Value}
    (a12 : PySem.W.nsIn K mainGlobals "range_in" = some (some (.ref f12))) (l12 : K.lookup f12 = some ⟨oc12, od12, .func (PySem.W.fnOf "range_in" "range_in" (defArgs (topS 25)) (defBody (topS 25)) (defScope (topS 25)) .none kV12 dc12 pm12 an12 cd12 ct12), sl12⟩) (c12 : PySem.W.codeIn K cd12 "range_in" = true) (k12 : PySem.W.keepIn K (.ref f12) = true)
    {f13 : Addr} {od13 an13 : Option Addr} {sl13 : Array (Option Value)} {oc13 kV13 dc13 pm13 cd13 ct13 : Value}
    (a13 : PySem.W.nsIn K mainGlobals "cells_in" = some (some (.ref f13))) (l13 : K.lookup f13 = some ⟨oc13, od13, .func (PySem.W.fnOf "cells_in" "cells_in" (defArgs (topS 26)) (defBody (topS 26)) (defScope (topS 26)) .none kV13 dc13 pm13 an13 cd13 ct13), sl13⟩) (c13 : PySem.W.codeIn K cd13 "cells_in" = true) (k13 : PySem.W.keepIn K (.ref f13) = true)
    {f14 : Addr} {od14 an14 : Option Addr} {sl14 : Array (Option Value)} {oc14 kV14 dc14 pm14 cd14 ct14 : Value}
    (a14 : PySem.W.nsIn K mainGlobals "covers_by" = some (some (.ref f14))) (l14 : K.lookup f14 = some ⟨oc14, od14, .func (PySem.W.fnOf "covers_by" "covers_by" (defArgs (topS 27)) (defBody (topS 27)) (defScope (topS 27)) .none kV14 dc14 pm14 an14 cd14 ct14), sl14⟩) (c14 : PySem.W.codeIn K cd14 "covers_by" = true) (k14 : PySem.W.keepIn K (.ref f14) = true)
    {f15 : Addr} {od15 an15 : Option Addr} {sl15 : Array (Option Value)} {oc15 kV15 dc15 pm15 cd15 ct15 : Value}
    (a15 : PySem.W.nsIn K mainGlobals "check_stroke" = some (some (.ref f15))) (l15 : K.lookup f15 = some ⟨oc15, od15, .func (PySem.W.fnOf "check_stroke" "check_stroke" (defArgs (topS 29)) (defBody (topS 29)) (defScope (topS 29)) .none kV15 dc15 pm15 an15 cd15 ct15), sl15⟩) (c15 : PySem.W.codeIn K cd15 "check_stroke" = true) (k15 : PySem.W.keepIn K (.ref f15) = true)
    {f16 : Addr} {od16 an16 : Option Addr} {sl16 : Array (Option Value)} {oc16 kV16 dc16 pm16 cd16 ct16 : Value}
    (a16 : PySem.W.nsIn K mainGlobals "check_spot" = some (some (.ref f16))) (l16 : K.lookup f16 = some ⟨oc16, od16, .func (PySem.W.fnOf "check_spot" "check_spot" (defArgs (topS 30)) (defBody (topS 30)) (defScope (topS 30)) .none kV16 dc16 pm16 an16 cd16 ct16), sl16⟩) (c16 : PySem.W.codeIn K cd16 "check_spot" = true) (k16 : PySem.W.keepIn K (.ref f16) = true)
    {f17 : Addr} {od17 an17 : Option Addr} {sl17 : Array (Option Value)} {oc17 kV17 dc17 pm17 cd17 ct17 : Value}
    (a17 : PySem.W.nsIn K mainGlobals "covers" = some (some (.ref f17))) (l17 : K.lookup f17 = some ⟨oc17, od17, .func (PySem.W.fnOf "covers" "covers" (defArgs (topS 31)) (defBody (topS 31)) (defScope (topS 31)) .none kV17 dc17 pm17 an17 cd17 ct17), sl17⟩) (c17 : PySem.W.codeIn K cd17 "covers" = true) (k17 : PySem.W.keepIn K (.ref f17) = true)
    {f18 : Addr} {od18 an18 : Option Addr} {sl18 : Array (Option Value)} {oc18 kV18 dc18 pm18 cd18 ct18 : Value}
    (a18 : PySem.W.nsIn K mainGlobals "_law_pool" = some (some (.ref f18))) (l18 : K.lookup f18 = some ⟨oc18, od18, .func (PySem.W.fnOf "_law_pool" "_law_pool" (defArgs (topS 33)) (defBody (topS 33)) (defScope (topS 33)) .none kV18 dc18 pm18 an18 cd18 ct18), sl18⟩) (c18 : PySem.W.codeIn K cd18 "_law_pool" = true) (k18 : PySem.W.keepIn K (.ref f18) = true)
    {f19 : Addr} {od19 an19 : Option Addr} {sl19 : Array (Option Value)} {oc19 kV19 dc19 pm19 cd19 ct19 : Value}
    (a19 : PySem.W.nsIn K mainGlobals "_law_below" = some (some (.ref f19))) (l19 : K.lookup f19 = some ⟨oc19, od19, .func (PySem.W.fnOf "_law_below" "_law_below" (defArgs (topS 34)) (defBody (topS 34)) (defScope (topS 34)) .none kV19 dc19 pm19 an19 cd19 ct19), sl19⟩) (c19 : PySem.W.codeIn K cd19 "_law_below" = true) (k19 : PySem.W.keepIn K (.ref f19) = true)
    {f20 : Addr} {od20 an20 : Option Addr} {sl20 : Array (Option Value)} {oc20 kV20 dc20 pm20 cd20 ct20 : Value}
    (a20 : PySem.W.nsIn K mainGlobals "_law_one" = some (some (.ref f20))) (l20 : K.lookup f20 = some ⟨oc20, od20, .func (PySem.W.fnOf "_law_one" "_law_one" (defArgs (topS 35)) (defBody (topS 35)) (defScope (topS 35)) .none kV20 dc20 pm20 an20 cd20 ct20), sl20⟩) (c20 : PySem.W.codeIn K cd20 "_law_one" = true) (k20 : PySem.W.keepIn K (.ref f20) = true)
    {f21 : Addr} {od21 an21 : Option Addr} {sl21 : Array (Option Value)} {oc21 kV21 dc21 pm21 cd21 ct21 : Value}
    (a21 : PySem.W.nsIn K mainGlobals "_law_same" = some (some (.ref f21))) (l21 : K.lookup f21 = some ⟨oc21, od21, .func (PySem.W.fnOf "_law_same" "_law_same" (defArgs (topS 36)) (defBody (topS 36)) (defScope (topS 36)) .none kV21 dc21 pm21 an21 cd21 ct21), sl21⟩) (c21 : PySem.W.codeIn K cd21 "_law_same" = true) (k21 : PySem.W.keepIn K (.ref f21) = true)
    {f22 : Addr} {od22 an22 : Option Addr} {sl22 : Array (Option Value)} {oc22 kV22 dc22 pm22 cd22 ct22 : Value}
    (a22 : PySem.W.nsIn K mainGlobals "_law_boxed" = some (some (.ref f22))) (l22 : K.lookup f22 = some ⟨oc22, od22, .func (PySem.W.fnOf "_law_boxed" "_law_boxed" (defArgs (topS 37)) (defBody (topS 37)) (defScope (topS 37)) .none kV22 dc22 pm22 an22 cd22 ct22), sl22⟩) (c22 : PySem.W.codeIn K cd22 "_law_boxed" = true) (k22 : PySem.W.keepIn K (.ref f22) = true)
    {f23 : Addr} {od23 an23 : Option Addr} {sl23 : Array (Option Value)} {oc23 kV23 dc23 pm23 cd23 ct23 : Value}
    (a23 : PySem.W.nsIn K mainGlobals "_law_in_box" = some (some (.ref f23))) (l23 : K.lookup f23 = some ⟨oc23, od23, .func (PySem.W.fnOf "_law_in_box" "_law_in_box" (defArgs (topS 38)) (defBody (topS 38)) (defScope (topS 38)) .none kV23 dc23 pm23 an23 cd23 ct23), sl23⟩) (c23 : PySem.W.codeIn K cd23 "_law_in_box" = true) (k23 : PySem.W.keepIn K (.ref f23) = true)
    {f24 : Addr} {od24 an24 : Option Addr} {sl24 : Array (Option Value)} {oc24 kV24 dc24 pm24 cd24 ct24 : Value}
    (a24 : PySem.W.nsIn K mainGlobals "_law_in_triangle" = some (some (.ref f24))) (l24 : K.lookup f24 = some ⟨oc24, od24, .func (PySem.W.fnOf "_law_in_triangle" "_law_in_triangle" (defArgs (topS 39)) (defBody (topS 39)) (defScope (topS 39)) .none kV24 dc24 pm24 an24 cd24 ct24), sl24⟩) (c24 : PySem.W.codeIn K cd24 "_law_in_triangle" = true) (k24 : PySem.W.keepIn K (.ref f24) = true)
    {f25 : Addr} {od25 an25 : Option Addr} {sl25 : Array (Option Value)} {oc25 kV25 dc25 pm25 cd25 ct25 : Value}
    (a25 : PySem.W.nsIn K mainGlobals "_law_covers" = some (some (.ref f25))) (l25 : K.lookup f25 = some ⟨oc25, od25, .func (PySem.W.fnOf "_law_covers" "_law_covers" (defArgs (topS 40)) (defBody (topS 40)) (defScope (topS 40)) .none kV25 dc25 pm25 an25 cd25 ct25), sl25⟩) (c25 : PySem.W.codeIn K cd25 "_law_covers" = true) (k25 : PySem.W.keepIn K (.ref f25) = true)
    {f26 : Addr} {od26 an26 : Option Addr} {sl26 : Array (Option Value)} {oc26 kV26 dc26 pm26 cd26 ct26 : Value}
    (a26 : PySem.W.nsIn K mainGlobals "_law_stroke" = some (some (.ref f26))) (l26 : K.lookup f26 = some ⟨oc26, od26, .func (PySem.W.fnOf "_law_stroke" "_law_stroke" (defArgs (topS 41)) (defBody (topS 41)) (defScope (topS 41)) .none kV26 dc26 pm26 an26 cd26 ct26), sl26⟩) (c26 : PySem.W.codeIn K cd26 "_law_stroke" = true) (k26 : PySem.W.keepIn K (.ref f26) = true)
    {f27 : Addr} {od27 an27 : Option Addr} {sl27 : Array (Option Value)} {oc27 kV27 dc27 pm27 cd27 ct27 : Value}
    (a27 : PySem.W.nsIn K mainGlobals "_law_right" = some (some (.ref f27))) (l27 : K.lookup f27 = some ⟨oc27, od27, .func (PySem.W.fnOf "_law_right" "_law_right" (defArgs (topS 42)) (defBody (topS 42)) (defScope (topS 42)) .none kV27 dc27 pm27 an27 cd27 ct27), sl27⟩) (c27 : PySem.W.codeIn K cd27 "_law_right" = true) (k27 : PySem.W.keepIn K (.ref f27) = true)
    {f28 : Addr} {od28 an28 : Option Addr} {sl28 : Array (Option Value)} {oc28 kV28 dc28 pm28 cd28 ct28 : Value}
    (a28 : PySem.W.nsIn K mainGlobals "law" = some (some (.ref f28))) (l28 : K.lookup f28 = some ⟨oc28, od28, .func (PySem.W.fnOf "law" "law" (defArgs (topS 43)) (defBody (topS 43)) (defScope (topS 43)) .none kV28 dc28 pm28 an28 cd28 ct28), sl28⟩) (c28 : PySem.W.codeIn K cd28 "law" = true) (k28 : PySem.W.keepIn K (.ref f28) = true)
    {t0 : Tok} (g0 : PySem.W.nsIn K mainGlobals "BOX" = some (some (.int 4 t0)))
    {t1 : Tok} (g1 : PySem.W.nsIn K mainGlobals "FARTHEST" = some (some (.int 99999 t1)))
    {t2 : Tok} (g2 : PySem.W.nsIn K mainGlobals "CORNERS" = some (some (.int 3 t2)))
    {t3 : Tok} (g3 : PySem.W.nsIn K mainGlobals "STROKE" = some (some (.int 3 t3)))
    {t4 : Tok} (g4 : PySem.W.nsIn K mainGlobals "LAST_INK" = some (some (.int 7 t4)))
    {t5 : Tok} (g5 : PySem.W.nsIn K mainGlobals "MOST_SIDE" = some (some (.int 24 t5)))
    (z0 : PySem.W.nsIn K mainGlobals "isinstance" = some none)
    (z1 : PySem.W.nsIn K mainGlobals "len" = some none)
    (z2 : PySem.W.nsIn K mainGlobals "abs" = some none)
    (z3 : PySem.W.nsIn K mainGlobals "max" = some none)
    (z4 : PySem.W.nsIn K mainGlobals "min" = some none)
    (z5 : PySem.W.nsIn K mainGlobals "sum" = some none)
    (z6 : PySem.W.nsIn K mainGlobals "all" = some none)
    (z7 : PySem.W.nsIn K mainGlobals "any" = some none)
    (z8 : PySem.W.nsIn K mainGlobals "divmod" = some none)
    (z9 : PySem.W.nsIn K mainGlobals "int" = some none)
    (z10 : PySem.W.nsIn K mainGlobals "bool" = some none)
    (z11 : PySem.W.nsIn K mainGlobals "str" = some none)
    (z12 : PySem.W.nsIn K mainGlobals "tuple" = some none)
    (z13 : PySem.W.nsIn K mainGlobals "list" = some none)
    (z14 : PySem.W.nsIn K mainGlobals "dict" = some none)
    (z15 : PySem.W.nsIn K mainGlobals "range" = some none)
    (z16 : PySem.W.nsIn K mainGlobals "enumerate" = some none)
    (z17 : PySem.W.nsIn K mainGlobals "zip" = some none)
    (z18 : PySem.W.nsIn K mainGlobals "sorted" = some none)
    : ∃ fd : FuncData, (∀ (s : Shared) (v : Value), BindsTo s fd ⟨[v], []⟩ [("script", v)]) ∧ ∀ base : Heap, K.In base → base.Ns mainGlobals mg → FnOk PySem.Challenge.pw_inkbands_k25_whole_covering w K mg base (L2.CX PySem.Challenge.pw_inkbands_k25_whole_covering w) 9 fa fd ["script"] (spLaw K) := by
  have e := hfa.symm.trans (PySem.W.mg_of X G0 a28)
  cases e
  refine ⟨PySem.W.fnOf "law" "law" (defArgs (topS 43)) (defBody (topS 43)) (defScope (topS 43)) .none kV28 dc28 pm28 an28 cd28 ct28, fun s v => .of_eq rfl, fun base _ _ => ?_⟩
  have hglo : ∀ i p, G i = some p → ∃ u v, mg p.1 = some u ∧ RelV v u ∧ Wr ⟨K, mg⟩ p.2 v := by
    intro i p hp
    unfold G at hp
    have hi : i < 6 := by
      rcases Nat.lt_or_ge i 6 with h | h
      · exact h
      · rw [List.getElem?_eq_none (by simpa using h)] at hp; cases hp
    rcases (show i = 0 ∨ i = 1 ∨ i = 2 ∨ i = 3 ∨ i = 4 ∨ i = 5 by omega) with rfl | rfl | rfl | rfl | rfl | rfl
    · cases hp; exact ⟨_, .int 4, PySem.W.mg_of X G0 g0, ⟨_, rfl⟩, fun F H => .int _⟩
    · cases hp; exact ⟨_, .int 99999, PySem.W.mg_of X G0 g1, ⟨_, rfl⟩, fun F H => .int _⟩
    · cases hp; exact ⟨_, .int 3, PySem.W.mg_of X G0 g2, ⟨_, rfl⟩, fun F H => .int _⟩
    · cases hp; exact ⟨_, .int 3, PySem.W.mg_of X G0 g3, ⟨_, rfl⟩, fun F H => .int _⟩
    · cases hp; exact ⟨_, .int 7, PySem.W.mg_of X G0 g4, ⟨_, rfl⟩, fun F H => .int _⟩
    · cases hp; exact ⟨_, .int 24, PySem.W.mg_of X G0 g5, ⟨_, rfl⟩, fun F H => .int _⟩
  have hblt : ∀ x ∈ bltNames, mg (Str.ofString x) = none := by
    intro x hx
    unfold bltNames at hx
    simp only [List.mem_cons, List.not_mem_nil, or_false] at hx
    rcases hx with rfl | rfl | rfl | rfl | rfl | rfl | rfl | rfl | rfl | rfl | rfl | rfl | rfl | rfl | rfl | rfl | rfl | rfl | rfl
    · exact PySem.W.mg_none_of X G0 z0
    · exact PySem.W.mg_none_of X G0 z1
    · exact PySem.W.mg_none_of X G0 z2
    · exact PySem.W.mg_none_of X G0 z3
    · exact PySem.W.mg_none_of X G0 z4
    · exact PySem.W.mg_none_of X G0 z5
    · exact PySem.W.mg_none_of X G0 z6
    · exact PySem.W.mg_none_of X G0 z7
    · exact PySem.W.mg_none_of X G0 z8
    · exact PySem.W.mg_none_of X G0 z9
    · exact PySem.W.mg_none_of X G0 z10
    · exact PySem.W.mg_none_of X G0 z11
    · exact PySem.W.mg_none_of X G0 z12
    · exact PySem.W.mg_none_of X G0 z13
    · exact PySem.W.mg_none_of X G0 z14
    · exact PySem.W.mg_none_of X G0 z15
    · exact PySem.W.mg_none_of X G0 z16
    · exact PySem.W.mg_none_of X G0 z17
    · exact PySem.W.mg_none_of X G0 z18
  have W1 : ∀ n, World1 PySem.Challenge.pw_inkbands_k25_whole_covering w K mg base (g n) := fun n => ⟨hglo, hblt⟩
  have F0 := fun_mk (st := topS 5) l0 c0 k0
  have F1 := fun_mk (st := topS 6) l1 c1 k1
  have F2 := fun_mk (st := topS 7) l2 c2 k2
  have F3 := fun_mk (st := topS 8) l3 c3 k3
  have F4 := fun_mk (st := topS 9) l4 c4 k4
  have F5 := fun_mk (st := topS 12) l5 c5 k5
  have F6 := fun_mk (st := topS 19) l6 c6 k6
  have F7 := fun_mk (st := topS 20) l7 c7 k7
  have F8 := fun_mk (st := topS 21) l8 c8 k8
  have F9 := fun_mk (st := topS 22) l9 c9 k9
  have F10 := fun_mk (st := topS 23) l10 c10 k10
  have F11 := fun_mk (st := topS 24) l11 c11 k11
  have F12 := fun_mk (st := topS 25) l12 c12 k12
  have F13 := fun_mk (st := topS 26) l13 c13 k13
  have F14 := fun_mk (st := topS 27) l14 c14 k14
  have F15 := fun_mk (st := topS 29) l15 c15 k15
  have F16 := fun_mk (st := topS 30) l16 c16 k16
  have F17 := fun_mk (st := topS 31) l17 c17 k17
  have F18 := fun_mk (st := topS 33) l18 c18 k18
  have F19 := fun_mk (st := topS 34) l19 c19 k19
  have F20 := fun_mk (st := topS 35) l20 c20 k20
  have F21 := fun_mk (st := topS 36) l21 c21 k21
  have F22 := fun_mk (st := topS 37) l22 c22 k22
  have F23 := fun_mk (st := topS 38) l23 c23 k23
  have F24 := fun_mk (st := topS 39) l24 c24 k24
  have F25 := fun_mk (st := topS 40) l25 c25 k25
  have F26 := fun_mk (st := topS 41) l26 c26 k26
  have F27 := fun_mk (st := topS 42) l27 c27 k27
  have F28 := fun_mk (st := topS 43) l28 c28 k28
  have A__law_same_b : FnAt' PySem.Challenge.pw_inkbands_k25_whole_covering w K mg base 0 "_law_same" f__law_same_b.toFn := ⟨f21, PySem.W.fnOf "_law_same" "_law_same" (defArgs (topS 36)) (defBody (topS 36)) (defScope (topS 36)) .none kV21 dc21 pm21 an21 cd21 ct21, PySem.W.mg_of X G0 a21, k21, fnStuck, bd__law_same⟩
  have tb0 : AllI (fun k (fn : FnE) => lv k ≤ 0 → FnAt' PySem.Challenge.pw_inkbands_k25_whole_covering w K mg base (lv k) fn.nm fn.toFn) 0 [f_is_whole, f_is_between, f_is_up_to, f_is_tuple_of, f_is_pair, f_is_cell, f_is_box, f_is_point, f_is_shape, f_is_stroke, f_turn_at, f_is_in_corners, f_range_in, f_cells_in, f_covers_by, f_check_stroke, f_check_spot, f_covers, f__law_pool, f__law_below, f__law_one, f__law_same_b, f__law_same_0, f__law_same, f__law_boxed, f__law_in_box, f__law_in_triangle, f__law_covers, f__law_stroke, f__law_right, f_law] := ⟨fun z => absurd z (by decide), fun z => absurd z (by decide), fun z => absurd z (by decide), fun z => absurd z (by decide), fun z => absurd z (by decide), fun z => absurd z (by decide), fun z => absurd z (by decide), fun z => absurd z (by decide), fun z => absurd z (by decide), fun z => absurd z (by decide), fun z => absurd z (by decide), fun z => absurd z (by decide), fun z => absurd z (by decide), fun z => absurd z (by decide), fun z => absurd z (by decide), fun z => absurd z (by decide), fun z => absurd z (by decide), fun z => absurd z (by decide), fun z => absurd z (by decide), fun z => absurd z (by decide), fun z => absurd z (by decide), fun _ => A__law_same_b, fun z => absurd z (by decide), fun z => absurd z (by decide), fun z => absurd z (by decide), fun z => absurd z (by decide), fun z => absurd z (by decide), fun z => absurd z (by decide), fun z => absurd z (by decide), fun z => absurd z (by decide), fun z => absurd z (by decide), trivial⟩
  have tab0 : ∀ k fn, (g 0).T k = some fn → (g 0).lv k ≤ (g 0).n → FnAt' PySem.Challenge.pw_inkbands_k25_whole_covering w K mg base ((g 0).lv k) fn.nm fn.toFn := fun k fn h h2 => by
    have := AllI.get tb0 h
    rw [Nat.zero_add] at this
    exact this h2
  have A_is_whole : FnAt' PySem.Challenge.pw_inkbands_k25_whole_covering w K mg base 1 "is_whole" f_is_whole.toFn := ⟨f0, _, PySem.W.mg_of X G0 a0, k0, def_ok (d := d_is_whole) F0 (W1 0) tab0 chk_is_whole hm_is_whole, bd_is_whole⟩
  have A_is_tuple_of : FnAt' PySem.Challenge.pw_inkbands_k25_whole_covering w K mg base 1 "is_tuple_of" f_is_tuple_of.toFn := ⟨f3, _, PySem.W.mg_of X G0 a3, k3, def_ok (d := d_is_tuple_of) F3 (W1 0) tab0 chk_is_tuple_of hm_is_tuple_of, bd_is_tuple_of⟩
  have A_turn_at : FnAt' PySem.Challenge.pw_inkbands_k25_whole_covering w K mg base 1 "turn_at" f_turn_at.toFn := ⟨f10, _, PySem.W.mg_of X G0 a10, k10, def_ok (d := d_turn_at) F10 (W1 0) tab0 chk_turn_at hm_turn_at, bd_turn_at⟩
  have A_range_in : FnAt' PySem.Challenge.pw_inkbands_k25_whole_covering w K mg base 1 "range_in" f_range_in.toFn := ⟨f12, _, PySem.W.mg_of X G0 a12, k12, def_ok (d := d_range_in) F12 (W1 0) tab0 chk_range_in hm_range_in, bd_range_in⟩
  have A__law_pool : FnAt' PySem.Challenge.pw_inkbands_k25_whole_covering w K mg base 1 "_law_pool" f__law_pool.toFn := ⟨f18, _, PySem.W.mg_of X G0 a18, k18, def_ok (d := d__law_pool) F18 (W1 0) tab0 chk__law_pool hm__law_pool, bd__law_pool⟩
  have A__law_below : FnAt' PySem.Challenge.pw_inkbands_k25_whole_covering w K mg base 1 "_law_below" f__law_below.toFn := ⟨f19, _, PySem.W.mg_of X G0 a19, k19, def_ok (d := d__law_below) F19 (W1 0) tab0 chk__law_below hm__law_below, bd__law_below⟩
  have A__law_same_0 : FnAt' PySem.Challenge.pw_inkbands_k25_whole_covering w K mg base 1 "_law_same" f__law_same_0.toFn := ⟨f21, _, PySem.W.mg_of X G0 a21, k21, def_ok (d := d__law_same_0) F21 (W1 0) tab0 chk__law_same_0 hm__law_same_0, bd__law_same⟩
  have A__law_boxed : FnAt' PySem.Challenge.pw_inkbands_k25_whole_covering w K mg base 1 "_law_boxed" f__law_boxed.toFn := ⟨f22, _, PySem.W.mg_of X G0 a22, k22, def_ok (d := d__law_boxed) F22 (W1 0) tab0 chk__law_boxed hm__law_boxed, bd__law_boxed⟩
  have A__law_in_box : FnAt' PySem.Challenge.pw_inkbands_k25_whole_covering w K mg base 1 "_law_in_box" f__law_in_box.toFn := ⟨f23, _, PySem.W.mg_of X G0 a23, k23, def_ok (d := d__law_in_box) F23 (W1 0) tab0 chk__law_in_box hm__law_in_box, bd__law_in_box⟩
  have A__law_in_triangle : FnAt' PySem.Challenge.pw_inkbands_k25_whole_covering w K mg base 1 "_law_in_triangle" f__law_in_triangle.toFn := ⟨f24, _, PySem.W.mg_of X G0 a24, k24, def_ok (d := d__law_in_triangle) F24 (W1 0) tab0 chk__law_in_triangle hm__law_in_triangle, bd__law_in_triangle⟩
  have tb1 : AllI (fun k (fn : FnE) => lv k ≤ 1 → FnAt' PySem.Challenge.pw_inkbands_k25_whole_covering w K mg base (lv k) fn.nm fn.toFn) 0 [f_is_whole, f_is_between, f_is_up_to, f_is_tuple_of, f_is_pair, f_is_cell, f_is_box, f_is_point, f_is_shape, f_is_stroke, f_turn_at, f_is_in_corners, f_range_in, f_cells_in, f_covers_by, f_check_stroke, f_check_spot, f_covers, f__law_pool, f__law_below, f__law_one, f__law_same_b, f__law_same_0, f__law_same, f__law_boxed, f__law_in_box, f__law_in_triangle, f__law_covers, f__law_stroke, f__law_right, f_law] := ⟨fun _ => A_is_whole, fun z => absurd z (by decide), fun z => absurd z (by decide), fun _ => A_is_tuple_of, fun z => absurd z (by decide), fun z => absurd z (by decide), fun z => absurd z (by decide), fun z => absurd z (by decide), fun z => absurd z (by decide), fun z => absurd z (by decide), fun _ => A_turn_at, fun z => absurd z (by decide), fun _ => A_range_in, fun z => absurd z (by decide), fun z => absurd z (by decide), fun z => absurd z (by decide), fun z => absurd z (by decide), fun z => absurd z (by decide), fun _ => A__law_pool, fun _ => A__law_below, fun z => absurd z (by decide), fun _ => A__law_same_b, fun _ => A__law_same_0, fun z => absurd z (by decide), fun _ => A__law_boxed, fun _ => A__law_in_box, fun _ => A__law_in_triangle, fun z => absurd z (by decide), fun z => absurd z (by decide), fun z => absurd z (by decide), fun z => absurd z (by decide), trivial⟩
  have tab1 : ∀ k fn, (g 1).T k = some fn → (g 1).lv k ≤ (g 1).n → FnAt' PySem.Challenge.pw_inkbands_k25_whole_covering w K mg base ((g 1).lv k) fn.nm fn.toFn := fun k fn h h2 => by
    have := AllI.get tb1 h
    rw [Nat.zero_add] at this
    exact this h2
  have A_is_between : FnAt' PySem.Challenge.pw_inkbands_k25_whole_covering w K mg base 2 "is_between" f_is_between.toFn := ⟨f1, _, PySem.W.mg_of X G0 a1, k1, def_ok (d := d_is_between) F1 (W1 1) tab1 chk_is_between hm_is_between, bd_is_between⟩
  have A_is_pair : FnAt' PySem.Challenge.pw_inkbands_k25_whole_covering w K mg base 2 "is_pair" f_is_pair.toFn := ⟨f4, _, PySem.W.mg_of X G0 a4, k4, def_ok (d := d_is_pair) F4 (W1 1) tab1 chk_is_pair hm_is_pair, bd_is_pair⟩
  have A_is_in_corners : FnAt' PySem.Challenge.pw_inkbands_k25_whole_covering w K mg base 2 "is_in_corners" f_is_in_corners.toFn := ⟨f11, _, PySem.W.mg_of X G0 a11, k11, def_ok (d := d_is_in_corners) F11 (W1 1) tab1 chk_is_in_corners hm_is_in_corners, bd_is_in_corners⟩
  have A__law_one : FnAt' PySem.Challenge.pw_inkbands_k25_whole_covering w K mg base 2 "_law_one" f__law_one.toFn := ⟨f20, _, PySem.W.mg_of X G0 a20, k20, def_ok (d := d__law_one) F20 (W1 1) tab1 chk__law_one hm__law_one, bd__law_one⟩
  have A__law_same : FnAt' PySem.Challenge.pw_inkbands_k25_whole_covering w K mg base 2 "_law_same" f__law_same.toFn := ⟨f21, _, PySem.W.mg_of X G0 a21, k21, def_ok (d := d__law_same) F21 (W1 1) tab1 chk__law_same hm__law_same, bd__law_same⟩
  have A__law_covers : FnAt' PySem.Challenge.pw_inkbands_k25_whole_covering w K mg base 2 "_law_covers" f__law_covers.toFn := ⟨f25, _, PySem.W.mg_of X G0 a25, k25, def_ok (d := d__law_covers) F25 (W1 1) tab1 chk__law_covers hm__law_covers, bd__law_covers⟩
  have tb2 : AllI (fun k (fn : FnE) => lv k ≤ 2 → FnAt' PySem.Challenge.pw_inkbands_k25_whole_covering w K mg base (lv k) fn.nm fn.toFn) 0 [f_is_whole, f_is_between, f_is_up_to, f_is_tuple_of, f_is_pair, f_is_cell, f_is_box, f_is_point, f_is_shape, f_is_stroke, f_turn_at, f_is_in_corners, f_range_in, f_cells_in, f_covers_by, f_check_stroke, f_check_spot, f_covers, f__law_pool, f__law_below, f__law_one, f__law_same_b, f__law_same_0, f__law_same, f__law_boxed, f__law_in_box, f__law_in_triangle, f__law_covers, f__law_stroke, f__law_right, f_law] := ⟨fun _ => A_is_whole, fun _ => A_is_between, fun z => absurd z (by decide), fun _ => A_is_tuple_of, fun _ => A_is_pair, fun z => absurd z (by decide), fun z => absurd z (by decide), fun z => absurd z (by decide), fun z => absurd z (by decide), fun z => absurd z (by decide), fun _ => A_turn_at, fun _ => A_is_in_corners, fun _ => A_range_in, fun z => absurd z (by decide), fun z => absurd z (by decide), fun z => absurd z (by decide), fun z => absurd z (by decide), fun z => absurd z (by decide), fun _ => A__law_pool, fun _ => A__law_below, fun _ => A__law_one, fun _ => A__law_same_b, fun _ => A__law_same_0, fun _ => A__law_same, fun _ => A__law_boxed, fun _ => A__law_in_box, fun _ => A__law_in_triangle, fun _ => A__law_covers, fun z => absurd z (by decide), fun z => absurd z (by decide), fun z => absurd z (by decide), trivial⟩
  have tab2 : ∀ k fn, (g 2).T k = some fn → (g 2).lv k ≤ (g 2).n → FnAt' PySem.Challenge.pw_inkbands_k25_whole_covering w K mg base ((g 2).lv k) fn.nm fn.toFn := fun k fn h h2 => by
    have := AllI.get tb2 h
    rw [Nat.zero_add] at this
    exact this h2
  have A_is_up_to : FnAt' PySem.Challenge.pw_inkbands_k25_whole_covering w K mg base 3 "is_up_to" f_is_up_to.toFn := ⟨f2, _, PySem.W.mg_of X G0 a2, k2, def_ok (d := d_is_up_to) F2 (W1 2) tab2 chk_is_up_to hm_is_up_to, bd_is_up_to⟩
  have A_is_box : FnAt' PySem.Challenge.pw_inkbands_k25_whole_covering w K mg base 3 "is_box" f_is_box.toFn := ⟨f6, _, PySem.W.mg_of X G0 a6, k6, def_ok (d := d_is_box) F6 (W1 2) tab2 chk_is_box hm_is_box, bd_is_box⟩
  have A_is_point : FnAt' PySem.Challenge.pw_inkbands_k25_whole_covering w K mg base 3 "is_point" f_is_point.toFn := ⟨f7, _, PySem.W.mg_of X G0 a7, k7, def_ok (d := d_is_point) F7 (W1 2) tab2 chk_is_point hm_is_point, bd_is_point⟩
  have A_cells_in : FnAt' PySem.Challenge.pw_inkbands_k25_whole_covering w K mg base 3 "cells_in" f_cells_in.toFn := ⟨f13, _, PySem.W.mg_of X G0 a13, k13, def_ok (d := d_cells_in) F13 (W1 2) tab2 chk_cells_in hm_cells_in, bd_cells_in⟩
  have A__law_stroke : FnAt' PySem.Challenge.pw_inkbands_k25_whole_covering w K mg base 3 "_law_stroke" f__law_stroke.toFn := ⟨f26, _, PySem.W.mg_of X G0 a26, k26, def_ok (d := d__law_stroke) F26 (W1 2) tab2 chk__law_stroke hm__law_stroke, bd__law_stroke⟩
  have tb3 : AllI (fun k (fn : FnE) => lv k ≤ 3 → FnAt' PySem.Challenge.pw_inkbands_k25_whole_covering w K mg base (lv k) fn.nm fn.toFn) 0 [f_is_whole, f_is_between, f_is_up_to, f_is_tuple_of, f_is_pair, f_is_cell, f_is_box, f_is_point, f_is_shape, f_is_stroke, f_turn_at, f_is_in_corners, f_range_in, f_cells_in, f_covers_by, f_check_stroke, f_check_spot, f_covers, f__law_pool, f__law_below, f__law_one, f__law_same_b, f__law_same_0, f__law_same, f__law_boxed, f__law_in_box, f__law_in_triangle, f__law_covers, f__law_stroke, f__law_right, f_law] := ⟨fun _ => A_is_whole, fun _ => A_is_between, fun _ => A_is_up_to, fun _ => A_is_tuple_of, fun _ => A_is_pair, fun z => absurd z (by decide), fun _ => A_is_box, fun _ => A_is_point, fun z => absurd z (by decide), fun z => absurd z (by decide), fun _ => A_turn_at, fun _ => A_is_in_corners, fun _ => A_range_in, fun _ => A_cells_in, fun z => absurd z (by decide), fun z => absurd z (by decide), fun z => absurd z (by decide), fun z => absurd z (by decide), fun _ => A__law_pool, fun _ => A__law_below, fun _ => A__law_one, fun _ => A__law_same_b, fun _ => A__law_same_0, fun _ => A__law_same, fun _ => A__law_boxed, fun _ => A__law_in_box, fun _ => A__law_in_triangle, fun _ => A__law_covers, fun _ => A__law_stroke, fun z => absurd z (by decide), fun z => absurd z (by decide), trivial⟩
  have tab3 : ∀ k fn, (g 3).T k = some fn → (g 3).lv k ≤ (g 3).n → FnAt' PySem.Challenge.pw_inkbands_k25_whole_covering w K mg base ((g 3).lv k) fn.nm fn.toFn := fun k fn h h2 => by
    have := AllI.get tb3 h
    rw [Nat.zero_add] at this
    exact this h2
  have A_is_cell : FnAt' PySem.Challenge.pw_inkbands_k25_whole_covering w K mg base 4 "is_cell" f_is_cell.toFn := ⟨f5, _, PySem.W.mg_of X G0 a5, k5, def_ok (d := d_is_cell) F5 (W1 3) tab3 chk_is_cell hm_is_cell, bd_is_cell⟩
  have A_is_shape : FnAt' PySem.Challenge.pw_inkbands_k25_whole_covering w K mg base 4 "is_shape" f_is_shape.toFn := ⟨f8, _, PySem.W.mg_of X G0 a8, k8, def_ok (d := d_is_shape) F8 (W1 3) tab3 chk_is_shape hm_is_shape, bd_is_shape⟩
  have A_covers_by : FnAt' PySem.Challenge.pw_inkbands_k25_whole_covering w K mg base 4 "covers_by" f_covers_by.toFn := ⟨f14, _, PySem.W.mg_of X G0 a14, k14, def_ok (d := d_covers_by) F14 (W1 3) tab3 chk_covers_by hm_covers_by, bd_covers_by⟩
  have tb4 : AllI (fun k (fn : FnE) => lv k ≤ 4 → FnAt' PySem.Challenge.pw_inkbands_k25_whole_covering w K mg base (lv k) fn.nm fn.toFn) 0 [f_is_whole, f_is_between, f_is_up_to, f_is_tuple_of, f_is_pair, f_is_cell, f_is_box, f_is_point, f_is_shape, f_is_stroke, f_turn_at, f_is_in_corners, f_range_in, f_cells_in, f_covers_by, f_check_stroke, f_check_spot, f_covers, f__law_pool, f__law_below, f__law_one, f__law_same_b, f__law_same_0, f__law_same, f__law_boxed, f__law_in_box, f__law_in_triangle, f__law_covers, f__law_stroke, f__law_right, f_law] := ⟨fun _ => A_is_whole, fun _ => A_is_between, fun _ => A_is_up_to, fun _ => A_is_tuple_of, fun _ => A_is_pair, fun _ => A_is_cell, fun _ => A_is_box, fun _ => A_is_point, fun _ => A_is_shape, fun z => absurd z (by decide), fun _ => A_turn_at, fun _ => A_is_in_corners, fun _ => A_range_in, fun _ => A_cells_in, fun _ => A_covers_by, fun z => absurd z (by decide), fun z => absurd z (by decide), fun z => absurd z (by decide), fun _ => A__law_pool, fun _ => A__law_below, fun _ => A__law_one, fun _ => A__law_same_b, fun _ => A__law_same_0, fun _ => A__law_same, fun _ => A__law_boxed, fun _ => A__law_in_box, fun _ => A__law_in_triangle, fun _ => A__law_covers, fun _ => A__law_stroke, fun z => absurd z (by decide), fun z => absurd z (by decide), trivial⟩
  have tab4 : ∀ k fn, (g 4).T k = some fn → (g 4).lv k ≤ (g 4).n → FnAt' PySem.Challenge.pw_inkbands_k25_whole_covering w K mg base ((g 4).lv k) fn.nm fn.toFn := fun k fn h h2 => by
    have := AllI.get tb4 h
    rw [Nat.zero_add] at this
    exact this h2
  have A_is_stroke : FnAt' PySem.Challenge.pw_inkbands_k25_whole_covering w K mg base 5 "is_stroke" f_is_stroke.toFn := ⟨f9, _, PySem.W.mg_of X G0 a9, k9, def_ok (d := d_is_stroke) F9 (W1 4) tab4 chk_is_stroke hm_is_stroke, bd_is_stroke⟩
  have A_check_spot : FnAt' PySem.Challenge.pw_inkbands_k25_whole_covering w K mg base 5 "check_spot" f_check_spot.toFn := ⟨f16, _, PySem.W.mg_of X G0 a16, k16, def_ok (d := d_check_spot) F16 (W1 4) tab4 chk_check_spot hm_check_spot, bd_check_spot⟩
  have tb5 : AllI (fun k (fn : FnE) => lv k ≤ 5 → FnAt' PySem.Challenge.pw_inkbands_k25_whole_covering w K mg base (lv k) fn.nm fn.toFn) 0 [f_is_whole, f_is_between, f_is_up_to, f_is_tuple_of, f_is_pair, f_is_cell, f_is_box, f_is_point, f_is_shape, f_is_stroke, f_turn_at, f_is_in_corners, f_range_in, f_cells_in, f_covers_by, f_check_stroke, f_check_spot, f_covers, f__law_pool, f__law_below, f__law_one, f__law_same_b, f__law_same_0, f__law_same, f__law_boxed, f__law_in_box, f__law_in_triangle, f__law_covers, f__law_stroke, f__law_right, f_law] := ⟨fun _ => A_is_whole, fun _ => A_is_between, fun _ => A_is_up_to, fun _ => A_is_tuple_of, fun _ => A_is_pair, fun _ => A_is_cell, fun _ => A_is_box, fun _ => A_is_point, fun _ => A_is_shape, fun _ => A_is_stroke, fun _ => A_turn_at, fun _ => A_is_in_corners, fun _ => A_range_in, fun _ => A_cells_in, fun _ => A_covers_by, fun z => absurd z (by decide), fun _ => A_check_spot, fun z => absurd z (by decide), fun _ => A__law_pool, fun _ => A__law_below, fun _ => A__law_one, fun _ => A__law_same_b, fun _ => A__law_same_0, fun _ => A__law_same, fun _ => A__law_boxed, fun _ => A__law_in_box, fun _ => A__law_in_triangle, fun _ => A__law_covers, fun _ => A__law_stroke, fun z => absurd z (by decide), fun z => absurd z (by decide), trivial⟩
  have tab5 : ∀ k fn, (g 5).T k = some fn → (g 5).lv k ≤ (g 5).n → FnAt' PySem.Challenge.pw_inkbands_k25_whole_covering w K mg base ((g 5).lv k) fn.nm fn.toFn := fun k fn h h2 => by
    have := AllI.get tb5 h
    rw [Nat.zero_add] at this
    exact this h2
  have A_check_stroke : FnAt' PySem.Challenge.pw_inkbands_k25_whole_covering w K mg base 6 "check_stroke" f_check_stroke.toFn := ⟨f15, _, PySem.W.mg_of X G0 a15, k15, def_ok (d := d_check_stroke) F15 (W1 5) tab5 chk_check_stroke hm_check_stroke, bd_check_stroke⟩
  have tb6 : AllI (fun k (fn : FnE) => lv k ≤ 6 → FnAt' PySem.Challenge.pw_inkbands_k25_whole_covering w K mg base (lv k) fn.nm fn.toFn) 0 [f_is_whole, f_is_between, f_is_up_to, f_is_tuple_of, f_is_pair, f_is_cell, f_is_box, f_is_point, f_is_shape, f_is_stroke, f_turn_at, f_is_in_corners, f_range_in, f_cells_in, f_covers_by, f_check_stroke, f_check_spot, f_covers, f__law_pool, f__law_below, f__law_one, f__law_same_b, f__law_same_0, f__law_same, f__law_boxed, f__law_in_box, f__law_in_triangle, f__law_covers, f__law_stroke, f__law_right, f_law] := ⟨fun _ => A_is_whole, fun _ => A_is_between, fun _ => A_is_up_to, fun _ => A_is_tuple_of, fun _ => A_is_pair, fun _ => A_is_cell, fun _ => A_is_box, fun _ => A_is_point, fun _ => A_is_shape, fun _ => A_is_stroke, fun _ => A_turn_at, fun _ => A_is_in_corners, fun _ => A_range_in, fun _ => A_cells_in, fun _ => A_covers_by, fun _ => A_check_stroke, fun _ => A_check_spot, fun z => absurd z (by decide), fun _ => A__law_pool, fun _ => A__law_below, fun _ => A__law_one, fun _ => A__law_same_b, fun _ => A__law_same_0, fun _ => A__law_same, fun _ => A__law_boxed, fun _ => A__law_in_box, fun _ => A__law_in_triangle, fun _ => A__law_covers, fun _ => A__law_stroke, fun z => absurd z (by decide), fun z => absurd z (by decide), trivial⟩
  have tab6 : ∀ k fn, (g 6).T k = some fn → (g 6).lv k ≤ (g 6).n → FnAt' PySem.Challenge.pw_inkbands_k25_whole_covering w K mg base ((g 6).lv k) fn.nm fn.toFn := fun k fn h h2 => by
    have := AllI.get tb6 h
    rw [Nat.zero_add] at this
    exact this h2
  have A_covers : FnAt' PySem.Challenge.pw_inkbands_k25_whole_covering w K mg base 7 "covers" f_covers.toFn := ⟨f17, _, PySem.W.mg_of X G0 a17, k17, def_ok (d := d_covers) F17 (W1 6) tab6 chk_covers hm_covers, bd_covers⟩
  have tb7 : AllI (fun k (fn : FnE) => lv k ≤ 7 → FnAt' PySem.Challenge.pw_inkbands_k25_whole_covering w K mg base (lv k) fn.nm fn.toFn) 0 [f_is_whole, f_is_between, f_is_up_to, f_is_tuple_of, f_is_pair, f_is_cell, f_is_box, f_is_point, f_is_shape, f_is_stroke, f_turn_at, f_is_in_corners, f_range_in, f_cells_in, f_covers_by, f_check_stroke, f_check_spot, f_covers, f__law_pool, f__law_below, f__law_one, f__law_same_b, f__law_same_0, f__law_same, f__law_boxed, f__law_in_box, f__law_in_triangle, f__law_covers, f__law_stroke, f__law_right, f_law] := ⟨fun _ => A_is_whole, fun _ => A_is_between, fun _ => A_is_up_to, fun _ => A_is_tuple_of, fun _ => A_is_pair, fun _ => A_is_cell, fun _ => A_is_box, fun _ => A_is_point, fun _ => A_is_shape, fun _ => A_is_stroke, fun _ => A_turn_at, fun _ => A_is_in_corners, fun _ => A_range_in, fun _ => A_cells_in, fun _ => A_covers_by, fun _ => A_check_stroke, fun _ => A_check_spot, fun _ => A_covers, fun _ => A__law_pool, fun _ => A__law_below, fun _ => A__law_one, fun _ => A__law_same_b, fun _ => A__law_same_0, fun _ => A__law_same, fun _ => A__law_boxed, fun _ => A__law_in_box, fun _ => A__law_in_triangle, fun _ => A__law_covers, fun _ => A__law_stroke, fun z => absurd z (by decide), fun z => absurd z (by decide), trivial⟩
  have tab7 : ∀ k fn, (g 7).T k = some fn → (g 7).lv k ≤ (g 7).n → FnAt' PySem.Challenge.pw_inkbands_k25_whole_covering w K mg base ((g 7).lv k) fn.nm fn.toFn := fun k fn h h2 => by
    have := AllI.get tb7 h
    rw [Nat.zero_add] at this
    exact this h2
  have A__law_right : FnAt' PySem.Challenge.pw_inkbands_k25_whole_covering w K mg base 8 "_law_right" f__law_right.toFn := ⟨f27, _, PySem.W.mg_of X G0 a27, k27, def_ok (d := d__law_right) F27 (W1 7) tab7 chk__law_right hm__law_right, bd__law_right⟩
  have tb8 : AllI (fun k (fn : FnE) => lv k ≤ 8 → FnAt' PySem.Challenge.pw_inkbands_k25_whole_covering w K mg base (lv k) fn.nm fn.toFn) 0 [f_is_whole, f_is_between, f_is_up_to, f_is_tuple_of, f_is_pair, f_is_cell, f_is_box, f_is_point, f_is_shape, f_is_stroke, f_turn_at, f_is_in_corners, f_range_in, f_cells_in, f_covers_by, f_check_stroke, f_check_spot, f_covers, f__law_pool, f__law_below, f__law_one, f__law_same_b, f__law_same_0, f__law_same, f__law_boxed, f__law_in_box, f__law_in_triangle, f__law_covers, f__law_stroke, f__law_right, f_law] := ⟨fun _ => A_is_whole, fun _ => A_is_between, fun _ => A_is_up_to, fun _ => A_is_tuple_of, fun _ => A_is_pair, fun _ => A_is_cell, fun _ => A_is_box, fun _ => A_is_point, fun _ => A_is_shape, fun _ => A_is_stroke, fun _ => A_turn_at, fun _ => A_is_in_corners, fun _ => A_range_in, fun _ => A_cells_in, fun _ => A_covers_by, fun _ => A_check_stroke, fun _ => A_check_spot, fun _ => A_covers, fun _ => A__law_pool, fun _ => A__law_below, fun _ => A__law_one, fun _ => A__law_same_b, fun _ => A__law_same_0, fun _ => A__law_same, fun _ => A__law_boxed, fun _ => A__law_in_box, fun _ => A__law_in_triangle, fun _ => A__law_covers, fun _ => A__law_stroke, fun _ => A__law_right, fun z => absurd z (by decide), trivial⟩
  have tab8 : ∀ k fn, (g 8).T k = some fn → (g 8).lv k ≤ (g 8).n → FnAt' PySem.Challenge.pw_inkbands_k25_whole_covering w K mg base ((g 8).lv k) fn.nm fn.toFn := fun k fn h h2 => by
    have := AllI.get tb8 h
    rw [Nat.zero_add] at this
    exact this h2
  exact (def_ok (d := d_law) F28 (W1 8) tab8 chk_law hm_law).imp (spLaw_fn fun ns S Q E q => ⟨⟨ns, rfl⟩, q⟩)
end Dp.L

open PySem PySem.W PyProof.Rows
set_option maxHeartbeats 0 in
theorem PySem.Challenge.cw_inkbands_k25_whole_covering_holds : PySem.Challenge.rw_inkbands_k25_whole_covering.Holds := by
  w_on; o_law; k_head; (case hw => w_witness2)
  k_fill
  refine L2.walk_of (l := PySem.Challenge.rw_inkbands_k25_whole_covering) (n := 63) (k := 9) (x := "script") (CX := L2.CX PySem.Challenge.pw_inkbands_k25_whole_covering) (sp := fun w => Dp.spLaw _) rfl (by decide) rfl ⟨rfl, by decide, by decide⟩ (fun w h Y => PySem.W.kIn_of Y) ?F (fun _ _ a ns hl _ hS => ⟨a, ns, rfl, hS, fun _ => rfl⟩) Dp.noCX
  case F =>
    intro w mg fa h KX G hmg
    refine' Dp.L.all_mk KX G hmg ?hqa0 ?hql0 ?hqc0 ?hqk0 ?hqa1 ?hql1 ?hqc1 ?hqk1 ?hqa2 ?hql2 ?hqc2 ?hqk2 ?hqa3 ?hql3 ?hqc3 ?hqk3 ?hqa4 ?hql4 ?hqc4 ?hqk4 ?hqa5 ?hql5 ?hqc5 ?hqk5 ?hqa6 ?hql6 ?hqc6 ?hqk6 ?hqa7 ?hql7 ?hqc7 ?hqk7 ?hqa8 ?hql8 ?hqc8 ?hqk8 ?hqa9 ?hql9 ?hqc9 ?hqk9 ?hqa10 ?hql10 ?hqc10 ?hqk10 ?hqa11 ?hql11 ?hqc11 ?hqk11 ?hqa12 ?hql12 ?hqc12 ?hqk12 ?hqa13 ?hql13 ?hqc13 ?hqk13 ?hqa14 ?hql14 ?hqc14 ?hqk14 ?hqa15 ?hql15 ?hqc15 ?hqk15 ?hqa16 ?hql16 ?hqc16 ?hqk16 ?hqa17 ?hql17 ?hqc17 ?hqk17 ?hqa18 ?hql18 ?hqc18 ?hqk18 ?hqa19 ?hql19 ?hqc19 ?hqk19 ?hqa20 ?hql20 ?hqc20 ?hqk20 ?hqa21 ?hql21 ?hqc21 ?hqk21 ?hqa22 ?hql22 ?hqc22 ?hqk22 ?hqa23 ?hql23 ?hqc23 ?hqk23 ?hqa24 ?hql24 ?hqc24 ?hqk24 ?hqa25 ?hql25 ?hqc25 ?hqk25 ?hqa26 ?hql26 ?hqc26 ?hqk26 ?hqa27 ?hql27 ?hqc27 ?hqk27 ?hqa28 ?hql28 ?hqc28 ?hqk28 ?hqg0 ?hqg1 ?hqg2 ?hqg3 ?hqg4 ?hqg5 ?hqz0 ?hqz1 ?hqz2 ?hqz3 ?hqz4 ?hqz5 ?hqz6 ?hqz7 ?hqz8 ?hqz9 ?hqz10 ?hqz11 ?hqz12 ?hqz13 ?hqz14 ?hqz15 ?hqz16 ?hqz17 ?hqz18
    (case hqa0 => k_is); (case hql0 => k_is); (case hqc0 => k_is); (case hqk0 => k_is); (case hqa1 => k_is); (case hql1 => k_is); (case hqc1 => k_is); (case hqk1 => k_is); (case hqa2 => k_is); (case hql2 => k_is); (case hqc2 => k_is); (case hqk2 => k_is); (case hqa3 => k_is); (case hql3 => k_is); (case hqc3 => k_is); (case hqk3 => k_is); (case hqa4 => k_is); (case hql4 => k_is); (case hqc4 => k_is); (case hqk4 => k_is); (case hqa5 => k_is); (case hql5 => k_is); (case hqc5 => k_is); (case hqk5 => k_is); (case hqa6 => k_is); (case hql6 => k_is); (case hqc6 => k_is); (case hqk6 => k_is); (case hqa7 => k_is); (case hql7 => k_is); (case hqc7 => k_is); (case hqk7 => k_is); (case hqa8 => k_is); (case hql8 => k_is); (case hqc8 => k_is); (case hqk8 => k_is); (case hqa9 => k_is); (case hql9 => k_is); (case hqc9 => k_is); (case hqk9 => k_is); (case hqa10 => k_is); (case hql10 => k_is); (case hqc10 => k_is); (case hqk10 => k_is); (case hqa11 => k_is); (case hql11 => k_is); (case hqc11 => k_is); (case hqk11 => k_is); (case hqa12 => k_is); (case hql12 => k_is); (case hqc12 => k_is); (case hqk12 => k_is); (case hqa13 => k_is); (case hql13 => k_is); (case hqc13 => k_is); (case hqk13 => k_is); (case hqa14 => k_is); (case hql14 => k_is); (case hqc14 => k_is); (case hqk14 => k_is); (case hqa15 => k_is); (case hql15 => k_is); (case hqc15 => k_is); (case hqk15 => k_is); (case hqa16 => k_is); (case hql16 => k_is); (case hqc16 => k_is); (case hqk16 => k_is); (case hqa17 => k_is); (case hql17 => k_is); (case hqc17 => k_is); (case hqk17 => k_is); (case hqa18 => k_is); (case hql18 => k_is); (case hqc18 => k_is); (case hqk18 => k_is); (case hqa19 => k_is); (case hql19 => k_is); (case hqc19 => k_is); (case hqk19 => k_is); (case hqa20 => k_is); (case hql20 => k_is); (case hqc20 => k_is); (case hqk20 => k_is); (case hqa21 => k_is); (case hql21 => k_is); (case hqc21 => k_is); (case hqk21 => k_is); (case hqa22 => k_is); (case hql22 => k_is); (case hqc22 => k_is); (case hqk22 => k_is); (case hqa23 => k_is); (case hql23 => k_is); (case hqc23 => k_is); (case hqk23 => k_is); (case hqa24 => k_is); (case hql24 => k_is); (case hqc24 => k_is); (case hqk24 => k_is); (case hqa25 => k_is); (case hql25 => k_is); (case hqc25 => k_is); (case hqk25 => k_is); (case hqa26 => k_is); (case hql26 => k_is); (case hqc26 => k_is); (case hqk26 => k_is); (case hqa27 => k_is); (case hql27 => k_is); (case hqc27 => k_is); (case hqk27 => k_is); (case hqa28 => k_is); (case hql28 => k_is); (case hqc28 => k_is); (case hqk28 => k_is); (case hqg0 => k_is); (case hqg1 => k_is); (case hqg2 => k_is); (case hqg3 => k_is); (case hqg4 => k_is); (case hqg5 => k_is); (case hqz0 => k_is); (case hqz1 => k_is); (case hqz2 => k_is); (case hqz3 => k_is); (case hqz4 => k_is); (case hqz5 => k_is); (case hqz6 => k_is); (case hqz7 => k_is); (case hqz8 => k_is); (case hqz9 => k_is); (case hqz10 => k_is); (case hqz11 => k_is); (case hqz12 => k_is); (case hqz13 => k_is); (case hqz14 => k_is); (case hqz15 => k_is); (case hqz16 => k_is); (case hqz17 => k_is); (case hqz18 => k_is)

